/-
The law GateSays returns true for every input, and leaves it as it was; no condition. Part 4 of 7 of the texts (put together by a program: own names are short, what isn't needed is left out).
-/
import Derived.Test.YtfjogganfjkckaaZGateSays3
import Derived.Test.YtfjogganfjkckaaChecked
import Derived.KernelRfl
set_option linter.unusedVariables false
set_option linter.unusedSimpArgs false
set_option maxRecDepth 100000
open Go renaming undef → zh
namespace Go.Proofs.Ytfjogganfjkckaa
open Go.Abs
def idxFrom {α:Type} (p:α→Bool):Int→List α→Int
 | _,[]=>-1
 | i,x::r=>if p x then i else idxFrom p (i+1) r
theorem VX {α:Type} {p:α→Bool}:∀ {l:List α} {i:Int},l.any p=false→idxFrom p i l=-1
 | [],_,_=>rfl
 | x::r,i,h=>by
  rw [List.any_cons,Bool.or_eq_false_iff] at h
  rw [idxFrom,h.1]
  exact VX h.2
theorem acC {α:Type} {p:α→Bool}:∀ {l:List α} {i:Int},l.any p=true→i≤idxFrom p i l
 | [],_,h=>by cases h
 | x::r,i,h=>by
  rw [idxFrom]
  split
  ·
   omega
  ·
   rename_i hx
   rw [List.any_cons,Bool.or_eq_true] at h
   have:=acC (i:=i+1) (h.resolve_left hx)
   omega
theorem aiQ {α:Type} {p:α→Bool} {l:List α}:decide (0≤idxFrom p 0 l)=l.any p:=by
 cases h:l.any p with
 | false=>rw [VX h];decide
 | true=>rw [decide_eq_true_eq];exact acC h
section
variable {k:Nat} {l:List Int}
theorem slices_Index.round (hv:Okl k l) (hk:k≠2) (hlen:l.length≤17592186044416) {v:Int} {S:zn}:∀ (suf pre:List Int) {T:List Value} {r:St},qw (zG Try.prog O false slices_Index.jL) T S=r→T.length=19 →
  T.getD 0 zh=iz k l→T.getD 1 zh=.int .i64 v→T.getD 7 zh=.int .i64 l.length→T.getD 8 zh=.int .i64 pre.length→l=pre++suf →
  ∃ e T',r=some (e,T',S)∧if suf.any (fun x=>decide (v=x)) then e=.ret∧T'.getD 4 zh=.int .i64 (idxFrom (fun x=>decide (v=x)) pre.length suf) else e=.exit 0∧T'.length=19:=by
 intro suf
 induction suf with
 | nil =>
  intro pre T r hL hT h0 h1 h7 h8 hl
  have hTe:=slices_Index.eta hT
  rw [h0,h1,h7,h8] at hTe
  have hr:zG Try.prog O false slices_Index.jL T S=zG Try.prog O false slices_Index.jL T S:=rfl
  have hd:¬ (pre.length:Int) < (l.length:Int):=by rw [hl];simp
  conv at hr =>
   rhs
   rw [hTe]
   simp only [slices_Index.jL,slices_Index.code,slices_Index.rs,zSs,reduceIte,Nat.reduceEqDiff,Int.reduceEq,Int.reduceLT,Int.reduceLE,hd]
  exact ⟨_,_,hL.symm.trans (jZ hr (by simp)),rfl,rfl⟩
 | cons x suf ih =>
  intro pre T r hL hT h0 h1 h7 h8 hl
  have hTe:=slices_Index.eta hT
  rw [h0,h1,h7,h8] at hTe
  have hr:zG Try.prog O false slices_Index.jL T S=zG Try.prog O false slices_Index.jL T S:=rfl
  have hd:(pre.length:Int) < (l.length:Int):=by rw [hl];simp;omega
  have e1:∀ S,jo Try.prog 24 (iz k l) (.int .i64 pre.length) S=some (EP [.int .i64 x],S):=fun S=>by
   rw [abD hv (by omega) hd];rw [QL hl]
  have wi:IntKind.i64.wrap ((pre.length:Int)+1)=((pre++[x]).length:Int):=by rw [wrap_i64 (by omega) (by omega)];simp
  rw [List.any_cons,idxFrom]
  by_cases hx:v=x
  ·
   have hx2:=decide_eq_true hx
   conv at hr =>
    rhs
    rw [hTe]
    simp only [slices_Index.jL,slices_Index.code,slices_Index.rs,zSs,reduceIte,Nat.reduceEqDiff,Int.reduceEq,Int.reduceLT,Int.reduceLE,if_neg hk,hd,e1,ql,hx2]
   refine ⟨_,_,hL.symm.trans (jZ hr (by simp)),?_⟩
   rw [hx2,Bool.true_or]
   exact ⟨rfl,rfl⟩
  ·
   have hx2:=decide_eq_false hx
   conv at hr =>
    rhs
    rw [hTe]
    simp only [slices_Index.jL,slices_Index.code,slices_Index.rs,zSs,reduceIte,Nat.reduceEqDiff,Int.reduceEq,Int.reduceLT,Int.reduceLE,if_neg hk,hd,e1,ql,hx2,wi]
   obtain ⟨e,T',g1,g2⟩:=ih (pre++[x]) ((wY hr).symm.trans hL) rfl rfl rfl rfl rfl (by simp [hl])
   refine ⟨e,T',g1,?_⟩
   rw [hx2,Bool.false_or]
   rw [show (((pre++[x]).length:Nat):Int)=(pre.length:Int)+1 by simp] at g2
   exact g2
theorem slices_Index.v (hv:Okl k l) (hk:k≠2) (hlen:l.length≤17592186044416) {v:Int} (S:zn):zW Try.prog O slices_Index.id [iz k l,.int .i64 v] S=some (.int .i64 (idxFrom (fun x=>decide (v=x)) 0 l),S):=by
 obtain ⟨T,hTe⟩:∃ T,T=(iz k l::.int .i64 v::zh::zh::zh::zh::zh::zh::zh::zh::zh::zh::zh::zh::zh::zh::zh::zh::zh::[]):=⟨_,rfl⟩
 have hr:zG Try.prog O false slices_Index.code T S=zG Try.prog O false slices_Index.code T S:=rfl
 conv at hr =>
  rhs
  rw [hTe]
  simp only [slices_Index.code,slices_Index.rs,zSs,reduceIte,Nat.reduceEqDiff,Int.reduceEq,Int.reduceLT,Int.reduceLE,if_neg hk,XL hv,goInt]
 generalize hL:qw (zG Try.prog O false slices_Index.jL) _ _=r at hr
 obtain ⟨e,T',rfl,g⟩:=slices_Index.round hv hk hlen l [] hL rfl rfl rfl rfl rfl rfl
 cases h:l.any (fun x=>decide (v=x)) with
 | true =>
  rw [h] at g
  obtain ⟨rfl,g2⟩:=g
  conv at hr =>
   rhs
   simp only [zSs,reduceIte,Nat.reduceEqDiff,Int.reduceEq,Int.reduceLT,Int.reduceLE]
  rw [hTe] at hr
  have hrun:=slices_Index.runs hr (.inr rfl)
  rw [g2] at hrun
  exact hrun
 | false =>
  rw [h] at g
  obtain ⟨rfl,g2⟩:=g
  have hTe':=slices_Index.eta g2
  conv at hr =>
   rhs
   rw [hTe']
   simp only [slices_Index.code,slices_Index.rs,zSs,reduceIte,Nat.reduceEqDiff,Int.reduceEq,Int.reduceLT,Int.reduceLE]
  rw [hTe] at hr
  rw [VX h]
  exact slices_Index.runs hr (.inr rfl)
theorem slices_Contains.v (hv:Okl k l) (hk:k≠2) (hlen:l.length≤17592186044416) {v:Int} (S:zn):zW Try.prog O slices_Contains.id [iz k l,.int .i64 v] S=some (.bool (l.any fun x=>decide (v=x)),S):=by
 obtain ⟨T,hTe⟩:∃ T,T=(iz k l::.int .i64 v::zh::zh::zh::zh::zh::zh::zh::[]):=⟨_,rfl⟩
 have hr:zG Try.prog O false slices_Contains.code T S=zG Try.prog O false slices_Contains.code T S:=rfl
 have c1:=fun S=>slices_Index.v hv hk hlen (v:=v) S
 conv at hr =>
  rhs
  rw [hTe]
  simp only [slices_Contains.code,slices_Contains.rs,zSs,reduceIte,Nat.reduceEqDiff,Int.reduceEq,Int.reduceLT,Int.reduceLE,if_neg hk,c1,aiQ]
 rw [hTe] at hr
 exact slices_Contains.runs hr (.inr rfl)
end
end Go.Proofs.Ytfjogganfjkckaa
namespace Go.Proofs.Ytfjogganfjkckaa
open Go.Abs
abbrev wL.id:FuncId:=22
noncomputable def wL.code:Code:=(Code.seq (Code.region 0 (reg Try.f22 0) false) (Code.seq (Code.region 1 (reg Try.f22 1) false) (Code.seq (Code.seq (Code.region 2 (reg Try.f22 2) false) (Code.cond (Operand.tmp 16) (Code.seq (Code.region 3 (reg Try.f22 3) false) Code.ret) Code.skip)) (Code.seq (Code.region 4 (reg Try.f22 4) false) (Code.seq (Code.seq (Code.region 5 (reg Try.f22 5) false) (Code.cond (Operand.tmp 33) (Code.seq (Code.region 6 (reg Try.f22 6) false) Code.ret) Code.skip)) (Code.seq (Code.region 7 (reg Try.f22 7) false) Code.ret))))))
theorem wL.body:Try.f22.body=some wL.code:=by kernel_rfl
variable (F M H Q N I K L J P b c d f g i k l m n o p q r s t u w x y z A B C D E:Value) (S:zn)
theorem wL.r0 :jw Try.prog ⟨false,false,false⟩ (zW Try.prog O) (reg Try.f22 0) (reg Try.f22 0).toList ([F,M,H,Q,N,I,K,L,J,P,b,c,d,f,g,i,k,l,m,n,o,p,q,r,s,t,u,w,x,y,z,A,B,C,D,E]) S =
  (zI (yG Try.prog 48 S) (fun U G=>some ([F,M,U,Value.int IntKind.i64 0,N,I,K,L,J,P,b,c,d,f,g,i,k,l,m,n,o,p,q,r,s,t,u,w,x,y,z,A,B,C,D,E],G)) ()):=by
 kernel_rfl
theorem wL.r1 :jw Try.prog ⟨false,false,false⟩ (zW Try.prog O) (reg Try.f22 1) (reg Try.f22 1).toList ([F,M,H,Q,N,I,K,L,J,P,b,c,d,f,g,i,k,l,m,n,o,p,q,r,s,t,u,w,x,y,z,A,B,C,D,E]) S =
  (zI ((zW Try.prog O) 41 [(dem (dem F))] S) (fun a G=>zI (zU a 0 G) (fun V R=>zI (zU (zO 0 a) 1 R) (fun W Y=>zI (zU (zO 1 (zO 0 a)) 2 Y) (fun X Z=>some ([F,M,H,Q,V,W,X,L,J,zO 2 (zO 1 (zO 0 a)),dem F,dem a,dem V,dem W,dem X,i,k,l,m,n,o,p,q,r,s,t,u,w,x,y,z,A,B,C,D,E],Z)) ()) ()) ()) ()):=by
 kernel_rfl
theorem wL.r2 :jw Try.prog ⟨false,false,false⟩ (zW Try.prog O) (reg Try.f22 2) (reg Try.f22 2).toList ([F,M,H,Q,N,I,K,L,J,P,b,c,d,f,g,i,k,l,m,n,o,p,q,r,s,t,u,w,x,y,z,A,B,C,D,E]) S =
  (zI (wB Try.prog BinOp.neq 64 (dem K) (Value.int IntKind.i64 0) S) (fun a G=>some ([F,M,H,Q,N,I,K,L,J,P,b,c,d,f,g,dem K,a,l,m,n,o,p,q,r,s,t,u,w,x,y,z,A,B,C,D,E],G)) ()):=by
 kernel_rfl
theorem wL.r3 :jw Try.prog ⟨false,false,false⟩ (zW Try.prog O) (reg Try.f22 3) (reg Try.f22 3).toList ([F,M,H,Q,N,I,K,L,J,P,b,c,d,f,g,i,k,l,m,n,o,p,q,r,s,t,u,w,x,y,z,A,B,C,D,E]) S =
  (zI (yg Try.prog 48 [] S) (fun U G=>zI (wM Try.prog 48 H (dem U) G) (fun a R=>some ([F,M,H,Value.int IntKind.i64 121,N,I,K,L,J,P,b,c,d,f,g,i,k,U,m,n,o,p,q,r,s,t,u,w,x,y,z,A,B,C,D,E],R)) ()) ()):=by
 kernel_rfl
theorem wL.r4 :jw Try.prog ⟨false,false,false⟩ (zW Try.prog O) (reg Try.f22 4) (reg Try.f22 4).toList ([F,M,H,Q,N,I,K,L,J,P,b,c,d,f,g,i,k,l,m,n,o,p,q,r,s,t,u,w,x,y,z,A,B,C,D,E]) S =
  (zI ((zW Try.prog O) 42 [(dem (dem I))] S) (fun a G=>zI (zU a 0 G) (fun V R=>zI (zU (zO 0 a) 1 R) (fun W Y=>zI (yG Try.prog 48 Y) (fun X Z=>zI (wM Try.prog 48 X (dem V) Z) (fun v6 S5=>some ([F,M,H,Q,N,I,K,X,W,P,b,c,d,f,g,i,k,l,zO 1 (zO 0 a),dem I,dem a,V,dem W,r,s,t,u,w,x,y,z,A,B,C,D,E],S5)) ()) ()) ()) ()) ()):=by
 kernel_rfl
theorem wL.r5 :jw Try.prog ⟨false,false,false⟩ (zW Try.prog O) (reg Try.f22 5) (reg Try.f22 5).toList ([F,M,H,Q,N,I,K,L,J,P,b,c,d,f,g,i,k,l,m,n,o,p,q,r,s,t,u,w,x,y,z,A,B,C,D,E]) S =
  (zI (aUn Try.prog UnOp.not (dem J) S) (fun a G=>gdK (dem a) false (zA Try.prog 48 L 1) G (fun V R=>gdK (dem a) false (jf Try.prog false 3 V) R (fun W Y=>gdK (dem a) false ((zW Try.prog O) 44 [(dem W)]) Y (fun X Z=>gdK (dem a) false (ret N) Z (fun v6 S5=>gdK (dem a) false (ret I) S5 (fun v7 S6=>gdK (dem a) false ((zW Try.prog O) 43 [(dem X),(dem (dem v6)),(dem (dem v7))]) S6 (fun v8 S7=>gdK (dem a) false (aUn Try.prog UnOp.not v8) S7 (fun v9 S8=>zI (wR (dem a) (Value.bool true) v9 S8) (fun a0 S9=>some ([F,M,H,Q,N,I,K,L,J,P,b,c,d,f,g,i,k,l,m,n,o,p,q,dem J,a,dem a,V,W,X,dem v6,dem v7,v8,v9,a0,D,E],S9)) ()) ()) ()) ()) ()) ()) ()) ()) ()):=by
 refine sP Try.f22 5 0 (v:=J) ?_
 refine sD Try.f22 5 1 (fun a G=>?_)
 refine sP Try.f22 5 2 (v:=a) ?_
 refine sG Try.f22 5 3 (j:=2) (fun V R=>?_)
 refine sG Try.f22 5 4 (j:=2) (fun W Y=>?_)
 refine sG Try.f22 5 5 (j:=2) (fun X Z=>?_)
 refine sG Try.f22 5 6 (j:=2) (fun v6 S5=>?_)
 refine sG Try.f22 5 7 (j:=2) (fun v7 S6=>?_)
 refine sG Try.f22 5 8 (j:=2) (fun v8 S7=>?_)
 refine sG Try.f22 5 9 (j:=2) (fun v9 S8=>?_)
 refine sD Try.f22 5 10 (fun a0 S9=>?_)
 kernel_rfl
theorem wL.r6 :jw Try.prog ⟨false,false,false⟩ (zW Try.prog O) (reg Try.f22 6) (reg Try.f22 6).toList ([F,M,H,Q,N,I,K,L,J,P,b,c,d,f,g,i,k,l,m,n,o,p,q,r,s,t,u,w,x,y,z,A,B,C,D,E]) S =
  (zI (yg Try.prog 48 [] S) (fun U G=>zI (wM Try.prog 48 H (dem U) G) (fun a R=>some ([F,M,H,Value.int IntKind.i64 121,N,I,K,L,J,P,b,c,d,f,g,i,k,l,m,n,o,p,q,r,s,t,u,w,x,y,z,A,B,C,U,E],R)) ()) ()):=by
 kernel_rfl
theorem wL.r7 :jw Try.prog ⟨false,false,false⟩ (zW Try.prog O) (reg Try.f22 7) (reg Try.f22 7).toList ([F,M,H,Q,N,I,K,L,J,P,b,c,d,f,g,i,k,l,m,n,o,p,q,r,s,t,u,w,x,y,z,A,B,C,D,E]) S =
  (zI (jf Try.prog false 48 L S) (fun U G=>zI (wM Try.prog 48 H (dem U) G) (fun a R=>some ([F,M,H,Value.int IntKind.i64 0,N,I,K,L,J,P,b,c,d,f,g,i,k,l,m,n,o,p,q,r,s,t,u,w,x,y,z,A,B,C,D,U],R)) ()) ()):=by
 kernel_rfl
theorem wL.rs:type_of% (ak5 @wL.r0 (ak5 @wL.r1 (ak5 @wL.r2 (ak5 @wL.r3 (ak5 @wL.r4 (ak5 @wL.r5 (ak5 @wL.r6 (@wL.r7)))))))):=ak5 @wL.r0 (ak5 @wL.r1 (ak5 @wL.r2 (ak5 @wL.r3 (ak5 @wL.r4 (ak5 @wL.r5 (ak5 @wL.r6 (@wL.r7)))))))
theorem wL.runs {F:Value} {S G:zn} {e:AEx} {T:List Value} (h:zG Try.prog O false wL.code ([F,zh,zh,zh,zh,zh,zh,zh,zh,zh,zh,zh,zh,zh,zh,zh,zh,zh,zh,zh,zh,zh,zh,zh,zh,zh,zh,zh,zh,zh,zh,zh,zh,zh,zh,zh]) zn.empty=some (e,T,G)) (he:e=.normal∨e=.ret) {w0:Value} (c0:jf Try.prog false 48 (T.getD 2 zh) G=some (w0,G)) (h0:wu (w0)=true) (h1:wu (T.getD 3 zh)=true) (hca:[F].all (jP 16)=true) (hcv:jP 16 (Value.tuple #[w0,T.getD 3 zh])=true):zW Try.prog O 22 [F] S=some (Value.tuple #[w0,T.getD 3 zh],S) :=
 yu rfl rfl Try.func22 (by decide) wL.body (by exact h) he ((yY ((show zK Try.prog T G Try.f22.results.toList=zK Try.prog T G [(ResultVar.cell 2 48),(ResultVar.tmp 3)] from by kernel_rfl).trans (by simp only [zK,c0])) (by kernel_rfl) (by simp only [List.all_cons,List.all_nil,h0,h1,Bool.and_true])).trans rfl) hca hcv
end Go.Proofs.Ytfjogganfjkckaa
namespace Go.Proofs.Ytfjogganfjkckaa
open Go.Abs
abbrev zy.id:FuncId:=16
noncomputable def zy.code:Code:=(Code.seq (Code.region 0 (reg Try.f16 0) false) (Code.seq (Code.region 1 (reg Try.f16 1) false) (Code.seq (Code.seq (Code.region 2 (reg Try.f16 2) false) (Code.cond (Operand.tmp 20) (Code.seq (Code.region 3 (reg Try.f16 3) false) Code.ret) Code.skip)) (Code.seq (Code.region 4 (reg Try.f16 4) false) (Code.seq (Code.seq (Code.region 5 (reg Try.f16 5) false) (Code.cond (Operand.tmp 29) (Code.seq (Code.region 6 (reg Try.f16 6) false) Code.ret) Code.skip)) (Code.seq (Code.region 7 (reg Try.f16 7) true) (Code.seq (Code.seq (Code.region 8 (reg Try.f16 8) false) (Code.cond (Operand.tmp 52) (Code.region 9 (reg Try.f16 9) false) Code.skip)) (Code.seq (Code.seq (Code.region 10 (reg Try.f16 10) false) (Code.cond (Operand.tmp 61) (Code.region 11 (reg Try.f16 11) false) Code.skip)) (Code.seq (Code.region 12 (reg Try.f16 12) false) (Code.seq (Code.seq (Code.region 13 (reg Try.f16 13) false) (Code.cond (Operand.tmp 81) (Code.seq (Code.region 14 (reg Try.f16 14) false) Code.ret) Code.skip)) (Code.seq (Code.region 15 (reg Try.f16 15) false) Code.ret)))))))))))
theorem zy.body:Try.f16.body=some zy.code:=by kernel_rfl
variable (x0 x1 x2 x3 x4 x5 x6 c x8 x9 b f d g i k l m n o p q r s t u w x y z A B C D E F G H I J K L M N P Q R U V W X Y Z a0 a1 a2 a3 a4 a5 a6 a7 a8 a9 b0 b1 b2 b3 b4 b5 b6 b7 b8 b9 c1 c2 c3 c4 c5 c6 c7 c8 c9 d0 d1:Value) (S:zn)
theorem zy.r0 :jw Try.prog ⟨false,false,false⟩ (zW Try.prog O) (reg Try.f16 0) (reg Try.f16 0).toList ([x0,x1,x2,x3,x4,x5,x6,c,x8,x9,b,f,d,g,i,k,l,m,n,o,p,q,r,s,t,u,w,x,y,z,A,B,C,D,E,F,G,H,I,J,K,L,M,N,P,Q,R,U,V,W,X,Y,Z,a0,a1,a2,a3,a4,a5,a6,a7,a8,a9,b0,b1,b2,b3,b4,b5,b6,b7,b8,b9,c1,c2,c3,c4,c5,c6,c7,c8,c9,d0,d1]) S =
  (zI (yG Try.prog 48 S) (fun v0 S1=>some ([x0,x1,v0,Value.int IntKind.i64 0,x4,x5,x6,c,x8,x9,b,f,d,g,i,k,l,m,n,o,p,q,r,s,t,u,w,x,y,z,A,B,C,D,E,F,G,H,I,J,K,L,M,N,P,Q,R,U,V,W,X,Y,Z,a0,a1,a2,a3,a4,a5,a6,a7,a8,a9,b0,b1,b2,b3,b4,b5,b6,b7,b8,b9,c1,c2,c3,c4,c5,c6,c7,c8,c9,d0,d1],S1)) ()):=by
 kernel_rfl
theorem zy.r1 :jw Try.prog ⟨false,false,false⟩ (zW Try.prog O) (reg Try.f16 1) (reg Try.f16 1).toList ([x0,x1,x2,x3,x4,x5,x6,c,x8,x9,b,f,d,g,i,k,l,m,n,o,p,q,r,s,t,u,w,x,y,z,A,B,C,D,E,F,G,H,I,J,K,L,M,N,P,Q,R,U,V,W,X,Y,Z,a0,a1,a2,a3,a4,a5,a6,a7,a8,a9,b0,b1,b2,b3,b4,b5,b6,b7,b8,b9,c1,c2,c3,c4,c5,c6,c7,c8,c9,d0,d1]) S =
  (zI ((zW Try.prog O) 28 [(dem (dem x0))] S) (fun a S1=>zI (zU a 0 S1) (fun v3 S2=>zI (zU (zO 0 a) 1 S2) (fun v4 S3=>zI (zU (zO 1 (zO 0 a)) 2 S3) (fun v5 S4=>some ([x0,x1,x2,x3,v3,v4,v5,c,x8,x9,b,f,d,zO 2 (zO 1 (zO 0 a)),dem x0,dem a,dem v3,dem v4,dem v5,o,p,q,r,s,t,u,w,x,y,z,A,B,C,D,E,F,G,H,I,J,K,L,M,N,P,Q,R,U,V,W,X,Y,Z,a0,a1,a2,a3,a4,a5,a6,a7,a8,a9,b0,b1,b2,b3,b4,b5,b6,b7,b8,b9,c1,c2,c3,c4,c5,c6,c7,c8,c9,d0,d1],S4)) ()) ()) ()) ()):=by
 kernel_rfl
theorem zy.r2 :jw Try.prog ⟨false,false,false⟩ (zW Try.prog O) (reg Try.f16 2) (reg Try.f16 2).toList ([x0,x1,x2,x3,x4,x5,x6,c,x8,x9,b,f,d,g,i,k,l,m,n,o,p,q,r,s,t,u,w,x,y,z,A,B,C,D,E,F,G,H,I,J,K,L,M,N,P,Q,R,U,V,W,X,Y,Z,a0,a1,a2,a3,a4,a5,a6,a7,a8,a9,b0,b1,b2,b3,b4,b5,b6,b7,b8,b9,c1,c2,c3,c4,c5,c6,c7,c8,c9,d0,d1]) S =
  (zI (wB Try.prog BinOp.neq 3 (dem x6) (Value.int IntKind.i64 0) S) (fun a S1=>some ([x0,x1,x2,x3,x4,x5,x6,c,x8,x9,b,f,d,g,i,k,l,m,n,dem x6,a,q,r,s,t,u,w,x,y,z,A,B,C,D,E,F,G,H,I,J,K,L,M,N,P,Q,R,U,V,W,X,Y,Z,a0,a1,a2,a3,a4,a5,a6,a7,a8,a9,b0,b1,b2,b3,b4,b5,b6,b7,b8,b9,c1,c2,c3,c4,c5,c6,c7,c8,c9,d0,d1],S1)) ()):=by
 kernel_rfl
theorem zy.r3 :jw Try.prog ⟨false,false,false⟩ (zW Try.prog O) (reg Try.f16 3) (reg Try.f16 3).toList ([x0,x1,x2,x3,x4,x5,x6,c,x8,x9,b,f,d,g,i,k,l,m,n,o,p,q,r,s,t,u,w,x,y,z,A,B,C,D,E,F,G,H,I,J,K,L,M,N,P,Q,R,U,V,W,X,Y,Z,a0,a1,a2,a3,a4,a5,a6,a7,a8,a9,b0,b1,b2,b3,b4,b5,b6,b7,b8,b9,c1,c2,c3,c4,c5,c6,c7,c8,c9,d0,d1]) S =
  (zI (yg Try.prog 48 [] S) (fun v0 S1=>zI (wM Try.prog 48 x2 (dem v0) S1) (fun a S2=>some ([x0,x1,x2,Value.int IntKind.i64 121,x4,x5,x6,c,x8,x9,b,f,d,g,i,k,l,m,n,o,p,v0,r,s,t,u,w,x,y,z,A,B,C,D,E,F,G,H,I,J,K,L,M,N,P,Q,R,U,V,W,X,Y,Z,a0,a1,a2,a3,a4,a5,a6,a7,a8,a9,b0,b1,b2,b3,b4,b5,b6,b7,b8,b9,c1,c2,c3,c4,c5,c6,c7,c8,c9,d0,d1],S2)) ()) ()):=by
 kernel_rfl
theorem zy.r4 :jw Try.prog ⟨false,false,false⟩ (zW Try.prog O) (reg Try.f16 4) (reg Try.f16 4).toList ([x0,x1,x2,x3,x4,x5,x6,c,x8,x9,b,f,d,g,i,k,l,m,n,o,p,q,r,s,t,u,w,x,y,z,A,B,C,D,E,F,G,H,I,J,K,L,M,N,P,Q,R,U,V,W,X,Y,Z,a0,a1,a2,a3,a4,a5,a6,a7,a8,a9,b0,b1,b2,b3,b4,b5,b6,b7,b8,b9,c1,c2,c3,c4,c5,c6,c7,c8,c9,d0,d1]) S =
  (zI ((zW Try.prog O) 29 [(dem (dem x5)),(Value.int IntKind.i64 6)] S) (fun a S1=>zI (zU a 0 S1) (fun v3 S2=>zI (zU (zO 0 a) 1 S2) (fun v4 S3=>zI (zU (zO 1 (zO 0 a)) 2 S3) (fun v5 S4=>some ([x0,x1,x2,x3,x4,x5,x6,v3,v4,v5,b,f,d,g,i,k,l,m,n,o,p,q,zO 2 (zO 1 (zO 0 a)),dem x5,dem a,dem v3,dem v4,dem v5,y,z,A,B,C,D,E,F,G,H,I,J,K,L,M,N,P,Q,R,U,V,W,X,Y,Z,a0,a1,a2,a3,a4,a5,a6,a7,a8,a9,b0,b1,b2,b3,b4,b5,b6,b7,b8,b9,c1,c2,c3,c4,c5,c6,c7,c8,c9,d0,d1],S4)) ()) ()) ()) ()):=by
 kernel_rfl
theorem zy.r5 :jw Try.prog ⟨false,false,false⟩ (zW Try.prog O) (reg Try.f16 5) (reg Try.f16 5).toList ([x0,x1,x2,x3,x4,x5,x6,c,x8,x9,b,f,d,g,i,k,l,m,n,o,p,q,r,s,t,u,w,x,y,z,A,B,C,D,E,F,G,H,I,J,K,L,M,N,P,Q,R,U,V,W,X,Y,Z,a0,a1,a2,a3,a4,a5,a6,a7,a8,a9,b0,b1,b2,b3,b4,b5,b6,b7,b8,b9,c1,c2,c3,c4,c5,c6,c7,c8,c9,d0,d1]) S =
  (zI (wB Try.prog BinOp.neq 3 (dem x9) (Value.int IntKind.i64 0) S) (fun a S1=>some ([x0,x1,x2,x3,x4,x5,x6,c,x8,x9,b,f,d,g,i,k,l,m,n,o,p,q,r,s,t,u,w,x,dem x9,a,A,B,C,D,E,F,G,H,I,J,K,L,M,N,P,Q,R,U,V,W,X,Y,Z,a0,a1,a2,a3,a4,a5,a6,a7,a8,a9,b0,b1,b2,b3,b4,b5,b6,b7,b8,b9,c1,c2,c3,c4,c5,c6,c7,c8,c9,d0,d1],S1)) ()):=by
 kernel_rfl
theorem zy.r6 :jw Try.prog ⟨false,false,false⟩ (zW Try.prog O) (reg Try.f16 6) (reg Try.f16 6).toList ([x0,x1,x2,x3,x4,x5,x6,c,x8,x9,b,f,d,g,i,k,l,m,n,o,p,q,r,s,t,u,w,x,y,z,A,B,C,D,E,F,G,H,I,J,K,L,M,N,P,Q,R,U,V,W,X,Y,Z,a0,a1,a2,a3,a4,a5,a6,a7,a8,a9,b0,b1,b2,b3,b4,b5,b6,b7,b8,b9,c1,c2,c3,c4,c5,c6,c7,c8,c9,d0,d1]) S =
  (zI (yg Try.prog 48 [] S) (fun v0 S1=>zI (wM Try.prog 48 x2 (dem v0) S1) (fun a S2=>some ([x0,x1,x2,Value.int IntKind.i64 121,x4,x5,x6,c,x8,x9,b,f,d,g,i,k,l,m,n,o,p,q,r,s,t,u,w,x,y,z,v0,B,C,D,E,F,G,H,I,J,K,L,M,N,P,Q,R,U,V,W,X,Y,Z,a0,a1,a2,a3,a4,a5,a6,a7,a8,a9,b0,b1,b2,b3,b4,b5,b6,b7,b8,b9,c1,c2,c3,c4,c5,c6,c7,c8,c9,d0,d1],S2)) ()) ()):=by
 kernel_rfl
theorem zy.d7:qW Try.prog (reg Try.f16 7)=true:=by kernel_rfl
theorem zy.ff7:fixed Try.prog (reg Try.f16 7)=false:=by kernel_rfl
theorem zy.k7:checked Try.prog (reg Try.f16 7)=[0,1,2,3,4,5,6,7,8,9,10,11,12,13,14,15,16,17,18]:=by kernel_rfl
theorem zy.g7:again Try.prog (reg Try.f16 7)=[(2,19),(5,19),(8,19),(11,19),(14,19),(17,19)]:=by kernel_rfl
theorem zy.r7 :zG Try.prog O false (.region 7 (reg Try.f16 7) true) ([x0,x1,x2,x3,x4,x5,x6,c,x8,x9,b,f,d,g,i,k,l,m,n,o,p,q,r,s,t,u,w,x,y,z,A,B,C,D,E,F,G,H,I,J,K,L,M,N,P,Q,R,U,V,W,X,Y,Z,a0,a1,a2,a3,a4,a5,a6,a7,a8,a9,b0,b1,b2,b3,b4,b5,b6,b7,b8,b9,c1,c2,c3,c4,c5,c6,c7,c8,c9,d0,d1]) S =
  Jb (okK c ( zI (jo Try.prog 24 (dem c) (Value.int IntKind.i64 0) S) (fun a S1=>okK a ( zI (jf Try.prog false 3 a S1) (fun v2 S2=>okK v2 ( okK c ( zI (jo Try.prog 24 (dem c) (Value.int IntKind.i64 1) S2) (fun v4 S3=>okK v4 ( zI (jf Try.prog false 3 v4 S3) (fun v5 S4=>okK v5 ( okK c ( zI (jo Try.prog 24 (dem c) (Value.int IntKind.i64 2) S4) (fun v7 S5=>okK v7 ( zI (jf Try.prog false 3 v7 S5) (fun v8 S6=>okK v8 ( okK c ( zI (jo Try.prog 24 (dem c) (Value.int IntKind.i64 3) S6) (fun d3 S7=>okK d3 ( zI (jf Try.prog false 3 d3 S7) (fun d6 S8=>okK d6 ( okK c ( zI (jo Try.prog 24 (dem c) (Value.int IntKind.i64 4) S8) (fun d4 S9=>okK d4 ( zI (jf Try.prog false 3 d4 S9) (fun d8 f3=>okK d8 ( okK c ( zI (jo Try.prog 24 (dem c) (Value.int IntKind.i64 5) f3) (fun d5 f1=>okK d5 ( zI (jf Try.prog false 3 d5 f1) (fun d9 f4=>okK d9 ( zI (yg Try.prog 48 [(0,(dem v2)),(1,(dem v5)),(2,(dem v8)),(3,(dem d6)),(4,(dem d8)),(5,(dem d9))] f4) (fun f0 f5=>okK f0 ( zI (yG Try.prog 48 f5) (fun f2 d2=>zI (wM Try.prog 48 f2 (dem f0) d2) (fun f7 f6=>ckK (qK a S1 d2 && (qK v4 S3 d2 && (qK v7 S5 d2 && (qK d3 S7 d2 && (qK d4 S9 d2 && (qK d5 f1 d2 && (true))))))) (some ([x0,x1,x2,x3,x4,x5,x6,c,x8,x9,f2,f,d,g,i,k,l,m,n,o,p,q,r,s,t,u,w,x,y,z,A,dem c,a,v2,dem c,v4,v5,dem c,v7,v8,dem c,d3,d6,dem c,d4,d8,dem c,d5,d9,f0,X,Y,Z,a0,a1,a2,a3,a4,a5,a6,a7,a8,a9,b0,b1,b2,b3,b4,b5,b6,b7,b8,b9,c1,c2,c3,c4,c5,c6,c7,c8,c9,d0,d1],f6)) ()) ()) ()) ()) ()) ()) ()) ()) ()) ()) ()) ()) ()) ()) ()) ()) ()) ()) ()) ()) ()) ()) ()) ()) ()) ()) ()) ()) ()) ()) ()) ()) ()) ()) ()):=by
 rw [yF zy.d7 zy.ff7 zy.k7 zy.g7]
 refine congrArg Jb ?_
 refine uPC Try.f16 7 0 (v:=c) (pe:=zh) ?_
 refine uDC Try.f16 7 1 (pe:=zh) (fun a S1=>?_)
 refine uDC Try.f16 7 2 (pe:=a) (fun v2 S2=>?_)
 refine uPC Try.f16 7 3 (v:=c) (pe:=zh) ?_
 refine uDC Try.f16 7 4 (pe:=zh) (fun v4 S3=>?_)
 refine uDC Try.f16 7 5 (pe:=v4) (fun v5 S4=>?_)
 refine uPC Try.f16 7 6 (v:=c) (pe:=zh) ?_
 refine uDC Try.f16 7 7 (pe:=zh) (fun v7 S5=>?_)
 refine uDC Try.f16 7 8 (pe:=v7) (fun v8 S6=>?_)
 refine uPC Try.f16 7 9 (v:=c) (pe:=zh) ?_
 refine uDC Try.f16 7 10 (pe:=zh) (fun d3 S7=>?_)
 refine uDC Try.f16 7 11 (pe:=d3) (fun d6 S8=>?_)
 refine uPC Try.f16 7 12 (v:=c) (pe:=zh) ?_
 refine uDC Try.f16 7 13 (pe:=zh) (fun d4 S9=>?_)
 refine uDC Try.f16 7 14 (pe:=d4) (fun d8 f3=>?_)
 refine uPC Try.f16 7 15 (v:=c) (pe:=zh) ?_
 refine uDC Try.f16 7 16 (pe:=zh) (fun d5 f1=>?_)
 refine uDC Try.f16 7 17 (pe:=d5) (fun d9 f4=>?_)
 refine uDC Try.f16 7 18 (pe:=zh) (fun f0 f5=>?_)
 refine uD Try.f16 7 19 (pe:=zh) (fun f2 d2=>?_)
 refine uD Try.f16 7 20 (pe:=zh) (fun f7 f6=>?_)
 kernel_rfl
theorem zy.r8 :jw Try.prog ⟨false,false,false⟩ (zW Try.prog O) (reg Try.f16 8) (reg Try.f16 8).toList ([x0,x1,x2,x3,x4,x5,x6,c,x8,x9,b,f,d,g,i,k,l,m,n,o,p,q,r,s,t,u,w,x,y,z,A,B,C,D,E,F,G,H,I,J,K,L,M,N,P,Q,R,U,V,W,X,Y,Z,a0,a1,a2,a3,a4,a5,a6,a7,a8,a9,b0,b1,b2,b3,b4,b5,b6,b7,b8,b9,c1,c2,c3,c4,c5,c6,c7,c8,c9,d0,d1]) S =
  (zI (zA Try.prog 48 b 0 S) (fun v0 S1=>zI (jf Try.prog false 3 v0 S1) (fun a S2=>zI (wB Try.prog BinOp.eql 3 a (Value.int IntKind.i64 0) S2) (fun v2 S3=>some ([x0,x1,x2,x3,x4,x5,x6,c,x8,x9,b,f,d,g,i,k,l,m,n,o,p,q,r,s,t,u,w,x,y,z,A,B,C,D,E,F,G,H,I,J,K,L,M,N,P,Q,R,U,V,W,v0,a,v2,a0,a1,a2,a3,a4,a5,a6,a7,a8,a9,b0,b1,b2,b3,b4,b5,b6,b7,b8,b9,c1,c2,c3,c4,c5,c6,c7,c8,c9,d0,d1],S3)) ()) ()) ()):=by
 kernel_rfl
theorem zy.r9 :jw Try.prog ⟨false,false,false⟩ (zW Try.prog O) (reg Try.f16 9) (reg Try.f16 9).toList ([x0,x1,x2,x3,x4,x5,x6,c,x8,x9,b,f,d,g,i,k,l,m,n,o,p,q,r,s,t,u,w,x,y,z,A,B,C,D,E,F,G,H,I,J,K,L,M,N,P,Q,R,U,V,W,X,Y,Z,a0,a1,a2,a3,a4,a5,a6,a7,a8,a9,b0,b1,b2,b3,b4,b5,b6,b7,b8,b9,c1,c2,c3,c4,c5,c6,c7,c8,c9,d0,d1]) S =
  (zI ((zW Try.prog O) 30 [(dem (dem x8))] S) (fun a S1=>zI (zU a 0 S1) (fun v3 S2=>zI (zU (zO 0 a) 1 S2) (fun v4 S3=>zI (zA Try.prog 48 b 6 S3) (fun v5 S4=>zI (wM Try.prog 43 v5 (dem v3) S4) (fun v6 S5=>some ([x0,x1,x2,x3,x4,x5,x6,c,x8,x9,b,f,d,g,i,k,l,m,n,o,p,q,r,s,t,u,w,x,y,z,A,B,C,D,E,F,G,H,I,J,K,L,M,N,P,Q,R,U,V,W,X,Y,Z,zO 1 (zO 0 a),dem x8,dem a,v3,v4,v5,a6,a7,a8,a9,b0,b1,b2,b3,b4,b5,b6,b7,b8,b9,c1,c2,c3,c4,c5,c6,c7,c8,c9,d0,d1],S5)) ()) ()) ()) ()) ()):=by
 kernel_rfl
theorem zy.r10 :jw Try.prog ⟨false,false,false⟩ (zW Try.prog O) (reg Try.f16 10) (reg Try.f16 10).toList ([x0,x1,x2,x3,x4,x5,x6,c,x8,x9,b,f,d,g,i,k,l,m,n,o,p,q,r,s,t,u,w,x,y,z,A,B,C,D,E,F,G,H,I,J,K,L,M,N,P,Q,R,U,V,W,X,Y,Z,a0,a1,a2,a3,a4,a5,a6,a7,a8,a9,b0,b1,b2,b3,b4,b5,b6,b7,b8,b9,c1,c2,c3,c4,c5,c6,c7,c8,c9,d0,d1]) S =
  (zI (zA Try.prog 48 b 0 S) (fun v0 S1=>zI (jf Try.prog false 3 v0 S1) (fun a S2=>zI (wB Try.prog BinOp.eql 3 a (Value.int IntKind.i64 1) S2) (fun v2 S3=>some ([x0,x1,x2,x3,x4,x5,x6,c,x8,x9,b,f,d,g,i,k,l,m,n,o,p,q,r,s,t,u,w,x,y,z,A,B,C,D,E,F,G,H,I,J,K,L,M,N,P,Q,R,U,V,W,X,Y,Z,a0,a1,a2,a3,a4,a5,v0,a,v2,a9,b0,b1,b2,b3,b4,b5,b6,b7,b8,b9,c1,c2,c3,c4,c5,c6,c7,c8,c9,d0,d1],S3)) ()) ()) ()):=by
 kernel_rfl
theorem zy.r11 :jw Try.prog ⟨false,false,false⟩ (zW Try.prog O) (reg Try.f16 11) (reg Try.f16 11).toList ([x0,x1,x2,x3,x4,x5,x6,c,x8,x9,b,f,d,g,i,k,l,m,n,o,p,q,r,s,t,u,w,x,y,z,A,B,C,D,E,F,G,H,I,J,K,L,M,N,P,Q,R,U,V,W,X,Y,Z,a0,a1,a2,a3,a4,a5,a6,a7,a8,a9,b0,b1,b2,b3,b4,b5,b6,b7,b8,b9,c1,c2,c3,c4,c5,c6,c7,c8,c9,d0,d1]) S =
  (zI ((zW Try.prog O) 31 [(dem (dem x8))] S) (fun a S1=>zI (zU a 0 S1) (fun v3 S2=>zI (zU (zO 0 a) 1 S2) (fun v4 S3=>zI (zA Try.prog 48 b 7 S3) (fun v5 S4=>zI (wM Try.prog 46 v5 (dem v3) S4) (fun v6 S5=>some ([x0,x1,x2,x3,x4,x5,x6,c,x8,x9,b,f,d,g,i,k,l,m,n,o,p,q,r,s,t,u,w,x,y,z,A,B,C,D,E,F,G,H,I,J,K,L,M,N,P,Q,R,U,V,W,X,Y,Z,a0,a1,a2,a3,a4,a5,a6,a7,a8,zO 1 (zO 0 a),dem x8,dem a,v3,v4,v5,b5,b6,b7,b8,b9,c1,c2,c3,c4,c5,c6,c7,c8,c9,d0,d1],S5)) ()) ()) ()) ()) ()):=by
 kernel_rfl
theorem zy.r12 :jw Try.prog ⟨false,false,false⟩ (zW Try.prog O) (reg Try.f16 12) (reg Try.f16 12).toList ([x0,x1,x2,x3,x4,x5,x6,c,x8,x9,b,f,d,g,i,k,l,m,n,o,p,q,r,s,t,u,w,x,y,z,A,B,C,D,E,F,G,H,I,J,K,L,M,N,P,Q,R,U,V,W,X,Y,Z,a0,a1,a2,a3,a4,a5,a6,a7,a8,a9,b0,b1,b2,b3,b4,b5,b6,b7,b8,b9,c1,c2,c3,c4,c5,c6,c7,c8,c9,d0,d1]) S =
  (zI (jf Try.prog false 48 b S) (fun v0 S1=>zI ((zW Try.prog O) 19 [(dem v0)] S1) (fun a S2=>zI (zU a 0 S2) (fun v3 S3=>zI (zU (zO 0 a) 1 S3) (fun v4 S4=>some ([x0,x1,x2,x3,x4,x5,x6,c,x8,x9,b,v3,v4,g,i,k,l,m,n,o,p,q,r,s,t,u,w,x,y,z,A,B,C,D,E,F,G,H,I,J,K,L,M,N,P,Q,R,U,V,W,X,Y,Z,a0,a1,a2,a3,a4,a5,a6,a7,a8,a9,b0,b1,b2,b3,b4,zO 1 (zO 0 a),v0,dem a,dem v3,dem v4,c1,c2,c3,c4,c5,c6,c7,c8,c9,d0,d1],S4)) ()) ()) ()) ()):=by
 kernel_rfl
theorem zy.r13 :jw Try.prog ⟨false,false,false⟩ (zW Try.prog O) (reg Try.f16 13) (reg Try.f16 13).toList ([x0,x1,x2,x3,x4,x5,x6,c,x8,x9,b,f,d,g,i,k,l,m,n,o,p,q,r,s,t,u,w,x,y,z,A,B,C,D,E,F,G,H,I,J,K,L,M,N,P,Q,R,U,V,W,X,Y,Z,a0,a1,a2,a3,a4,a5,a6,a7,a8,a9,b0,b1,b2,b3,b4,b5,b6,b7,b8,b9,c1,c2,c3,c4,c5,c6,c7,c8,c9,d0,d1]) S =
  (zI (wB Try.prog BinOp.neq 3 (dem d) (Value.int IntKind.i64 0) S) (fun a S1=>gdK (dem a) false (ret f) S1 (fun v3 S2=>gdK (dem a) false (qA Try.prog false false 33 9 (dem v3)) S2 (fun v4 S3=>gdK (dem a) false (ret x0) S3 (fun v5 S4=>gdK (dem a) false (qA Try.prog false false 33 9 (dem v5)) S4 (fun v6 S5=>gdK (dem a) false (wB Try.prog BinOp.neq 9 v4 v6) S5 (fun v7 S6=>zI (wR (dem a) (Value.bool true) v7 S6) (fun v8 S7=>some ([x0,x1,x2,x3,x4,x5,x6,c,x8,x9,b,f,d,g,i,k,l,m,n,o,p,q,r,s,t,u,w,x,y,z,A,B,C,D,E,F,G,H,I,J,K,L,M,N,P,Q,R,U,V,W,X,Y,Z,a0,a1,a2,a3,a4,a5,a6,a7,a8,a9,b0,b1,b2,b3,b4,b5,b6,b7,b8,b9,dem d,a,dem a,dem v3,v4,dem v5,v6,v7,v8,d0,d1],S7)) ()) ()) ()) ()) ()) ()) ()):=by
 refine sP Try.f16 13 0 (v:=d) ?_
 refine sD Try.f16 13 1 (fun a S1=>?_)
 refine sP Try.f16 13 2 (v:=a) ?_
 refine sG Try.f16 13 3 (j:=2) (fun v3 S2=>?_)
 refine sG Try.f16 13 4 (j:=2) (fun v4 S3=>?_)
 refine sG Try.f16 13 5 (j:=2) (fun v5 S4=>?_)
 refine sG Try.f16 13 6 (j:=2) (fun v6 S5=>?_)
 refine sG Try.f16 13 7 (j:=2) (fun v7 S6=>?_)
 refine sD Try.f16 13 8 (fun v8 S7=>?_)
 kernel_rfl
theorem zy.r14 :jw Try.prog ⟨false,false,false⟩ (zW Try.prog O) (reg Try.f16 14) (reg Try.f16 14).toList ([x0,x1,x2,x3,x4,x5,x6,c,x8,x9,b,f,d,g,i,k,l,m,n,o,p,q,r,s,t,u,w,x,y,z,A,B,C,D,E,F,G,H,I,J,K,L,M,N,P,Q,R,U,V,W,X,Y,Z,a0,a1,a2,a3,a4,a5,a6,a7,a8,a9,b0,b1,b2,b3,b4,b5,b6,b7,b8,b9,c1,c2,c3,c4,c5,c6,c7,c8,c9,d0,d1]) S =
  (zI (yg Try.prog 48 [] S) (fun v0 S1=>zI (wM Try.prog 48 x2 (dem v0) S1) (fun a S2=>some ([x0,x1,x2,Value.int IntKind.i64 121,x4,x5,x6,c,x8,x9,b,f,d,g,i,k,l,m,n,o,p,q,r,s,t,u,w,x,y,z,A,B,C,D,E,F,G,H,I,J,K,L,M,N,P,Q,R,U,V,W,X,Y,Z,a0,a1,a2,a3,a4,a5,a6,a7,a8,a9,b0,b1,b2,b3,b4,b5,b6,b7,b8,b9,c1,c2,c3,c4,c5,c6,c7,c8,c9,v0,d1],S2)) ()) ()):=by
 kernel_rfl
theorem zy.r15 :jw Try.prog ⟨false,false,false⟩ (zW Try.prog O) (reg Try.f16 15) (reg Try.f16 15).toList ([x0,x1,x2,x3,x4,x5,x6,c,x8,x9,b,f,d,g,i,k,l,m,n,o,p,q,r,s,t,u,w,x,y,z,A,B,C,D,E,F,G,H,I,J,K,L,M,N,P,Q,R,U,V,W,X,Y,Z,a0,a1,a2,a3,a4,a5,a6,a7,a8,a9,b0,b1,b2,b3,b4,b5,b6,b7,b8,b9,c1,c2,c3,c4,c5,c6,c7,c8,c9,d0,d1]) S =
  (zI (jf Try.prog false 48 b S) (fun v0 S1=>zI (wM Try.prog 48 x2 (dem v0) S1) (fun a S2=>some ([x0,x1,x2,Value.int IntKind.i64 0,x4,x5,x6,c,x8,x9,b,f,d,g,i,k,l,m,n,o,p,q,r,s,t,u,w,x,y,z,A,B,C,D,E,F,G,H,I,J,K,L,M,N,P,Q,R,U,V,W,X,Y,Z,a0,a1,a2,a3,a4,a5,a6,a7,a8,a9,b0,b1,b2,b3,b4,b5,b6,b7,b8,b9,c1,c2,c3,c4,c5,c6,c7,c8,c9,d0,v0],S2)) ()) ()):=by
 kernel_rfl
theorem zy.rs:type_of% (ak5 @zy.r0 (ak5 @zy.r1 (ak5 @zy.r2 (ak5 @zy.r3 (ak5 @zy.r4 (ak5 @zy.r5 (ak5 @zy.r6 (ak5 @zy.r7 (ak5 @zy.r8 (ak5 @zy.r9 (ak5 @zy.r10 (ak5 @zy.r11 (ak5 @zy.r12 (ak5 @zy.r13 (ak5 @zy.r14 (@zy.r15)))))))))))))))):=ak5 @zy.r0 (ak5 @zy.r1 (ak5 @zy.r2 (ak5 @zy.r3 (ak5 @zy.r4 (ak5 @zy.r5 (ak5 @zy.r6 (ak5 @zy.r7 (ak5 @zy.r8 (ak5 @zy.r9 (ak5 @zy.r10 (ak5 @zy.r11 (ak5 @zy.r12 (ak5 @zy.r13 (ak5 @zy.r14 (@zy.r15)))))))))))))))
theorem zy.runs {x0:Value} {S S1:zn} {e:AEx} {T:List Value} (h:zG Try.prog O false zy.code ([x0,zh,zh,zh,zh,zh,zh,zh,zh,zh,zh,zh,zh,zh,zh,zh,zh,zh,zh,zh,zh,zh,zh,zh,zh,zh,zh,zh,zh,zh,zh,zh,zh,zh,zh,zh,zh,zh,zh,zh,zh,zh,zh,zh,zh,zh,zh,zh,zh,zh,zh,zh,zh,zh,zh,zh,zh,zh,zh,zh,zh,zh,zh,zh,zh,zh,zh,zh,zh,zh,zh,zh,zh,zh,zh,zh,zh,zh,zh,zh,zh,zh,zh,zh]) zn.empty=some (e,T,S1)) (he:e=.normal∨e=.ret) {w0:Value} (c0:jf Try.prog false 48 (T.getD 2 zh) S1=some (w0,S1)) (h0:wu (w0)=true) (h1:wu (T.getD 3 zh)=true) (hca:[x0].all (jP 16)=true) (hcv:jP 16 (Value.tuple #[w0,T.getD 3 zh])=true):zW Try.prog O 16 [x0] S=some (Value.tuple #[w0,T.getD 3 zh],S) :=
 yu rfl rfl Try.func16 (by decide) zy.body (by exact h) he ((yY ((show zK Try.prog T S1 Try.f16.results.toList=zK Try.prog T S1 [(ResultVar.cell 2 48),(ResultVar.tmp 3)] from by kernel_rfl).trans (by simp only [zK,c0])) (by kernel_rfl) (by simp only [List.all_cons,List.all_nil,h0,h1,Bool.and_true])).trans rfl) hca hcv
end Go.Proofs.Ytfjogganfjkckaa
namespace Go.Proofs.Ytfjogganfjkckaa
open Go.Abs
abbrev jq.id:FuncId:=42
noncomputable def jq.code:Code:=(Code.seq (Code.region 0 (reg Try.f42 0) false) (Code.seq (Code.region 1 (reg Try.f42 1) false) (Code.seq (Code.seq (Code.region 2 (reg Try.f42 2) false) (Code.cond (Operand.tmp 14) (Code.seq (Code.region 3 (reg Try.f42 3) false) Code.ret) Code.skip)) (Code.seq (Code.region 4 (reg Try.f42 4) true) (Code.seq (Code.seq (Code.region 5 (reg Try.f42 5) false) (Code.block 0 (Code.seq (Code.region 8 (reg Try.f42 8) false) (Code.cond (Operand.tmp 46) (Code.region 9 (reg Try.f42 9) false) (Code.seq (Code.region 10 (reg Try.f42 10) false) (Code.cond (Operand.tmp 54) (Code.region 11 (reg Try.f42 11) false) (Code.seq (Code.region 6 (reg Try.f42 6) false) (Code.seq (Code.region 7 (reg Try.f42 7) true) Code.ret)))))))) (Code.seq (Code.region 12 (reg Try.f42 12) true) Code.ret))))))
theorem jq.body:Try.f42.body=some jq.code:=by kernel_rfl
variable (x0 x1 a x3 b x5 x6 x7 x8 x9 d f g i k l m n o p q r s t u w x y z A B C D E F G c H I J K L M N P Q R U V W X Y Z a0 a1 a2 a3 a4 a5 a6 a7 a8 a9 b0 b1 b2 b3 b4 b5:Value) (S:zn)
theorem jq.r0 :jw Try.prog ⟨false,false,false⟩ (zW Try.prog O) (reg Try.f42 0) (reg Try.f42 0).toList ([x0,x1,a,x3,b,x5,x6,x7,x8,x9,d,f,g,i,k,l,m,n,o,p,q,r,s,t,u,w,x,y,z,A,B,C,D,E,F,G,c,H,I,J,K,L,M,N,P,Q,R,U,V,W,X,Y,Z,a0,a1,a2,a3,a4,a5,a6,a7,a8,a9,b0,b1,b2,b3,b4,b5]) S =
  (zI (yG Try.prog 48 S) (fun v0 S1=>some ([x0,x1,v0,Value.bool false,b,x5,x6,x7,x8,x9,d,f,g,i,k,l,m,n,o,p,q,r,s,t,u,w,x,y,z,A,B,C,D,E,F,G,c,H,I,J,K,L,M,N,P,Q,R,U,V,W,X,Y,Z,a0,a1,a2,a3,a4,a5,a6,a7,a8,a9,b0,b1,b2,b3,b4,b5],S1)) ()):=by
 kernel_rfl
theorem jq.r1 :jw Try.prog ⟨false,false,false⟩ (zW Try.prog O) (reg Try.f42 1) (reg Try.f42 1).toList ([x0,x1,a,x3,b,x5,x6,x7,x8,x9,d,f,g,i,k,l,m,n,o,p,q,r,s,t,u,w,x,y,z,A,B,C,D,E,F,G,c,H,I,J,K,L,M,N,P,Q,R,U,V,W,X,Y,Z,a0,a1,a2,a3,a4,a5,a6,a7,a8,a9,b0,b1,b2,b3,b4,b5]) S =
  (zI ((zW Try.prog O) 55 [(dem (dem x0)),(Value.int IntKind.i64 6)] S) (fun v1 S1=>zI (zU v1 0 S1) (fun v3 S2=>zI (zU (zO 0 v1) 1 S2) (fun v4 S3=>zI (zU (zO 1 (zO 0 v1)) 2 S3) (fun v5 S4=>some ([x0,x1,a,x3,v3,v4,v5,zO 2 (zO 1 (zO 0 v1)),dem x0,dem v1,dem v3,dem v4,dem v5,i,k,l,m,n,o,p,q,r,s,t,u,w,x,y,z,A,B,C,D,E,F,G,c,H,I,J,K,L,M,N,P,Q,R,U,V,W,X,Y,Z,a0,a1,a2,a3,a4,a5,a6,a7,a8,a9,b0,b1,b2,b3,b4,b5],S4)) ()) ()) ()) ()):=by
 kernel_rfl
theorem jq.r2 :jw Try.prog ⟨false,false,false⟩ (zW Try.prog O) (reg Try.f42 2) (reg Try.f42 2).toList ([x0,x1,a,x3,b,x5,x6,x7,x8,x9,d,f,g,i,k,l,m,n,o,p,q,r,s,t,u,w,x,y,z,A,B,C,D,E,F,G,c,H,I,J,K,L,M,N,P,Q,R,U,V,W,X,Y,Z,a0,a1,a2,a3,a4,a5,a6,a7,a8,a9,b0,b1,b2,b3,b4,b5]) S =
  (zI (wB Try.prog BinOp.neq 64 (dem x6) (Value.int IntKind.i64 0) S) (fun v1 S1=>some ([x0,x1,a,x3,b,x5,x6,x7,x8,x9,d,f,g,dem x6,v1,l,m,n,o,p,q,r,s,t,u,w,x,y,z,A,B,C,D,E,F,G,c,H,I,J,K,L,M,N,P,Q,R,U,V,W,X,Y,Z,a0,a1,a2,a3,a4,a5,a6,a7,a8,a9,b0,b1,b2,b3,b4,b5],S1)) ()):=by
 kernel_rfl
theorem jq.r3 :jw Try.prog ⟨false,false,false⟩ (zW Try.prog O) (reg Try.f42 3) (reg Try.f42 3).toList ([x0,x1,a,x3,b,x5,x6,x7,x8,x9,d,f,g,i,k,l,m,n,o,p,q,r,s,t,u,w,x,y,z,A,B,C,D,E,F,G,c,H,I,J,K,L,M,N,P,Q,R,U,V,W,X,Y,Z,a0,a1,a2,a3,a4,a5,a6,a7,a8,a9,b0,b1,b2,b3,b4,b5]) S =
  (zI (jf Try.prog false 48 a S) (fun v0 S1=>zI (wM Try.prog 48 a (dem v0) S1) (fun v1 S2=>some ([x0,x1,a,Value.bool false,b,x5,x6,x7,x8,x9,d,f,g,i,k,v0,m,n,o,p,q,r,s,t,u,w,x,y,z,A,B,C,D,E,F,G,c,H,I,J,K,L,M,N,P,Q,R,U,V,W,X,Y,Z,a0,a1,a2,a3,a4,a5,a6,a7,a8,a9,b0,b1,b2,b3,b4,b5],S2)) ()) ()):=by
 kernel_rfl
theorem jq.d4:qW Try.prog (reg Try.f42 4)=true:=by kernel_rfl
theorem jq.ff4:fixed Try.prog (reg Try.f42 4)=false:=by kernel_rfl
theorem jq.k4:checked Try.prog (reg Try.f42 4)=[]:=by kernel_rfl
theorem jq.g4:again Try.prog (reg Try.f42 4)=[]:=by kernel_rfl
theorem jq.r4 :zG Try.prog O false (.region 4 (reg Try.f42 4) true) ([x0,x1,a,x3,b,x5,x6,x7,x8,x9,d,f,g,i,k,l,m,n,o,p,q,r,s,t,u,w,x,y,z,A,B,C,D,E,F,G,c,H,I,J,K,L,M,N,P,Q,R,U,V,W,X,Y,Z,a0,a1,a2,a3,a4,a5,a6,a7,a8,a9,b0,b1,b2,b3,b4,b5]) S =
  Jb (zI (jo Try.prog 24 (dem b) (Value.int IntKind.i64 0) S) (fun v1 S1=>zI (jf Try.prog false 3 v1 S1) (fun v2 S2=>zI (jo Try.prog 24 (dem b) (Value.int IntKind.i64 1) S2) (fun v4 S3=>zI (jf Try.prog false 3 v4 S3) (fun v5 S4=>zI (jo Try.prog 24 (dem b) (Value.int IntKind.i64 2) S4) (fun v7 S5=>zI (jf Try.prog false 3 v7 S5) (fun v8 S6=>zI (jo Try.prog 24 (dem b) (Value.int IntKind.i64 3) S6) (fun b6 S7=>zI (jf Try.prog false 3 b6 S7) (fun b7 S8=>zI (jo Try.prog 24 (dem b) (Value.int IntKind.i64 4) S8) (fun b8 S9=>zI (jf Try.prog false 3 b8 S9) (fun b9 c4=>zI (jo Try.prog 24 (dem b) (Value.int IntKind.i64 5) c4) (fun c1 c5=>zI (jf Try.prog false 3 c1 c5) (fun c2 c6=>zI (yg Try.prog 48 [(0,(dem v2)),(1,(dem v5)),(2,(dem v8)),(3,(dem b7)),(4,(dem b9)),(5,(dem c2))] c6) (fun c3 c7=>zI (wM Try.prog 48 a (dem c3) c7) (fun c9 c8=>some ([x0,x1,a,x3,b,x5,x6,x7,x8,x9,d,f,g,i,k,l,dem b,v1,v2,dem b,v4,v5,dem b,v7,v8,dem b,b6,b7,dem b,b8,b9,dem b,c1,c2,c3,G,c,H,I,J,K,L,M,N,P,Q,R,U,V,W,X,Y,Z,a0,a1,a2,a3,a4,a5,a6,a7,a8,a9,b0,b1,b2,b3,b4,b5],c8)) ()) ()) ()) ()) ()) ()) ()) ()) ()) ()) ()) ()) ()) ()):=by
 rw [yF jq.d4 jq.ff4 jq.k4 jq.g4]
 refine congrArg Jb ?_
 refine tP Try.f42 4 0 (v:=b) ?_
 refine tD Try.f42 4 1 (fun v1 S1=>?_)
 refine tD Try.f42 4 2 (fun v2 S2=>?_)
 refine tP Try.f42 4 3 (v:=b) ?_
 refine tD Try.f42 4 4 (fun v4 S3=>?_)
 refine tD Try.f42 4 5 (fun v5 S4=>?_)
 refine tP Try.f42 4 6 (v:=b) ?_
 refine tD Try.f42 4 7 (fun v7 S5=>?_)
 refine tD Try.f42 4 8 (fun v8 S6=>?_)
 refine tP Try.f42 4 9 (v:=b) ?_
 refine tD Try.f42 4 10 (fun b6 S7=>?_)
 refine tD Try.f42 4 11 (fun b7 S8=>?_)
 refine tP Try.f42 4 12 (v:=b) ?_
 refine tD Try.f42 4 13 (fun b8 S9=>?_)
 refine tD Try.f42 4 14 (fun b9 c4=>?_)
 refine tP Try.f42 4 15 (v:=b) ?_
 refine tD Try.f42 4 16 (fun c1 c5=>?_)
 refine tD Try.f42 4 17 (fun c2 c6=>?_)
 refine tD Try.f42 4 18 (fun c3 c7=>?_)
 refine tD Try.f42 4 19 (fun c9 c8=>?_)
 kernel_rfl
theorem jq.r5 :jw Try.prog ⟨false,false,false⟩ (zW Try.prog O) (reg Try.f42 5) (reg Try.f42 5).toList ([x0,x1,a,x3,b,x5,x6,x7,x8,x9,d,f,g,i,k,l,m,n,o,p,q,r,s,t,u,w,x,y,z,A,B,C,D,E,F,G,c,H,I,J,K,L,M,N,P,Q,R,U,V,W,X,Y,Z,a0,a1,a2,a3,a4,a5,a6,a7,a8,a9,b0,b1,b2,b3,b4,b5]) S =
  (zI (zA Try.prog 48 a 0 S) (fun v0 S1=>zI (jf Try.prog false 3 v0 S1) (fun v1 S2=>some ([x0,x1,a,x3,b,x5,x6,x7,x8,x9,d,f,g,i,k,l,m,n,o,p,q,r,s,t,u,w,x,y,z,A,B,C,D,E,F,v0,v1,H,I,J,K,L,M,N,P,Q,R,U,V,W,X,Y,Z,a0,a1,a2,a3,a4,a5,a6,a7,a8,a9,b0,b1,b2,b3,b4,b5],S2)) ()) ()):=by
 kernel_rfl
theorem jq.r8 :jw Try.prog ⟨false,false,false⟩ (zW Try.prog O) (reg Try.f42 8) (reg Try.f42 8).toList ([x0,x1,a,x3,b,x5,x6,x7,x8,x9,d,f,g,i,k,l,m,n,o,p,q,r,s,t,u,w,x,y,z,A,B,C,D,E,F,G,c,H,I,J,K,L,M,N,P,Q,R,U,V,W,X,Y,Z,a0,a1,a2,a3,a4,a5,a6,a7,a8,a9,b0,b1,b2,b3,b4,b5]) S =
  (zI (wB Try.prog BinOp.eql 3 c (Value.int IntKind.i64 0) S) (fun v0 S1=>some ([x0,x1,a,x3,b,x5,x6,x7,x8,x9,d,f,g,i,k,l,m,n,o,p,q,r,s,t,u,w,x,y,z,A,B,C,D,E,F,G,c,H,I,J,K,L,M,N,P,Q,v0,dem v0,V,W,X,Y,Z,a0,a1,a2,a3,a4,a5,a6,a7,a8,a9,b0,b1,b2,b3,b4,b5],S1)) ()):=by
 kernel_rfl
theorem jq.r9 :jw Try.prog ⟨false,false,false⟩ (zW Try.prog O) (reg Try.f42 9) (reg Try.f42 9).toList ([x0,x1,a,x3,b,x5,x6,x7,x8,x9,d,f,g,i,k,l,m,n,o,p,q,r,s,t,u,w,x,y,z,A,B,C,D,E,F,G,c,H,I,J,K,L,M,N,P,Q,R,U,V,W,X,Y,Z,a0,a1,a2,a3,a4,a5,a6,a7,a8,a9,b0,b1,b2,b3,b4,b5]) S =
  (zI ((zW Try.prog O) 56 [(dem (dem x5))] S) (fun v1 S1=>zI (zU v1 0 S1) (fun v3 S2=>zI (zU (zO 0 v1) 1 S2) (fun v4 S3=>zI (zA Try.prog 48 a 6 S3) (fun v5 S4=>zI (wM Try.prog 43 v5 (dem v3) S4) (fun v6 S5=>some ([x0,x1,a,x3,b,x5,v4,x7,x8,x9,d,f,g,i,k,l,m,n,o,p,q,r,s,t,u,w,x,y,z,A,B,C,D,E,F,G,c,H,I,J,K,L,M,N,P,Q,R,U,zO 1 (zO 0 v1),dem x5,dem v1,v3,dem v4,v5,a1,a2,a3,a4,a5,a6,a7,a8,a9,b0,b1,b2,b3,b4,b5],S5)) ()) ()) ()) ()) ()):=by
 kernel_rfl
theorem jq.r10 :jw Try.prog ⟨false,false,false⟩ (zW Try.prog O) (reg Try.f42 10) (reg Try.f42 10).toList ([x0,x1,a,x3,b,x5,x6,x7,x8,x9,d,f,g,i,k,l,m,n,o,p,q,r,s,t,u,w,x,y,z,A,B,C,D,E,F,G,c,H,I,J,K,L,M,N,P,Q,R,U,V,W,X,Y,Z,a0,a1,a2,a3,a4,a5,a6,a7,a8,a9,b0,b1,b2,b3,b4,b5]) S =
  (zI (wB Try.prog BinOp.eql 3 c (Value.int IntKind.i64 1) S) (fun v0 S1=>some ([x0,x1,a,x3,b,x5,x6,x7,x8,x9,d,f,g,i,k,l,m,n,o,p,q,r,s,t,u,w,x,y,z,A,B,C,D,E,F,G,c,H,I,J,K,L,M,N,P,Q,R,U,V,W,X,Y,Z,a0,v0,dem v0,a3,a4,a5,a6,a7,a8,a9,b0,b1,b2,b3,b4,b5],S1)) ()):=by
 kernel_rfl
theorem jq.r11 :jw Try.prog ⟨false,false,false⟩ (zW Try.prog O) (reg Try.f42 11) (reg Try.f42 11).toList ([x0,x1,a,x3,b,x5,x6,x7,x8,x9,d,f,g,i,k,l,m,n,o,p,q,r,s,t,u,w,x,y,z,A,B,C,D,E,F,G,c,H,I,J,K,L,M,N,P,Q,R,U,V,W,X,Y,Z,a0,a1,a2,a3,a4,a5,a6,a7,a8,a9,b0,b1,b2,b3,b4,b5]) S =
  (zI ((zW Try.prog O) 57 [(dem (dem x5))] S) (fun v1 S1=>zI (zU v1 0 S1) (fun v3 S2=>zI (zU (zO 0 v1) 1 S2) (fun v4 S3=>zI (zA Try.prog 48 a 7 S3) (fun v5 S4=>zI (wM Try.prog 46 v5 (dem v3) S4) (fun v6 S5=>some ([x0,x1,a,x3,b,x5,v4,x7,x8,x9,d,f,g,i,k,l,m,n,o,p,q,r,s,t,u,w,x,y,z,A,B,C,D,E,F,G,c,H,I,J,K,L,M,N,P,Q,R,U,V,W,X,Y,Z,a0,a1,a2,zO 1 (zO 0 v1),dem x5,dem v1,v3,dem v4,v5,a9,b0,b1,b2,b3,b4,b5],S5)) ()) ()) ()) ()) ()):=by
 kernel_rfl
theorem jq.r6 :jw Try.prog ⟨false,false,false⟩ (zW Try.prog O) (reg Try.f42 6) (reg Try.f42 6).toList ([x0,x1,a,x3,b,x5,x6,x7,x8,x9,d,f,g,i,k,l,m,n,o,p,q,r,s,t,u,w,x,y,z,A,B,C,D,E,F,G,c,H,I,J,K,L,M,N,P,Q,R,U,V,W,X,Y,Z,a0,a1,a2,a3,a4,a5,a6,a7,a8,a9,b0,b1,b2,b3,b4,b5]) S =
  (zI (Zz Try.prog 33 (dem x5) S) (fun v1 S1=>zI (wB Try.prog BinOp.eql 3 v1 (Value.int IntKind.i64 0) S1) (fun v2 S2=>some ([x0,x1,a,v2,b,x5,x6,x7,x8,x9,d,f,g,i,k,l,m,n,o,p,q,r,s,t,u,w,x,y,z,A,B,C,D,E,F,G,c,dem x5,v1,dem v2,K,L,M,N,P,Q,R,U,V,W,X,Y,Z,a0,a1,a2,a3,a4,a5,a6,a7,a8,a9,b0,b1,b2,b3,b4,b5],S2)) ()) ()):=by
 kernel_rfl
theorem jq.d7:qW Try.prog (reg Try.f42 7)=true:=by kernel_rfl
theorem jq.ff7:fixed Try.prog (reg Try.f42 7)=false:=by kernel_rfl
theorem jq.k7:checked Try.prog (reg Try.f42 7)=[0,5]:=by kernel_rfl
theorem jq.g7:again Try.prog (reg Try.f42 7)=[(0,4)]:=by kernel_rfl
theorem jq.r7 :zG Try.prog O false (.region 7 (reg Try.f42 7) true) ([x0,x1,a,x3,b,x5,x6,x7,x8,x9,d,f,g,i,k,l,m,n,o,p,q,r,s,t,u,w,x,y,z,A,B,C,D,E,F,G,c,H,I,J,K,L,M,N,P,Q,R,U,V,W,X,Y,Z,a0,a1,a2,a3,a4,a5,a6,a7,a8,a9,b0,b1,b2,b3,b4,b5]) S =
  Jb (zI (jf Try.prog false 48 a S) (fun v0 S1=>okK v0 ( gdK (dem x3) true (jf Try.prog false 48 a) S1 (fun v3 S2=>gdK (dem x3) true ((zW Try.prog O) 58 [(dem v3)]) S2 (fun v4 S3=>zI (wR (dem x3) v4 (Value.bool false) S3) (fun v5 S4=>okK v5 ( zI (wM Try.prog 48 a (dem v0) S4) (fun v6 S5=>ckK (qK a S S3 && (true)) (some ([x0,x1,a,v5,b,x5,x6,x7,x8,x9,d,f,g,i,k,l,m,n,o,p,q,r,s,t,u,w,x,y,z,A,B,C,D,E,F,G,c,H,I,J,v0,x3,dem x3,v3,v4,dem v5,R,U,V,W,X,Y,Z,a0,a1,a2,a3,a4,a5,a6,a7,a8,a9,b0,b1,b2,b3,b4,b5],S5)) ()) ()) ()) ()) ()) ()) ()) ()):=by
 rw [yF jq.d7 jq.ff7 jq.k7 jq.g7]
 refine congrArg Jb ?_
 refine uDC Try.f42 7 0 (pe:=a) (fun v0 S1=>?_)
 refine uP Try.f42 7 1 (v:=x3) (pe:=zh) ?_
 refine uP Try.f42 7 2 (v:=x3) (pe:=zh) ?_
 refine uG Try.f42 7 3 (j:=2) (pe:=a) (fun v3 S2=>?_)
 refine uG Try.f42 7 4 (j:=2) (pe:=zh) (fun v4 S3=>?_)
 refine uDC Try.f42 7 5 (pe:=zh) (fun v5 S4=>?_)
 refine uD Try.f42 7 6 (pe:=zh) (fun v6 S5=>?_)
 refine uP Try.f42 7 7 (v:=v5) (pe:=zh) ?_
 kernel_rfl
theorem jq.d12:qW Try.prog (reg Try.f42 12)=true:=by kernel_rfl
theorem jq.ak0:fixed Try.prog (reg Try.f42 12)=false:=by kernel_rfl
theorem jq.k12:checked Try.prog (reg Try.f42 12)=[0,6]:=by kernel_rfl
theorem jq.g12:again Try.prog (reg Try.f42 12)=[(0,5)]:=by kernel_rfl
theorem jq.r12 :zG Try.prog O false (.region 12 (reg Try.f42 12) true) ([x0,x1,a,x3,b,x5,x6,x7,x8,x9,d,f,g,i,k,l,m,n,o,p,q,r,s,t,u,w,x,y,z,A,B,C,D,E,F,G,c,H,I,J,K,L,M,N,P,Q,R,U,V,W,X,Y,Z,a0,a1,a2,a3,a4,a5,a6,a7,a8,a9,b0,b1,b2,b3,b4,b5]) S =
  Jb (zI (jf Try.prog false 48 a S) (fun v0 S1=>okK v0 ( zI (wB Try.prog BinOp.eql 64 (dem x6) (Value.int IntKind.i64 0) S1) (fun v2 S2=>gdK (dem v2) true (jf Try.prog false 48 a) S2 (fun v4 S3=>gdK (dem v2) true ((zW Try.prog O) 58 [(dem v4)]) S3 (fun v5 S4=>zI (wR (dem v2) v5 (Value.bool false) S4) (fun v6 S5=>okK v6 ( zI (wM Try.prog 48 a (dem v0) S5) (fun v7 S6=>ckK (qK a S S4 && (true)) (some ([x0,x1,a,v6,b,x5,x6,x7,x8,x9,d,f,g,i,k,l,m,n,o,p,q,r,s,t,u,w,x,y,z,A,B,C,D,E,F,G,c,H,I,J,K,L,M,N,P,Q,R,U,V,W,X,Y,Z,a0,a1,a2,a3,a4,a5,a6,a7,a8,v0,dem x6,v2,dem v2,v4,v5,dem v6],S6)) ()) ()) ()) ()) ()) ()) ()) ()) ()):=by
 rw [yF jq.d12 jq.ak0 jq.k12 jq.g12]
 refine congrArg Jb ?_
 refine uDC Try.f42 12 0 (pe:=a) (fun v0 S1=>?_)
 refine uP Try.f42 12 1 (v:=x6) (pe:=zh) ?_
 refine uD Try.f42 12 2 (pe:=zh) (fun v2 S2=>?_)
 refine uP Try.f42 12 3 (v:=v2) (pe:=zh) ?_
 refine uG Try.f42 12 4 (j:=3) (pe:=a) (fun v4 S3=>?_)
 refine uG Try.f42 12 5 (j:=3) (pe:=zh) (fun v5 S4=>?_)
 refine uDC Try.f42 12 6 (pe:=zh) (fun v6 S5=>?_)
 refine uD Try.f42 12 7 (pe:=zh) (fun v7 S6=>?_)
 refine uP Try.f42 12 8 (v:=v6) (pe:=zh) ?_
 kernel_rfl
theorem jq.rs:type_of% (ak5 @jq.r0 (ak5 @jq.r1 (ak5 @jq.r2 (ak5 @jq.r3 (ak5 @jq.r4 (ak5 @jq.r5 (ak5 @jq.r8 (ak5 @jq.r9 (ak5 @jq.r10 (ak5 @jq.r11 (ak5 @jq.r6 (ak5 @jq.r7 (@jq.r12))))))))))))):=ak5 @jq.r0 (ak5 @jq.r1 (ak5 @jq.r2 (ak5 @jq.r3 (ak5 @jq.r4 (ak5 @jq.r5 (ak5 @jq.r8 (ak5 @jq.r9 (ak5 @jq.r10 (ak5 @jq.r11 (ak5 @jq.r6 (ak5 @jq.r7 (@jq.r12))))))))))))
theorem jq.runs {x0:Value} {S S1:zn} {e:AEx} {T:List Value} (h:zG Try.prog O false jq.code ([x0,zh,zh,zh,zh,zh,zh,zh,zh,zh,zh,zh,zh,zh,zh,zh,zh,zh,zh,zh,zh,zh,zh,zh,zh,zh,zh,zh,zh,zh,zh,zh,zh,zh,zh,zh,zh,zh,zh,zh,zh,zh,zh,zh,zh,zh,zh,zh,zh,zh,zh,zh,zh,zh,zh,zh,zh,zh,zh,zh,zh,zh,zh,zh,zh,zh,zh,zh,zh]) zn.empty=some (e,T,S1)) (he:e=.normal∨e=.ret) {w0:Value} (c0:jf Try.prog false 48 (T.getD 2 zh) S1=some (w0,S1)) (h0:wu (w0)=true) (h1:wu (T.getD 3 zh)=true) (hca:[x0].all (jP 16)=true) (hcv:jP 16 (Value.tuple #[w0,T.getD 3 zh])=true):zW Try.prog O 42 [x0] S=some (Value.tuple #[w0,T.getD 3 zh],S) :=
 yu rfl rfl Try.func42 (by decide) jq.body (by exact h) he ((yY ((show zK Try.prog T S1 Try.f42.results.toList=zK Try.prog T S1 [(ResultVar.cell 2 48),(ResultVar.tmp 3)] from by kernel_rfl).trans (by simp only [zK,c0])) (by kernel_rfl) (by simp only [List.all_cons,List.all_nil,h0,h1,Bool.and_true])).trans rfl) hca hcv
end Go.Proofs.Ytfjogganfjkckaa
namespace Go.Proofs.Ytfjogganfjkckaa
open Go.Abs
abbrev zM.id:FuncId:=19
noncomputable def zM.code:Code:=(Code.seq (Code.region 0 (reg Try.f19 0) false) (Code.seq (Code.seq (Code.region 1 (reg Try.f19 1) false) (Code.cond (Operand.tmp 12) (Code.seq (Code.region 2 (reg Try.f19 2) false) Code.ret) Code.skip)) (Code.seq (Code.region 3 (reg Try.f19 3) false) (Code.seq (Code.seq (Code.region 4 (reg Try.f19 4) false) (Code.cond (Operand.tmp 32) (Code.seq (Code.region 5 (reg Try.f19 5) false) (Code.region 6 (reg Try.f19 6) false)) Code.skip)) (Code.seq (Code.seq (Code.region 7 (reg Try.f19 7) false) (Code.cond (Operand.tmp 44) (Code.seq (Code.region 8 (reg Try.f19 8) false) (Code.region 9 (reg Try.f19 9) false)) Code.skip)) (Code.seq (Code.region 10 (reg Try.f19 10) false) Code.ret))))))
theorem zM.body:Try.f19.body=some zM.code:=by kernel_rfl
variable (x0 a x2 x3 x4 x5 x6 x7 x8 x9 b c d f g i j k l m n o p q r s t u v w x y z A B C D E F G H I J K L M N P Q R U V W X Y Z a0 a1 a2 a3 a4 a5:Value) (S:zn)
theorem zM.r0 :jw Try.prog ⟨false,false,false⟩ (zW Try.prog O) (reg Try.f19 0) (reg Try.f19 0).toList ([x0,a,x2,x3,x4,x5,x6,x7,x8,x9,b,c,d,f,g,i,j,k,l,m,n,o,p,q,r,s,t,u,v,w,x,y,z,A,B,C,D,E,F,G,H,I,J,K,L,M,N,P,Q,R,U,V,W,X,Y,Z,a0,a1,a2,a3,a4,a5]) S =
  (zI (JJ (dem x0) S) (fun v0 S1=>some ([x0,v0,Value.slice none 0 0,Value.int IntKind.i64 0,x4,x5,x6,x7,x8,x9,b,c,d,f,g,i,j,k,l,m,n,o,p,q,r,s,t,u,v,w,x,y,z,A,B,C,D,E,F,G,H,I,J,K,L,M,N,P,Q,R,U,V,W,X,Y,Z,a0,a1,a2,a3,a4,a5],S1)) ()):=by
 kernel_rfl
theorem zM.r1 :jw Try.prog ⟨false,false,false⟩ (zW Try.prog O) (reg Try.f19 1) (reg Try.f19 1).toList ([x0,a,x2,x3,x4,x5,x6,x7,x8,x9,b,c,d,f,g,i,j,k,l,m,n,o,p,q,r,s,t,u,v,w,x,y,z,A,B,C,D,E,F,G,H,I,J,K,L,M,N,P,Q,R,U,V,W,X,Y,Z,a0,a1,a2,a3,a4,a5]) S =
  (zI (jf Try.prog false 48 a S) (fun v0 S1=>zI ((zW Try.prog O) 34 [(dem v0)] S1) (fun v1 S2=>zI (aUn Try.prog UnOp.not v1 S2) (fun v2 S3=>some ([x0,a,x2,x3,x4,x5,x6,x7,x8,x9,v0,v1,v2,f,g,i,j,k,l,m,n,o,p,q,r,s,t,u,v,w,x,y,z,A,B,C,D,E,F,G,H,I,J,K,L,M,N,P,Q,R,U,V,W,X,Y,Z,a0,a1,a2,a3,a4,a5],S3)) ()) ()) ()):=by
 kernel_rfl
theorem zM.r2 :jw Try.prog ⟨false,false,false⟩ (zW Try.prog O) (reg Try.f19 2) (reg Try.f19 2).toList ([x0,a,x2,x3,x4,x5,x6,x7,x8,x9,b,c,d,f,g,i,j,k,l,m,n,o,p,q,r,s,t,u,v,w,x,y,z,A,B,C,D,E,F,G,H,I,J,K,L,M,N,P,Q,R,U,V,W,X,Y,Z,a0,a1,a2,a3,a4,a5]) S =
  ( some ([x0,a,Value.slice none 0 0,Value.int IntKind.i64 121,x4,x5,x6,x7,x8,x9,b,c,d,f,g,i,j,k,l,m,n,o,p,q,r,s,t,u,v,w,x,y,z,A,B,C,D,E,F,G,H,I,J,K,L,M,N,P,Q,R,U,V,W,X,Y,Z,a0,a1,a2,a3,a4,a5],S)):=by
 kernel_rfl
theorem zM.r3 :jw Try.prog ⟨false,false,false⟩ (zW Try.prog O) (reg Try.f19 3) (reg Try.f19 3).toList ([x0,a,x2,x3,x4,x5,x6,x7,x8,x9,b,c,d,f,g,i,j,k,l,m,n,o,p,q,r,s,t,u,v,w,x,y,z,A,B,C,D,E,F,G,H,I,J,K,L,M,N,P,Q,R,U,V,W,X,Y,Z,a0,a1,a2,a3,a4,a5]) S =
  (zI (zA Try.prog 48 a 0 S) (fun v0 S1=>zI (jf Try.prog false 3 v0 S1) (fun v1 S2=>zI (zA Try.prog 48 a 1 S2) (fun v2 S3=>zI (jf Try.prog false 3 v2 S3) (fun v3 S4=>zI (zA Try.prog 48 a 2 S4) (fun v4 S5=>zI (jf Try.prog false 3 v4 S5) (fun v5 S6=>zI (zA Try.prog 48 a 3 S6) (fun v6 S7=>zI (jf Try.prog false 3 v6 S7) (fun v7 S8=>zI (zA Try.prog 48 a 4 S8) (fun v8 S9=>zI (jf Try.prog false 3 v8 S9) (fun v9 b2=>zI (zA Try.prog 48 a 5 b2) (fun a7 b3=>zI (jf Try.prog false 3 a7 b3) (fun a8 b4=>zI (jH Try.prog 24 6 [(0,v1),(1,v3),(2,v5),(3,v7),(4,v9),(5,a8)] b4) (fun a9 b5=>zI ((zW Try.prog O) 35 [(dem a9)] b5) (fun a6 b6=>zI (zU a6 0 b6) (fun b0 b7=>zI (zU (zO 0 a6) 1 b7) (fun b1 b8=>some ([x0,a,x2,x3,b0,b1,x6,x7,x8,x9,b,c,d,zO 1 (zO 0 a6),v0,v1,v2,v3,v4,v5,v6,v7,v8,v9,a7,a8,a9,dem a6,dem b0,dem b1,x,y,z,A,B,C,D,E,F,G,H,I,J,K,L,M,N,P,Q,R,U,V,W,X,Y,Z,a0,a1,a2,a3,a4,a5],b8)) ()) ()) ()) ()) ()) ()) ()) ()) ()) ()) ()) ()) ()) ()) ()) ()):=by
 kernel_rfl
theorem zM.r4 :jw Try.prog ⟨false,false,false⟩ (zW Try.prog O) (reg Try.f19 4) (reg Try.f19 4).toList ([x0,a,x2,x3,x4,x5,x6,x7,x8,x9,b,c,d,f,g,i,j,k,l,m,n,o,p,q,r,s,t,u,v,w,x,y,z,A,B,C,D,E,F,G,H,I,J,K,L,M,N,P,Q,R,U,V,W,X,Y,Z,a0,a1,a2,a3,a4,a5]) S =
  (zI (zA Try.prog 48 a 0 S) (fun v0 S1=>zI (jf Try.prog false 3 v0 S1) (fun v1 S2=>zI (wB Try.prog BinOp.eql 3 v1 (Value.int IntKind.i64 0) S2) (fun v2 S3=>some ([x0,a,x2,x3,x4,x5,x6,x7,x8,x9,b,c,d,f,g,i,j,k,l,m,n,o,p,q,r,s,t,u,v,w,v0,v1,v2,A,B,C,D,E,F,G,H,I,J,K,L,M,N,P,Q,R,U,V,W,X,Y,Z,a0,a1,a2,a3,a4,a5],S3)) ()) ()) ()):=by
 kernel_rfl
theorem zM.r5 :jw Try.prog ⟨false,false,false⟩ (zW Try.prog O) (reg Try.f19 5) (reg Try.f19 5).toList ([x0,a,x2,x3,x4,x5,x6,x7,x8,x9,b,c,d,f,g,i,j,k,l,m,n,o,p,q,r,s,t,u,v,w,x,y,z,A,B,C,D,E,F,G,H,I,J,K,L,M,N,P,Q,R,U,V,W,X,Y,Z,a0,a1,a2,a3,a4,a5]) S =
  (zI (zA Try.prog 48 a 6 S) (fun v0 S1=>zI (jf Try.prog false 43 v0 S1) (fun v1 S2=>zI ((zW Try.prog O) 36 [(dem v1)] S2) (fun v2 S3=>zI (zU v2 0 S3) (fun v4 S4=>zI (zU (zO 0 v2) 1 S4) (fun v5 S5=>some ([x0,a,x2,x3,x4,x5,v4,v5,x8,x9,b,c,d,f,g,i,j,k,l,m,n,o,p,q,r,s,t,u,v,w,x,y,z,zO 1 (zO 0 v2),v0,v1,dem v2,dem v4,dem v5,G,H,I,J,K,L,M,N,P,Q,R,U,V,W,X,Y,Z,a0,a1,a2,a3,a4,a5],S5)) ()) ()) ()) ()) ()):=by
 kernel_rfl
theorem zM.r6 :jw Try.prog ⟨false,false,false⟩ (zW Try.prog O) (reg Try.f19 6) (reg Try.f19 6).toList ([x0,a,x2,x3,x4,x5,x6,x7,x8,x9,b,c,d,f,g,i,j,k,l,m,n,o,p,q,r,s,t,u,v,w,x,y,z,A,B,C,D,E,F,G,H,I,J,K,L,M,N,P,Q,R,U,V,W,X,Y,Z,a0,a1,a2,a3,a4,a5]) S =
  (zI (wP Try.prog 33 33 x4 (dem x6) S) (fun v2 S1=>some ([x0,a,x2,x3,v2,x5,x6,x7,x8,x9,b,c,d,f,g,i,j,k,l,m,n,o,p,q,r,s,t,u,v,w,x,y,z,A,B,C,D,E,F,dem x4,dem x6,dem v2,J,K,L,M,N,P,Q,R,U,V,W,X,Y,Z,a0,a1,a2,a3,a4,a5],S1)) ()):=by
 kernel_rfl
theorem zM.r7 :jw Try.prog ⟨false,false,false⟩ (zW Try.prog O) (reg Try.f19 7) (reg Try.f19 7).toList ([x0,a,x2,x3,x4,x5,x6,x7,x8,x9,b,c,d,f,g,i,j,k,l,m,n,o,p,q,r,s,t,u,v,w,x,y,z,A,B,C,D,E,F,G,H,I,J,K,L,M,N,P,Q,R,U,V,W,X,Y,Z,a0,a1,a2,a3,a4,a5]) S =
  (zI (zA Try.prog 48 a 0 S) (fun v0 S1=>zI (jf Try.prog false 3 v0 S1) (fun v1 S2=>zI (wB Try.prog BinOp.eql 3 v1 (Value.int IntKind.i64 1) S2) (fun v2 S3=>some ([x0,a,x2,x3,x4,x5,x6,x7,x8,x9,b,c,d,f,g,i,j,k,l,m,n,o,p,q,r,s,t,u,v,w,x,y,z,A,B,C,D,E,F,G,H,I,v0,v1,v2,M,N,P,Q,R,U,V,W,X,Y,Z,a0,a1,a2,a3,a4,a5],S3)) ()) ()) ()):=by
 kernel_rfl
theorem zM.r8 :jw Try.prog ⟨false,false,false⟩ (zW Try.prog O) (reg Try.f19 8) (reg Try.f19 8).toList ([x0,a,x2,x3,x4,x5,x6,x7,x8,x9,b,c,d,f,g,i,j,k,l,m,n,o,p,q,r,s,t,u,v,w,x,y,z,A,B,C,D,E,F,G,H,I,J,K,L,M,N,P,Q,R,U,V,W,X,Y,Z,a0,a1,a2,a3,a4,a5]) S =
  (zI (zA Try.prog 48 a 7 S) (fun v0 S1=>zI (jf Try.prog false 46 v0 S1) (fun v1 S2=>zI ((zW Try.prog O) 37 [(dem v1)] S2) (fun v2 S3=>zI (zU v2 0 S3) (fun v4 S4=>zI (zU (zO 0 v2) 1 S4) (fun v5 S5=>some ([x0,a,x2,x3,x4,x5,x6,x7,v4,v5,b,c,d,f,g,i,j,k,l,m,n,o,p,q,r,s,t,u,v,w,x,y,z,A,B,C,D,E,F,G,H,I,J,K,L,zO 1 (zO 0 v2),v0,v1,dem v2,dem v4,dem v5,V,W,X,Y,Z,a0,a1,a2,a3,a4,a5],S5)) ()) ()) ()) ()) ()):=by
 kernel_rfl
theorem zM.r9 :jw Try.prog ⟨false,false,false⟩ (zW Try.prog O) (reg Try.f19 9) (reg Try.f19 9).toList ([x0,a,x2,x3,x4,x5,x6,x7,x8,x9,b,c,d,f,g,i,j,k,l,m,n,o,p,q,r,s,t,u,v,w,x,y,z,A,B,C,D,E,F,G,H,I,J,K,L,M,N,P,Q,R,U,V,W,X,Y,Z,a0,a1,a2,a3,a4,a5]) S =
  (zI (wP Try.prog 33 33 x4 (dem x8) S) (fun v2 S1=>some ([x0,a,x2,x3,v2,x5,x6,x7,x8,x9,b,c,d,f,g,i,j,k,l,m,n,o,p,q,r,s,t,u,v,w,x,y,z,A,B,C,D,E,F,G,H,I,J,K,L,M,N,P,Q,R,U,dem x4,dem x8,dem v2,Y,Z,a0,a1,a2,a3,a4,a5],S1)) ()):=by
 kernel_rfl
theorem zM.r10 :jw Try.prog ⟨false,false,false⟩ (zW Try.prog O) (reg Try.f19 10) (reg Try.f19 10).toList ([x0,a,x2,x3,x4,x5,x6,x7,x8,x9,b,c,d,f,g,i,j,k,l,m,n,o,p,q,r,s,t,u,v,w,x,y,z,A,B,C,D,E,F,G,H,I,J,K,L,M,N,P,Q,R,U,V,W,X,Y,Z,a0,a1,a2,a3,a4,a5]) S =
  (zI (zA Try.prog 48 a 1 S) (fun v0 S1=>zI (jf Try.prog false 3 v0 S1) (fun v1 S2=>zI ((zW Try.prog O) 40 [(dem v1)] S2) (fun v2 S3=>zI ((zW Try.prog O) 39 [(dem v2),(dem (dem x4))] S3) (fun v4 S4=>zI ((zW Try.prog O) 38 [(dem v4)] S4) (fun v5 S5=>zI (wP Try.prog 33 33 v5 (dem x4) S5) (fun v7 S6=>some ([x0,a,v7,Value.int IntKind.i64 0,x4,x5,x6,x7,x8,x9,b,c,d,f,g,i,j,k,l,m,n,o,p,q,r,s,t,u,v,w,x,y,z,A,B,C,D,E,F,G,H,I,J,K,L,M,N,P,Q,R,U,V,W,X,v0,v1,v2,dem x4,v4,dem v5,dem x4,dem v7],S6)) ()) ()) ()) ()) ()) ()):=by
 kernel_rfl
theorem zM.rs:type_of% (ak5 @zM.r0 (ak5 @zM.r1 (ak5 @zM.r2 (ak5 @zM.r3 (ak5 @zM.r4 (ak5 @zM.r5 (ak5 @zM.r6 (ak5 @zM.r7 (ak5 @zM.r8 (ak5 @zM.r9 (@zM.r10))))))))))):=ak5 @zM.r0 (ak5 @zM.r1 (ak5 @zM.r2 (ak5 @zM.r3 (ak5 @zM.r4 (ak5 @zM.r5 (ak5 @zM.r6 (ak5 @zM.r7 (ak5 @zM.r8 (ak5 @zM.r9 (@zM.r10))))))))))
theorem zM.runs {x0:Value} {S S1:zn} {e:AEx} {T:List Value} (h:zG Try.prog O false zM.code ([x0,zh,zh,zh,zh,zh,zh,zh,zh,zh,zh,zh,zh,zh,zh,zh,zh,zh,zh,zh,zh,zh,zh,zh,zh,zh,zh,zh,zh,zh,zh,zh,zh,zh,zh,zh,zh,zh,zh,zh,zh,zh,zh,zh,zh,zh,zh,zh,zh,zh,zh,zh,zh,zh,zh,zh,zh,zh,zh,zh,zh,zh]) zn.empty=some (e,T,S1)) (he:e=.normal∨e=.ret)  (h0:wu (T.getD 2 zh)=true) (h1:wu (T.getD 3 zh)=true) (hca:[x0].all (jP 16)=true) (hcv:jP 16 (Value.tuple #[T.getD 2 zh,T.getD 3 zh])=true):zW Try.prog O 19 [x0] S=some (Value.tuple #[T.getD 2 zh,T.getD 3 zh],S) :=
 yu rfl rfl Try.func19 (by decide) zM.body (by exact h) he ((yY ((show zK Try.prog T S1 Try.f19.results.toList=zK Try.prog T S1 [(ResultVar.tmp 2),(ResultVar.tmp 3)] from by kernel_rfl).trans (by simp only [zK])) (by kernel_rfl) (by simp only [List.all_cons,List.all_nil,h0,h1,Bool.and_true])).trans rfl) hca hcv
end Go.Proofs.Ytfjogganfjkckaa
namespace Go.Proofs.Ytfjogganfjkckaa
open Go.Abs
abbrev jC.id:FuncId:=58
noncomputable def jC.code:Code:=(Code.seq (Code.region 0 (reg Try.f58 0) false) (Code.seq (Code.seq (Code.region 1 (reg Try.f58 1) true) (Code.cond (Operand.tmp 27) (Code.seq (Code.region 2 (reg Try.f58 2) false) Code.ret) Code.skip)) (Code.seq (Code.seq (Code.region 3 (reg Try.f58 3) false) (Code.block 0 (Code.seq (Code.region 4 (reg Try.f58 4) false) (Code.cond (Operand.tmp 30) (Code.seq (Code.region 5 (reg Try.f58 5) false) Code.ret) (Code.seq (Code.region 6 (reg Try.f58 6) false) (Code.cond (Operand.tmp 35) (Code.seq (Code.region 7 (reg Try.f58 7) false) Code.ret) (Code.seq (Code.region 8 (reg Try.f58 8) false) (Code.cond (Operand.tmp 40) (Code.seq (Code.region 9 (reg Try.f58 9) false) (Code.cond (Operand.tmp 51) (Code.seq (Code.region 10 (reg Try.f58 10) false) Code.ret) Code.skip)) Code.skip)))))))) (Code.seq (Code.region 11 (reg Try.f58 11) false) Code.ret))))
theorem jC.body:Try.f58.body=some jC.code:=by kernel_rfl
variable (x0 b x2 x3 x4 x5 x6 x7 x8 x9 d f g i k l m n o p q r s t u w x y z c A B C D E F G H I J K L M N P Q R U V W X Y Z a0 a1 a2 a3 a4 a5 a6 a7 a8 a9 b0 b1 b2 b3 b4 b5 b6 b7 b8 b9 c0:Value) (S:zn)
theorem jC.r0 :jw Try.prog ⟨false,false,false⟩ (zW Try.prog O) (reg Try.f58 0) (reg Try.f58 0).toList ([x0,b,x2,x3,x4,x5,x6,x7,x8,x9,d,f,g,i,k,l,m,n,o,p,q,r,s,t,u,w,x,y,z,c,A,B,C,D,E,F,G,H,I,J,K,L,M,N,P,Q,R,U,V,W,X,Y,Z,a0,a1,a2,a3,a4,a5,a6,a7,a8,a9,b0,b1,b2,b3,b4,b5,b6,b7,b8,b9,c0]) S =
  (zI (JJ (dem x0) S) (fun v0 S1=>some ([x0,v0,Value.bool false,x3,x4,x5,x6,x7,x8,x9,d,f,g,i,k,l,m,n,o,p,q,r,s,t,u,w,x,y,z,c,A,B,C,D,E,F,G,H,I,J,K,L,M,N,P,Q,R,U,V,W,X,Y,Z,a0,a1,a2,a3,a4,a5,a6,a7,a8,a9,b0,b1,b2,b3,b4,b5,b6,b7,b8,b9,c0],S1)) ()):=by
 kernel_rfl
theorem jC.d1:qW Try.prog (reg Try.f58 1)=true:=by kernel_rfl
theorem jC.ff1:fixed Try.prog (reg Try.f58 1)=false:=by kernel_rfl
theorem jC.k1:checked Try.prog (reg Try.f58 1)=[19]:=by kernel_rfl
theorem jC.g1:again Try.prog (reg Try.f58 1)=[(19,21)]:=by kernel_rfl
theorem jC.r1 :zG Try.prog O false (.region 1 (reg Try.f58 1) true) ([x0,b,x2,x3,x4,x5,x6,x7,x8,x9,d,f,g,i,k,l,m,n,o,p,q,r,s,t,u,w,x,y,z,c,A,B,C,D,E,F,G,H,I,J,K,L,M,N,P,Q,R,U,V,W,X,Y,Z,a0,a1,a2,a3,a4,a5,a6,a7,a8,a9,b0,b1,b2,b3,b4,b5,b6,b7,b8,b9,c0]) S =
  Jb (zI (zA Try.prog 48 b 0 S) (fun v0 S1=>zI (jf Try.prog false 3 v0 S1) (fun v1 S2=>zI (wB Try.prog BinOp.lss 3 v1 (Value.int IntKind.i64 0) S2) (fun v2 S3=>gdK (dem v2) false (zA Try.prog 48 b 0) S3 (fun v4 S4=>gdK (dem v2) false (jf Try.prog false 3 v4) S4 (fun v5 S5=>gdK (dem v2) false (wB Try.prog BinOp.gtr 3 v5 (Value.int IntKind.i64 6)) S5 (fun v6 S6=>zI (wR (dem v2) (Value.bool true) v6 S6) (fun v7 S7=>gdK (dem v7) false (zA Try.prog 48 b 1) S7 (fun v9 S8=>gdK (dem v7) false (jf Try.prog false 3 v9) S8 (fun c5 S9=>gdK (dem v7) false (wB Try.prog BinOp.lss 3 c5 (Value.int IntKind.i64 0)) S9 (fun c6 d4=>zI (wR (dem v7) (Value.bool true) c6 d4) (fun c2 d5=>gdK (dem c2) false (zA Try.prog 48 b 1) d5 (fun c3 d6=>gdK (dem c2) false (jf Try.prog false 3 c3) d6 (fun c7 d7=>gdK (dem c2) false (wB Try.prog BinOp.geq 3 c7 (Value.int IntKind.i64 7)) d7 (fun c8 d8=>zI (wR (dem c2) (Value.bool true) c8 d8) (fun c1 d2=>agX (dem c1) false (jf Try.prog false 48 b) d2 (fun c9 d9=>gdK (dem c1) false (jf Try.prog false 48 b) d9 (fun d0 f0=>gdK (dem c1) false ((zW Try.prog O) 67 [(dem d0)]) f0 (fun c4 d3=>gdK (dem c1) false ((zW Try.prog O) 66 [(dem c9),(dem c4)]) d3 (fun f1 f3=>gdK (dem c1) false (aUn Try.prog UnOp.not f1) f3 (fun f2 f4=>zI (wR (dem c1) (Value.bool true) f2 f4) (fun f5 f6=>ckK (qK b d2 d3 && (true)) (some ([x0,b,x2,v0,v1,v2,dem v2,v4,v5,v6,v7,dem v7,v9,c5,c6,c2,dem c2,c3,c7,c8,c1,dem c1,c9,d0,c4,f1,f2,f5,z,c,A,B,C,D,E,F,G,H,I,J,K,L,M,N,P,Q,R,U,V,W,X,Y,Z,a0,a1,a2,a3,a4,a5,a6,a7,a8,a9,b0,b1,b2,b3,b4,b5,b6,b7,b8,b9,c0],f6)) ()) ()) ()) ()) ()) ()) ()) ()) ()) ()) ()) ()) ()) ()) ()) ()) ()) ()) ()) ()) ()) ()):=by
 rw [yF jC.d1 jC.ff1 jC.k1 jC.g1]
 refine congrArg Jb ?_
 refine uD Try.f58 1 0 (pe:=zh) (fun v0 S1=>?_)
 refine uD Try.f58 1 1 (pe:=v0) (fun v1 S2=>?_)
 refine uD Try.f58 1 2 (pe:=zh) (fun v2 S3=>?_)
 refine uP Try.f58 1 3 (v:=v2) (pe:=zh) ?_
 refine uG Try.f58 1 4 (j:=3) (pe:=zh) (fun v4 S4=>?_)
 refine uG Try.f58 1 5 (j:=3) (pe:=v4) (fun v5 S5=>?_)
 refine uG Try.f58 1 6 (j:=3) (pe:=zh) (fun v6 S6=>?_)
 refine uD Try.f58 1 7 (pe:=zh) (fun v7 S7=>?_)
 refine uP Try.f58 1 8 (v:=v7) (pe:=zh) ?_
 refine uG Try.f58 1 9 (j:=8) (pe:=zh) (fun v9 S8=>?_)
 refine uG Try.f58 1 10 (j:=8) (pe:=v9) (fun c5 S9=>?_)
 refine uG Try.f58 1 11 (j:=8) (pe:=zh) (fun c6 d4=>?_)
 refine uD Try.f58 1 12 (pe:=zh) (fun c2 d5=>?_)
 refine uP Try.f58 1 13 (v:=c2) (pe:=zh) ?_
 refine uG Try.f58 1 14 (j:=13) (pe:=zh) (fun c3 d6=>?_)
 refine uG Try.f58 1 15 (j:=13) (pe:=c3) (fun c7 d7=>?_)
 refine uG Try.f58 1 16 (j:=13) (pe:=zh) (fun c8 d8=>?_)
 refine uD Try.f58 1 17 (pe:=zh) (fun c1 d2=>?_)
 refine uP Try.f58 1 18 (v:=c1) (pe:=zh) ?_
 refine uGC Try.f58 1 19 (j:=18) (pe:=b) (fun c9 d9=>?_)
 refine uG Try.f58 1 20 (j:=18) (pe:=b) (fun d0 f0=>?_)
 refine uG Try.f58 1 21 (j:=18) (pe:=zh) (fun c4 d3=>?_)
 refine uG Try.f58 1 22 (j:=18) (pe:=zh) (fun f1 f3=>?_)
 refine uG Try.f58 1 23 (j:=18) (pe:=zh) (fun f2 f4=>?_)
 refine uD Try.f58 1 24 (pe:=zh) (fun f5 f6=>?_)
 kernel_rfl
theorem jC.r2 :jw Try.prog ⟨false,false,false⟩ (zW Try.prog O) (reg Try.f58 2) (reg Try.f58 2).toList ([x0,b,x2,x3,x4,x5,x6,x7,x8,x9,d,f,g,i,k,l,m,n,o,p,q,r,s,t,u,w,x,y,z,c,A,B,C,D,E,F,G,H,I,J,K,L,M,N,P,Q,R,U,V,W,X,Y,Z,a0,a1,a2,a3,a4,a5,a6,a7,a8,a9,b0,b1,b2,b3,b4,b5,b6,b7,b8,b9,c0]) S =
  ( some ([x0,b,Value.bool false,x3,x4,x5,x6,x7,x8,x9,d,f,g,i,k,l,m,n,o,p,q,r,s,t,u,w,x,y,z,c,A,B,C,D,E,F,G,H,I,J,K,L,M,N,P,Q,R,U,V,W,X,Y,Z,a0,a1,a2,a3,a4,a5,a6,a7,a8,a9,b0,b1,b2,b3,b4,b5,b6,b7,b8,b9,c0],S)):=by
 kernel_rfl
theorem jC.r3 :jw Try.prog ⟨false,false,false⟩ (zW Try.prog O) (reg Try.f58 3) (reg Try.f58 3).toList ([x0,b,x2,x3,x4,x5,x6,x7,x8,x9,d,f,g,i,k,l,m,n,o,p,q,r,s,t,u,w,x,y,z,c,A,B,C,D,E,F,G,H,I,J,K,L,M,N,P,Q,R,U,V,W,X,Y,Z,a0,a1,a2,a3,a4,a5,a6,a7,a8,a9,b0,b1,b2,b3,b4,b5,b6,b7,b8,b9,c0]) S =
  (zI (zA Try.prog 48 b 0 S) (fun v0 S1=>zI (jf Try.prog false 3 v0 S1) (fun v1 S2=>some ([x0,b,x2,x3,x4,x5,x6,x7,x8,x9,d,f,g,i,k,l,m,n,o,p,q,r,s,t,u,w,x,y,v0,v1,A,B,C,D,E,F,G,H,I,J,K,L,M,N,P,Q,R,U,V,W,X,Y,Z,a0,a1,a2,a3,a4,a5,a6,a7,a8,a9,b0,b1,b2,b3,b4,b5,b6,b7,b8,b9,c0],S2)) ()) ()):=by
 kernel_rfl
theorem jC.r4 :jw Try.prog ⟨false,false,false⟩ (zW Try.prog O) (reg Try.f58 4) (reg Try.f58 4).toList ([x0,b,x2,x3,x4,x5,x6,x7,x8,x9,d,f,g,i,k,l,m,n,o,p,q,r,s,t,u,w,x,y,z,c,A,B,C,D,E,F,G,H,I,J,K,L,M,N,P,Q,R,U,V,W,X,Y,Z,a0,a1,a2,a3,a4,a5,a6,a7,a8,a9,b0,b1,b2,b3,b4,b5,b6,b7,b8,b9,c0]) S =
  (zI (wB Try.prog BinOp.eql 3 c (Value.int IntKind.i64 0) S) (fun v0 S1=>some ([x0,b,x2,x3,x4,x5,x6,x7,x8,x9,d,f,g,i,k,l,m,n,o,p,q,r,s,t,u,w,x,y,z,c,v0,dem v0,C,D,E,F,G,H,I,J,K,L,M,N,P,Q,R,U,V,W,X,Y,Z,a0,a1,a2,a3,a4,a5,a6,a7,a8,a9,b0,b1,b2,b3,b4,b5,b6,b7,b8,b9,c0],S1)) ()):=by
 kernel_rfl
theorem jC.r5 :jw Try.prog ⟨false,false,false⟩ (zW Try.prog O) (reg Try.f58 5) (reg Try.f58 5).toList ([x0,b,x2,x3,x4,x5,x6,x7,x8,x9,d,f,g,i,k,l,m,n,o,p,q,r,s,t,u,w,x,y,z,c,A,B,C,D,E,F,G,H,I,J,K,L,M,N,P,Q,R,U,V,W,X,Y,Z,a0,a1,a2,a3,a4,a5,a6,a7,a8,a9,b0,b1,b2,b3,b4,b5,b6,b7,b8,b9,c0]) S =
  (zI (zA Try.prog 48 b 6 S) (fun v0 S1=>zI (jf Try.prog false 43 v0 S1) (fun v1 S2=>zI ((zW Try.prog O) 68 [(dem v1)] S2) (fun v2 S3=>some ([x0,b,v2,x3,x4,x5,x6,x7,x8,x9,d,f,g,i,k,l,m,n,o,p,q,r,s,t,u,w,x,y,z,c,A,B,v0,v1,dem v2,F,G,H,I,J,K,L,M,N,P,Q,R,U,V,W,X,Y,Z,a0,a1,a2,a3,a4,a5,a6,a7,a8,a9,b0,b1,b2,b3,b4,b5,b6,b7,b8,b9,c0],S3)) ()) ()) ()):=by
 kernel_rfl
theorem jC.r6 :jw Try.prog ⟨false,false,false⟩ (zW Try.prog O) (reg Try.f58 6) (reg Try.f58 6).toList ([x0,b,x2,x3,x4,x5,x6,x7,x8,x9,d,f,g,i,k,l,m,n,o,p,q,r,s,t,u,w,x,y,z,c,A,B,C,D,E,F,G,H,I,J,K,L,M,N,P,Q,R,U,V,W,X,Y,Z,a0,a1,a2,a3,a4,a5,a6,a7,a8,a9,b0,b1,b2,b3,b4,b5,b6,b7,b8,b9,c0]) S =
  (zI (wB Try.prog BinOp.eql 3 c (Value.int IntKind.i64 1) S) (fun v0 S1=>some ([x0,b,x2,x3,x4,x5,x6,x7,x8,x9,d,f,g,i,k,l,m,n,o,p,q,r,s,t,u,w,x,y,z,c,A,B,C,D,E,v0,dem v0,H,I,J,K,L,M,N,P,Q,R,U,V,W,X,Y,Z,a0,a1,a2,a3,a4,a5,a6,a7,a8,a9,b0,b1,b2,b3,b4,b5,b6,b7,b8,b9,c0],S1)) ()):=by
 kernel_rfl
theorem jC.r7 :jw Try.prog ⟨false,false,false⟩ (zW Try.prog O) (reg Try.f58 7) (reg Try.f58 7).toList ([x0,b,x2,x3,x4,x5,x6,x7,x8,x9,d,f,g,i,k,l,m,n,o,p,q,r,s,t,u,w,x,y,z,c,A,B,C,D,E,F,G,H,I,J,K,L,M,N,P,Q,R,U,V,W,X,Y,Z,a0,a1,a2,a3,a4,a5,a6,a7,a8,a9,b0,b1,b2,b3,b4,b5,b6,b7,b8,b9,c0]) S =
  (zI (zA Try.prog 48 b 7 S) (fun v0 S1=>zI (jf Try.prog false 46 v0 S1) (fun v1 S2=>zI ((zW Try.prog O) 45 [(dem v1)] S2) (fun v2 S3=>some ([x0,b,v2,x3,x4,x5,x6,x7,x8,x9,d,f,g,i,k,l,m,n,o,p,q,r,s,t,u,w,x,y,z,c,A,B,C,D,E,F,G,v0,v1,dem v2,K,L,M,N,P,Q,R,U,V,W,X,Y,Z,a0,a1,a2,a3,a4,a5,a6,a7,a8,a9,b0,b1,b2,b3,b4,b5,b6,b7,b8,b9,c0],S3)) ()) ()) ()):=by
 kernel_rfl
theorem jC.r8 :jw Try.prog ⟨false,false,false⟩ (zW Try.prog O) (reg Try.f58 8) (reg Try.f58 8).toList ([x0,b,x2,x3,x4,x5,x6,x7,x8,x9,d,f,g,i,k,l,m,n,o,p,q,r,s,t,u,w,x,y,z,c,A,B,C,D,E,F,G,H,I,J,K,L,M,N,P,Q,R,U,V,W,X,Y,Z,a0,a1,a2,a3,a4,a5,a6,a7,a8,a9,b0,b1,b2,b3,b4,b5,b6,b7,b8,b9,c0]) S =
  (zI (wB Try.prog BinOp.eql 3 c (Value.int IntKind.i64 3) S) (fun v0 S1=>some ([x0,b,x2,x3,x4,x5,x6,x7,x8,x9,d,f,g,i,k,l,m,n,o,p,q,r,s,t,u,w,x,y,z,c,A,B,C,D,E,F,G,H,I,J,v0,dem v0,M,N,P,Q,R,U,V,W,X,Y,Z,a0,a1,a2,a3,a4,a5,a6,a7,a8,a9,b0,b1,b2,b3,b4,b5,b6,b7,b8,b9,c0],S1)) ()):=by
 kernel_rfl
theorem jC.r9 :jw Try.prog ⟨false,false,false⟩ (zW Try.prog O) (reg Try.f58 9) (reg Try.f58 9).toList ([x0,b,x2,x3,x4,x5,x6,x7,x8,x9,d,f,g,i,k,l,m,n,o,p,q,r,s,t,u,w,x,y,z,c,A,B,C,D,E,F,G,H,I,J,K,L,M,N,P,Q,R,U,V,W,X,Y,Z,a0,a1,a2,a3,a4,a5,a6,a7,a8,a9,b0,b1,b2,b3,b4,b5,b6,b7,b8,b9,c0]) S =
  (zI (zA Try.prog 48 b 5 S) (fun v0 S1=>zI (jf Try.prog false 3 v0 S1) (fun v1 S2=>zI (wB Try.prog BinOp.lss 3 v1 (Value.int IntKind.i64 (-1)) S2) (fun v2 S3=>gdK (dem v2) false (zA Try.prog 48 b 5) S3 (fun v4 S4=>gdK (dem v2) false (jf Try.prog false 3 v4) S4 (fun v5 S5=>gdK (dem v2) false (zA Try.prog 48 b 3) S5 (fun v6 S6=>gdK (dem v2) false (jf Try.prog false 3 v6) S6 (fun v7 S7=>gdK (dem v2) false (wB Try.prog BinOp.geq 3 v5 v7) S7 (fun v8 S8=>zI (wR (dem v2) (Value.bool true) v8 S8) (fun v9 S9=>some ([x0,b,x2,x3,x4,x5,x6,x7,x8,x9,d,f,g,i,k,l,m,n,o,p,q,r,s,t,u,w,x,y,z,c,A,B,C,D,E,F,G,H,I,J,K,L,v0,v1,v2,dem v2,v4,v5,v6,v7,v8,v9,Z,a0,a1,a2,a3,a4,a5,a6,a7,a8,a9,b0,b1,b2,b3,b4,b5,b6,b7,b8,b9,c0],S9)) ()) ()) ()) ()) ()) ()) ()) ()) ()):=by
 refine sD Try.f58 9 0 (fun v0 S1=>?_)
 refine sD Try.f58 9 1 (fun v1 S2=>?_)
 refine sD Try.f58 9 2 (fun v2 S3=>?_)
 refine sP Try.f58 9 3 (v:=v2) ?_
 refine sG Try.f58 9 4 (j:=3) (fun v4 S4=>?_)
 refine sG Try.f58 9 5 (j:=3) (fun v5 S5=>?_)
 refine sG Try.f58 9 6 (j:=3) (fun v6 S6=>?_)
 refine sG Try.f58 9 7 (j:=3) (fun v7 S7=>?_)
 refine sG Try.f58 9 8 (j:=3) (fun v8 S8=>?_)
 refine sD Try.f58 9 9 (fun v9 S9=>?_)
 kernel_rfl
theorem jC.r10 :jw Try.prog ⟨false,false,false⟩ (zW Try.prog O) (reg Try.f58 10) (reg Try.f58 10).toList ([x0,b,x2,x3,x4,x5,x6,x7,x8,x9,d,f,g,i,k,l,m,n,o,p,q,r,s,t,u,w,x,y,z,c,A,B,C,D,E,F,G,H,I,J,K,L,M,N,P,Q,R,U,V,W,X,Y,Z,a0,a1,a2,a3,a4,a5,a6,a7,a8,a9,b0,b1,b2,b3,b4,b5,b6,b7,b8,b9,c0]) S =
  ( some ([x0,b,Value.bool false,x3,x4,x5,x6,x7,x8,x9,d,f,g,i,k,l,m,n,o,p,q,r,s,t,u,w,x,y,z,c,A,B,C,D,E,F,G,H,I,J,K,L,M,N,P,Q,R,U,V,W,X,Y,Z,a0,a1,a2,a3,a4,a5,a6,a7,a8,a9,b0,b1,b2,b3,b4,b5,b6,b7,b8,b9,c0],S)):=by
 kernel_rfl
theorem jC.r11 :jw Try.prog ⟨false,false,false⟩ (zW Try.prog O) (reg Try.f58 11) (reg Try.f58 11).toList ([x0,b,x2,x3,x4,x5,x6,x7,x8,x9,d,f,g,i,k,l,m,n,o,p,q,r,s,t,u,w,x,y,z,c,A,B,C,D,E,F,G,H,I,J,K,L,M,N,P,Q,R,U,V,W,X,Y,Z,a0,a1,a2,a3,a4,a5,a6,a7,a8,a9,b0,b1,b2,b3,b4,b5,b6,b7,b8,b9,c0]) S =
  (zI (zA Try.prog 48 b 2 S) (fun v0 S1=>zI (jf Try.prog false 3 v0 S1) (fun v1 S2=>zI (wB Try.prog BinOp.geq 3 v1 (Value.int IntKind.i64 0) S2) (fun v2 S3=>gdK (dem v2) true (zA Try.prog 48 b 2) S3 (fun v4 S4=>gdK (dem v2) true (jf Try.prog false 3 v4) S4 (fun v5 S5=>gdK (dem v2) true (wB Try.prog BinOp.leq 3 v5 (Value.int IntKind.i64 1000)) S5 (fun v6 S6=>zI (wR (dem v2) v6 (Value.bool false) S6) (fun v7 S7=>gdK (dem v7) true (zA Try.prog 48 b 3) S7 (fun v9 S8=>gdK (dem v7) true (jf Try.prog false 3 v9) S8 (fun c5 S9=>gdK (dem v7) true (wB Try.prog BinOp.geq 3 c5 (Value.int IntKind.i64 0)) S9 (fun c6 d4=>zI (wR (dem v7) c6 (Value.bool false) d4) (fun c2 d5=>gdK (dem c2) true (zA Try.prog 48 b 3) d5 (fun c3 d6=>gdK (dem c2) true (jf Try.prog false 3 c3) d6 (fun c7 d7=>gdK (dem c2) true (wB Try.prog BinOp.leq 3 c7 (Value.int IntKind.i64 1000)) d7 (fun c8 d8=>zI (wR (dem c2) c8 (Value.bool false) d8) (fun c1 d2=>gdK (dem c1) true (jf Try.prog false 48 b) d2 (fun c9 d9=>gdK (dem c1) true ((zW Try.prog O) 69 [(dem c9)]) d9 (fun d0 f0=>zI (wR (dem c1) d0 (Value.bool false) f0) (fun c4 d3=>some ([x0,b,c4,x3,x4,x5,x6,x7,x8,x9,d,f,g,i,k,l,m,n,o,p,q,r,s,t,u,w,x,y,z,c,A,B,C,D,E,F,G,H,I,J,K,L,M,N,P,Q,R,U,V,W,X,Y,v0,v1,v2,dem v2,v4,v5,v6,v7,dem v7,v9,c5,c6,c2,dem c2,c3,c7,c8,c1,dem c1,c9,d0,dem c4],d3)) ()) ()) ()) ()) ()) ()) ()) ()) ()) ()) ()) ()) ()) ()) ()) ()) ()) ()):=by
 refine sD Try.f58 11 0 (fun v0 S1=>?_)
 refine sD Try.f58 11 1 (fun v1 S2=>?_)
 refine sD Try.f58 11 2 (fun v2 S3=>?_)
 refine sP Try.f58 11 3 (v:=v2) ?_
 refine sG Try.f58 11 4 (j:=3) (fun v4 S4=>?_)
 refine sG Try.f58 11 5 (j:=3) (fun v5 S5=>?_)
 refine sG Try.f58 11 6 (j:=3) (fun v6 S6=>?_)
 refine sD Try.f58 11 7 (fun v7 S7=>?_)
 refine sP Try.f58 11 8 (v:=v7) ?_
 refine sG Try.f58 11 9 (j:=8) (fun v9 S8=>?_)
 refine sG Try.f58 11 10 (j:=8) (fun c5 S9=>?_)
 refine sG Try.f58 11 11 (j:=8) (fun c6 d4=>?_)
 refine sD Try.f58 11 12 (fun c2 d5=>?_)
 refine sP Try.f58 11 13 (v:=c2) ?_
 refine sG Try.f58 11 14 (j:=13) (fun c3 d6=>?_)
 refine sG Try.f58 11 15 (j:=13) (fun c7 d7=>?_)
 refine sG Try.f58 11 16 (j:=13) (fun c8 d8=>?_)
 refine sD Try.f58 11 17 (fun c1 d2=>?_)
 refine sP Try.f58 11 18 (v:=c1) ?_
 refine sG Try.f58 11 19 (j:=18) (fun c9 d9=>?_)
 refine sG Try.f58 11 20 (j:=18) (fun d0 f0=>?_)
 refine sD Try.f58 11 21 (fun c4 d3=>?_)
 refine sP Try.f58 11 22 (v:=c4) ?_
 kernel_rfl
theorem jC.rs:type_of% (ak5 @jC.r0 (ak5 @jC.r1 (ak5 @jC.r2 (ak5 @jC.r3 (ak5 @jC.r4 (ak5 @jC.r5 (ak5 @jC.r6 (ak5 @jC.r7 (ak5 @jC.r8 (ak5 @jC.r9 (ak5 @jC.r10 (@jC.r11)))))))))))):=ak5 @jC.r0 (ak5 @jC.r1 (ak5 @jC.r2 (ak5 @jC.r3 (ak5 @jC.r4 (ak5 @jC.r5 (ak5 @jC.r6 (ak5 @jC.r7 (ak5 @jC.r8 (ak5 @jC.r9 (ak5 @jC.r10 (@jC.r11)))))))))))
theorem jC.runs {x0:Value} {S S1:zn} {e:AEx} {T:List Value} (h:zG Try.prog O false jC.code ([x0,zh,zh,zh,zh,zh,zh,zh,zh,zh,zh,zh,zh,zh,zh,zh,zh,zh,zh,zh,zh,zh,zh,zh,zh,zh,zh,zh,zh,zh,zh,zh,zh,zh,zh,zh,zh,zh,zh,zh,zh,zh,zh,zh,zh,zh,zh,zh,zh,zh,zh,zh,zh,zh,zh,zh,zh,zh,zh,zh,zh,zh,zh,zh,zh,zh,zh,zh,zh,zh,zh,zh,zh,zh]) zn.empty=some (e,T,S1)) (he:e=.normal∨e=.ret) (hca:[x0].all (jP 16)=true) (hcv:jP 16 (T.getD 2 zh)=true):zW Try.prog O 58 [x0] S=some (T.getD 2 zh,S) :=
 yu rfl rfl Try.func58 (by decide) jC.body (by exact h) he (yA (a:=T.getD 2 zh) ((show zK Try.prog T S1 Try.f58.results.toList=zK Try.prog T S1 [(ResultVar.tmp 2)] from by kernel_rfl).trans (by simp only [zK])) (by kernel_rfl)) hca hcv
end Go.Proofs.Ytfjogganfjkckaa
namespace Go.Proofs.Ytfjogganfjkckaa
open Go.Abs
abbrev zk.id:FuncId:=34
noncomputable def zk.code:Code:=(Code.seq (Code.region 0 (reg Try.f34 0) false) (Code.seq (Code.seq (Code.region 1 (reg Try.f34 1) false) (Code.cond (Operand.tmp 12) (Code.seq (Code.region 2 (reg Try.f34 2) false) Code.ret) Code.skip)) (Code.seq (Code.seq (Code.region 3 (reg Try.f34 3) false) (Code.cond (Operand.tmp 42) (Code.seq (Code.region 4 (reg Try.f34 4) false) Code.ret) Code.skip)) (Code.seq (Code.region 5 (reg Try.f34 5) false) (Code.seq (Code.region 6 (reg Try.f34 6) false) (Code.seq (Code.seq (Code.region 7 (reg Try.f34 7) false) (Code.block 0 (Code.seq (Code.region 8 (reg Try.f34 8) false) (Code.cond (Operand.tmp 61) (Code.seq (Code.region 9 (reg Try.f34 9) false) Code.ret) (Code.seq (Code.region 10 (reg Try.f34 10) false) (Code.cond (Operand.tmp 81) (Code.seq (Code.region 11 (reg Try.f34 11) false) Code.ret) (Code.seq (Code.region 12 (reg Try.f34 12) false) (Code.cond (Operand.tmp 101) (Code.seq (Code.region 13 (reg Try.f34 13) false) Code.ret) (Code.seq (Code.region 14 (reg Try.f34 14) false) (Code.cond (Operand.tmp 116) (Code.seq (Code.region 15 (reg Try.f34 15) false) Code.ret) (Code.seq (Code.seq (Code.region 16 (reg Try.f34 16) false) (Code.cond (Operand.tmp 139) Code.skip (Code.region 17 (reg Try.f34 17) false))) (Code.cond (Operand.tmp 139) (Code.seq (Code.region 18 (reg Try.f34 18) false) Code.ret) (Code.seq (Code.region 19 (reg Try.f34 19) false) (Code.cond (Operand.tmp 156) (Code.seq (Code.region 20 (reg Try.f34 20) false) Code.ret) Code.skip)))))))))))))) (Code.seq (Code.region 21 (reg Try.f34 21) false) Code.ret)))))))
theorem zk.body:Try.f34.body=some zk.code:=by kernel_rfl
variable (x0 x1 x2 x3 x4 x5 x6 x7 x8 x9 c6 c7 c8 c9 d0 d1 d2 d3 d4 d5 d6 d7 d8 d9 f0 f1 f2 f3 f4 f5 f6 f7 f8 f9 g0 g1 g2 g3 g4 g5 g6 g7 g8 g9 i0 i1 i2 i3 i4 i5 i6 i7 i8 i9 j0 j1 j2 j3 j4 j5 c5 j6 j7 j8 j9 k0 k1 k2 k3 k4 k5 k6 k7 k8 k9 l0 l1 l2 l3 l4 l5 l6 l7 l8 l9 m0 m1 m2 m3 m4 m5 m6 m7 m8 m9 n0 n1 n2 n3 n4 b c d f g i k l m n o p q r s t u w x y z A B C D E F G H I J K L M N P Q R U c4 V W X Y Z a0 a1 a2 a3 a4 a5 a6 a7 a8 a9 b0 b1 b2 b3 b4 b5 b6 b7 b8 b9 c0 c1 c2 c3:Value) (S:zn)
theorem zk.r0 :jw Try.prog ⟨false,false,false⟩ (zW Try.prog O) (reg Try.f34 0) (reg Try.f34 0).toList ([x0,x1,x2,x3,x4,x5,x6,x7,x8,x9,c6,c7,c8,c9,d0,d1,d2,d3,d4,d5,d6,d7,d8,d9,f0,f1,f2,f3,f4,f5,f6,f7,f8,f9,g0,g1,g2,g3,g4,g5,g6,g7,g8,g9,i0,i1,i2,i3,i4,i5,i6,i7,i8,i9,j0,j1,j2,j3,j4,j5,c5,j6,j7,j8,j9,k0,k1,k2,k3,k4,k5,k6,k7,k8,k9,l0,l1,l2,l3,l4,l5,l6,l7,l8,l9,m0,m1,m2,m3,m4,m5,m6,m7,m8,m9,n0,n1,n2,n3,n4,b,c,d,f,g,i,k,l,m,n,o,p,q,r,s,t,u,w,x,y,z,A,B,C,D,E,F,G,H,I,J,K,L,M,N,P,Q,R,U,c4,V,W,X,Y,Z,a0,a1,a2,a3,a4,a5,a6,a7,a8,a9,b0,b1,b2,b3,b4,b5,b6,b7,b8,b9,c0,c1,c2,c3]) S =
  (zI (JJ (dem x0) S) (fun v0 S1=>some ([x0,v0,Value.bool false,x3,x4,x5,x6,x7,x8,x9,c6,c7,c8,c9,d0,d1,d2,d3,d4,d5,d6,d7,d8,d9,f0,f1,f2,f3,f4,f5,f6,f7,f8,f9,g0,g1,g2,g3,g4,g5,g6,g7,g8,g9,i0,i1,i2,i3,i4,i5,i6,i7,i8,i9,j0,j1,j2,j3,j4,j5,c5,j6,j7,j8,j9,k0,k1,k2,k3,k4,k5,k6,k7,k8,k9,l0,l1,l2,l3,l4,l5,l6,l7,l8,l9,m0,m1,m2,m3,m4,m5,m6,m7,m8,m9,n0,n1,n2,n3,n4,b,c,d,f,g,i,k,l,m,n,o,p,q,r,s,t,u,w,x,y,z,A,B,C,D,E,F,G,H,I,J,K,L,M,N,P,Q,R,U,c4,V,W,X,Y,Z,a0,a1,a2,a3,a4,a5,a6,a7,a8,a9,b0,b1,b2,b3,b4,b5,b6,b7,b8,b9,c0,c1,c2,c3],S1)) ()):=by
 kernel_rfl
theorem zk.r1 :jw Try.prog ⟨false,false,false⟩ (zW Try.prog O) (reg Try.f34 1) (reg Try.f34 1).toList ([x0,x1,x2,x3,x4,x5,x6,x7,x8,x9,c6,c7,c8,c9,d0,d1,d2,d3,d4,d5,d6,d7,d8,d9,f0,f1,f2,f3,f4,f5,f6,f7,f8,f9,g0,g1,g2,g3,g4,g5,g6,g7,g8,g9,i0,i1,i2,i3,i4,i5,i6,i7,i8,i9,j0,j1,j2,j3,j4,j5,c5,j6,j7,j8,j9,k0,k1,k2,k3,k4,k5,k6,k7,k8,k9,l0,l1,l2,l3,l4,l5,l6,l7,l8,l9,m0,m1,m2,m3,m4,m5,m6,m7,m8,m9,n0,n1,n2,n3,n4,b,c,d,f,g,i,k,l,m,n,o,p,q,r,s,t,u,w,x,y,z,A,B,C,D,E,F,G,H,I,J,K,L,M,N,P,Q,R,U,c4,V,W,X,Y,Z,a0,a1,a2,a3,a4,a5,a6,a7,a8,a9,b0,b1,b2,b3,b4,b5,b6,b7,b8,b9,c0,c1,c2,c3]) S =
  (zI (zA Try.prog 48 x1 1 S) (fun v0 S1=>zI (jf Try.prog false 3 v0 S1) (fun v1 S2=>zI (wB Try.prog BinOp.lss 3 v1 (Value.int IntKind.i64 0) S2) (fun v2 S3=>gdK (dem v2) false (zA Try.prog 48 x1 1) S3 (fun v4 S4=>gdK (dem v2) false (jf Try.prog false 3 v4) S4 (fun v5 S5=>gdK (dem v2) false (wB Try.prog BinOp.gtr 3 v5 (Value.int IntKind.i64 6)) S5 (fun v6 S6=>zI (wR (dem v2) (Value.bool true) v6 S6) (fun v7 S7=>some ([x0,x1,x2,x3,x4,v0,v1,v2,dem v2,v4,v5,v6,v7,c9,d0,d1,d2,d3,d4,d5,d6,d7,d8,d9,f0,f1,f2,f3,f4,f5,f6,f7,f8,f9,g0,g1,g2,g3,g4,g5,g6,g7,g8,g9,i0,i1,i2,i3,i4,i5,i6,i7,i8,i9,j0,j1,j2,j3,j4,j5,c5,j6,j7,j8,j9,k0,k1,k2,k3,k4,k5,k6,k7,k8,k9,l0,l1,l2,l3,l4,l5,l6,l7,l8,l9,m0,m1,m2,m3,m4,m5,m6,m7,m8,m9,n0,n1,n2,n3,n4,b,c,d,f,g,i,k,l,m,n,o,p,q,r,s,t,u,w,x,y,z,A,B,C,D,E,F,G,H,I,J,K,L,M,N,P,Q,R,U,c4,V,W,X,Y,Z,a0,a1,a2,a3,a4,a5,a6,a7,a8,a9,b0,b1,b2,b3,b4,b5,b6,b7,b8,b9,c0,c1,c2,c3],S7)) ()) ()) ()) ()) ()) ()) ()):=by
 refine sD Try.f34 1 0 (fun v0 S1=>?_)
 refine sD Try.f34 1 1 (fun v1 S2=>?_)
 refine sD Try.f34 1 2 (fun v2 S3=>?_)
 refine sP Try.f34 1 3 (v:=v2) ?_
 refine sG Try.f34 1 4 (j:=3) (fun v4 S4=>?_)
 refine sG Try.f34 1 5 (j:=3) (fun v5 S5=>?_)
 refine sG Try.f34 1 6 (j:=3) (fun v6 S6=>?_)
 refine sD Try.f34 1 7 (fun v7 S7=>?_)
 kernel_rfl
theorem zk.r2 :jw Try.prog ⟨false,false,false⟩ (zW Try.prog O) (reg Try.f34 2) (reg Try.f34 2).toList ([x0,x1,x2,x3,x4,x5,x6,x7,x8,x9,c6,c7,c8,c9,d0,d1,d2,d3,d4,d5,d6,d7,d8,d9,f0,f1,f2,f3,f4,f5,f6,f7,f8,f9,g0,g1,g2,g3,g4,g5,g6,g7,g8,g9,i0,i1,i2,i3,i4,i5,i6,i7,i8,i9,j0,j1,j2,j3,j4,j5,c5,j6,j7,j8,j9,k0,k1,k2,k3,k4,k5,k6,k7,k8,k9,l0,l1,l2,l3,l4,l5,l6,l7,l8,l9,m0,m1,m2,m3,m4,m5,m6,m7,m8,m9,n0,n1,n2,n3,n4,b,c,d,f,g,i,k,l,m,n,o,p,q,r,s,t,u,w,x,y,z,A,B,C,D,E,F,G,H,I,J,K,L,M,N,P,Q,R,U,c4,V,W,X,Y,Z,a0,a1,a2,a3,a4,a5,a6,a7,a8,a9,b0,b1,b2,b3,b4,b5,b6,b7,b8,b9,c0,c1,c2,c3]) S =
  ( some ([x0,x1,Value.bool false,x3,x4,x5,x6,x7,x8,x9,c6,c7,c8,c9,d0,d1,d2,d3,d4,d5,d6,d7,d8,d9,f0,f1,f2,f3,f4,f5,f6,f7,f8,f9,g0,g1,g2,g3,g4,g5,g6,g7,g8,g9,i0,i1,i2,i3,i4,i5,i6,i7,i8,i9,j0,j1,j2,j3,j4,j5,c5,j6,j7,j8,j9,k0,k1,k2,k3,k4,k5,k6,k7,k8,k9,l0,l1,l2,l3,l4,l5,l6,l7,l8,l9,m0,m1,m2,m3,m4,m5,m6,m7,m8,m9,n0,n1,n2,n3,n4,b,c,d,f,g,i,k,l,m,n,o,p,q,r,s,t,u,w,x,y,z,A,B,C,D,E,F,G,H,I,J,K,L,M,N,P,Q,R,U,c4,V,W,X,Y,Z,a0,a1,a2,a3,a4,a5,a6,a7,a8,a9,b0,b1,b2,b3,b4,b5,b6,b7,b8,b9,c0,c1,c2,c3],S)):=by
 kernel_rfl
theorem zk.r3 :jw Try.prog ⟨false,false,false⟩ (zW Try.prog O) (reg Try.f34 3) (reg Try.f34 3).toList ([x0,x1,x2,x3,x4,x5,x6,x7,x8,x9,c6,c7,c8,c9,d0,d1,d2,d3,d4,d5,d6,d7,d8,d9,f0,f1,f2,f3,f4,f5,f6,f7,f8,f9,g0,g1,g2,g3,g4,g5,g6,g7,g8,g9,i0,i1,i2,i3,i4,i5,i6,i7,i8,i9,j0,j1,j2,j3,j4,j5,c5,j6,j7,j8,j9,k0,k1,k2,k3,k4,k5,k6,k7,k8,k9,l0,l1,l2,l3,l4,l5,l6,l7,l8,l9,m0,m1,m2,m3,m4,m5,m6,m7,m8,m9,n0,n1,n2,n3,n4,b,c,d,f,g,i,k,l,m,n,o,p,q,r,s,t,u,w,x,y,z,A,B,C,D,E,F,G,H,I,J,K,L,M,N,P,Q,R,U,c4,V,W,X,Y,Z,a0,a1,a2,a3,a4,a5,a6,a7,a8,a9,b0,b1,b2,b3,b4,b5,b6,b7,b8,b9,c0,c1,c2,c3]) S =
  (zI (zA Try.prog 48 x1 0 S) (fun v0 S1=>zI (jf Try.prog false 3 v0 S1) (fun v1 S2=>zI (wB Try.prog BinOp.neq 3 v1 (Value.int IntKind.i64 0) S2) (fun v2 S3=>gdK (dem v2) true (zA Try.prog 48 x1 6) S3 (fun v4 S4=>gdK (dem v2) true (jf Try.prog false 43 v4) S4 (fun v5 S5=>gdK (dem v2) true (yg Try.prog 43 []) S5 (fun v6 S6=>gdK (dem v2) true (wB Try.prog BinOp.neq 43 v5 v6) S6 (fun v7 S7=>zI (wR (dem v2) v7 (Value.bool false) S7) (fun v8 S8=>gdK (dem v8) false (zA Try.prog 48 x1 0) S8 (fun n6 S9=>gdK (dem v8) false (jf Try.prog false 3 n6) S9 (fun n7 n9=>gdK (dem v8) false (wB Try.prog BinOp.neq 3 n7 (Value.int IntKind.i64 1)) n9 (fun n5 o0=>gdK (dem v8) false (ret n5) o0 (fun n8 o5=>gdK (dem n8) true (zA Try.prog 48 x1 7) o5 (fun o6 o7=>gdK (dem n8) true (jf Try.prog false 46 o6) o7 (fun o2 o8=>gdK (dem n8) true ((zW Try.prog O) 52 [(dem o2)]) o8 (fun o3 o9=>gdK (dem n8) true (aUn Try.prog UnOp.not o3) o9 (fun o1 p2=>gdK (dem v8) false (wR (dem n8) o1 (Value.bool false)) p2 (fun p0 q1=>zI (wR (dem v8) (Value.bool true) p0 q1) (fun o4 q2=>gdK (dem o4) false (zA Try.prog 48 x1 0) q2 (fun p4 q3=>gdK (dem o4) false (jf Try.prog false 3 p4) q3 (fun p5 q4=>gdK (dem o4) false (wB Try.prog BinOp.neq 3 p5 (Value.int IntKind.i64 3)) q4 (fun p6 q5=>gdK (dem o4) false (ret p6) q5 (fun p1 q6=>gdK (dem p1) true (zA Try.prog 48 x1 5) q6 (fun p7 q7=>gdK (dem p1) true (jf Try.prog false 3 p7) q7 (fun p8 q8=>gdK (dem p1) true (wB Try.prog BinOp.neq 3 p8 (Value.int IntKind.i64 0)) q8 (fun p9 q9=>gdK (dem o4) false (wR (dem p1) p9 (Value.bool false)) q9 (fun q0 s0=>zI (wR (dem o4) (Value.bool true) q0 s0) (fun s1 s2=>some ([x0,x1,x2,x3,x4,x5,x6,x7,x8,x9,c6,c7,c8,v0,v1,v2,dem v2,v4,v5,v6,v7,v8,dem v8,n6,n7,n5,dem n8,o6,o2,o3,o1,p0,o4,dem o4,p4,p5,p6,dem p1,p7,p8,p9,q0,s1,g9,i0,i1,i2,i3,i4,i5,i6,i7,i8,i9,j0,j1,j2,j3,j4,j5,c5,j6,j7,j8,j9,k0,k1,k2,k3,k4,k5,k6,k7,k8,k9,l0,l1,l2,l3,l4,l5,l6,l7,l8,l9,m0,m1,m2,m3,m4,m5,m6,m7,m8,m9,n0,n1,n2,n3,n4,b,c,d,f,g,i,k,l,m,n,o,p,q,r,s,t,u,w,x,y,z,A,B,C,D,E,F,G,H,I,J,K,L,M,N,P,Q,R,U,c4,V,W,X,Y,Z,a0,a1,a2,a3,a4,a5,a6,a7,a8,a9,b0,b1,b2,b3,b4,b5,b6,b7,b8,b9,c0,c1,c2,c3],s2)) ()) ()) ()) ()) ()) ()) ()) ()) ()) ()) ()) ()) ()) ()) ()) ()) ()) ()) ()) ()) ()) ()) ()) ()) ()) ()) ()):=by
 refine sD Try.f34 3 0 (fun v0 S1=>?_)
 refine sD Try.f34 3 1 (fun v1 S2=>?_)
 refine sD Try.f34 3 2 (fun v2 S3=>?_)
 refine sP Try.f34 3 3 (v:=v2) ?_
 refine sG Try.f34 3 4 (j:=3) (fun v4 S4=>?_)
 refine sG Try.f34 3 5 (j:=3) (fun v5 S5=>?_)
 refine sG Try.f34 3 6 (j:=3) (fun v6 S6=>?_)
 refine sG Try.f34 3 7 (j:=3) (fun v7 S7=>?_)
 refine sD Try.f34 3 8 (fun v8 S8=>?_)
 refine sP Try.f34 3 9 (v:=v8) ?_
 refine sG Try.f34 3 10 (j:=9) (fun n6 S9=>?_)
 refine sG Try.f34 3 11 (j:=9) (fun n7 n9=>?_)
 refine sG Try.f34 3 12 (j:=9) (fun n5 o0=>?_)
 refine sG Try.f34 3 13 (j:=9) (fun n8 o5=>?_)
 refine sG Try.f34 3 14 (j:=13) (fun o6 o7=>?_)
 refine sG Try.f34 3 15 (j:=13) (fun o2 o8=>?_)
 refine sG Try.f34 3 16 (j:=13) (fun o3 o9=>?_)
 refine sG Try.f34 3 17 (j:=13) (fun o1 p2=>?_)
 refine sG Try.f34 3 18 (j:=9) (fun p0 q1=>?_)
 refine sD Try.f34 3 19 (fun o4 q2=>?_)
 refine sP Try.f34 3 20 (v:=o4) ?_
 refine sG Try.f34 3 21 (j:=20) (fun p4 q3=>?_)
 refine sG Try.f34 3 22 (j:=20) (fun p5 q4=>?_)
 refine sG Try.f34 3 23 (j:=20) (fun p6 q5=>?_)
 refine sG Try.f34 3 24 (j:=20) (fun p1 q6=>?_)
 refine sG Try.f34 3 25 (j:=24) (fun p7 q7=>?_)
 refine sG Try.f34 3 26 (j:=24) (fun p8 q8=>?_)
 refine sG Try.f34 3 27 (j:=24) (fun p9 q9=>?_)
 refine sG Try.f34 3 28 (j:=20) (fun q0 s0=>?_)
 refine sD Try.f34 3 29 (fun s1 s2=>?_)
 kernel_rfl
theorem zk.r4 :jw Try.prog ⟨false,false,false⟩ (zW Try.prog O) (reg Try.f34 4) (reg Try.f34 4).toList ([x0,x1,x2,x3,x4,x5,x6,x7,x8,x9,c6,c7,c8,c9,d0,d1,d2,d3,d4,d5,d6,d7,d8,d9,f0,f1,f2,f3,f4,f5,f6,f7,f8,f9,g0,g1,g2,g3,g4,g5,g6,g7,g8,g9,i0,i1,i2,i3,i4,i5,i6,i7,i8,i9,j0,j1,j2,j3,j4,j5,c5,j6,j7,j8,j9,k0,k1,k2,k3,k4,k5,k6,k7,k8,k9,l0,l1,l2,l3,l4,l5,l6,l7,l8,l9,m0,m1,m2,m3,m4,m5,m6,m7,m8,m9,n0,n1,n2,n3,n4,b,c,d,f,g,i,k,l,m,n,o,p,q,r,s,t,u,w,x,y,z,A,B,C,D,E,F,G,H,I,J,K,L,M,N,P,Q,R,U,c4,V,W,X,Y,Z,a0,a1,a2,a3,a4,a5,a6,a7,a8,a9,b0,b1,b2,b3,b4,b5,b6,b7,b8,b9,c0,c1,c2,c3]) S =
  ( some ([x0,x1,Value.bool false,x3,x4,x5,x6,x7,x8,x9,c6,c7,c8,c9,d0,d1,d2,d3,d4,d5,d6,d7,d8,d9,f0,f1,f2,f3,f4,f5,f6,f7,f8,f9,g0,g1,g2,g3,g4,g5,g6,g7,g8,g9,i0,i1,i2,i3,i4,i5,i6,i7,i8,i9,j0,j1,j2,j3,j4,j5,c5,j6,j7,j8,j9,k0,k1,k2,k3,k4,k5,k6,k7,k8,k9,l0,l1,l2,l3,l4,l5,l6,l7,l8,l9,m0,m1,m2,m3,m4,m5,m6,m7,m8,m9,n0,n1,n2,n3,n4,b,c,d,f,g,i,k,l,m,n,o,p,q,r,s,t,u,w,x,y,z,A,B,C,D,E,F,G,H,I,J,K,L,M,N,P,Q,R,U,c4,V,W,X,Y,Z,a0,a1,a2,a3,a4,a5,a6,a7,a8,a9,b0,b1,b2,b3,b4,b5,b6,b7,b8,b9,c0,c1,c2,c3],S)):=by
 kernel_rfl
theorem zk.r5 :jw Try.prog ⟨false,false,false⟩ (zW Try.prog O) (reg Try.f34 5) (reg Try.f34 5).toList ([x0,x1,x2,x3,x4,x5,x6,x7,x8,x9,c6,c7,c8,c9,d0,d1,d2,d3,d4,d5,d6,d7,d8,d9,f0,f1,f2,f3,f4,f5,f6,f7,f8,f9,g0,g1,g2,g3,g4,g5,g6,g7,g8,g9,i0,i1,i2,i3,i4,i5,i6,i7,i8,i9,j0,j1,j2,j3,j4,j5,c5,j6,j7,j8,j9,k0,k1,k2,k3,k4,k5,k6,k7,k8,k9,l0,l1,l2,l3,l4,l5,l6,l7,l8,l9,m0,m1,m2,m3,m4,m5,m6,m7,m8,m9,n0,n1,n2,n3,n4,b,c,d,f,g,i,k,l,m,n,o,p,q,r,s,t,u,w,x,y,z,A,B,C,D,E,F,G,H,I,J,K,L,M,N,P,Q,R,U,c4,V,W,X,Y,Z,a0,a1,a2,a3,a4,a5,a6,a7,a8,a9,b0,b1,b2,b3,b4,b5,b6,b7,b8,b9,c0,c1,c2,c3]) S =
  (zI (zA Try.prog 48 x1 3 S) (fun v0 S1=>zI (jf Try.prog false 3 v0 S1) (fun v1 S2=>zI (wB Try.prog BinOp.geq 3 v1 (Value.int IntKind.i64 0) S2) (fun v2 S3=>gdK (dem v2) true (zA Try.prog 48 x1 3) S3 (fun v4 S4=>gdK (dem v2) true (jf Try.prog false 3 v4) S4 (fun v5 S5=>gdK (dem v2) true (wB Try.prog BinOp.leq 3 v5 (Value.int IntKind.i64 1000)) S5 (fun v6 S6=>zI (wR (dem v2) v6 (Value.bool false) S6) (fun v7 S7=>some ([x0,x1,x2,v7,x4,x5,x6,x7,x8,x9,c6,c7,c8,c9,d0,d1,d2,d3,d4,d5,d6,d7,d8,d9,f0,f1,f2,f3,f4,f5,f6,f7,f8,f9,g0,g1,g2,g3,g4,g5,g6,g7,g8,v0,v1,v2,dem v2,v4,v5,v6,dem v7,i7,i8,i9,j0,j1,j2,j3,j4,j5,c5,j6,j7,j8,j9,k0,k1,k2,k3,k4,k5,k6,k7,k8,k9,l0,l1,l2,l3,l4,l5,l6,l7,l8,l9,m0,m1,m2,m3,m4,m5,m6,m7,m8,m9,n0,n1,n2,n3,n4,b,c,d,f,g,i,k,l,m,n,o,p,q,r,s,t,u,w,x,y,z,A,B,C,D,E,F,G,H,I,J,K,L,M,N,P,Q,R,U,c4,V,W,X,Y,Z,a0,a1,a2,a3,a4,a5,a6,a7,a8,a9,b0,b1,b2,b3,b4,b5,b6,b7,b8,b9,c0,c1,c2,c3],S7)) ()) ()) ()) ()) ()) ()) ()):=by
 refine sD Try.f34 5 0 (fun v0 S1=>?_)
 refine sD Try.f34 5 1 (fun v1 S2=>?_)
 refine sD Try.f34 5 2 (fun v2 S3=>?_)
 refine sP Try.f34 5 3 (v:=v2) ?_
 refine sG Try.f34 5 4 (j:=3) (fun v4 S4=>?_)
 refine sG Try.f34 5 5 (j:=3) (fun v5 S5=>?_)
 refine sG Try.f34 5 6 (j:=3) (fun v6 S6=>?_)
 refine sD Try.f34 5 7 (fun v7 S7=>?_)
 refine sP Try.f34 5 8 (v:=v7) ?_
 kernel_rfl
theorem zk.r6 :jw Try.prog ⟨false,false,false⟩ (zW Try.prog O) (reg Try.f34 6) (reg Try.f34 6).toList ([x0,x1,x2,x3,x4,x5,x6,x7,x8,x9,c6,c7,c8,c9,d0,d1,d2,d3,d4,d5,d6,d7,d8,d9,f0,f1,f2,f3,f4,f5,f6,f7,f8,f9,g0,g1,g2,g3,g4,g5,g6,g7,g8,g9,i0,i1,i2,i3,i4,i5,i6,i7,i8,i9,j0,j1,j2,j3,j4,j5,c5,j6,j7,j8,j9,k0,k1,k2,k3,k4,k5,k6,k7,k8,k9,l0,l1,l2,l3,l4,l5,l6,l7,l8,l9,m0,m1,m2,m3,m4,m5,m6,m7,m8,m9,n0,n1,n2,n3,n4,b,c,d,f,g,i,k,l,m,n,o,p,q,r,s,t,u,w,x,y,z,A,B,C,D,E,F,G,H,I,J,K,L,M,N,P,Q,R,U,c4,V,W,X,Y,Z,a0,a1,a2,a3,a4,a5,a6,a7,a8,a9,b0,b1,b2,b3,b4,b5,b6,b7,b8,b9,c0,c1,c2,c3]) S =
  (zI (zA Try.prog 48 x1 2 S) (fun v0 S1=>zI (jf Try.prog false 3 v0 S1) (fun v1 S2=>zI (wB Try.prog BinOp.geq 3 v1 (Value.int IntKind.i64 0) S2) (fun v2 S3=>gdK (dem v2) true (zA Try.prog 48 x1 2) S3 (fun v4 S4=>gdK (dem v2) true (jf Try.prog false 3 v4) S4 (fun v5 S5=>gdK (dem v2) true (wB Try.prog BinOp.leq 3 v5 (Value.int IntKind.i64 1000)) S5 (fun v6 S6=>zI (wR (dem v2) v6 (Value.bool false) S6) (fun v7 S7=>some ([x0,x1,x2,x3,v7,x5,x6,x7,x8,x9,c6,c7,c8,c9,d0,d1,d2,d3,d4,d5,d6,d7,d8,d9,f0,f1,f2,f3,f4,f5,f6,f7,f8,f9,g0,g1,g2,g3,g4,g5,g6,g7,g8,g9,i0,i1,i2,i3,i4,i5,i6,v0,v1,v2,dem v2,v4,v5,v6,dem v7,j5,c5,j6,j7,j8,j9,k0,k1,k2,k3,k4,k5,k6,k7,k8,k9,l0,l1,l2,l3,l4,l5,l6,l7,l8,l9,m0,m1,m2,m3,m4,m5,m6,m7,m8,m9,n0,n1,n2,n3,n4,b,c,d,f,g,i,k,l,m,n,o,p,q,r,s,t,u,w,x,y,z,A,B,C,D,E,F,G,H,I,J,K,L,M,N,P,Q,R,U,c4,V,W,X,Y,Z,a0,a1,a2,a3,a4,a5,a6,a7,a8,a9,b0,b1,b2,b3,b4,b5,b6,b7,b8,b9,c0,c1,c2,c3],S7)) ()) ()) ()) ()) ()) ()) ()):=by
 refine sD Try.f34 6 0 (fun v0 S1=>?_)
 refine sD Try.f34 6 1 (fun v1 S2=>?_)
 refine sD Try.f34 6 2 (fun v2 S3=>?_)
 refine sP Try.f34 6 3 (v:=v2) ?_
 refine sG Try.f34 6 4 (j:=3) (fun v4 S4=>?_)
 refine sG Try.f34 6 5 (j:=3) (fun v5 S5=>?_)
 refine sG Try.f34 6 6 (j:=3) (fun v6 S6=>?_)
 refine sD Try.f34 6 7 (fun v7 S7=>?_)
 refine sP Try.f34 6 8 (v:=v7) ?_
 kernel_rfl
theorem zk.r7 :jw Try.prog ⟨false,false,false⟩ (zW Try.prog O) (reg Try.f34 7) (reg Try.f34 7).toList ([x0,x1,x2,x3,x4,x5,x6,x7,x8,x9,c6,c7,c8,c9,d0,d1,d2,d3,d4,d5,d6,d7,d8,d9,f0,f1,f2,f3,f4,f5,f6,f7,f8,f9,g0,g1,g2,g3,g4,g5,g6,g7,g8,g9,i0,i1,i2,i3,i4,i5,i6,i7,i8,i9,j0,j1,j2,j3,j4,j5,c5,j6,j7,j8,j9,k0,k1,k2,k3,k4,k5,k6,k7,k8,k9,l0,l1,l2,l3,l4,l5,l6,l7,l8,l9,m0,m1,m2,m3,m4,m5,m6,m7,m8,m9,n0,n1,n2,n3,n4,b,c,d,f,g,i,k,l,m,n,o,p,q,r,s,t,u,w,x,y,z,A,B,C,D,E,F,G,H,I,J,K,L,M,N,P,Q,R,U,c4,V,W,X,Y,Z,a0,a1,a2,a3,a4,a5,a6,a7,a8,a9,b0,b1,b2,b3,b4,b5,b6,b7,b8,b9,c0,c1,c2,c3]) S =
  (zI (zA Try.prog 48 x1 0 S) (fun v0 S1=>zI (jf Try.prog false 3 v0 S1) (fun v1 S2=>some ([x0,x1,x2,x3,x4,x5,x6,x7,x8,x9,c6,c7,c8,c9,d0,d1,d2,d3,d4,d5,d6,d7,d8,d9,f0,f1,f2,f3,f4,f5,f6,f7,f8,f9,g0,g1,g2,g3,g4,g5,g6,g7,g8,g9,i0,i1,i2,i3,i4,i5,i6,i7,i8,i9,j0,j1,j2,j3,j4,v0,v1,j6,j7,j8,j9,k0,k1,k2,k3,k4,k5,k6,k7,k8,k9,l0,l1,l2,l3,l4,l5,l6,l7,l8,l9,m0,m1,m2,m3,m4,m5,m6,m7,m8,m9,n0,n1,n2,n3,n4,b,c,d,f,g,i,k,l,m,n,o,p,q,r,s,t,u,w,x,y,z,A,B,C,D,E,F,G,H,I,J,K,L,M,N,P,Q,R,U,c4,V,W,X,Y,Z,a0,a1,a2,a3,a4,a5,a6,a7,a8,a9,b0,b1,b2,b3,b4,b5,b6,b7,b8,b9,c0,c1,c2,c3],S2)) ()) ()):=by
 kernel_rfl
theorem zk.r8 :jw Try.prog ⟨false,false,false⟩ (zW Try.prog O) (reg Try.f34 8) (reg Try.f34 8).toList ([x0,x1,x2,x3,x4,x5,x6,x7,x8,x9,c6,c7,c8,c9,d0,d1,d2,d3,d4,d5,d6,d7,d8,d9,f0,f1,f2,f3,f4,f5,f6,f7,f8,f9,g0,g1,g2,g3,g4,g5,g6,g7,g8,g9,i0,i1,i2,i3,i4,i5,i6,i7,i8,i9,j0,j1,j2,j3,j4,j5,c5,j6,j7,j8,j9,k0,k1,k2,k3,k4,k5,k6,k7,k8,k9,l0,l1,l2,l3,l4,l5,l6,l7,l8,l9,m0,m1,m2,m3,m4,m5,m6,m7,m8,m9,n0,n1,n2,n3,n4,b,c,d,f,g,i,k,l,m,n,o,p,q,r,s,t,u,w,x,y,z,A,B,C,D,E,F,G,H,I,J,K,L,M,N,P,Q,R,U,c4,V,W,X,Y,Z,a0,a1,a2,a3,a4,a5,a6,a7,a8,a9,b0,b1,b2,b3,b4,b5,b6,b7,b8,b9,c0,c1,c2,c3]) S =
  (zI (wB Try.prog BinOp.eql 3 c5 (Value.int IntKind.i64 0) S) (fun v0 S1=>some ([x0,x1,x2,x3,x4,x5,x6,x7,x8,x9,c6,c7,c8,c9,d0,d1,d2,d3,d4,d5,d6,d7,d8,d9,f0,f1,f2,f3,f4,f5,f6,f7,f8,f9,g0,g1,g2,g3,g4,g5,g6,g7,g8,g9,i0,i1,i2,i3,i4,i5,i6,i7,i8,i9,j0,j1,j2,j3,j4,j5,c5,v0,dem v0,j8,j9,k0,k1,k2,k3,k4,k5,k6,k7,k8,k9,l0,l1,l2,l3,l4,l5,l6,l7,l8,l9,m0,m1,m2,m3,m4,m5,m6,m7,m8,m9,n0,n1,n2,n3,n4,b,c,d,f,g,i,k,l,m,n,o,p,q,r,s,t,u,w,x,y,z,A,B,C,D,E,F,G,H,I,J,K,L,M,N,P,Q,R,U,c4,V,W,X,Y,Z,a0,a1,a2,a3,a4,a5,a6,a7,a8,a9,b0,b1,b2,b3,b4,b5,b6,b7,b8,b9,c0,c1,c2,c3],S1)) ()):=by
 kernel_rfl
theorem zk.r9 :jw Try.prog ⟨false,false,false⟩ (zW Try.prog O) (reg Try.f34 9) (reg Try.f34 9).toList ([x0,x1,x2,x3,x4,x5,x6,x7,x8,x9,c6,c7,c8,c9,d0,d1,d2,d3,d4,d5,d6,d7,d8,d9,f0,f1,f2,f3,f4,f5,f6,f7,f8,f9,g0,g1,g2,g3,g4,g5,g6,g7,g8,g9,i0,i1,i2,i3,i4,i5,i6,i7,i8,i9,j0,j1,j2,j3,j4,j5,c5,j6,j7,j8,j9,k0,k1,k2,k3,k4,k5,k6,k7,k8,k9,l0,l1,l2,l3,l4,l5,l6,l7,l8,l9,m0,m1,m2,m3,m4,m5,m6,m7,m8,m9,n0,n1,n2,n3,n4,b,c,d,f,g,i,k,l,m,n,o,p,q,r,s,t,u,w,x,y,z,A,B,C,D,E,F,G,H,I,J,K,L,M,N,P,Q,R,U,c4,V,W,X,Y,Z,a0,a1,a2,a3,a4,a5,a6,a7,a8,a9,b0,b1,b2,b3,b4,b5,b6,b7,b8,b9,c0,c1,c2,c3]) S =
  (zI (zA Try.prog 48 x1 2 S) (fun v0 S1=>zI (jf Try.prog false 3 v0 S1) (fun v1 S2=>zI (wB Try.prog BinOp.eql 3 v1 (Value.int IntKind.i64 0) S2) (fun v2 S3=>gdK (dem v2) true (zA Try.prog 48 x1 3) S3 (fun v4 S4=>gdK (dem v2) true (jf Try.prog false 3 v4) S4 (fun v5 S5=>gdK (dem v2) true (wB Try.prog BinOp.eql 3 v5 (Value.int IntKind.i64 0)) S5 (fun v6 S6=>zI (wR (dem v2) v6 (Value.bool false) S6) (fun v7 S7=>gdK (dem v7) true (zA Try.prog 48 x1 4) S7 (fun v9 S8=>gdK (dem v7) true (jf Try.prog false 3 v9) S8 (fun n6 S9=>gdK (dem v7) true (wB Try.prog BinOp.eql 3 n6 (Value.int IntKind.i64 0)) S9 (fun n7 n9=>zI (wR (dem v7) n7 (Value.bool false) n9) (fun n5 o0=>gdK (dem n5) true (zA Try.prog 48 x1 6) o0 (fun o6 o5=>gdK (dem n5) true (jf Try.prog false 43 o6) o5 (fun o2 o7=>gdK (dem n5) true ((zW Try.prog O) 48 [(dem o2)]) o7 (fun o3 o8=>zI (wR (dem n5) o3 (Value.bool false) o8) (fun o1 o9=>some ([x0,x1,o1,x3,x4,x5,x6,x7,x8,x9,c6,c7,c8,c9,d0,d1,d2,d3,d4,d5,d6,d7,d8,d9,f0,f1,f2,f3,f4,f5,f6,f7,f8,f9,g0,g1,g2,g3,g4,g5,g6,g7,g8,g9,i0,i1,i2,i3,i4,i5,i6,i7,i8,i9,j0,j1,j2,j3,j4,j5,c5,j6,j7,v0,v1,v2,dem v2,v4,v5,v6,v7,dem v7,v9,n6,n7,n5,dem n5,o6,o2,o3,dem o1,l6,l7,l8,l9,m0,m1,m2,m3,m4,m5,m6,m7,m8,m9,n0,n1,n2,n3,n4,b,c,d,f,g,i,k,l,m,n,o,p,q,r,s,t,u,w,x,y,z,A,B,C,D,E,F,G,H,I,J,K,L,M,N,P,Q,R,U,c4,V,W,X,Y,Z,a0,a1,a2,a3,a4,a5,a6,a7,a8,a9,b0,b1,b2,b3,b4,b5,b6,b7,b8,b9,c0,c1,c2,c3],o9)) ()) ()) ()) ()) ()) ()) ()) ()) ()) ()) ()) ()) ()) ()) ()):=by
 refine sD Try.f34 9 0 (fun v0 S1=>?_)
 refine sD Try.f34 9 1 (fun v1 S2=>?_)
 refine sD Try.f34 9 2 (fun v2 S3=>?_)
 refine sP Try.f34 9 3 (v:=v2) ?_
 refine sG Try.f34 9 4 (j:=3) (fun v4 S4=>?_)
 refine sG Try.f34 9 5 (j:=3) (fun v5 S5=>?_)
 refine sG Try.f34 9 6 (j:=3) (fun v6 S6=>?_)
 refine sD Try.f34 9 7 (fun v7 S7=>?_)
 refine sP Try.f34 9 8 (v:=v7) ?_
 refine sG Try.f34 9 9 (j:=8) (fun v9 S8=>?_)
 refine sG Try.f34 9 10 (j:=8) (fun n6 S9=>?_)
 refine sG Try.f34 9 11 (j:=8) (fun n7 n9=>?_)
 refine sD Try.f34 9 12 (fun n5 o0=>?_)
 refine sP Try.f34 9 13 (v:=n5) ?_
 refine sG Try.f34 9 14 (j:=13) (fun o6 o5=>?_)
 refine sG Try.f34 9 15 (j:=13) (fun o2 o7=>?_)
 refine sG Try.f34 9 16 (j:=13) (fun o3 o8=>?_)
 refine sD Try.f34 9 17 (fun o1 o9=>?_)
 refine sP Try.f34 9 18 (v:=o1) ?_
 kernel_rfl
theorem zk.r10 :jw Try.prog ⟨false,false,false⟩ (zW Try.prog O) (reg Try.f34 10) (reg Try.f34 10).toList ([x0,x1,x2,x3,x4,x5,x6,x7,x8,x9,c6,c7,c8,c9,d0,d1,d2,d3,d4,d5,d6,d7,d8,d9,f0,f1,f2,f3,f4,f5,f6,f7,f8,f9,g0,g1,g2,g3,g4,g5,g6,g7,g8,g9,i0,i1,i2,i3,i4,i5,i6,i7,i8,i9,j0,j1,j2,j3,j4,j5,c5,j6,j7,j8,j9,k0,k1,k2,k3,k4,k5,k6,k7,k8,k9,l0,l1,l2,l3,l4,l5,l6,l7,l8,l9,m0,m1,m2,m3,m4,m5,m6,m7,m8,m9,n0,n1,n2,n3,n4,b,c,d,f,g,i,k,l,m,n,o,p,q,r,s,t,u,w,x,y,z,A,B,C,D,E,F,G,H,I,J,K,L,M,N,P,Q,R,U,c4,V,W,X,Y,Z,a0,a1,a2,a3,a4,a5,a6,a7,a8,a9,b0,b1,b2,b3,b4,b5,b6,b7,b8,b9,c0,c1,c2,c3]) S =
  (zI (wB Try.prog BinOp.eql 3 c5 (Value.int IntKind.i64 1) S) (fun v0 S1=>some ([x0,x1,x2,x3,x4,x5,x6,x7,x8,x9,c6,c7,c8,c9,d0,d1,d2,d3,d4,d5,d6,d7,d8,d9,f0,f1,f2,f3,f4,f5,f6,f7,f8,f9,g0,g1,g2,g3,g4,g5,g6,g7,g8,g9,i0,i1,i2,i3,i4,i5,i6,i7,i8,i9,j0,j1,j2,j3,j4,j5,c5,j6,j7,j8,j9,k0,k1,k2,k3,k4,k5,k6,k7,k8,k9,l0,l1,l2,l3,l4,l5,v0,dem v0,l8,l9,m0,m1,m2,m3,m4,m5,m6,m7,m8,m9,n0,n1,n2,n3,n4,b,c,d,f,g,i,k,l,m,n,o,p,q,r,s,t,u,w,x,y,z,A,B,C,D,E,F,G,H,I,J,K,L,M,N,P,Q,R,U,c4,V,W,X,Y,Z,a0,a1,a2,a3,a4,a5,a6,a7,a8,a9,b0,b1,b2,b3,b4,b5,b6,b7,b8,b9,c0,c1,c2,c3],S1)) ()):=by
 kernel_rfl
theorem zk.r11 :jw Try.prog ⟨false,false,false⟩ (zW Try.prog O) (reg Try.f34 11) (reg Try.f34 11).toList ([x0,x1,x2,x3,x4,x5,x6,x7,x8,x9,c6,c7,c8,c9,d0,d1,d2,d3,d4,d5,d6,d7,d8,d9,f0,f1,f2,f3,f4,f5,f6,f7,f8,f9,g0,g1,g2,g3,g4,g5,g6,g7,g8,g9,i0,i1,i2,i3,i4,i5,i6,i7,i8,i9,j0,j1,j2,j3,j4,j5,c5,j6,j7,j8,j9,k0,k1,k2,k3,k4,k5,k6,k7,k8,k9,l0,l1,l2,l3,l4,l5,l6,l7,l8,l9,m0,m1,m2,m3,m4,m5,m6,m7,m8,m9,n0,n1,n2,n3,n4,b,c,d,f,g,i,k,l,m,n,o,p,q,r,s,t,u,w,x,y,z,A,B,C,D,E,F,G,H,I,J,K,L,M,N,P,Q,R,U,c4,V,W,X,Y,Z,a0,a1,a2,a3,a4,a5,a6,a7,a8,a9,b0,b1,b2,b3,b4,b5,b6,b7,b8,b9,c0,c1,c2,c3]) S =
  (zI (zA Try.prog 48 x1 2 S) (fun v0 S1=>zI (jf Try.prog false 3 v0 S1) (fun v1 S2=>zI (wB Try.prog BinOp.eql 3 v1 (Value.int IntKind.i64 0) S2) (fun v2 S3=>gdK (dem v2) true (zA Try.prog 48 x1 3) S3 (fun v4 S4=>gdK (dem v2) true (jf Try.prog false 3 v4) S4 (fun v5 S5=>gdK (dem v2) true (wB Try.prog BinOp.eql 3 v5 (Value.int IntKind.i64 0)) S5 (fun v6 S6=>zI (wR (dem v2) v6 (Value.bool false) S6) (fun v7 S7=>gdK (dem v7) true (zA Try.prog 48 x1 4) S7 (fun v9 S8=>gdK (dem v7) true (jf Try.prog false 3 v9) S8 (fun n6 S9=>gdK (dem v7) true (wB Try.prog BinOp.eql 3 n6 (Value.int IntKind.i64 0)) S9 (fun n7 n9=>zI (wR (dem v7) n7 (Value.bool false) n9) (fun n5 o0=>gdK (dem n5) true (zA Try.prog 48 x1 7) o0 (fun o6 o5=>gdK (dem n5) true (jf Try.prog false 46 o6) o5 (fun o2 o7=>gdK (dem n5) true ((zW Try.prog O) 32 [(dem o2)]) o7 (fun o3 o8=>zI (wR (dem n5) o3 (Value.bool false) o8) (fun o1 o9=>some ([x0,x1,o1,x3,x4,x5,x6,x7,x8,x9,c6,c7,c8,c9,d0,d1,d2,d3,d4,d5,d6,d7,d8,d9,f0,f1,f2,f3,f4,f5,f6,f7,f8,f9,g0,g1,g2,g3,g4,g5,g6,g7,g8,g9,i0,i1,i2,i3,i4,i5,i6,i7,i8,i9,j0,j1,j2,j3,j4,j5,c5,j6,j7,j8,j9,k0,k1,k2,k3,k4,k5,k6,k7,k8,k9,l0,l1,l2,l3,l4,l5,l6,l7,v0,v1,v2,dem v2,v4,v5,v6,v7,dem v7,v9,n6,n7,n5,dem n5,o6,o2,o3,dem o1,c,d,f,g,i,k,l,m,n,o,p,q,r,s,t,u,w,x,y,z,A,B,C,D,E,F,G,H,I,J,K,L,M,N,P,Q,R,U,c4,V,W,X,Y,Z,a0,a1,a2,a3,a4,a5,a6,a7,a8,a9,b0,b1,b2,b3,b4,b5,b6,b7,b8,b9,c0,c1,c2,c3],o9)) ()) ()) ()) ()) ()) ()) ()) ()) ()) ()) ()) ()) ()) ()) ()):=by
 refine sD Try.f34 11 0 (fun v0 S1=>?_)
 refine sD Try.f34 11 1 (fun v1 S2=>?_)
 refine sD Try.f34 11 2 (fun v2 S3=>?_)
 refine sP Try.f34 11 3 (v:=v2) ?_
 refine sG Try.f34 11 4 (j:=3) (fun v4 S4=>?_)
 refine sG Try.f34 11 5 (j:=3) (fun v5 S5=>?_)
 refine sG Try.f34 11 6 (j:=3) (fun v6 S6=>?_)
 refine sD Try.f34 11 7 (fun v7 S7=>?_)
 refine sP Try.f34 11 8 (v:=v7) ?_
 refine sG Try.f34 11 9 (j:=8) (fun v9 S8=>?_)
 refine sG Try.f34 11 10 (j:=8) (fun n6 S9=>?_)
 refine sG Try.f34 11 11 (j:=8) (fun n7 n9=>?_)
 refine sD Try.f34 11 12 (fun n5 o0=>?_)
 refine sP Try.f34 11 13 (v:=n5) ?_
 refine sG Try.f34 11 14 (j:=13) (fun o6 o5=>?_)
 refine sG Try.f34 11 15 (j:=13) (fun o2 o7=>?_)
 refine sG Try.f34 11 16 (j:=13) (fun o3 o8=>?_)
 refine sD Try.f34 11 17 (fun o1 o9=>?_)
 refine sP Try.f34 11 18 (v:=o1) ?_
 kernel_rfl
theorem zk.r12 :jw Try.prog ⟨false,false,false⟩ (zW Try.prog O) (reg Try.f34 12) (reg Try.f34 12).toList ([x0,x1,x2,x3,x4,x5,x6,x7,x8,x9,c6,c7,c8,c9,d0,d1,d2,d3,d4,d5,d6,d7,d8,d9,f0,f1,f2,f3,f4,f5,f6,f7,f8,f9,g0,g1,g2,g3,g4,g5,g6,g7,g8,g9,i0,i1,i2,i3,i4,i5,i6,i7,i8,i9,j0,j1,j2,j3,j4,j5,c5,j6,j7,j8,j9,k0,k1,k2,k3,k4,k5,k6,k7,k8,k9,l0,l1,l2,l3,l4,l5,l6,l7,l8,l9,m0,m1,m2,m3,m4,m5,m6,m7,m8,m9,n0,n1,n2,n3,n4,b,c,d,f,g,i,k,l,m,n,o,p,q,r,s,t,u,w,x,y,z,A,B,C,D,E,F,G,H,I,J,K,L,M,N,P,Q,R,U,c4,V,W,X,Y,Z,a0,a1,a2,a3,a4,a5,a6,a7,a8,a9,b0,b1,b2,b3,b4,b5,b6,b7,b8,b9,c0,c1,c2,c3]) S =
  (zI (wB Try.prog BinOp.eql 3 c5 (Value.int IntKind.i64 2) S) (fun v0 S1=>some ([x0,x1,x2,x3,x4,x5,x6,x7,x8,x9,c6,c7,c8,c9,d0,d1,d2,d3,d4,d5,d6,d7,d8,d9,f0,f1,f2,f3,f4,f5,f6,f7,f8,f9,g0,g1,g2,g3,g4,g5,g6,g7,g8,g9,i0,i1,i2,i3,i4,i5,i6,i7,i8,i9,j0,j1,j2,j3,j4,j5,c5,j6,j7,j8,j9,k0,k1,k2,k3,k4,k5,k6,k7,k8,k9,l0,l1,l2,l3,l4,l5,l6,l7,l8,l9,m0,m1,m2,m3,m4,m5,m6,m7,m8,m9,n0,n1,n2,n3,n4,b,v0,dem v0,f,g,i,k,l,m,n,o,p,q,r,s,t,u,w,x,y,z,A,B,C,D,E,F,G,H,I,J,K,L,M,N,P,Q,R,U,c4,V,W,X,Y,Z,a0,a1,a2,a3,a4,a5,a6,a7,a8,a9,b0,b1,b2,b3,b4,b5,b6,b7,b8,b9,c0,c1,c2,c3],S1)) ()):=by
 kernel_rfl
theorem zk.r13 :jw Try.prog ⟨false,false,false⟩ (zW Try.prog O) (reg Try.f34 13) (reg Try.f34 13).toList ([x0,x1,x2,x3,x4,x5,x6,x7,x8,x9,c6,c7,c8,c9,d0,d1,d2,d3,d4,d5,d6,d7,d8,d9,f0,f1,f2,f3,f4,f5,f6,f7,f8,f9,g0,g1,g2,g3,g4,g5,g6,g7,g8,g9,i0,i1,i2,i3,i4,i5,i6,i7,i8,i9,j0,j1,j2,j3,j4,j5,c5,j6,j7,j8,j9,k0,k1,k2,k3,k4,k5,k6,k7,k8,k9,l0,l1,l2,l3,l4,l5,l6,l7,l8,l9,m0,m1,m2,m3,m4,m5,m6,m7,m8,m9,n0,n1,n2,n3,n4,b,c,d,f,g,i,k,l,m,n,o,p,q,r,s,t,u,w,x,y,z,A,B,C,D,E,F,G,H,I,J,K,L,M,N,P,Q,R,U,c4,V,W,X,Y,Z,a0,a1,a2,a3,a4,a5,a6,a7,a8,a9,b0,b1,b2,b3,b4,b5,b6,b7,b8,b9,c0,c1,c2,c3]) S =
  (zI (zA Try.prog 48 x1 2 S) (fun v0 S1=>zI (jf Try.prog false 3 v0 S1) (fun v1 S2=>zI (wB Try.prog BinOp.eql 3 v1 (Value.int IntKind.i64 0) S2) (fun v2 S3=>gdK (dem v2) true (zA Try.prog 48 x1 3) S3 (fun v4 S4=>gdK (dem v2) true (jf Try.prog false 3 v4) S4 (fun v5 S5=>gdK (dem v2) true (wB Try.prog BinOp.eql 3 v5 (Value.int IntKind.i64 0)) S5 (fun v6 S6=>zI (wR (dem v2) v6 (Value.bool false) S6) (fun v7 S7=>gdK (dem v7) true (zA Try.prog 48 x1 4) S7 (fun v9 S8=>gdK (dem v7) true (jf Try.prog false 3 v9) S8 (fun n6 S9=>gdK (dem v7) true ((zW Try.prog O) 53 [(dem n6)]) S9 (fun n7 n9=>zI (wR (dem v7) n7 (Value.bool false) n9) (fun n5 o0=>some ([x0,x1,n5,x3,x4,x5,x6,x7,x8,x9,c6,c7,c8,c9,d0,d1,d2,d3,d4,d5,d6,d7,d8,d9,f0,f1,f2,f3,f4,f5,f6,f7,f8,f9,g0,g1,g2,g3,g4,g5,g6,g7,g8,g9,i0,i1,i2,i3,i4,i5,i6,i7,i8,i9,j0,j1,j2,j3,j4,j5,c5,j6,j7,j8,j9,k0,k1,k2,k3,k4,k5,k6,k7,k8,k9,l0,l1,l2,l3,l4,l5,l6,l7,l8,l9,m0,m1,m2,m3,m4,m5,m6,m7,m8,m9,n0,n1,n2,n3,n4,b,c,d,v0,v1,v2,dem v2,v4,v5,v6,v7,dem v7,v9,n6,n7,dem n5,u,w,x,y,z,A,B,C,D,E,F,G,H,I,J,K,L,M,N,P,Q,R,U,c4,V,W,X,Y,Z,a0,a1,a2,a3,a4,a5,a6,a7,a8,a9,b0,b1,b2,b3,b4,b5,b6,b7,b8,b9,c0,c1,c2,c3],o0)) ()) ()) ()) ()) ()) ()) ()) ()) ()) ()) ()):=by
 refine sD Try.f34 13 0 (fun v0 S1=>?_)
 refine sD Try.f34 13 1 (fun v1 S2=>?_)
 refine sD Try.f34 13 2 (fun v2 S3=>?_)
 refine sP Try.f34 13 3 (v:=v2) ?_
 refine sG Try.f34 13 4 (j:=3) (fun v4 S4=>?_)
 refine sG Try.f34 13 5 (j:=3) (fun v5 S5=>?_)
 refine sG Try.f34 13 6 (j:=3) (fun v6 S6=>?_)
 refine sD Try.f34 13 7 (fun v7 S7=>?_)
 refine sP Try.f34 13 8 (v:=v7) ?_
 refine sG Try.f34 13 9 (j:=8) (fun v9 S8=>?_)
 refine sG Try.f34 13 10 (j:=8) (fun n6 S9=>?_)
 refine sG Try.f34 13 11 (j:=8) (fun n7 n9=>?_)
 refine sD Try.f34 13 12 (fun n5 o0=>?_)
 refine sP Try.f34 13 13 (v:=n5) ?_
 kernel_rfl
theorem zk.r14 :jw Try.prog ⟨false,false,false⟩ (zW Try.prog O) (reg Try.f34 14) (reg Try.f34 14).toList ([x0,x1,x2,x3,x4,x5,x6,x7,x8,x9,c6,c7,c8,c9,d0,d1,d2,d3,d4,d5,d6,d7,d8,d9,f0,f1,f2,f3,f4,f5,f6,f7,f8,f9,g0,g1,g2,g3,g4,g5,g6,g7,g8,g9,i0,i1,i2,i3,i4,i5,i6,i7,i8,i9,j0,j1,j2,j3,j4,j5,c5,j6,j7,j8,j9,k0,k1,k2,k3,k4,k5,k6,k7,k8,k9,l0,l1,l2,l3,l4,l5,l6,l7,l8,l9,m0,m1,m2,m3,m4,m5,m6,m7,m8,m9,n0,n1,n2,n3,n4,b,c,d,f,g,i,k,l,m,n,o,p,q,r,s,t,u,w,x,y,z,A,B,C,D,E,F,G,H,I,J,K,L,M,N,P,Q,R,U,c4,V,W,X,Y,Z,a0,a1,a2,a3,a4,a5,a6,a7,a8,a9,b0,b1,b2,b3,b4,b5,b6,b7,b8,b9,c0,c1,c2,c3]) S =
  (zI (wB Try.prog BinOp.eql 3 c5 (Value.int IntKind.i64 3) S) (fun v0 S1=>some ([x0,x1,x2,x3,x4,x5,x6,x7,x8,x9,c6,c7,c8,c9,d0,d1,d2,d3,d4,d5,d6,d7,d8,d9,f0,f1,f2,f3,f4,f5,f6,f7,f8,f9,g0,g1,g2,g3,g4,g5,g6,g7,g8,g9,i0,i1,i2,i3,i4,i5,i6,i7,i8,i9,j0,j1,j2,j3,j4,j5,c5,j6,j7,j8,j9,k0,k1,k2,k3,k4,k5,k6,k7,k8,k9,l0,l1,l2,l3,l4,l5,l6,l7,l8,l9,m0,m1,m2,m3,m4,m5,m6,m7,m8,m9,n0,n1,n2,n3,n4,b,c,d,f,g,i,k,l,m,n,o,p,q,r,s,t,v0,dem v0,x,y,z,A,B,C,D,E,F,G,H,I,J,K,L,M,N,P,Q,R,U,c4,V,W,X,Y,Z,a0,a1,a2,a3,a4,a5,a6,a7,a8,a9,b0,b1,b2,b3,b4,b5,b6,b7,b8,b9,c0,c1,c2,c3],S1)) ()):=by
 kernel_rfl
theorem zk.r15 :jw Try.prog ⟨false,false,false⟩ (zW Try.prog O) (reg Try.f34 15) (reg Try.f34 15).toList ([x0,x1,x2,x3,x4,x5,x6,x7,x8,x9,c6,c7,c8,c9,d0,d1,d2,d3,d4,d5,d6,d7,d8,d9,f0,f1,f2,f3,f4,f5,f6,f7,f8,f9,g0,g1,g2,g3,g4,g5,g6,g7,g8,g9,i0,i1,i2,i3,i4,i5,i6,i7,i8,i9,j0,j1,j2,j3,j4,j5,c5,j6,j7,j8,j9,k0,k1,k2,k3,k4,k5,k6,k7,k8,k9,l0,l1,l2,l3,l4,l5,l6,l7,l8,l9,m0,m1,m2,m3,m4,m5,m6,m7,m8,m9,n0,n1,n2,n3,n4,b,c,d,f,g,i,k,l,m,n,o,p,q,r,s,t,u,w,x,y,z,A,B,C,D,E,F,G,H,I,J,K,L,M,N,P,Q,R,U,c4,V,W,X,Y,Z,a0,a1,a2,a3,a4,a5,a6,a7,a8,a9,b0,b1,b2,b3,b4,b5,b6,b7,b8,b9,c0,c1,c2,c3]) S =
  (gdK (dem x4) true (ret x3) S (fun v2 S1=>zI (wR (dem x4) (dem v2) (Value.bool false) S1) (fun v3 S2=>gdK (dem v3) true (zA Try.prog 48 x1 4) S2 (fun v5 S3=>gdK (dem v3) true (jf Try.prog false 3 v5) S3 (fun v6 S4=>gdK (dem v3) true ((zW Try.prog O) 53 [(dem v6)]) S4 (fun v7 S5=>zI (wR (dem v3) v7 (Value.bool false) S5) (fun v8 S6=>gdK (dem v8) true (zA Try.prog 48 x1 5) S6 (fun n6 S7=>gdK (dem v8) true (jf Try.prog false 3 n6) S7 (fun n7 S8=>gdK (dem v8) true (wB Try.prog BinOp.geq 3 n7 (Value.int IntKind.i64 (-1))) S8 (fun n5 S9=>zI (wR (dem v8) n5 (Value.bool false) S9) (fun n8 n9=>gdK (dem n8) true (zA Try.prog 48 x1 5) n9 (fun o2 o0=>gdK (dem n8) true (jf Try.prog false 3 o2) o0 (fun o3 o5=>gdK (dem n8) true (zA Try.prog 48 x1 3) o5 (fun o1 o7=>gdK (dem n8) true (jf Try.prog false 3 o1) o7 (fun p0 o8=>gdK (dem n8) true (wB Try.prog BinOp.lss 3 o3 p0) o8 (fun o4 o9=>zI (wR (dem n8) o4 (Value.bool false) o9) (fun p3 p2=>some ([x0,x1,p3,x3,dem x4,x5,x6,x7,x8,x9,c6,c7,c8,c9,d0,d1,d2,d3,d4,d5,d6,d7,d8,d9,f0,f1,f2,f3,f4,f5,f6,f7,f8,f9,g0,g1,g2,g3,g4,g5,g6,g7,g8,g9,i0,i1,i2,i3,i4,i5,i6,i7,i8,i9,j0,j1,j2,j3,j4,j5,c5,j6,j7,j8,j9,k0,k1,k2,k3,k4,k5,k6,k7,k8,k9,l0,l1,l2,l3,l4,l5,l6,l7,l8,l9,m0,m1,m2,m3,m4,m5,m6,m7,m8,m9,n0,n1,n2,n3,n4,b,c,d,f,g,i,k,l,m,n,o,p,q,r,s,t,u,w,x4,dem x4,dem v2,v3,dem v3,v5,v6,v7,v8,dem v8,n6,n7,n5,n8,dem n8,o2,o3,o1,p0,o4,dem p3,c4,V,W,X,Y,Z,a0,a1,a2,a3,a4,a5,a6,a7,a8,a9,b0,b1,b2,b3,b4,b5,b6,b7,b8,b9,c0,c1,c2,c3],p2)) ()) ()) ()) ()) ()) ()) ()) ()) ()) ()) ()) ()) ()) ()) ()) ()):=by
 refine sP Try.f34 15 0 (v:=x4) ?_
 refine sP Try.f34 15 1 (v:=x4) ?_
 refine sG Try.f34 15 2 (j:=1) (fun v2 S1=>?_)
 refine sD Try.f34 15 3 (fun v3 S2=>?_)
 refine sP Try.f34 15 4 (v:=v3) ?_
 refine sG Try.f34 15 5 (j:=4) (fun v5 S3=>?_)
 refine sG Try.f34 15 6 (j:=4) (fun v6 S4=>?_)
 refine sG Try.f34 15 7 (j:=4) (fun v7 S5=>?_)
 refine sD Try.f34 15 8 (fun v8 S6=>?_)
 refine sP Try.f34 15 9 (v:=v8) ?_
 refine sG Try.f34 15 10 (j:=9) (fun n6 S7=>?_)
 refine sG Try.f34 15 11 (j:=9) (fun n7 S8=>?_)
 refine sG Try.f34 15 12 (j:=9) (fun n5 S9=>?_)
 refine sD Try.f34 15 13 (fun n8 n9=>?_)
 refine sP Try.f34 15 14 (v:=n8) ?_
 refine sG Try.f34 15 15 (j:=14) (fun o2 o0=>?_)
 refine sG Try.f34 15 16 (j:=14) (fun o3 o5=>?_)
 refine sG Try.f34 15 17 (j:=14) (fun o1 o7=>?_)
 refine sG Try.f34 15 18 (j:=14) (fun p0 o8=>?_)
 refine sG Try.f34 15 19 (j:=14) (fun o4 o9=>?_)
 refine sD Try.f34 15 20 (fun p3 p2=>?_)
 refine sP Try.f34 15 21 (v:=p3) ?_
 kernel_rfl
theorem zk.r16 :jw Try.prog ⟨false,false,false⟩ (zW Try.prog O) (reg Try.f34 16) (reg Try.f34 16).toList ([x0,x1,x2,x3,x4,x5,x6,x7,x8,x9,c6,c7,c8,c9,d0,d1,d2,d3,d4,d5,d6,d7,d8,d9,f0,f1,f2,f3,f4,f5,f6,f7,f8,f9,g0,g1,g2,g3,g4,g5,g6,g7,g8,g9,i0,i1,i2,i3,i4,i5,i6,i7,i8,i9,j0,j1,j2,j3,j4,j5,c5,j6,j7,j8,j9,k0,k1,k2,k3,k4,k5,k6,k7,k8,k9,l0,l1,l2,l3,l4,l5,l6,l7,l8,l9,m0,m1,m2,m3,m4,m5,m6,m7,m8,m9,n0,n1,n2,n3,n4,b,c,d,f,g,i,k,l,m,n,o,p,q,r,s,t,u,w,x,y,z,A,B,C,D,E,F,G,H,I,J,K,L,M,N,P,Q,R,U,c4,V,W,X,Y,Z,a0,a1,a2,a3,a4,a5,a6,a7,a8,a9,b0,b1,b2,b3,b4,b5,b6,b7,b8,b9,c0,c1,c2,c3]) S =
  (zI (wB Try.prog BinOp.eql 3 c5 (Value.int IntKind.i64 4) S) (fun v0 S1=>some ([x0,x1,x2,x3,x4,x5,x6,x7,x8,x9,c6,c7,c8,c9,d0,d1,d2,d3,d4,d5,d6,d7,d8,d9,f0,f1,f2,f3,f4,f5,f6,f7,f8,f9,g0,g1,g2,g3,g4,g5,g6,g7,g8,g9,i0,i1,i2,i3,i4,i5,i6,i7,i8,i9,j0,j1,j2,j3,j4,j5,c5,j6,j7,j8,j9,k0,k1,k2,k3,k4,k5,k6,k7,k8,k9,l0,l1,l2,l3,l4,l5,l6,l7,l8,l9,m0,m1,m2,m3,m4,m5,m6,m7,m8,m9,n0,n1,n2,n3,n4,b,c,d,f,g,i,k,l,m,n,o,p,q,r,s,t,u,w,x,y,z,A,B,C,D,E,F,G,H,I,J,K,L,M,N,P,Q,R,U,v0,dem v0,W,X,Y,Z,a0,a1,a2,a3,a4,a5,a6,a7,a8,a9,b0,b1,b2,b3,b4,b5,b6,b7,b8,b9,c0,c1,c2,c3],S1)) ()):=by
 kernel_rfl
theorem zk.r17 :jw Try.prog ⟨false,false,false⟩ (zW Try.prog O) (reg Try.f34 17) (reg Try.f34 17).toList ([x0,x1,x2,x3,x4,x5,x6,x7,x8,x9,c6,c7,c8,c9,d0,d1,d2,d3,d4,d5,d6,d7,d8,d9,f0,f1,f2,f3,f4,f5,f6,f7,f8,f9,g0,g1,g2,g3,g4,g5,g6,g7,g8,g9,i0,i1,i2,i3,i4,i5,i6,i7,i8,i9,j0,j1,j2,j3,j4,j5,c5,j6,j7,j8,j9,k0,k1,k2,k3,k4,k5,k6,k7,k8,k9,l0,l1,l2,l3,l4,l5,l6,l7,l8,l9,m0,m1,m2,m3,m4,m5,m6,m7,m8,m9,n0,n1,n2,n3,n4,b,c,d,f,g,i,k,l,m,n,o,p,q,r,s,t,u,w,x,y,z,A,B,C,D,E,F,G,H,I,J,K,L,M,N,P,Q,R,U,c4,V,W,X,Y,Z,a0,a1,a2,a3,a4,a5,a6,a7,a8,a9,b0,b1,b2,b3,b4,b5,b6,b7,b8,b9,c0,c1,c2,c3]) S =
  (zI (wB Try.prog BinOp.eql 3 c5 (Value.int IntKind.i64 5) S) (fun v0 S1=>some ([x0,x1,x2,x3,x4,x5,x6,x7,x8,x9,c6,c7,c8,c9,d0,d1,d2,d3,d4,d5,d6,d7,d8,d9,f0,f1,f2,f3,f4,f5,f6,f7,f8,f9,g0,g1,g2,g3,g4,g5,g6,g7,g8,g9,i0,i1,i2,i3,i4,i5,i6,i7,i8,i9,j0,j1,j2,j3,j4,j5,c5,j6,j7,j8,j9,k0,k1,k2,k3,k4,k5,k6,k7,k8,k9,l0,l1,l2,l3,l4,l5,l6,l7,l8,l9,m0,m1,m2,m3,m4,m5,m6,m7,m8,m9,n0,n1,n2,n3,n4,b,c,d,f,g,i,k,l,m,n,o,p,q,r,s,t,u,w,x,y,z,A,B,C,D,E,F,G,H,I,J,K,L,M,N,P,Q,R,U,v0,V,dem v0,X,Y,Z,a0,a1,a2,a3,a4,a5,a6,a7,a8,a9,b0,b1,b2,b3,b4,b5,b6,b7,b8,b9,c0,c1,c2,c3],S1)) ()):=by
 kernel_rfl
theorem zk.r18 :jw Try.prog ⟨false,false,false⟩ (zW Try.prog O) (reg Try.f34 18) (reg Try.f34 18).toList ([x0,x1,x2,x3,x4,x5,x6,x7,x8,x9,c6,c7,c8,c9,d0,d1,d2,d3,d4,d5,d6,d7,d8,d9,f0,f1,f2,f3,f4,f5,f6,f7,f8,f9,g0,g1,g2,g3,g4,g5,g6,g7,g8,g9,i0,i1,i2,i3,i4,i5,i6,i7,i8,i9,j0,j1,j2,j3,j4,j5,c5,j6,j7,j8,j9,k0,k1,k2,k3,k4,k5,k6,k7,k8,k9,l0,l1,l2,l3,l4,l5,l6,l7,l8,l9,m0,m1,m2,m3,m4,m5,m6,m7,m8,m9,n0,n1,n2,n3,n4,b,c,d,f,g,i,k,l,m,n,o,p,q,r,s,t,u,w,x,y,z,A,B,C,D,E,F,G,H,I,J,K,L,M,N,P,Q,R,U,c4,V,W,X,Y,Z,a0,a1,a2,a3,a4,a5,a6,a7,a8,a9,b0,b1,b2,b3,b4,b5,b6,b7,b8,b9,c0,c1,c2,c3]) S =
  (gdK (dem x4) true (ret x3) S (fun v2 S1=>zI (wR (dem x4) (dem v2) (Value.bool false) S1) (fun v3 S2=>gdK (dem v3) true (zA Try.prog 48 x1 4) S2 (fun v5 S3=>gdK (dem v3) true (jf Try.prog false 3 v5) S3 (fun v6 S4=>gdK (dem v3) true (wB Try.prog BinOp.eql 3 v6 (Value.int IntKind.i64 (-1))) S4 (fun v7 S5=>gdK (dem v3) true (ret v7) S5 (fun v8 S6=>gdK (dem v8) false (zA Try.prog 48 x1 4) S6 (fun v9 S7=>gdK (dem v8) false (jf Try.prog false 3 v9) S7 (fun n6 S8=>gdK (dem v8) false ((zW Try.prog O) 53 [(dem n6)]) S8 (fun n7 S9=>gdK (dem v3) true (wR (dem v8) (Value.bool true) n7) S9 (fun n5 n9=>zI (wR (dem v3) n5 (Value.bool false) n9) (fun n8 o0=>some ([x0,x1,n8,x3,dem x4,x5,x6,x7,x8,x9,c6,c7,c8,c9,d0,d1,d2,d3,d4,d5,d6,d7,d8,d9,f0,f1,f2,f3,f4,f5,f6,f7,f8,f9,g0,g1,g2,g3,g4,g5,g6,g7,g8,g9,i0,i1,i2,i3,i4,i5,i6,i7,i8,i9,j0,j1,j2,j3,j4,j5,c5,j6,j7,j8,j9,k0,k1,k2,k3,k4,k5,k6,k7,k8,k9,l0,l1,l2,l3,l4,l5,l6,l7,l8,l9,m0,m1,m2,m3,m4,m5,m6,m7,m8,m9,n0,n1,n2,n3,n4,b,c,d,f,g,i,k,l,m,n,o,p,q,r,s,t,u,w,x,y,z,A,B,C,D,E,F,G,H,I,J,K,L,M,N,P,Q,R,U,c4,V,W,x4,dem x4,dem v2,v3,dem v3,v5,v6,v7,dem v8,v9,n6,n7,n5,dem n8,b1,b2,b3,b4,b5,b6,b7,b8,b9,c0,c1,c2,c3],o0)) ()) ()) ()) ()) ()) ()) ()) ()) ()) ()) ()):=by
 refine sP Try.f34 18 0 (v:=x4) ?_
 refine sP Try.f34 18 1 (v:=x4) ?_
 refine sG Try.f34 18 2 (j:=1) (fun v2 S1=>?_)
 refine sD Try.f34 18 3 (fun v3 S2=>?_)
 refine sP Try.f34 18 4 (v:=v3) ?_
 refine sG Try.f34 18 5 (j:=4) (fun v5 S3=>?_)
 refine sG Try.f34 18 6 (j:=4) (fun v6 S4=>?_)
 refine sG Try.f34 18 7 (j:=4) (fun v7 S5=>?_)
 refine sG Try.f34 18 8 (j:=4) (fun v8 S6=>?_)
 refine sG Try.f34 18 9 (j:=8) (fun v9 S7=>?_)
 refine sG Try.f34 18 10 (j:=8) (fun n6 S8=>?_)
 refine sG Try.f34 18 11 (j:=8) (fun n7 S9=>?_)
 refine sG Try.f34 18 12 (j:=4) (fun n5 n9=>?_)
 refine sD Try.f34 18 13 (fun n8 o0=>?_)
 refine sP Try.f34 18 14 (v:=n8) ?_
 kernel_rfl
theorem zk.r19 :jw Try.prog ⟨false,false,false⟩ (zW Try.prog O) (reg Try.f34 19) (reg Try.f34 19).toList ([x0,x1,x2,x3,x4,x5,x6,x7,x8,x9,c6,c7,c8,c9,d0,d1,d2,d3,d4,d5,d6,d7,d8,d9,f0,f1,f2,f3,f4,f5,f6,f7,f8,f9,g0,g1,g2,g3,g4,g5,g6,g7,g8,g9,i0,i1,i2,i3,i4,i5,i6,i7,i8,i9,j0,j1,j2,j3,j4,j5,c5,j6,j7,j8,j9,k0,k1,k2,k3,k4,k5,k6,k7,k8,k9,l0,l1,l2,l3,l4,l5,l6,l7,l8,l9,m0,m1,m2,m3,m4,m5,m6,m7,m8,m9,n0,n1,n2,n3,n4,b,c,d,f,g,i,k,l,m,n,o,p,q,r,s,t,u,w,x,y,z,A,B,C,D,E,F,G,H,I,J,K,L,M,N,P,Q,R,U,c4,V,W,X,Y,Z,a0,a1,a2,a3,a4,a5,a6,a7,a8,a9,b0,b1,b2,b3,b4,b5,b6,b7,b8,b9,c0,c1,c2,c3]) S =
  (zI (wB Try.prog BinOp.eql 3 c5 (Value.int IntKind.i64 6) S) (fun v0 S1=>some ([x0,x1,x2,x3,x4,x5,x6,x7,x8,x9,c6,c7,c8,c9,d0,d1,d2,d3,d4,d5,d6,d7,d8,d9,f0,f1,f2,f3,f4,f5,f6,f7,f8,f9,g0,g1,g2,g3,g4,g5,g6,g7,g8,g9,i0,i1,i2,i3,i4,i5,i6,i7,i8,i9,j0,j1,j2,j3,j4,j5,c5,j6,j7,j8,j9,k0,k1,k2,k3,k4,k5,k6,k7,k8,k9,l0,l1,l2,l3,l4,l5,l6,l7,l8,l9,m0,m1,m2,m3,m4,m5,m6,m7,m8,m9,n0,n1,n2,n3,n4,b,c,d,f,g,i,k,l,m,n,o,p,q,r,s,t,u,w,x,y,z,A,B,C,D,E,F,G,H,I,J,K,L,M,N,P,Q,R,U,c4,V,W,X,Y,Z,a0,a1,a2,a3,a4,a5,a6,a7,a8,a9,b0,v0,dem v0,b3,b4,b5,b6,b7,b8,b9,c0,c1,c2,c3],S1)) ()):=by
 kernel_rfl
theorem zk.r20 :jw Try.prog ⟨false,false,false⟩ (zW Try.prog O) (reg Try.f34 20) (reg Try.f34 20).toList ([x0,x1,x2,x3,x4,x5,x6,x7,x8,x9,c6,c7,c8,c9,d0,d1,d2,d3,d4,d5,d6,d7,d8,d9,f0,f1,f2,f3,f4,f5,f6,f7,f8,f9,g0,g1,g2,g3,g4,g5,g6,g7,g8,g9,i0,i1,i2,i3,i4,i5,i6,i7,i8,i9,j0,j1,j2,j3,j4,j5,c5,j6,j7,j8,j9,k0,k1,k2,k3,k4,k5,k6,k7,k8,k9,l0,l1,l2,l3,l4,l5,l6,l7,l8,l9,m0,m1,m2,m3,m4,m5,m6,m7,m8,m9,n0,n1,n2,n3,n4,b,c,d,f,g,i,k,l,m,n,o,p,q,r,s,t,u,w,x,y,z,A,B,C,D,E,F,G,H,I,J,K,L,M,N,P,Q,R,U,c4,V,W,X,Y,Z,a0,a1,a2,a3,a4,a5,a6,a7,a8,a9,b0,b1,b2,b3,b4,b5,b6,b7,b8,b9,c0,c1,c2,c3]) S =
  (gdK (dem x4) true (zA Try.prog 48 x1 3) S (fun v2 S1=>gdK (dem x4) true (jf Try.prog false 3 v2) S1 (fun v3 S2=>gdK (dem x4) true (wB Try.prog BinOp.eql 3 v3 (Value.int IntKind.i64 0)) S2 (fun v4 S3=>zI (wR (dem x4) v4 (Value.bool false) S3) (fun v5 S4=>gdK (dem v5) true (zA Try.prog 48 x1 4) S4 (fun v7 S5=>gdK (dem v5) true (jf Try.prog false 3 v7) S5 (fun v8 S6=>gdK (dem v5) true ((zW Try.prog O) 53 [(dem v8)]) S6 (fun v9 S7=>zI (wR (dem v5) v9 (Value.bool false) S7) (fun n6 S8=>some ([x0,x1,n6,x3,dem x4,x5,x6,x7,x8,x9,c6,c7,c8,c9,d0,d1,d2,d3,d4,d5,d6,d7,d8,d9,f0,f1,f2,f3,f4,f5,f6,f7,f8,f9,g0,g1,g2,g3,g4,g5,g6,g7,g8,g9,i0,i1,i2,i3,i4,i5,i6,i7,i8,i9,j0,j1,j2,j3,j4,j5,c5,j6,j7,j8,j9,k0,k1,k2,k3,k4,k5,k6,k7,k8,k9,l0,l1,l2,l3,l4,l5,l6,l7,l8,l9,m0,m1,m2,m3,m4,m5,m6,m7,m8,m9,n0,n1,n2,n3,n4,b,c,d,f,g,i,k,l,m,n,o,p,q,r,s,t,u,w,x,y,z,A,B,C,D,E,F,G,H,I,J,K,L,M,N,P,Q,R,U,c4,V,W,X,Y,Z,a0,a1,a2,a3,a4,a5,a6,a7,a8,a9,b0,b1,b2,x4,dem x4,v2,v3,v4,v5,dem v5,v7,v8,v9,dem n6],S8)) ()) ()) ()) ()) ()) ()) ()) ()):=by
 refine sP Try.f34 20 0 (v:=x4) ?_
 refine sP Try.f34 20 1 (v:=x4) ?_
 refine sG Try.f34 20 2 (j:=1) (fun v2 S1=>?_)
 refine sG Try.f34 20 3 (j:=1) (fun v3 S2=>?_)
 refine sG Try.f34 20 4 (j:=1) (fun v4 S3=>?_)
 refine sD Try.f34 20 5 (fun v5 S4=>?_)
 refine sP Try.f34 20 6 (v:=v5) ?_
 refine sG Try.f34 20 7 (j:=6) (fun v7 S5=>?_)
 refine sG Try.f34 20 8 (j:=6) (fun v8 S6=>?_)
 refine sG Try.f34 20 9 (j:=6) (fun v9 S7=>?_)
 refine sD Try.f34 20 10 (fun n6 S8=>?_)
 refine sP Try.f34 20 11 (v:=n6) ?_
 kernel_rfl
theorem zk.r21 :jw Try.prog ⟨false,false,false⟩ (zW Try.prog O) (reg Try.f34 21) (reg Try.f34 21).toList ([x0,x1,x2,x3,x4,x5,x6,x7,x8,x9,c6,c7,c8,c9,d0,d1,d2,d3,d4,d5,d6,d7,d8,d9,f0,f1,f2,f3,f4,f5,f6,f7,f8,f9,g0,g1,g2,g3,g4,g5,g6,g7,g8,g9,i0,i1,i2,i3,i4,i5,i6,i7,i8,i9,j0,j1,j2,j3,j4,j5,c5,j6,j7,j8,j9,k0,k1,k2,k3,k4,k5,k6,k7,k8,k9,l0,l1,l2,l3,l4,l5,l6,l7,l8,l9,m0,m1,m2,m3,m4,m5,m6,m7,m8,m9,n0,n1,n2,n3,n4,b,c,d,f,g,i,k,l,m,n,o,p,q,r,s,t,u,w,x,y,z,A,B,C,D,E,F,G,H,I,J,K,L,M,N,P,Q,R,U,c4,V,W,X,Y,Z,a0,a1,a2,a3,a4,a5,a6,a7,a8,a9,b0,b1,b2,b3,b4,b5,b6,b7,b8,b9,c0,c1,c2,c3]) S =
  ( some ([x0,x1,Value.bool false,x3,x4,x5,x6,x7,x8,x9,c6,c7,c8,c9,d0,d1,d2,d3,d4,d5,d6,d7,d8,d9,f0,f1,f2,f3,f4,f5,f6,f7,f8,f9,g0,g1,g2,g3,g4,g5,g6,g7,g8,g9,i0,i1,i2,i3,i4,i5,i6,i7,i8,i9,j0,j1,j2,j3,j4,j5,c5,j6,j7,j8,j9,k0,k1,k2,k3,k4,k5,k6,k7,k8,k9,l0,l1,l2,l3,l4,l5,l6,l7,l8,l9,m0,m1,m2,m3,m4,m5,m6,m7,m8,m9,n0,n1,n2,n3,n4,b,c,d,f,g,i,k,l,m,n,o,p,q,r,s,t,u,w,x,y,z,A,B,C,D,E,F,G,H,I,J,K,L,M,N,P,Q,R,U,c4,V,W,X,Y,Z,a0,a1,a2,a3,a4,a5,a6,a7,a8,a9,b0,b1,b2,b3,b4,b5,b6,b7,b8,b9,c0,c1,c2,c3],S)):=by
 kernel_rfl
theorem zk.rs:type_of% (ak5 @zk.r0 (ak5 @zk.r1 (ak5 @zk.r2 (ak5 @zk.r3 (ak5 @zk.r4 (ak5 @zk.r5 (ak5 @zk.r6 (ak5 @zk.r7 (ak5 @zk.r8 (ak5 @zk.r9 (ak5 @zk.r10 (ak5 @zk.r11 (ak5 @zk.r12 (ak5 @zk.r13 (ak5 @zk.r14 (ak5 @zk.r15 (ak5 @zk.r16 (ak5 @zk.r17 (ak5 @zk.r18 (ak5 @zk.r19 (ak5 @zk.r20 (@zk.r21)))))))))))))))))))))):=ak5 @zk.r0 (ak5 @zk.r1 (ak5 @zk.r2 (ak5 @zk.r3 (ak5 @zk.r4 (ak5 @zk.r5 (ak5 @zk.r6 (ak5 @zk.r7 (ak5 @zk.r8 (ak5 @zk.r9 (ak5 @zk.r10 (ak5 @zk.r11 (ak5 @zk.r12 (ak5 @zk.r13 (ak5 @zk.r14 (ak5 @zk.r15 (ak5 @zk.r16 (ak5 @zk.r17 (ak5 @zk.r18 (ak5 @zk.r19 (ak5 @zk.r20 (@zk.r21)))))))))))))))))))))
theorem zk.runs {x0:Value} {S S1:zn} {e:AEx} {T:List Value} (h:zG Try.prog O false zk.code ([x0,zh,zh,zh,zh,zh,zh,zh,zh,zh,zh,zh,zh,zh,zh,zh,zh,zh,zh,zh,zh,zh,zh,zh,zh,zh,zh,zh,zh,zh,zh,zh,zh,zh,zh,zh,zh,zh,zh,zh,zh,zh,zh,zh,zh,zh,zh,zh,zh,zh,zh,zh,zh,zh,zh,zh,zh,zh,zh,zh,zh,zh,zh,zh,zh,zh,zh,zh,zh,zh,zh,zh,zh,zh,zh,zh,zh,zh,zh,zh,zh,zh,zh,zh,zh,zh,zh,zh,zh,zh,zh,zh,zh,zh,zh,zh,zh,zh,zh,zh,zh,zh,zh,zh,zh,zh,zh,zh,zh,zh,zh,zh,zh,zh,zh,zh,zh,zh,zh,zh,zh,zh,zh,zh,zh,zh,zh,zh,zh,zh,zh,zh,zh,zh,zh,zh,zh,zh,zh,zh,zh,zh,zh,zh,zh,zh,zh,zh,zh,zh,zh,zh,zh,zh,zh,zh,zh,zh,zh,zh,zh,zh,zh,zh,zh,zh,zh,zh,zh]) zn.empty=some (e,T,S1)) (he:e=.normal∨e=.ret) (hca:[x0].all (jP 16)=true) (hcv:jP 16 (T.getD 2 zh)=true):zW Try.prog O 34 [x0] S=some (T.getD 2 zh,S) :=
 yu rfl rfl Try.func34 (by decide) zk.body (by exact h) he (yA (a:=T.getD 2 zh) ((show zK Try.prog T S1 Try.f34.results.toList=zK Try.prog T S1 [(ResultVar.tmp 2)] from by kernel_rfl).trans (by simp only [zK])) (by kernel_rfl)) hca hcv
end Go.Proofs.Ytfjogganfjkckaa
namespace Go.Proofs.Ytfjogganfjkckaa
open Go.Abs
abbrev jE.id:FuncId:=53
noncomputable def jE.code:Code:=(Code.seq (Code.region 0 (reg Try.f53 0) false) (Code.seq (Code.region 1 (reg Try.f53 1) false) (Code.seq (Code.region 2 (reg Try.f53 2) false) Code.ret)))
theorem jE.body:Try.f53.body=some jE.code:=by kernel_rfl
variable (b r B u w x s y z A f g i k l m n o p:Value) (S:zn)
theorem jE.r0 :jw Try.prog ⟨false,false,false⟩ (zW Try.prog O) (reg Try.f53 0) (reg Try.f53 0).toList ([b,r,B,u,w,x,s,y,z,A,f,g,i,k,l,m,n,o,p]) S =
  ( some ([b,r,Value.bool false,u,w,x,s,y,z,A,f,g,i,k,l,m,n,o,p],S)):=by
 kernel_rfl
theorem jE.r1 :jw Try.prog ⟨false,false,false⟩ (zW Try.prog O) (reg Try.f53 1) (reg Try.f53 1).toList ([b,r,B,u,w,x,s,y,z,A,f,g,i,k,l,m,n,o,p]) S =
  (zI ((zW Try.prog O) 51 [(dem (dem b))] S) (fun c d=>zI (zU c 0 d) (fun t C=>zI (zU (zO 0 c) 1 C) (fun q D=>zI (zU (zO 1 (zO 0 c)) 2 D) (fun E G=>zI (zU (zO 2 (zO 1 (zO 0 c))) 3 G) (fun F H=>some ([b,r,B,t,q,E,F,zO 3 (zO 2 (zO 1 (zO 0 c))),dem b,dem c,dem t,dem q,dem E,dem F,l,m,n,o,p],H)) ()) ()) ()) ()) ()):=by
 kernel_rfl
theorem jE.r2 :jw Try.prog ⟨false,false,false⟩ (zW Try.prog O) (reg Try.f53 2) (reg Try.f53 2).toList ([b,r,B,u,w,x,s,y,z,A,f,g,i,k,l,m,n,o,p]) S =
  (zI (wB Try.prog BinOp.eql 3 (dem b) (Value.int IntKind.i64 0) S) (fun c d=>gdK (dem c) false (ret s) d (fun t C=>zI (wR (dem c) (Value.bool true) (dem t) C) (fun q D=>some ([b,r,q,u,w,x,s,y,z,A,f,g,i,k,dem b,c,dem c,dem t,dem q],D)) ()) ()) ()):=by
 refine sP Try.f53 2 0 (v:=b) ?_
 refine sD Try.f53 2 1 (fun c d=>?_)
 refine sP Try.f53 2 2 (v:=c) ?_
 refine sG Try.f53 2 3 (j:=2) (fun t C=>?_)
 refine sD Try.f53 2 4 (fun q D=>?_)
 refine sP Try.f53 2 5 (v:=q) ?_
 kernel_rfl
theorem jE.rs:type_of% (ak5 @jE.r0 (ak5 @jE.r1 (@jE.r2))):=ak5 @jE.r0 (ak5 @jE.r1 (@jE.r2))
theorem jE.runs {b:Value} {S d:zn} {e:AEx} {T:List Value} (h:zG Try.prog O false jE.code ([b,zh,zh,zh,zh,zh,zh,zh,zh,zh,zh,zh,zh,zh,zh,zh,zh,zh,zh]) S=some (e,T,d)) (he:e=.normal∨e=.ret):zW Try.prog O 53 [b] S=some (T.getD 2 zh,d) :=
 yD rfl rfl Try.func53 (by decide) jE.body (by exact h) he (yA (a:=T.getD 2 zh) ((show zK Try.prog T d Try.f53.results.toList=zK Try.prog T d [(ResultVar.tmp 2)] from by kernel_rfl).trans (by simp only [zK])) (by kernel_rfl))
end Go.Proofs.Ytfjogganfjkckaa
namespace Go.Proofs.Ytfjogganfjkckaa
open Go.Abs
abbrev jF.id:FuncId:=52
noncomputable def jF.code:Code:=(Code.seq (Code.region 0 (reg Try.f52 0) false) (Code.seq (Code.region 1 (reg Try.f52 1) false) Code.ret))
theorem jF.body:Try.f52.body=some jF.code:=by kernel_rfl
variable (b d k g i j:Value) (S:zn)
theorem jF.r0 :jw Try.prog ⟨false,false,false⟩ (zW Try.prog O) (reg Try.f52 0) (reg Try.f52 0).toList ([b,d,k,g,i,j]) S =
  (zI (JJ (dem b) S) (fun f c=>some ([b,f,Value.bool false,g,i,j],c)) ()):=by
 kernel_rfl
theorem jF.r1 :jw Try.prog ⟨false,false,false⟩ (zW Try.prog O) (reg Try.f52 1) (reg Try.f52 1).toList ([b,d,k,g,i,j]) S =
  (zI (jf Try.prog false 46 d S) (fun f c=>zI (yg Try.prog 46 [] c) (fun l n=>zI ((zW Try.prog O) 18 [(dem f),(dem l)] n) (fun m o=>some ([b,d,m,f,l,dem m],o)) ()) ()) ()):=by
 kernel_rfl
theorem jF.rs:type_of% (ak5 @jF.r0 (@jF.r1)):=ak5 @jF.r0 (@jF.r1)
theorem jF.runs {b:Value} {S c:zn} {e:AEx} {T:List Value} (h:zG Try.prog O false jF.code ([b,zh,zh,zh,zh,zh]) zn.empty=some (e,T,c)) (he:e=.normal∨e=.ret) (hca:[b].all (jP 16)=true) (hcv:jP 16 (T.getD 2 zh)=true):zW Try.prog O 52 [b] S=some (T.getD 2 zh,S) :=
 yu rfl rfl Try.func52 (by decide) jF.body (by exact h) he (yA (a:=T.getD 2 zh) ((show zK Try.prog T c Try.f52.results.toList=zK Try.prog T c [(ResultVar.tmp 2)] from by kernel_rfl).trans (by simp only [zK])) (by kernel_rfl)) hca hcv
end Go.Proofs.Ytfjogganfjkckaa
namespace Go.Proofs.Ytfjogganfjkckaa
open Go.Abs
abbrev jk.id:FuncId:=67
noncomputable def jk.code:Code:=(Code.seq (Code.region 0 (reg Try.f67 0) false) (Code.seq (Code.region 1 (reg Try.f67 1) false) (Code.seq (Code.seq (Code.region 2 (reg Try.f67 2) false) (Code.block 0 (Code.seq (Code.block 6 (Code.seq (Code.block 5 (Code.seq (Code.block 4 (Code.seq (Code.block 3 (Code.seq (Code.block 2 (Code.seq (Code.block 1 (Code.seq (Code.seq (Code.seq (Code.region 3 (reg Try.f67 3) false) (Code.cond (Operand.tmp 11) (Code.exit 1) Code.skip)) (Code.seq (Code.seq (Code.region 4 (reg Try.f67 4) false) (Code.cond (Operand.tmp 13) (Code.exit 2) Code.skip)) (Code.seq (Code.seq (Code.region 5 (reg Try.f67 5) false) (Code.cond (Operand.tmp 15) (Code.exit 3) Code.skip)) (Code.seq (Code.seq (Code.region 6 (reg Try.f67 6) false) (Code.cond (Operand.tmp 17) (Code.exit 4) Code.skip)) (Code.seq (Code.seq (Code.seq (Code.region 7 (reg Try.f67 7) false) (Code.cond (Operand.tmp 19) Code.skip (Code.region 8 (reg Try.f67 8) false))) (Code.cond (Operand.tmp 19) (Code.exit 5) Code.skip)) (Code.seq (Code.region 9 (reg Try.f67 9) false) (Code.cond (Operand.tmp 22) (Code.exit 6) Code.skip))))))) (Code.exit 0))) (Code.seq (Code.region 10 (reg Try.f67 10) false) (Code.exit 0)))) (Code.seq (Code.region 11 (reg Try.f67 11) false) (Code.exit 0)))) (Code.seq (Code.region 12 (reg Try.f67 12) false) (Code.exit 0)))) (Code.region 13 (reg Try.f67 13) false))) (Code.region 14 (reg Try.f67 14) false))) (Code.seq (Code.region 15 (reg Try.f67 15) true) (Code.exit 0))))) (Code.seq (Code.region 16 (reg Try.f67 16) false) Code.ret))))
theorem jk.body:Try.f67.body=some jk.code:=by kernel_rfl
variable (U P V Q W X Y Z x8 x9 b d f g i j k l m N n o p q r s t u v w x y z A B C D E F G H I J K L M:Value) (S:zn)
theorem jk.r0 :jw Try.prog ⟨false,false,false⟩ (zW Try.prog O) (reg Try.f67 0) (reg Try.f67 0).toList ([U,P,V,Q,W,X,Y,Z,x8,x9,b,d,f,g,i,j,k,l,m,N,n,o,p,q,r,s,t,u,v,w,x,y,z,A,B,C,D,E,F,G,H,I,J,K,L,M]) S =
  (zI (JJ (dem U) S) (fun c R=>zI (yG Try.prog 48 R) (fun v1 S2=>some ([U,c,v1,Q,W,X,Y,Z,x8,x9,b,d,f,g,i,j,k,l,m,N,n,o,p,q,r,s,t,u,v,w,x,y,z,A,B,C,D,E,F,G,H,I,J,K,L,M],S2)) ()) ()):=by
 kernel_rfl
theorem jk.r1 :jw Try.prog ⟨false,false,false⟩ (zW Try.prog O) (reg Try.f67 1) (reg Try.f67 1).toList ([U,P,V,Q,W,X,Y,Z,x8,x9,b,d,f,g,i,j,k,l,m,N,n,o,p,q,r,s,t,u,v,w,x,y,z,A,B,C,D,E,F,G,H,I,J,K,L,M]) S =
  (zI (zA Try.prog 48 P 0 S) (fun c R=>zI (jf Try.prog false 3 c R) (fun v1 S2=>zI (zA Try.prog 48 P 1 S2) (fun v2 S3=>zI (jf Try.prog false 3 v2 S3) (fun v3 S4=>zI (yg Try.prog 48 [(0,(dem v1)),(1,(dem v3))] S4) (fun v4 S5=>zI (yG Try.prog 48 S5) (fun v5 S6=>zI (wM Try.prog 48 v5 (dem v4) S6) (fun v6 S7=>some ([U,P,V,v5,c,v1,v2,v3,v4,x9,b,d,f,g,i,j,k,l,m,N,n,o,p,q,r,s,t,u,v,w,x,y,z,A,B,C,D,E,F,G,H,I,J,K,L,M],S7)) ()) ()) ()) ()) ()) ()) ()):=by
 kernel_rfl
theorem jk.r2 :jw Try.prog ⟨false,false,false⟩ (zW Try.prog O) (reg Try.f67 2) (reg Try.f67 2).toList ([U,P,V,Q,W,X,Y,Z,x8,x9,b,d,f,g,i,j,k,l,m,N,n,o,p,q,r,s,t,u,v,w,x,y,z,A,B,C,D,E,F,G,H,I,J,K,L,M]) S =
  (zI (zA Try.prog 48 P 0 S) (fun c R=>zI (jf Try.prog false 3 c R) (fun v1 S2=>some ([U,P,V,Q,W,X,Y,Z,x8,c,v1,d,f,g,i,j,k,l,m,N,n,o,p,q,r,s,t,u,v,w,x,y,z,A,B,C,D,E,F,G,H,I,J,K,L,M],S2)) ()) ()):=by
 kernel_rfl
theorem jk.r3 :jw Try.prog ⟨false,false,false⟩ (zW Try.prog O) (reg Try.f67 3) (reg Try.f67 3).toList ([U,P,V,Q,W,X,Y,Z,x8,x9,b,d,f,g,i,j,k,l,m,N,n,o,p,q,r,s,t,u,v,w,x,y,z,A,B,C,D,E,F,G,H,I,J,K,L,M]) S =
  (zI (wB Try.prog BinOp.eql 3 b (Value.int IntKind.i64 0) S) (fun c R=>some ([U,P,V,Q,W,X,Y,Z,x8,x9,b,c,dem c,g,i,j,k,l,m,N,n,o,p,q,r,s,t,u,v,w,x,y,z,A,B,C,D,E,F,G,H,I,J,K,L,M],R)) ()):=by
 kernel_rfl
theorem jk.r4 :jw Try.prog ⟨false,false,false⟩ (zW Try.prog O) (reg Try.f67 4) (reg Try.f67 4).toList ([U,P,V,Q,W,X,Y,Z,x8,x9,b,d,f,g,i,j,k,l,m,N,n,o,p,q,r,s,t,u,v,w,x,y,z,A,B,C,D,E,F,G,H,I,J,K,L,M]) S =
  (zI (wB Try.prog BinOp.eql 3 b (Value.int IntKind.i64 1) S) (fun c R=>some ([U,P,V,Q,W,X,Y,Z,x8,x9,b,d,f,c,dem c,j,k,l,m,N,n,o,p,q,r,s,t,u,v,w,x,y,z,A,B,C,D,E,F,G,H,I,J,K,L,M],R)) ()):=by
 kernel_rfl
theorem jk.r5 :jw Try.prog ⟨false,false,false⟩ (zW Try.prog O) (reg Try.f67 5) (reg Try.f67 5).toList ([U,P,V,Q,W,X,Y,Z,x8,x9,b,d,f,g,i,j,k,l,m,N,n,o,p,q,r,s,t,u,v,w,x,y,z,A,B,C,D,E,F,G,H,I,J,K,L,M]) S =
  (zI (wB Try.prog BinOp.eql 3 b (Value.int IntKind.i64 2) S) (fun c R=>some ([U,P,V,Q,W,X,Y,Z,x8,x9,b,d,f,g,i,c,dem c,l,m,N,n,o,p,q,r,s,t,u,v,w,x,y,z,A,B,C,D,E,F,G,H,I,J,K,L,M],R)) ()):=by
 kernel_rfl
theorem jk.r6 :jw Try.prog ⟨false,false,false⟩ (zW Try.prog O) (reg Try.f67 6) (reg Try.f67 6).toList ([U,P,V,Q,W,X,Y,Z,x8,x9,b,d,f,g,i,j,k,l,m,N,n,o,p,q,r,s,t,u,v,w,x,y,z,A,B,C,D,E,F,G,H,I,J,K,L,M]) S =
  (zI (wB Try.prog BinOp.eql 3 b (Value.int IntKind.i64 3) S) (fun c R=>some ([U,P,V,Q,W,X,Y,Z,x8,x9,b,d,f,g,i,j,k,c,dem c,N,n,o,p,q,r,s,t,u,v,w,x,y,z,A,B,C,D,E,F,G,H,I,J,K,L,M],R)) ()):=by
 kernel_rfl
theorem jk.r7 :jw Try.prog ⟨false,false,false⟩ (zW Try.prog O) (reg Try.f67 7) (reg Try.f67 7).toList ([U,P,V,Q,W,X,Y,Z,x8,x9,b,d,f,g,i,j,k,l,m,N,n,o,p,q,r,s,t,u,v,w,x,y,z,A,B,C,D,E,F,G,H,I,J,K,L,M]) S =
  (zI (wB Try.prog BinOp.eql 3 b (Value.int IntKind.i64 4) S) (fun c R=>some ([U,P,V,Q,W,X,Y,Z,x8,x9,b,d,f,g,i,j,k,l,m,c,dem c,o,p,q,r,s,t,u,v,w,x,y,z,A,B,C,D,E,F,G,H,I,J,K,L,M],R)) ()):=by
 kernel_rfl
theorem jk.r8 :jw Try.prog ⟨false,false,false⟩ (zW Try.prog O) (reg Try.f67 8) (reg Try.f67 8).toList ([U,P,V,Q,W,X,Y,Z,x8,x9,b,d,f,g,i,j,k,l,m,N,n,o,p,q,r,s,t,u,v,w,x,y,z,A,B,C,D,E,F,G,H,I,J,K,L,M]) S =
  (zI (wB Try.prog BinOp.eql 3 b (Value.int IntKind.i64 5) S) (fun c R=>some ([U,P,V,Q,W,X,Y,Z,x8,x9,b,d,f,g,i,j,k,l,m,c,n,dem c,p,q,r,s,t,u,v,w,x,y,z,A,B,C,D,E,F,G,H,I,J,K,L,M],R)) ()):=by
 kernel_rfl
theorem jk.r9 :jw Try.prog ⟨false,false,false⟩ (zW Try.prog O) (reg Try.f67 9) (reg Try.f67 9).toList ([U,P,V,Q,W,X,Y,Z,x8,x9,b,d,f,g,i,j,k,l,m,N,n,o,p,q,r,s,t,u,v,w,x,y,z,A,B,C,D,E,F,G,H,I,J,K,L,M]) S =
  (zI (wB Try.prog BinOp.eql 3 b (Value.int IntKind.i64 6) S) (fun c R=>some ([U,P,V,Q,W,X,Y,Z,x8,x9,b,d,f,g,i,j,k,l,m,N,n,o,c,dem c,r,s,t,u,v,w,x,y,z,A,B,C,D,E,F,G,H,I,J,K,L,M],R)) ()):=by
 kernel_rfl
theorem jk.r10 :jw Try.prog ⟨false,false,false⟩ (zW Try.prog O) (reg Try.f67 10) (reg Try.f67 10).toList ([U,P,V,Q,W,X,Y,Z,x8,x9,b,d,f,g,i,j,k,l,m,N,n,o,p,q,r,s,t,u,v,w,x,y,z,A,B,C,D,E,F,G,H,I,J,K,L,M]) S =
  (zI (zA Try.prog 48 P 6 S) (fun c R=>zI (jf Try.prog false 43 c R) (fun v1 S2=>zI (zA Try.prog 48 Q 6 S2) (fun v2 S3=>zI (wM Try.prog 43 v2 (dem v1) S3) (fun v3 S4=>some ([U,P,V,Q,W,X,Y,Z,x8,x9,b,d,f,g,i,j,k,l,m,N,n,o,p,q,c,v1,v2,u,v,w,x,y,z,A,B,C,D,E,F,G,H,I,J,K,L,M],S4)) ()) ()) ()) ()):=by
 kernel_rfl
theorem jk.r11 :jw Try.prog ⟨false,false,false⟩ (zW Try.prog O) (reg Try.f67 11) (reg Try.f67 11).toList ([U,P,V,Q,W,X,Y,Z,x8,x9,b,d,f,g,i,j,k,l,m,N,n,o,p,q,r,s,t,u,v,w,x,y,z,A,B,C,D,E,F,G,H,I,J,K,L,M]) S =
  (zI (zA Try.prog 48 P 7 S) (fun c R=>zI (jf Try.prog false 46 c R) (fun v1 S2=>zI (zA Try.prog 48 Q 7 S2) (fun v2 S3=>zI (wM Try.prog 46 v2 (dem v1) S3) (fun v3 S4=>some ([U,P,V,Q,W,X,Y,Z,x8,x9,b,d,f,g,i,j,k,l,m,N,n,o,p,q,r,s,t,c,v1,v2,x,y,z,A,B,C,D,E,F,G,H,I,J,K,L,M],S4)) ()) ()) ()) ()):=by
 kernel_rfl
theorem jk.r12 :jw Try.prog ⟨false,false,false⟩ (zW Try.prog O) (reg Try.f67 12) (reg Try.f67 12).toList ([U,P,V,Q,W,X,Y,Z,x8,x9,b,d,f,g,i,j,k,l,m,N,n,o,p,q,r,s,t,u,v,w,x,y,z,A,B,C,D,E,F,G,H,I,J,K,L,M]) S =
  (zI (zA Try.prog 48 P 4 S) (fun c R=>zI (jf Try.prog false 3 c R) (fun v1 S2=>zI (zA Try.prog 48 Q 4 S2) (fun v2 S3=>zI (wM Try.prog 3 v2 (dem v1) S3) (fun v3 S4=>some ([U,P,V,Q,W,X,Y,Z,x8,x9,b,d,f,g,i,j,k,l,m,N,n,o,p,q,r,s,t,u,v,w,c,v1,v2,A,B,C,D,E,F,G,H,I,J,K,L,M],S4)) ()) ()) ()) ()):=by
 kernel_rfl
theorem jk.r13 :jw Try.prog ⟨false,false,false⟩ (zW Try.prog O) (reg Try.f67 13) (reg Try.f67 13).toList ([U,P,V,Q,W,X,Y,Z,x8,x9,b,d,f,g,i,j,k,l,m,N,n,o,p,q,r,s,t,u,v,w,x,y,z,A,B,C,D,E,F,G,H,I,J,K,L,M]) S =
  (zI (zA Try.prog 48 P 5 S) (fun c R=>zI (jf Try.prog false 3 c R) (fun v1 S2=>zI (zA Try.prog 48 Q 5 S2) (fun v2 S3=>zI (wM Try.prog 3 v2 (dem v1) S3) (fun v3 S4=>some ([U,P,V,Q,W,X,Y,Z,x8,x9,b,d,f,g,i,j,k,l,m,N,n,o,p,q,r,s,t,u,v,w,x,y,z,c,v1,v2,D,E,F,G,H,I,J,K,L,M],S4)) ()) ()) ()) ()):=by
 kernel_rfl
theorem jk.r14 :jw Try.prog ⟨false,false,false⟩ (zW Try.prog O) (reg Try.f67 14) (reg Try.f67 14).toList ([U,P,V,Q,W,X,Y,Z,x8,x9,b,d,f,g,i,j,k,l,m,N,n,o,p,q,r,s,t,u,v,w,x,y,z,A,B,C,D,E,F,G,H,I,J,K,L,M]) S =
  (zI (zA Try.prog 48 P 3 S) (fun c R=>zI (jf Try.prog false 3 c R) (fun v1 S2=>zI (zA Try.prog 48 Q 3 S2) (fun v2 S3=>zI (wM Try.prog 3 v2 (dem v1) S3) (fun v3 S4=>some ([U,P,V,Q,W,X,Y,Z,x8,x9,b,d,f,g,i,j,k,l,m,N,n,o,p,q,r,s,t,u,v,w,x,y,z,A,B,C,c,v1,v2,G,H,I,J,K,L,M],S4)) ()) ()) ()) ()):=by
 kernel_rfl
theorem jk.d15:qW Try.prog (reg Try.f67 15)=true:=by kernel_rfl
theorem jk.akY:fixed Try.prog (reg Try.f67 15)=false:=by kernel_rfl
theorem jk.k15:checked Try.prog (reg Try.f67 15)=[2,3]:=by kernel_rfl
theorem jk.g15:again Try.prog (reg Try.f67 15)=[(3,5)]:=by kernel_rfl
theorem jk.r15 :zG Try.prog O false (.region 15 (reg Try.f67 15) true) ([U,P,V,Q,W,X,Y,Z,x8,x9,b,d,f,g,i,j,k,l,m,N,n,o,p,q,r,s,t,u,v,w,x,y,z,A,B,C,D,E,F,G,H,I,J,K,L,M]) S =
  Jb (zI (zA Try.prog 48 P 2 S) (fun c R=>zI (jf Try.prog false 3 c R) (fun v1 S2=>zI (zA Try.prog 48 P 4 S2) (fun v2 S3=>okK v2 ( zI (jf Try.prog false 3 v2 S3) (fun v3 S4=>okK v3 ( zI (zA Try.prog 48 Q 2 S4) (fun v4 S5=>zI (wM Try.prog 3 v4 (dem v1) S5) (fun v5 S6=>zI (zA Try.prog 48 Q 4 S6) (fun v6 S7=>zI (wM Try.prog 3 v6 (dem v3) S7) (fun v7 S8=>ckK (qK v2 S3 S6 && (true)) (some ([U,P,V,Q,W,X,Y,Z,x8,x9,b,d,f,g,i,j,k,l,m,N,n,o,p,q,r,s,t,u,v,w,x,y,z,A,B,C,D,E,F,c,v1,v2,v3,v4,v6,M],S8)) ()) ()) ()) ()) ()) ()) ()) ()) ()) ()) ()):=by
 rw [yF jk.d15 jk.akY jk.k15 jk.g15]
 refine congrArg Jb ?_
 refine uD Try.f67 15 0 (pe:=zh) (fun c R=>?_)
 refine uD Try.f67 15 1 (pe:=c) (fun v1 S2=>?_)
 refine uDC Try.f67 15 2 (pe:=zh) (fun v2 S3=>?_)
 refine uDC Try.f67 15 3 (pe:=v2) (fun v3 S4=>?_)
 refine uD Try.f67 15 4 (pe:=zh) (fun v4 S5=>?_)
 refine uD Try.f67 15 5 (pe:=zh) (fun v5 S6=>?_)
 refine uD Try.f67 15 6 (pe:=zh) (fun v6 S7=>?_)
 refine uD Try.f67 15 7 (pe:=zh) (fun v7 S8=>?_)
 kernel_rfl
theorem jk.r16 :jw Try.prog ⟨false,false,false⟩ (zW Try.prog O) (reg Try.f67 16) (reg Try.f67 16).toList ([U,P,V,Q,W,X,Y,Z,x8,x9,b,d,f,g,i,j,k,l,m,N,n,o,p,q,r,s,t,u,v,w,x,y,z,A,B,C,D,E,F,G,H,I,J,K,L,M]) S =
  (zI (jf Try.prog false 48 Q S) (fun c R=>zI (wM Try.prog 48 V (dem c) R) (fun v1 S2=>some ([U,P,V,Q,W,X,Y,Z,x8,x9,b,d,f,g,i,j,k,l,m,N,n,o,p,q,r,s,t,u,v,w,x,y,z,A,B,C,D,E,F,G,H,I,J,K,L,c],S2)) ()) ()):=by
 kernel_rfl
theorem jk.rs:type_of% (ak5 @jk.r0 (ak5 @jk.r1 (ak5 @jk.r2 (ak5 @jk.r3 (ak5 @jk.r4 (ak5 @jk.r5 (ak5 @jk.r6 (ak5 @jk.r7 (ak5 @jk.r8 (ak5 @jk.r9 (ak5 @jk.r10 (ak5 @jk.r11 (ak5 @jk.r12 (ak5 @jk.r13 (ak5 @jk.r14 (ak5 @jk.r15 (@jk.r16))))))))))))))))):=ak5 @jk.r0 (ak5 @jk.r1 (ak5 @jk.r2 (ak5 @jk.r3 (ak5 @jk.r4 (ak5 @jk.r5 (ak5 @jk.r6 (ak5 @jk.r7 (ak5 @jk.r8 (ak5 @jk.r9 (ak5 @jk.r10 (ak5 @jk.r11 (ak5 @jk.r12 (ak5 @jk.r13 (ak5 @jk.r14 (ak5 @jk.r15 (@jk.r16))))))))))))))))
theorem jk.runs {U:Value} {S R:zn} {e:AEx} {T:List Value} (h:zG Try.prog O false jk.code ([U,zh,zh,zh,zh,zh,zh,zh,zh,zh,zh,zh,zh,zh,zh,zh,zh,zh,zh,zh,zh,zh,zh,zh,zh,zh,zh,zh,zh,zh,zh,zh,zh,zh,zh,zh,zh,zh,zh,zh,zh,zh,zh,zh,zh,zh]) zn.empty=some (e,T,R)) (he:e=.normal∨e=.ret) {w0:Value} (c0:jf Try.prog false 48 (T.getD 2 zh) R=some (w0,R)) (hca:[U].all (jP 16)=true) (hcv:jP 16 (w0)=true):zW Try.prog O 67 [U] S=some (w0,S) :=
 yu rfl rfl Try.func67 (by decide) jk.body (by exact h) he (yA (a:=w0) ((show zK Try.prog T R Try.f67.results.toList=zK Try.prog T R [(ResultVar.cell 2 48)] from by kernel_rfl).trans (by simp only [zK,c0])) (by kernel_rfl)) hca hcv
end Go.Proofs.Ytfjogganfjkckaa
namespace Go.Proofs.Ytfjogganfjkckaa
open Go.Abs
abbrev wS.id:FuncId:=66
noncomputable def wS.code:Code:=(Code.seq (Code.region 0 (reg Try.f66 0) false) (Code.seq (Code.region 1 (reg Try.f66 1) false) (Code.seq (Code.region 2 (reg Try.f66 2) false) Code.ret)))
theorem wS.body:Try.f66.body=some wS.code:=by kernel_rfl
variable (o p l m x4 g x6 x7 x8 x9 z A B C D E F G H I J K L M N P Q R U V W X Y Z a0 a1 a2 a3 a4 a5 a6 a7 a8 a9 b0 b1 b2 b3 b4 b5 b6 b7 b8 b9 c0 c1 c2 c3 c4 c5 c6:Value) (S:zn)
theorem wS.r0 :jw Try.prog ⟨false,false,false⟩ (zW Try.prog O) (reg Try.f66 0) (reg Try.f66 0).toList ([o,p,l,m,x4,g,x6,x7,x8,x9,z,A,B,C,D,E,F,G,H,I,J,K,L,M,N,P,Q,R,U,V,W,X,Y,Z,a0,a1,a2,a3,a4,a5,a6,a7,a8,a9,b0,b1,b2,b3,b4,b5,b6,b7,b8,b9,c0,c1,c2,c3,c4,c5,c6]) S =
  (zI (JJ (dem o) S) (fun v0 q=>zI (JJ (dem p) q) (fun v1 S2=>some ([o,p,v0,v1,Value.bool false,g,x6,x7,x8,x9,z,A,B,C,D,E,F,G,H,I,J,K,L,M,N,P,Q,R,U,V,W,X,Y,Z,a0,a1,a2,a3,a4,a5,a6,a7,a8,a9,b0,b1,b2,b3,b4,b5,b6,b7,b8,b9,c0,c1,c2,c3,c4,c5,c6],S2)) ()) ()):=by
 kernel_rfl
theorem wS.r1 :jw Try.prog ⟨false,false,false⟩ (zW Try.prog O) (reg Try.f66 1) (reg Try.f66 1).toList ([o,p,l,m,x4,g,x6,x7,x8,x9,z,A,B,C,D,E,F,G,H,I,J,K,L,M,N,P,Q,R,U,V,W,X,Y,Z,a0,a1,a2,a3,a4,a5,a6,a7,a8,a9,b0,b1,b2,b3,b4,b5,b6,b7,b8,b9,c0,c1,c2,c3,c4,c5,c6]) S =
  (zI (zA Try.prog 48 l 0 S) (fun v0 q=>zI (jf Try.prog false 3 v0 q) (fun v1 S2=>zI (zA Try.prog 48 m 0 S2) (fun v2 S3=>zI (jf Try.prog false 3 v2 S3) (fun v3 S4=>zI (wB Try.prog BinOp.eql 3 v1 v3 S4) (fun i S5=>gdK (dem i) true (zA Try.prog 48 l 1) S5 (fun v6 S6=>gdK (dem i) true (jf Try.prog false 3 v6) S6 (fun k S7=>gdK (dem i) true (zA Try.prog 48 m 1) S7 (fun v8 S8=>gdK (dem i) true (jf Try.prog false 3 v8) S8 (fun v9 S9=>gdK (dem i) true (wB Try.prog BinOp.eql 3 k v9) S9 (fun r c7=>zI (wR (dem i) r (Value.bool false) c7) (fun b c8=>gdK (dem b) true (zA Try.prog 48 l 2) c8 (fun s c9=>gdK (dem b) true (jf Try.prog false 3 s) c9 (fun c d0=>gdK (dem b) true (zA Try.prog 48 m 2) d0 (fun f2 d1=>gdK (dem b) true (jf Try.prog false 3 f2) d1 (fun t d2=>gdK (dem b) true (wB Try.prog BinOp.eql 3 c t) d2 (fun u d3=>zI (wR (dem b) u (Value.bool false) d3) (fun d d4=>gdK (dem d) true (zA Try.prog 48 l 3) d4 (fun w d5=>gdK (dem d) true (jf Try.prog false 3 w) d5 (fun f d6=>gdK (dem d) true (zA Try.prog 48 m 3) d6 (fun f3 d7=>gdK (dem d) true (jf Try.prog false 3 f3) d7 (fun x d8=>gdK (dem d) true (wB Try.prog BinOp.eql 3 f x) d8 (fun y d9=>zI (wR (dem d) y (Value.bool false) d9) (fun n f0=>some ([o,p,l,m,x4,n,v0,v1,v2,v3,i,dem i,v6,k,v8,v9,r,b,dem b,s,c,f2,t,u,d,dem d,w,f,f3,x,y,dem n,Y,Z,a0,a1,a2,a3,a4,a5,a6,a7,a8,a9,b0,b1,b2,b3,b4,b5,b6,b7,b8,b9,c0,c1,c2,c3,c4,c5,c6],f0)) ()) ()) ()) ()) ()) ()) ()) ()) ()) ()) ()) ()) ()) ()) ()) ()) ()) ()) ()) ()) ()) ()) ()):=by
 refine sD Try.f66 1 0 (fun v0 q=>?_)
 refine sD Try.f66 1 1 (fun v1 S2=>?_)
 refine sD Try.f66 1 2 (fun v2 S3=>?_)
 refine sD Try.f66 1 3 (fun v3 S4=>?_)
 refine sD Try.f66 1 4 (fun i S5=>?_)
 refine sP Try.f66 1 5 (v:=i) ?_
 refine sG Try.f66 1 6 (j:=5) (fun v6 S6=>?_)
 refine sG Try.f66 1 7 (j:=5) (fun k S7=>?_)
 refine sG Try.f66 1 8 (j:=5) (fun v8 S8=>?_)
 refine sG Try.f66 1 9 (j:=5) (fun v9 S9=>?_)
 refine sG Try.f66 1 10 (j:=5) (fun r c7=>?_)
 refine sD Try.f66 1 11 (fun b c8=>?_)
 refine sP Try.f66 1 12 (v:=b) ?_
 refine sG Try.f66 1 13 (j:=12) (fun s c9=>?_)
 refine sG Try.f66 1 14 (j:=12) (fun c d0=>?_)
 refine sG Try.f66 1 15 (j:=12) (fun f2 d1=>?_)
 refine sG Try.f66 1 16 (j:=12) (fun t d2=>?_)
 refine sG Try.f66 1 17 (j:=12) (fun u d3=>?_)
 refine sD Try.f66 1 18 (fun d d4=>?_)
 refine sP Try.f66 1 19 (v:=d) ?_
 refine sG Try.f66 1 20 (j:=19) (fun w d5=>?_)
 refine sG Try.f66 1 21 (j:=19) (fun f d6=>?_)
 refine sG Try.f66 1 22 (j:=19) (fun f3 d7=>?_)
 refine sG Try.f66 1 23 (j:=19) (fun x d8=>?_)
 refine sG Try.f66 1 24 (j:=19) (fun y d9=>?_)
 refine sD Try.f66 1 25 (fun n f0=>?_)
 refine sP Try.f66 1 26 (v:=n) ?_
 kernel_rfl
theorem wS.r2 :jw Try.prog ⟨false,false,false⟩ (zW Try.prog O) (reg Try.f66 2) (reg Try.f66 2).toList ([o,p,l,m,x4,g,x6,x7,x8,x9,z,A,B,C,D,E,F,G,H,I,J,K,L,M,N,P,Q,R,U,V,W,X,Y,Z,a0,a1,a2,a3,a4,a5,a6,a7,a8,a9,b0,b1,b2,b3,b4,b5,b6,b7,b8,b9,c0,c1,c2,c3,c4,c5,c6]) S =
  (gdK (dem g) true (zA Try.prog 48 l 4) S (fun v2 q=>gdK (dem g) true (jf Try.prog false 3 v2) q (fun v3 S2=>gdK (dem g) true (zA Try.prog 48 m 4) S2 (fun i S3=>gdK (dem g) true (jf Try.prog false 3 i) S3 (fun v5 S4=>gdK (dem g) true (wB Try.prog BinOp.eql 3 v3 v5) S4 (fun v6 S5=>zI (wR (dem g) v6 (Value.bool false) S5) (fun k S6=>gdK (dem k) true (zA Try.prog 48 l 5) S6 (fun v9 S7=>gdK (dem k) true (jf Try.prog false 3 v9) S7 (fun r S8=>gdK (dem k) true (zA Try.prog 48 m 5) S8 (fun b S9=>gdK (dem k) true (jf Try.prog false 3 b) S9 (fun f4 c7=>gdK (dem k) true (wB Try.prog BinOp.eql 3 r f4) c7 (fun s c8=>zI (wR (dem k) s (Value.bool false) c8) (fun c c9=>gdK (dem c) true (zA Try.prog 48 l 6) c9 (fun t d0=>gdK (dem c) true (jf Try.prog false 43 t) d0 (fun u d1=>gdK (dem c) true (zA Try.prog 48 m 6) d1 (fun d d2=>gdK (dem c) true (jf Try.prog false 43 d) d2 (fun f5 d3=>gdK (dem c) true (wB Try.prog BinOp.eql 43 u f5) d3 (fun w d4=>zI (wR (dem c) w (Value.bool false) d4) (fun f d5=>gdK (dem f) true (zA Try.prog 48 l 7) d5 (fun x d6=>gdK (dem f) true (jf Try.prog false 46 x) d6 (fun y d7=>gdK (dem f) true (zA Try.prog 48 m 7) d7 (fun n d8=>gdK (dem f) true (jf Try.prog false 46 n) d8 (fun f6 d9=>gdK (dem f) true ((zW Try.prog O) 73 [(dem y),(dem f6)]) d9 (fun f7 f0=>zI (wR (dem f) f7 (Value.bool false) f0) (fun f1 f8=>some ([o,p,l,m,f1,dem g,x6,x7,x8,x9,z,A,B,C,D,E,F,G,H,I,J,K,L,M,N,P,Q,R,U,V,W,X,g,dem g,v2,v3,i,v5,v6,k,dem k,v9,r,b,f4,s,c,dem c,t,u,d,f5,w,f,dem f,x,y,n,f6,f7,dem f1],f8)) ()) ()) ()) ()) ()) ()) ()) ()) ()) ()) ()) ()) ()) ()) ()) ()) ()) ()) ()) ()) ()) ()) ()) ()):=by
 refine sP Try.f66 2 0 (v:=g) ?_
 refine sP Try.f66 2 1 (v:=g) ?_
 refine sG Try.f66 2 2 (j:=1) (fun v2 q=>?_)
 refine sG Try.f66 2 3 (j:=1) (fun v3 S2=>?_)
 refine sG Try.f66 2 4 (j:=1) (fun i S3=>?_)
 refine sG Try.f66 2 5 (j:=1) (fun v5 S4=>?_)
 refine sG Try.f66 2 6 (j:=1) (fun v6 S5=>?_)
 refine sD Try.f66 2 7 (fun k S6=>?_)
 refine sP Try.f66 2 8 (v:=k) ?_
 refine sG Try.f66 2 9 (j:=8) (fun v9 S7=>?_)
 refine sG Try.f66 2 10 (j:=8) (fun r S8=>?_)
 refine sG Try.f66 2 11 (j:=8) (fun b S9=>?_)
 refine sG Try.f66 2 12 (j:=8) (fun f4 c7=>?_)
 refine sG Try.f66 2 13 (j:=8) (fun s c8=>?_)
 refine sD Try.f66 2 14 (fun c c9=>?_)
 refine sP Try.f66 2 15 (v:=c) ?_
 refine sG Try.f66 2 16 (j:=15) (fun t d0=>?_)
 refine sG Try.f66 2 17 (j:=15) (fun u d1=>?_)
 refine sG Try.f66 2 18 (j:=15) (fun d d2=>?_)
 refine sG Try.f66 2 19 (j:=15) (fun f5 d3=>?_)
 refine sG Try.f66 2 20 (j:=15) (fun w d4=>?_)
 refine sD Try.f66 2 21 (fun f d5=>?_)
 refine sP Try.f66 2 22 (v:=f) ?_
 refine sG Try.f66 2 23 (j:=22) (fun x d6=>?_)
 refine sG Try.f66 2 24 (j:=22) (fun y d7=>?_)
 refine sG Try.f66 2 25 (j:=22) (fun n d8=>?_)
 refine sG Try.f66 2 26 (j:=22) (fun f6 d9=>?_)
 refine sG Try.f66 2 27 (j:=22) (fun f7 f0=>?_)
 refine sD Try.f66 2 28 (fun f1 f8=>?_)
 refine sP Try.f66 2 29 (v:=f1) ?_
 kernel_rfl
theorem wS.rs:type_of% (ak5 @wS.r0 (ak5 @wS.r1 (@wS.r2))):=ak5 @wS.r0 (ak5 @wS.r1 (@wS.r2))
theorem wS.runs {o p:Value} {S q:zn} {e:AEx} {T:List Value} (h:zG Try.prog O false wS.code ([o,p,zh,zh,zh,zh,zh,zh,zh,zh,zh,zh,zh,zh,zh,zh,zh,zh,zh,zh,zh,zh,zh,zh,zh,zh,zh,zh,zh,zh,zh,zh,zh,zh,zh,zh,zh,zh,zh,zh,zh,zh,zh,zh,zh,zh,zh,zh,zh,zh,zh,zh,zh,zh,zh,zh,zh,zh,zh,zh,zh]) zn.empty=some (e,T,q)) (he:e=.normal∨e=.ret) (hca:[o,p].all (jP 16)=true) (hcv:jP 16 (T.getD 4 zh)=true):zW Try.prog O 66 [o,p] S=some (T.getD 4 zh,S) :=
 yu rfl rfl Try.func66 (by decide) wS.body (by exact h) he (yA (a:=T.getD 4 zh) ((show zK Try.prog T q Try.f66.results.toList=zK Try.prog T q [(ResultVar.tmp 4)] from by kernel_rfl).trans (by simp only [zK])) (by kernel_rfl)) hca hcv
end Go.Proofs.Ytfjogganfjkckaa
namespace Go.Proofs.Ytfjogganfjkckaa
open Go.Abs
abbrev wz.id:FuncId:=69
noncomputable def wz.code:Code:=(Code.seq (Code.region 0 (reg Try.f69 0) false) (Code.seq (Code.region 1 (reg Try.f69 1) false) (Code.seq (Code.region 2 (reg Try.f69 2) false) Code.ret)))
theorem wz.body:Try.f69.body=some wz.code:=by kernel_rfl
variable (c f x2 L M N P Q R U k l m n o p q r s t u w x y z A B C D:Value) (S:zn)
theorem wz.r0 :jw Try.prog ⟨false,false,false⟩ (zW Try.prog O) (reg Try.f69 0) (reg Try.f69 0).toList ([c,f,x2,L,M,N,P,Q,R,U,k,l,m,n,o,p,q,r,s,t,u,w,x,y,z,A,B,C,D]) S =
  (zI (JJ (dem c) S) (fun i d=>some ([c,i,Value.bool false,L,M,N,P,Q,R,U,k,l,m,n,o,p,q,r,s,t,u,w,x,y,z,A,B,C,D],d)) ()):=by
 kernel_rfl
theorem wz.r1 :jw Try.prog ⟨false,false,false⟩ (zW Try.prog O) (reg Try.f69 1) (reg Try.f69 1).toList ([c,f,x2,L,M,N,P,Q,R,U,k,l,m,n,o,p,q,r,s,t,u,w,x,y,z,A,B,C,D]) S =
  (zI (zA Try.prog 48 f 0 S) (fun i d=>zI (jf Try.prog false 3 i d) (fun G V=>zI (wB Try.prog BinOp.eql 3 G (Value.int IntKind.i64 4) V) (fun b W=>gdK (dem b) false (zA Try.prog 48 f 0) W (fun H X=>gdK (dem b) false (jf Try.prog false 3 H) X (fun I Y=>gdK (dem b) false (wB Try.prog BinOp.eql 3 I (Value.int IntKind.i64 5)) Y (fun J Z=>zI (wR (dem b) (Value.bool true) J Z) (fun E S7=>some ([c,f,x2,E,i,G,b,dem b,H,I,J,dem E,m,n,o,p,q,r,s,t,u,w,x,y,z,A,B,C,D],S7)) ()) ()) ()) ()) ()) ()) ()):=by
 refine sD Try.f69 1 0 (fun i d=>?_)
 refine sD Try.f69 1 1 (fun G V=>?_)
 refine sD Try.f69 1 2 (fun b W=>?_)
 refine sP Try.f69 1 3 (v:=b) ?_
 refine sG Try.f69 1 4 (j:=3) (fun H X=>?_)
 refine sG Try.f69 1 5 (j:=3) (fun I Y=>?_)
 refine sG Try.f69 1 6 (j:=3) (fun J Z=>?_)
 refine sD Try.f69 1 7 (fun E S7=>?_)
 refine sP Try.f69 1 8 (v:=E) ?_
 kernel_rfl
theorem wz.r2 :jw Try.prog ⟨false,false,false⟩ (zW Try.prog O) (reg Try.f69 2) (reg Try.f69 2).toList ([c,f,x2,L,M,N,P,Q,R,U,k,l,m,n,o,p,q,r,s,t,u,w,x,y,z,A,B,C,D]) S =
  (zI (zA Try.prog 48 f 4 S) (fun i d=>zI (jf Try.prog false 3 i d) (fun G V=>zI (wB Try.prog BinOp.eql 3 G (Value.int IntKind.i64 0) V) (fun b W=>gdK (dem b) false (zA Try.prog 48 f 4) W (fun H X=>gdK (dem b) false (jf Try.prog false 3 H) X (fun I Y=>gdK (dem b) false ((zW Try.prog O) 74 [(dem I)]) Y (fun J Z=>gdK (dem b) false (wB Try.prog BinOp.gtr 3 J (Value.int IntKind.i64 0)) Z (fun E S7=>zI (wR (dem b) (Value.bool true) E S7) (fun F S8=>gdK (dem F) false (ret L) S8 (fun a0 S9=>gdK (dem F) false (ret a0) S9 (fun g a5=>gdK (dem g) true (zA Try.prog 48 f 4) a5 (fun a1 a6=>gdK (dem g) true (jf Try.prog false 3 a1) a6 (fun a2 a7=>gdK (dem g) true (wB Try.prog BinOp.eql 3 a2 (Value.int IntKind.i64 (-1))) a7 (fun a3 a8=>gdK (dem F) false (wR (dem g) a3 (Value.bool false)) a8 (fun a4 a9=>zI (wR (dem F) (Value.bool true) a4 a9) (fun K b0=>some ([c,f,K,dem L,M,N,P,Q,R,U,k,l,i,G,b,dem b,H,I,J,E,F,dem F,a0,dem g,a1,a2,a3,a4,dem K],b0)) ()) ()) ()) ()) ()) ()) ()) ()) ()) ()) ()) ()) ()) ()) ()):=by
 refine sD Try.f69 2 0 (fun i d=>?_)
 refine sD Try.f69 2 1 (fun G V=>?_)
 refine sD Try.f69 2 2 (fun b W=>?_)
 refine sP Try.f69 2 3 (v:=b) ?_
 refine sG Try.f69 2 4 (j:=3) (fun H X=>?_)
 refine sG Try.f69 2 5 (j:=3) (fun I Y=>?_)
 refine sG Try.f69 2 6 (j:=3) (fun J Z=>?_)
 refine sG Try.f69 2 7 (j:=3) (fun E S7=>?_)
 refine sD Try.f69 2 8 (fun F S8=>?_)
 refine sP Try.f69 2 9 (v:=F) ?_
 refine sG Try.f69 2 10 (j:=9) (fun a0 S9=>?_)
 refine sG Try.f69 2 11 (j:=9) (fun g a5=>?_)
 refine sG Try.f69 2 12 (j:=11) (fun a1 a6=>?_)
 refine sG Try.f69 2 13 (j:=11) (fun a2 a7=>?_)
 refine sG Try.f69 2 14 (j:=11) (fun a3 a8=>?_)
 refine sG Try.f69 2 15 (j:=9) (fun a4 a9=>?_)
 refine sD Try.f69 2 16 (fun K b0=>?_)
 refine sP Try.f69 2 17 (v:=K) ?_
 kernel_rfl
theorem wz.rs:type_of% (ak5 @wz.r0 (ak5 @wz.r1 (@wz.r2))):=ak5 @wz.r0 (ak5 @wz.r1 (@wz.r2))
theorem wz.runs {c:Value} {S d:zn} {e:AEx} {T:List Value} (h:zG Try.prog O false wz.code ([c,zh,zh,zh,zh,zh,zh,zh,zh,zh,zh,zh,zh,zh,zh,zh,zh,zh,zh,zh,zh,zh,zh,zh,zh,zh,zh,zh,zh]) zn.empty=some (e,T,d)) (he:e=.normal∨e=.ret) (hca:[c].all (jP 16)=true) (hcv:jP 16 (T.getD 2 zh)=true):zW Try.prog O 69 [c] S=some (T.getD 2 zh,S) :=
 yu rfl rfl Try.func69 (by decide) wz.body (by exact h) he (yA (a:=T.getD 2 zh) ((show zK Try.prog T d Try.f69.results.toList=zK Try.prog T d [(ResultVar.tmp 2)] from by kernel_rfl).trans (by simp only [zK])) (by kernel_rfl)) hca hcv
end Go.Proofs.Ytfjogganfjkckaa
namespace Go.Proofs.Ytfjogganfjkckaa
open Go.Abs
abbrev kL.id:FuncId:=44
noncomputable def kL.code:Code:=(Code.seq (Code.region 0 (reg Try.f44 0) false) (Code.seq (Code.region 1 (reg Try.f44 1) false) Code.ret))
theorem kL.body:Try.f44.body=some kL.code:=by kernel_rfl
variable (b d k f g i j:Value) (S:zn)
theorem kL.r0 :jw Try.prog ⟨false,false,false⟩ (zW Try.prog O) (reg Try.f44 0) (reg Try.f44 0).toList ([b,d,k,f,g,i,j]) S =
  ( some ([b,d,Value.int IntKind.u64 0,f,g,i,j],S)):=by
 kernel_rfl
theorem kL.r1 :jw Try.prog ⟨false,false,false⟩ (zW Try.prog O) (reg Try.f44 1) (reg Try.f44 1).toList ([b,d,k,f,g,i,j]) S =
  (zI (qA Try.prog false false 3 73 (dem b) S) (fun l c=>zI (wB Try.prog BinOp.add 73 l (Value.int IntKind.u64 1) c) (fun m o=>zI (wB Try.prog BinOp.mul 73 m (Value.int IntKind.u64 11400714819323198485) o) (fun n p=>some ([b,d,n,dem b,l,m,dem n],p)) ()) ()) ()):=by
 kernel_rfl
theorem kL.rs:type_of% (ak5 @kL.r0 (@kL.r1)):=ak5 @kL.r0 (@kL.r1)
theorem kL.runs {b:Value} {S c:zn} {e:AEx} {T:List Value} (h:zG Try.prog O false kL.code ([b,zh,zh,zh,zh,zh,zh]) S=some (e,T,c)) (he:e=.normal∨e=.ret):zW Try.prog O 44 [b] S=some (T.getD 2 zh,c) :=
 yD rfl rfl Try.func44 (by decide) kL.body (by exact h) he (yA (a:=T.getD 2 zh) ((show zK Try.prog T c Try.f44.results.toList=zK Try.prog T c [(ResultVar.tmp 2)] from by kernel_rfl).trans (by simp only [zK])) (by kernel_rfl))
end Go.Proofs.Ytfjogganfjkckaa
namespace Go.Proofs.Ytfjogganfjkckaa
open Go.Abs
abbrev wI.id:FuncId:=59
noncomputable def wI.jL:Code:=(Code.seq (Code.region 6 (reg Try.f59 6) false) (Code.seq (Code.cond (Operand.tmp 21) Code.skip (Code.exit 2)) (Code.seq (Code.block 3 (Code.seq (Code.region 7 (reg Try.f59 7) false) (Code.region 8 (reg Try.f59 8) false))) (Code.region 9 (reg Try.f59 9) false))))
noncomputable def wI.kP:Code:=(Code.seq (Code.region 3 (reg Try.f59 3) false) (Code.seq (Code.cond (Operand.tmp 15) Code.skip (Code.exit 0)) (Code.seq (Code.block 1 (Code.seq (Code.region 4 (reg Try.f59 4) false) (Code.seq (Code.region 5 (reg Try.f59 5) false) (Code.block 2 (Code.loop wI.jL))))) (Code.region 10 (reg Try.f59 10) false))))
noncomputable def wI.code:Code:=(Code.seq (Code.region 0 (reg Try.f59 0) false) (Code.seq (Code.region 1 (reg Try.f59 1) false) (Code.seq (Code.seq (Code.region 2 (reg Try.f59 2) false) (Code.block 0 (Code.loop wI.kP))) (Code.seq (Code.region 11 (reg Try.f59 11) false) Code.ret))))
theorem wI.body:Try.f59.body=some wI.code:=by kernel_rfl
theorem wI.eta {T:List Value} (h:T.length=35):T=[T.getD 0 zh,T.getD 1 zh,T.getD 2 zh,T.getD 3 zh,T.getD 4 zh,T.getD 5 zh,T.getD 6 zh,T.getD 7 zh,T.getD 8 zh,T.getD 9 zh,T.getD 10 zh,T.getD 11 zh,T.getD 12 zh,T.getD 13 zh,T.getD 14 zh,T.getD 15 zh,T.getD 16 zh,T.getD 17 zh,T.getD 18 zh,T.getD 19 zh,T.getD 20 zh,T.getD 21 zh,T.getD 22 zh,T.getD 23 zh,T.getD 24 zh,T.getD 25 zh,T.getD 26 zh,T.getD 27 zh,T.getD 28 zh,T.getD 29 zh,T.getD 30 zh,T.getD 31 zh,T.getD 32 zh,T.getD 33 zh,T.getD 34 zh]:=(qC T 35 h).trans (by kernel_rfl)
variable (C D I J M E K G L H j k d f b l m n g i c o p q r s t u v w x y z A B:Value) (S:zn)
theorem wI.r0 :jw Try.prog ⟨false,false,false⟩ (zW Try.prog O) (reg Try.f59 0) (reg Try.f59 0).toList ([C,D,I,J,M,E,K,G,L,H,j,k,d,f,b,l,m,n,g,i,c,o,p,q,r,s,t,u,v,w,x,y,z,A,B]) S =
  ( some ([C,D,I,J,Value.int IntKind.u64 0,E,K,G,L,H,j,k,d,f,b,l,m,n,g,i,c,o,p,q,r,s,t,u,v,w,x,y,z,A,B],S)):=by
 kernel_rfl
theorem wI.r1 :jw Try.prog ⟨false,false,false⟩ (zW Try.prog O) (reg Try.f59 1) (reg Try.f59 1).toList ([C,D,I,J,M,E,K,G,L,H,j,k,d,f,b,l,m,n,g,i,c,o,p,q,r,s,t,u,v,w,x,y,z,A,B]) S =
  (zI (wB Try.prog BinOp.xor 73 (dem C) (Value.int IntKind.u64 14695981039346656037) S) (fun P F=>some ([C,D,I,J,M,P,K,G,L,H,dem C,dem P,d,f,b,l,m,n,g,i,c,o,p,q,r,s,t,u,v,w,x,y,z,A,B],F)) ()):=by
 kernel_rfl
theorem wI.r2 :jw Try.prog ⟨false,false,false⟩ (zW Try.prog O) (reg Try.f59 2) (reg Try.f59 2).toList ([C,D,I,J,M,E,K,G,L,H,j,k,d,f,b,l,m,n,g,i,c,o,p,q,r,s,t,u,v,w,x,y,z,A,B]) S =
  (zI (Zz Try.prog 29 (dem D) S) (fun P F=>some ([C,D,I,J,M,E,K,G,L,H,j,k,dem D,P,Value.int IntKind.i64 0,l,m,n,g,i,c,o,p,q,r,s,t,u,v,w,x,y,z,A,B],F)) ()):=by
 kernel_rfl
theorem wI.r3 :jw Try.prog ⟨false,false,false⟩ (zW Try.prog O) (reg Try.f59 3) (reg Try.f59 3).toList ([C,D,I,J,M,E,K,G,L,H,j,k,d,f,b,l,m,n,g,i,c,o,p,q,r,s,t,u,v,w,x,y,z,A,B]) S =
  (zI (wB Try.prog BinOp.lss 3 b f S) (fun N F=>some ([C,D,I,J,M,E,K,G,L,H,j,k,d,f,b,N,m,n,g,i,c,o,p,q,r,s,t,u,v,w,x,y,z,A,B],F)) ()):=by
 kernel_rfl
theorem wI.r4 :jw Try.prog ⟨false,false,false⟩ (zW Try.prog O) (reg Try.f59 4) (reg Try.f59 4).toList ([C,D,I,J,M,E,K,G,L,H,j,k,d,f,b,l,m,n,g,i,c,o,p,q,r,s,t,u,v,w,x,y,z,A,B]) S =
  (zI (jo Try.prog 29 d b S) (fun N F=>zI (jf Try.prog false 33 N F) (fun P Q=>some ([C,D,I,J,M,E,K,P,L,H,j,k,d,f,b,l,N,dem P,g,i,c,o,p,q,r,s,t,u,v,w,x,y,z,A,B],Q)) ()) ()):=by
 kernel_rfl
theorem wI.r5 :jw Try.prog ⟨false,false,false⟩ (zW Try.prog O) (reg Try.f59 5) (reg Try.f59 5).toList ([C,D,I,J,M,E,K,G,L,H,j,k,d,f,b,l,m,n,g,i,c,o,p,q,r,s,t,u,v,w,x,y,z,A,B]) S =
  (zI (Zz Try.prog 33 (dem G) S) (fun P F=>some ([C,D,I,J,M,E,K,G,L,H,j,k,d,f,b,l,m,n,dem G,P,Value.int IntKind.i64 0,o,p,q,r,s,t,u,v,w,x,y,z,A,B],F)) ()):=by
 kernel_rfl
theorem wI.r6 :jw Try.prog ⟨false,false,false⟩ (zW Try.prog O) (reg Try.f59 6) (reg Try.f59 6).toList ([C,D,I,J,M,E,K,G,L,H,j,k,d,f,b,l,m,n,g,i,c,o,p,q,r,s,t,u,v,w,x,y,z,A,B]) S =
  (zI (wB Try.prog BinOp.lss 3 c i S) (fun N F=>some ([C,D,I,J,M,E,K,G,L,H,j,k,d,f,b,l,m,n,g,i,c,N,p,q,r,s,t,u,v,w,x,y,z,A,B],F)) ()):=by
 kernel_rfl
theorem wI.r7 :jw Try.prog ⟨false,false,false⟩ (zW Try.prog O) (reg Try.f59 7) (reg Try.f59 7).toList ([C,D,I,J,M,E,K,G,L,H,j,k,d,f,b,l,m,n,g,i,c,o,p,q,r,s,t,u,v,w,x,y,z,A,B]) S =
  (zI (jo Try.prog 33 g c S) (fun N F=>zI (jf Try.prog false 5 N F) (fun P Q=>some ([C,D,I,J,M,E,K,G,L,P,j,k,d,f,b,l,m,n,g,i,c,o,N,dem P,r,s,t,u,v,w,x,y,z,A,B],Q)) ()) ()):=by
 kernel_rfl
theorem wI.r8 :jw Try.prog ⟨false,false,false⟩ (zW Try.prog O) (reg Try.f59 8) (reg Try.f59 8).toList ([C,D,I,J,M,E,K,G,L,H,j,k,d,f,b,l,m,n,g,i,c,o,p,q,r,s,t,u,v,w,x,y,z,A,B]) S =
  (zI (qA Try.prog false false 5 73 (dem H) S) (fun R F=>zI (wB Try.prog BinOp.xor 73 (dem E) R F) (fun U Q=>zI (wB Try.prog BinOp.mul 73 U (Value.int IntKind.u64 1099511628211) Q) (fun V W=>some ([C,D,I,J,M,V,K,G,L,H,j,k,d,f,b,l,m,n,g,i,c,o,p,q,dem E,dem H,R,U,dem V,w,x,y,z,A,B],W)) ()) ()) ()):=by
 kernel_rfl
theorem wI.r9 :jw Try.prog ⟨false,false,false⟩ (zW Try.prog O) (reg Try.f59 9) (reg Try.f59 9).toList ([C,D,I,J,M,E,K,G,L,H,j,k,d,f,b,l,m,n,g,i,c,o,p,q,r,s,t,u,v,w,x,y,z,A,B]) S =
  (zI (wB Try.prog BinOp.add 3 c (Value.int IntKind.i64 1) S) (fun N F=>some ([C,D,I,J,M,E,K,G,L,H,j,k,d,f,b,l,m,n,g,i,dem N,o,p,q,r,s,t,u,v,N,x,y,z,A,B],F)) ()):=by
 kernel_rfl
theorem wI.r10 :jw Try.prog ⟨false,false,false⟩ (zW Try.prog O) (reg Try.f59 10) (reg Try.f59 10).toList ([C,D,I,J,M,E,K,G,L,H,j,k,d,f,b,l,m,n,g,i,c,o,p,q,r,s,t,u,v,w,x,y,z,A,B]) S =
  (zI (wB Try.prog BinOp.add 3 b (Value.int IntKind.i64 1) S) (fun N F=>some ([C,D,I,J,M,E,K,G,L,H,j,k,d,f,dem N,l,m,n,g,i,c,o,p,q,r,s,t,u,v,w,N,y,z,A,B],F)) ()):=by
 kernel_rfl
theorem wI.r11 :jw Try.prog ⟨false,false,false⟩ (zW Try.prog O) (reg Try.f59 11) (reg Try.f59 11).toList ([C,D,I,J,M,E,K,G,L,H,j,k,d,f,b,l,m,n,g,i,c,o,p,q,r,s,t,u,v,w,x,y,z,A,B]) S =
  (zI (wB Try.prog BinOp.shr 73 (dem E) (Value.int IntKind.u64 29) S) (fun R F=>zI (wB Try.prog BinOp.xor 73 (dem E) R F) (fun U Q=>some ([C,D,I,J,U,E,K,G,L,H,j,k,d,f,b,l,m,n,g,i,c,o,p,q,r,s,t,u,v,w,x,dem E,dem E,R,dem U],Q)) ()) ()):=by
 kernel_rfl
theorem wI.rs:type_of% (ak5 @wI.r0 (ak5 @wI.r1 (ak5 @wI.r2 (ak5 @wI.r3 (ak5 @wI.r4 (ak5 @wI.r5 (ak5 @wI.r6 (ak5 @wI.r7 (ak5 @wI.r8 (ak5 @wI.r9 (ak5 @wI.r10 (@wI.r11)))))))))))):=ak5 @wI.r0 (ak5 @wI.r1 (ak5 @wI.r2 (ak5 @wI.r3 (ak5 @wI.r4 (ak5 @wI.r5 (ak5 @wI.r6 (ak5 @wI.r7 (ak5 @wI.r8 (ak5 @wI.r9 (ak5 @wI.r10 (@wI.r11)))))))))))
theorem wI.runs {C D:Value} {S F:zn} {e:AEx} {T:List Value} (h:zG Try.prog O false wI.code ([C,D,zh,zh,zh,zh,zh,zh,zh,zh,zh,zh,zh,zh,zh,zh,zh,zh,zh,zh,zh,zh,zh,zh,zh,zh,zh,zh,zh,zh,zh,zh,zh,zh,zh]) S=some (e,T,F)) (he:e=.normal∨e=.ret):zW Try.prog O 59 [C,D] S=some (T.getD 4 zh,F) :=
 yD rfl rfl Try.func59 (by decide) wI.body (by exact h) he (yA (a:=T.getD 4 zh) ((show zK Try.prog T F Try.f59.results.toList=zK Try.prog T F [(ResultVar.tmp 4)] from by kernel_rfl).trans (by simp only [zK])) (by kernel_rfl))
end Go.Proofs.Ytfjogganfjkckaa
namespace Go.Proofs.Ytfjogganfjkckaa
open Go.Abs
abbrev qm.id:FuncId:=43
noncomputable def qm.code:Code:=(Code.seq (Code.region 0 (reg Try.f43 0) false) (Code.seq (Code.region 1 (reg Try.f43 1) false) Code.ret))
theorem qm.body:Try.f43.body=some qm.code:=by kernel_rfl
variable (b c d k l m q n o p g i j:Value) (S:zn)
theorem qm.r0 :jw Try.prog ⟨false,false,false⟩ (zW Try.prog O) (reg Try.f43 0) (reg Try.f43 0).toList ([b,c,d,k,l,m,q,n,o,p,g,i,j]) S =
  ( some ([b,c,d,k,l,m,Value.bool false,n,o,p,g,i,j],S)):=by
 kernel_rfl
theorem qm.r1 :jw Try.prog ⟨false,false,false⟩ (zW Try.prog O) (reg Try.f43 1) (reg Try.f43 1).toList ([b,c,d,k,l,m,q,n,o,p,g,i,j]) S =
  (zI (jH Try.prog 29 1 [(0,(dem d))] S) (fun r f=>zI ((zW Try.prog O) 59 [(dem (dem b)),(dem r)] f) (fun s u=>zI (wB Try.prog BinOp.eql 73 s (dem c) u) (fun t v=>some ([b,c,d,k,l,m,t,dem b,dem d,r,s,dem c,dem t],v)) ()) ()) ()):=by
 kernel_rfl
theorem qm.rs:type_of% (ak5 @qm.r0 (@qm.r1)):=ak5 @qm.r0 (@qm.r1)
theorem qm.runs {b c d:Value} {S f:zn} {e:AEx} {T:List Value} (h:zG Try.prog O false qm.code ([b,c,d,zh,zh,zh,zh,zh,zh,zh,zh,zh,zh]) S=some (e,T,f)) (he:e=.normal∨e=.ret):zW Try.prog O 43 [b,c,d] S=some (T.getD 6 zh,f) :=
 yD rfl rfl Try.func43 (by decide) qm.body (by exact h) he (yA (a:=T.getD 6 zh) ((show zK Try.prog T f Try.f43.results.toList=zK Try.prog T f [(ResultVar.tmp 6)] from by kernel_rfl).trans (by simp only [zK])) (by kernel_rfl))
end Go.Proofs.Ytfjogganfjkckaa
namespace Go.Proofs.Ytfjogganfjkckaa
open Go.Abs
abbrev yT.id:FuncId:=40
variable (p q r s t u v w x y a b c d f g i j k l m n o:Value) (S:zn)
end Go.Proofs.Ytfjogganfjkckaa
namespace Go.Proofs.Ytfjogganfjkckaa
open Go.Abs
abbrev zX.id:FuncId:=39
noncomputable def zX.jL:Code:=(Code.seq (Code.seq (Code.region 3 (reg Try.f39 3) false) (Code.cond (Operand.tmp 12) Code.skip (Code.exit 0))) (Code.seq (Code.block 1 (Code.seq (Code.region 5 (reg Try.f39 5) false) (Code.region 6 (reg Try.f39 6) false))) (Code.region 4 (reg Try.f39 4) false)))
noncomputable def zX.code:Code:=(Code.seq (Code.region 0 (reg Try.f39 0) false) (Code.seq (Code.region 1 (reg Try.f39 1) false) (Code.seq (Code.seq (Code.region 2 (reg Try.f39 2) false) (Code.block 0 (Code.loop zX.jL))) (Code.seq (Code.region 7 (reg Try.f39 7) false) Code.ret))))
theorem zX.body:Try.f39.body=some zX.code:=by kernel_rfl
theorem zX.eta {T:List Value} (h:T.length=34):T=[T.getD 0 zh,T.getD 1 zh,T.getD 2 zh,T.getD 3 zh,T.getD 4 zh,T.getD 5 zh,T.getD 6 zh,T.getD 7 zh,T.getD 8 zh,T.getD 9 zh,T.getD 10 zh,T.getD 11 zh,T.getD 12 zh,T.getD 13 zh,T.getD 14 zh,T.getD 15 zh,T.getD 16 zh,T.getD 17 zh,T.getD 18 zh,T.getD 19 zh,T.getD 20 zh,T.getD 21 zh,T.getD 22 zh,T.getD 23 zh,T.getD 24 zh,T.getD 25 zh,T.getD 26 zh,T.getD 27 zh,T.getD 28 zh,T.getD 29 zh,T.getD 30 zh,T.getD 31 zh,T.getD 32 zh,T.getD 33 zh]:=(qC T 34 h).trans (by kernel_rfl)
variable (D c F G L b E I J K d f g i j k l m n o p q r s t u v w x y z A B C:Value) (S:zn)
theorem zX.r0 :jw Try.prog ⟨false,false,false⟩ (zW Try.prog O) (reg Try.f39 0) (reg Try.f39 0).toList ([D,c,F,G,L,b,E,I,J,K,d,f,g,i,j,k,l,m,n,o,p,q,r,s,t,u,v,w,x,y,z,A,B,C]) S =
  ( some ([D,c,F,G,Value.int IntKind.u64 0,b,E,I,J,K,d,f,g,i,j,k,l,m,n,o,p,q,r,s,t,u,v,w,x,y,z,A,B,C],S)):=by
 kernel_rfl
theorem zX.r1 :jw Try.prog ⟨false,false,false⟩ (zW Try.prog O) (reg Try.f39 1) (reg Try.f39 1).toList ([D,c,F,G,L,b,E,I,J,K,d,f,g,i,j,k,l,m,n,o,p,q,r,s,t,u,v,w,x,y,z,A,B,C]) S =
  (zI (wB Try.prog BinOp.xor 73 (dem D) (Value.int IntKind.u64 14695981039346656037) S) (fun N H=>some ([D,c,F,G,L,N,E,dem D,dem N,K,d,f,g,i,j,k,l,m,n,o,p,q,r,s,t,u,v,w,x,y,z,A,B,C],H)) ()):=by
 kernel_rfl
theorem zX.r2 :jw Try.prog ⟨false,false,false⟩ (zW Try.prog O) (reg Try.f39 2) (reg Try.f39 2).toList ([D,c,F,G,L,b,E,I,J,K,d,f,g,i,j,k,l,m,n,o,p,q,r,s,t,u,v,w,x,y,z,A,B,C]) S =
  ( some ([D,c,F,G,L,b,Value.int IntKind.i64 0,I,J,K,d,f,g,i,j,k,l,m,n,o,p,q,r,s,t,u,v,w,x,y,z,A,B,C],S)):=by
 kernel_rfl
theorem zX.r3 :jw Try.prog ⟨false,false,false⟩ (zW Try.prog O) (reg Try.f39 3) (reg Try.f39 3).toList ([D,c,F,G,L,b,E,I,J,K,d,f,g,i,j,k,l,m,n,o,p,q,r,s,t,u,v,w,x,y,z,A,B,C]) S =
  (zI (Zz Try.prog 33 (dem c) S) (fun Q H=>zI (wB Try.prog BinOp.lss 3 (dem E) Q H) (fun M P=>some ([D,c,F,G,L,b,E,I,J,dem E,dem c,Q,M,i,j,k,l,m,n,o,p,q,r,s,t,u,v,w,x,y,z,A,B,C],P)) ()) ()):=by
 kernel_rfl
theorem zX.r5 :jw Try.prog ⟨false,false,false⟩ (zW Try.prog O) (reg Try.f39 5) (reg Try.f39 5).toList ([D,c,F,G,L,b,E,I,J,K,d,f,g,i,j,k,l,m,n,o,p,q,r,s,t,u,v,w,x,y,z,A,B,C]) S =
  (zI (jo Try.prog 33 (dem c) (dem E) S) (fun M H=>zI (jf Try.prog false 5 M H) (fun R P=>zI (qA Try.prog false false 5 73 R P) (fun X V=>zI (wB Try.prog BinOp.xor 73 (dem b) X V) (fun U W=>some ([D,c,F,G,L,U,E,I,J,K,d,f,g,i,j,dem b,dem c,dem E,M,R,X,dem U,r,s,t,u,v,w,x,y,z,A,B,C],W)) ()) ()) ()) ()):=by
 kernel_rfl
theorem zX.r6 :jw Try.prog ⟨false,false,false⟩ (zW Try.prog O) (reg Try.f39 6) (reg Try.f39 6).toList ([D,c,F,G,L,b,E,I,J,K,d,f,g,i,j,k,l,m,n,o,p,q,r,s,t,u,v,w,x,y,z,A,B,C]) S =
  (zI (wB Try.prog BinOp.shl 73 (dem b) (Value.int IntKind.u64 40) S) (fun N H=>zI (wB Try.prog BinOp.shl 73 (dem b) (Value.int IntKind.u64 8) H) (fun M P=>zI (wB Try.prog BinOp.add 73 N M P) (fun R V=>zI (wB Try.prog BinOp.mul 73 (dem b) (Value.int IntKind.u64 179) V) (fun U W=>zI (wB Try.prog BinOp.add 73 R U W) (fun Y Z=>some ([D,c,F,G,L,Y,E,I,J,K,d,f,g,i,j,k,l,m,n,o,p,q,dem b,N,dem b,M,R,dem b,U,dem Y,z,A,B,C],Z)) ()) ()) ()) ()) ()):=by
 kernel_rfl
theorem zX.r4 :jw Try.prog ⟨false,false,false⟩ (zW Try.prog O) (reg Try.f39 4) (reg Try.f39 4).toList ([D,c,F,G,L,b,E,I,J,K,d,f,g,i,j,k,l,m,n,o,p,q,r,s,t,u,v,w,x,y,z,A,B,C]) S =
  (zI (wB Try.prog BinOp.add 3 (dem E) (Value.int IntKind.i64 1) S) (fun N H=>some ([D,c,F,G,L,b,N,I,J,K,d,f,g,dem E,dem N,k,l,m,n,o,p,q,r,s,t,u,v,w,x,y,z,A,B,C],H)) ()):=by
 kernel_rfl
theorem zX.r7 :jw Try.prog ⟨false,false,false⟩ (zW Try.prog O) (reg Try.f39 7) (reg Try.f39 7).toList ([D,c,F,G,L,b,E,I,J,K,d,f,g,i,j,k,l,m,n,o,p,q,r,s,t,u,v,w,x,y,z,A,B,C]) S =
  (zI (wB Try.prog BinOp.quo 73 (dem b) (Value.int IntKind.u64 536870912) S) (fun Q H=>zI (wB Try.prog BinOp.xor 73 (dem b) Q H) (fun M P=>some ([D,c,F,G,M,b,E,I,J,K,d,f,g,i,j,k,l,m,n,o,p,q,r,s,t,u,v,w,x,y,dem b,dem b,Q,dem M],P)) ()) ()):=by
 kernel_rfl
theorem zX.rs:type_of% (ak5 @zX.r0 (ak5 @zX.r1 (ak5 @zX.r2 (ak5 @zX.r3 (ak5 @zX.r5 (ak5 @zX.r6 (ak5 @zX.r4 (@zX.r7)))))))):=ak5 @zX.r0 (ak5 @zX.r1 (ak5 @zX.r2 (ak5 @zX.r3 (ak5 @zX.r5 (ak5 @zX.r6 (ak5 @zX.r4 (@zX.r7)))))))
theorem zX.runs {D c:Value} {S H:zn} {e:AEx} {T:List Value} (h:zG Try.prog O false zX.code ([D,c,zh,zh,zh,zh,zh,zh,zh,zh,zh,zh,zh,zh,zh,zh,zh,zh,zh,zh,zh,zh,zh,zh,zh,zh,zh,zh,zh,zh,zh,zh,zh,zh]) S=some (e,T,H)) (he:e=.normal∨e=.ret):zW Try.prog O 39 [D,c] S=some (T.getD 4 zh,H) :=
 yD rfl rfl Try.func39 (by decide) zX.body (by exact h) he (yA (a:=T.getD 4 zh) ((show zK Try.prog T H Try.f39.results.toList=zK Try.prog T H [(ResultVar.tmp 4)] from by kernel_rfl).trans (by simp only [zK])) (by kernel_rfl))
end Go.Proofs.Ytfjogganfjkckaa
namespace Go.Proofs.Ytfjogganfjkckaa
open Go.Abs
abbrev zL.id:FuncId:=55
noncomputable def zL.jL:Code:=(Code.seq (Code.region 6 (reg Try.f55 6) false) (Code.seq (Code.cond (Operand.tmp 22) Code.skip (Code.exit 0)) (Code.seq (Code.block 1 (Code.seq (Code.region 7 (reg Try.f55 7) false) (Code.seq (Code.seq (Code.region 8 (reg Try.f55 8) false) (Code.cond (Operand.tmp 34) (Code.seq (Code.region 9 (reg Try.f55 9) false) Code.ret) Code.skip)) (Code.seq (Code.region 10 (reg Try.f55 10) false) (Code.region 11 (reg Try.f55 11) false))))) (Code.region 12 (reg Try.f55 12) false))))
noncomputable def zL.code:Code:=(Code.seq (Code.region 0 (reg Try.f55 0) false) (Code.seq (Code.seq (Code.region 1 (reg Try.f55 1) false) (Code.cond (Operand.tmp 17) (Code.seq (Code.region 2 (reg Try.f55 2) false) Code.ret) Code.skip)) (Code.seq (Code.region 3 (reg Try.f55 3) false) (Code.seq (Code.region 4 (reg Try.f55 4) false) (Code.seq (Code.seq (Code.region 5 (reg Try.f55 5) false) (Code.block 0 (Code.loop zL.jL))) (Code.seq (Code.region 13 (reg Try.f55 13) false) Code.ret))))))
theorem zL.body:Try.f55.body=some zL.code:=by kernel_rfl
theorem zL.eta {T:List Value} (h:T.length=45):T=[T.getD 0 zh,T.getD 1 zh,T.getD 2 zh,T.getD 3 zh,T.getD 4 zh,T.getD 5 zh,T.getD 6 zh,T.getD 7 zh,T.getD 8 zh,T.getD 9 zh,T.getD 10 zh,T.getD 11 zh,T.getD 12 zh,T.getD 13 zh,T.getD 14 zh,T.getD 15 zh,T.getD 16 zh,T.getD 17 zh,T.getD 18 zh,T.getD 19 zh,T.getD 20 zh,T.getD 21 zh,T.getD 22 zh,T.getD 23 zh,T.getD 24 zh,T.getD 25 zh,T.getD 26 zh,T.getD 27 zh,T.getD 28 zh,T.getD 29 zh,T.getD 30 zh,T.getD 31 zh,T.getD 32 zh,T.getD 33 zh,T.getD 34 zh,T.getD 35 zh,T.getD 36 zh,T.getD 37 zh,T.getD 38 zh,T.getD 39 zh,T.getD 40 zh,T.getD 41 zh,T.getD 42 zh,T.getD 43 zh,T.getD 44 zh]:=(qC T 45 h).trans (by kernel_rfl)
variable (P N V W X Y Z Q R U b a f g i k l m n o c d p q r s t u w x y z A B C D E F G H I J K L M:Value) (S:zn)
theorem zL.r0 :jw Try.prog ⟨false,false,false⟩ (zW Try.prog O) (reg Try.f55 0) (reg Try.f55 0).toList ([P,N,V,W,X,Y,Z,Q,R,U,b,a,f,g,i,k,l,m,n,o,c,d,p,q,r,s,t,u,w,x,y,z,A,B,C,D,E,F,G,H,I,J,K,L,M]) S =
  ( some ([P,N,V,W,Value.slice none 0 0,Value.slice none 0 0,Value.int IntKind.i64 0,Q,R,U,b,a,f,g,i,k,l,m,n,o,c,d,p,q,r,s,t,u,w,x,y,z,A,B,C,D,E,F,G,H,I,J,K,L,M],S)):=by
 kernel_rfl
theorem zL.r1 :jw Try.prog ⟨false,false,false⟩ (zW Try.prog O) (reg Try.f55 1) (reg Try.f55 1).toList ([P,N,V,W,X,Y,Z,Q,R,U,b,a,f,g,i,k,l,m,n,o,c,d,p,q,r,s,t,u,w,x,y,z,A,B,C,D,E,F,G,H,I,J,K,L,M]) S =
  (zI (wB Try.prog BinOp.lss 3 (dem N) (Value.int IntKind.i64 0) S) (fun v1 S1=>gdK (dem v1) false (ret N) S1 (fun v3 S2=>gdK (dem v1) false (wB Try.prog BinOp.gtr 3 (dem v3) (Value.int IntKind.i64 64)) S2 (fun v4 S3=>zI (wR (dem v1) (Value.bool true) v4 S3) (fun v5 S4=>some ([P,N,V,W,X,Y,Z,Q,R,U,b,a,dem N,v1,dem v1,dem v3,v4,v5,n,o,c,d,p,q,r,s,t,u,w,x,y,z,A,B,C,D,E,F,G,H,I,J,K,L,M],S4)) ()) ()) ()) ()):=by
 refine sP Try.f55 1 0 (v:=N) ?_
 refine sD Try.f55 1 1 (fun v1 S1=>?_)
 refine sP Try.f55 1 2 (v:=v1) ?_
 refine sG Try.f55 1 3 (j:=2) (fun v3 S2=>?_)
 refine sG Try.f55 1 4 (j:=2) (fun v4 S3=>?_)
 refine sD Try.f55 1 5 (fun v5 S4=>?_)
 kernel_rfl
theorem zL.r2 :jw Try.prog ⟨false,false,false⟩ (zW Try.prog O) (reg Try.f55 2) (reg Try.f55 2).toList ([P,N,V,W,X,Y,Z,Q,R,U,b,a,f,g,i,k,l,m,n,o,c,d,p,q,r,s,t,u,w,x,y,z,A,B,C,D,E,F,G,H,I,J,K,L,M]) S =
  ( some ([P,N,V,W,Value.slice none 0 0,Value.slice none 0 0,Value.int IntKind.i64 11,Q,R,U,b,a,f,g,i,k,l,m,n,o,c,d,p,q,r,s,t,u,w,x,y,z,A,B,C,D,E,F,G,H,I,J,K,L,M],S)):=by
 kernel_rfl
theorem zL.r3 :jw Try.prog ⟨false,false,false⟩ (zW Try.prog O) (reg Try.f55 3) (reg Try.f55 3).toList ([P,N,V,W,X,Y,Z,Q,R,U,b,a,f,g,i,k,l,m,n,o,c,d,p,q,r,s,t,u,w,x,y,z,A,B,C,D,E,F,G,H,I,J,K,L,M]) S =
  (zI ((zW Try.prog O) 54 [(dem (dem P))] S) (fun v1 S1=>some ([P,N,V,W,X,Y,Z,v1,R,U,b,a,f,g,i,k,l,m,dem P,dem v1,c,d,p,q,r,s,t,u,w,x,y,z,A,B,C,D,E,F,G,H,I,J,K,L,M],S1)) ()):=by
 kernel_rfl
theorem zL.r4 :jw Try.prog ⟨false,false,false⟩ (zW Try.prog O) (reg Try.f55 4) (reg Try.f55 4).toList ([P,N,V,W,X,Y,Z,Q,R,U,b,a,f,g,i,k,l,m,n,o,c,d,p,q,r,s,t,u,w,x,y,z,A,B,C,D,E,F,G,H,I,J,K,L,M]) S =
  ( some ([P,N,V,W,X,Y,Z,Q,Value.slice none 0 0,U,b,a,f,g,i,k,l,m,n,o,c,d,p,q,r,s,t,u,w,x,y,z,A,B,C,D,E,F,G,H,I,J,K,L,M],S)):=by
 kernel_rfl
theorem zL.r5 :jw Try.prog ⟨false,false,false⟩ (zW Try.prog O) (reg Try.f55 5) (reg Try.f55 5).toList ([P,N,V,W,X,Y,Z,Q,R,U,b,a,f,g,i,k,l,m,n,o,c,d,p,q,r,s,t,u,w,x,y,z,A,B,C,D,E,F,G,H,I,J,K,L,M]) S =
  ( some ([P,N,V,W,X,Y,Z,Q,R,U,b,a,f,g,i,k,l,m,n,o,dem N,Value.int IntKind.i64 0,p,q,r,s,t,u,w,x,y,z,A,B,C,D,E,F,G,H,I,J,K,L,M],S)):=by
 kernel_rfl
theorem zL.r6 :jw Try.prog ⟨false,false,false⟩ (zW Try.prog O) (reg Try.f55 6) (reg Try.f55 6).toList ([P,N,V,W,X,Y,Z,Q,R,U,b,a,f,g,i,k,l,m,n,o,c,d,p,q,r,s,t,u,w,x,y,z,A,B,C,D,E,F,G,H,I,J,K,L,M]) S =
  (zI (wB Try.prog BinOp.lss 3 d c S) (fun v0 S1=>some ([P,N,V,W,X,Y,Z,Q,R,U,b,a,f,g,i,k,l,m,n,o,c,d,v0,q,r,s,t,u,w,x,y,z,A,B,C,D,E,F,G,H,I,J,K,L,M],S1)) ()):=by
 kernel_rfl
theorem zL.r7 :jw Try.prog ⟨false,false,false⟩ (zW Try.prog O) (reg Try.f55 7) (reg Try.f55 7).toList ([P,N,V,W,X,Y,Z,Q,R,U,b,a,f,g,i,k,l,m,n,o,c,d,p,q,r,s,t,u,w,x,y,z,A,B,C,D,E,F,G,H,I,J,K,L,M]) S =
  (zI ((zW Try.prog O) 41 [(dem (dem Q))] S) (fun v1 S1=>zI (zU v1 0 S1) (fun v3 S2=>zI (zU (zO 0 v1) 1 S2) (fun v4 S3=>zI (zU (zO 1 (zO 0 v1)) 2 S3) (fun v5 S4=>some ([P,N,V,W,X,Y,Z,Q,R,v3,v4,v5,f,g,i,k,l,m,n,o,c,d,p,zO 2 (zO 1 (zO 0 v1)),dem Q,dem v1,dem v3,dem v4,dem v5,x,y,z,A,B,C,D,E,F,G,H,I,J,K,L,M],S4)) ()) ()) ()) ()):=by
 kernel_rfl
theorem zL.r8 :jw Try.prog ⟨false,false,false⟩ (zW Try.prog O) (reg Try.f55 8) (reg Try.f55 8).toList ([P,N,V,W,X,Y,Z,Q,R,U,b,a,f,g,i,k,l,m,n,o,c,d,p,q,r,s,t,u,w,x,y,z,A,B,C,D,E,F,G,H,I,J,K,L,M]) S =
  (zI (wB Try.prog BinOp.neq 64 (dem a) (Value.int IntKind.i64 0) S) (fun v1 S1=>gdK (dem v1) false (ret U) S1 (fun v3 S2=>gdK (dem v1) false (wB Try.prog BinOp.gtr 73 (dem v3) (Value.int IntKind.u64 4611686018427387905)) S2 (fun v4 S3=>zI (wR (dem v1) (Value.bool true) v4 S3) (fun v5 S4=>some ([P,N,V,W,X,Y,Z,Q,R,U,b,a,f,g,i,k,l,m,n,o,c,d,p,q,r,s,t,u,w,dem a,v1,dem v1,dem v3,v4,v5,D,E,F,G,H,I,J,K,L,M],S4)) ()) ()) ()) ()):=by
 refine sP Try.f55 8 0 (v:=a) ?_
 refine sD Try.f55 8 1 (fun v1 S1=>?_)
 refine sP Try.f55 8 2 (v:=v1) ?_
 refine sG Try.f55 8 3 (j:=2) (fun v3 S2=>?_)
 refine sG Try.f55 8 4 (j:=2) (fun v4 S3=>?_)
 refine sD Try.f55 8 5 (fun v5 S4=>?_)
 kernel_rfl
theorem zL.r9 :jw Try.prog ⟨false,false,false⟩ (zW Try.prog O) (reg Try.f55 9) (reg Try.f55 9).toList ([P,N,V,W,X,Y,Z,Q,R,U,b,a,f,g,i,k,l,m,n,o,c,d,p,q,r,s,t,u,w,x,y,z,A,B,C,D,E,F,G,H,I,J,K,L,M]) S =
  ( some ([P,N,V,W,Value.slice none 0 0,Value.slice none 0 0,Value.int IntKind.i64 11,Q,R,U,b,a,f,g,i,k,l,m,n,o,c,d,p,q,r,s,t,u,w,x,y,z,A,B,C,D,E,F,G,H,I,J,K,L,M],S)):=by
 kernel_rfl
theorem zL.r10 :jw Try.prog ⟨false,false,false⟩ (zW Try.prog O) (reg Try.f55 10) (reg Try.f55 10).toList ([P,N,V,W,X,Y,Z,Q,R,U,b,a,f,g,i,k,l,m,n,o,c,d,p,q,r,s,t,u,w,x,y,z,A,B,C,D,E,F,G,H,I,J,K,L,M]) S =
  (zI (qA Try.prog false false 73 3 (dem U) S) (fun v2 S1=>zI (wB Try.prog BinOp.sub 3 v2 (Value.int IntKind.i64 1) S1) (fun v3 S2=>zI (jH Try.prog 24 1 [(0,v3)] S2) (fun v4 S3=>zI (wP Try.prog 24 24 R v4 S3) (fun v5 S4=>some ([P,N,V,W,X,Y,Z,Q,v5,U,b,a,f,g,i,k,l,m,n,o,c,d,p,q,r,s,t,u,w,x,y,z,A,B,C,dem R,dem U,v2,v3,v4,dem v5,J,K,L,M],S4)) ()) ()) ()) ()):=by
 kernel_rfl
theorem zL.r11 :jw Try.prog ⟨false,false,false⟩ (zW Try.prog O) (reg Try.f55 11) (reg Try.f55 11).toList ([P,N,V,W,X,Y,Z,Q,R,U,b,a,f,g,i,k,l,m,n,o,c,d,p,q,r,s,t,u,w,x,y,z,A,B,C,D,E,F,G,H,I,J,K,L,M]) S =
  ( some ([P,N,V,W,X,Y,Z,b,R,U,dem b,a,f,g,i,k,l,m,n,o,c,d,p,q,r,s,t,u,w,x,y,z,A,B,C,D,E,F,G,H,I,dem b,K,L,M],S)):=by
 kernel_rfl
theorem zL.r12 :jw Try.prog ⟨false,false,false⟩ (zW Try.prog O) (reg Try.f55 12) (reg Try.f55 12).toList ([P,N,V,W,X,Y,Z,Q,R,U,b,a,f,g,i,k,l,m,n,o,c,d,p,q,r,s,t,u,w,x,y,z,A,B,C,D,E,F,G,H,I,J,K,L,M]) S =
  (zI (wB Try.prog BinOp.add 3 d (Value.int IntKind.i64 1) S) (fun v0 S1=>some ([P,N,V,W,X,Y,Z,Q,R,U,b,a,f,g,i,k,l,m,n,o,c,dem v0,p,q,r,s,t,u,w,x,y,z,A,B,C,D,E,F,G,H,I,J,v0,L,M],S1)) ()):=by
 kernel_rfl
theorem zL.r13 :jw Try.prog ⟨false,false,false⟩ (zW Try.prog O) (reg Try.f55 13) (reg Try.f55 13).toList ([P,N,V,W,X,Y,Z,Q,R,U,b,a,f,g,i,k,l,m,n,o,c,d,p,q,r,s,t,u,w,x,y,z,A,B,C,D,E,F,G,H,I,J,K,L,M]) S =
  ( some ([P,N,V,W,R,Q,Value.int IntKind.i64 0,dem Q,dem R,U,b,a,f,g,i,k,l,m,n,o,c,d,p,q,r,s,t,u,w,x,y,z,A,B,C,D,E,F,G,H,I,J,K,dem R,dem Q],S)):=by
 kernel_rfl
theorem zL.rs:type_of% (ak5 @zL.r0 (ak5 @zL.r1 (ak5 @zL.r2 (ak5 @zL.r3 (ak5 @zL.r4 (ak5 @zL.r5 (ak5 @zL.r6 (ak5 @zL.r7 (ak5 @zL.r8 (ak5 @zL.r9 (ak5 @zL.r10 (ak5 @zL.r11 (ak5 @zL.r12 (@zL.r13)))))))))))))):=ak5 @zL.r0 (ak5 @zL.r1 (ak5 @zL.r2 (ak5 @zL.r3 (ak5 @zL.r4 (ak5 @zL.r5 (ak5 @zL.r6 (ak5 @zL.r7 (ak5 @zL.r8 (ak5 @zL.r9 (ak5 @zL.r10 (ak5 @zL.r11 (ak5 @zL.r12 (@zL.r13)))))))))))))
theorem zL.runs {P N:Value} {S S1:zn} {e:AEx} {T:List Value} (h:zG Try.prog O false zL.code ([P,N,zh,zh,zh,zh,zh,zh,zh,zh,zh,zh,zh,zh,zh,zh,zh,zh,zh,zh,zh,zh,zh,zh,zh,zh,zh,zh,zh,zh,zh,zh,zh,zh,zh,zh,zh,zh,zh,zh,zh,zh,zh,zh,zh]) S=some (e,T,S1)) (he:e=.normal∨e=.ret)  (h0:wu (T.getD 4 zh)=true) (h1:wu (T.getD 5 zh)=true) (h2:wu (T.getD 6 zh)=true):zW Try.prog O 55 [P,N] S=some (Value.tuple #[T.getD 4 zh,T.getD 5 zh,T.getD 6 zh],S1) :=
 yD rfl rfl Try.func55 (by decide) zL.body (by exact h) he ((yY ((show zK Try.prog T S1 Try.f55.results.toList=zK Try.prog T S1 [(ResultVar.tmp 4),(ResultVar.tmp 5),(ResultVar.tmp 6)] from by kernel_rfl).trans (by simp only [zK])) (by kernel_rfl) (by simp only [List.all_cons,List.all_nil,h0,h1,h2,Bool.and_true])).trans rfl)
end Go.Proofs.Ytfjogganfjkckaa
namespace Go.Proofs.Ytfjogganfjkckaa
open Go.Abs
abbrev zx.id:FuncId:=29
noncomputable def zx.jL:Code:=(Code.seq (Code.seq (Code.region 6 (reg Try.f29 6) false) (Code.cond (Operand.tmp 25) Code.skip (Code.exit 0))) (Code.seq (Code.block 1 (Code.seq (Code.region 8 (reg Try.f29 8) false) (Code.seq (Code.seq (Code.region 9 (reg Try.f29 9) false) (Code.cond (Operand.tmp 39) (Code.seq (Code.region 10 (reg Try.f29 10) false) Code.ret) Code.skip)) (Code.seq (Code.region 11 (reg Try.f29 11) false) (Code.region 12 (reg Try.f29 12) false))))) (Code.region 7 (reg Try.f29 7) false)))
noncomputable def zx.code:Code:=(Code.seq (Code.region 0 (reg Try.f29 0) false) (Code.seq (Code.seq (Code.region 1 (reg Try.f29 1) false) (Code.cond (Operand.tmp 18) (Code.seq (Code.region 2 (reg Try.f29 2) false) Code.ret) Code.skip)) (Code.seq (Code.region 3 (reg Try.f29 3) false) (Code.seq (Code.region 4 (reg Try.f29 4) false) (Code.seq (Code.seq (Code.region 5 (reg Try.f29 5) false) (Code.block 0 (Code.loop zx.jL))) (Code.seq (Code.region 13 (reg Try.f29 13) false) Code.ret))))))
theorem zx.body:Try.f29.body=some zx.code:=by kernel_rfl
theorem zx.eta {T:List Value} (h:T.length=49):T=[T.getD 0 zh,T.getD 1 zh,T.getD 2 zh,T.getD 3 zh,T.getD 4 zh,T.getD 5 zh,T.getD 6 zh,T.getD 7 zh,T.getD 8 zh,T.getD 9 zh,T.getD 10 zh,T.getD 11 zh,T.getD 12 zh,T.getD 13 zh,T.getD 14 zh,T.getD 15 zh,T.getD 16 zh,T.getD 17 zh,T.getD 18 zh,T.getD 19 zh,T.getD 20 zh,T.getD 21 zh,T.getD 22 zh,T.getD 23 zh,T.getD 24 zh,T.getD 25 zh,T.getD 26 zh,T.getD 27 zh,T.getD 28 zh,T.getD 29 zh,T.getD 30 zh,T.getD 31 zh,T.getD 32 zh,T.getD 33 zh,T.getD 34 zh,T.getD 35 zh,T.getD 36 zh,T.getD 37 zh,T.getD 38 zh,T.getD 39 zh,T.getD 40 zh,T.getD 41 zh,T.getD 42 zh,T.getD 43 zh,T.getD 44 zh,T.getD 45 zh,T.getD 46 zh,T.getD 47 zh,T.getD 48 zh]:=(qC T 49 h).trans (by kernel_rfl)
variable (V U Z x3 x4 x5 x6 W X Y a c b d f g i k l m n o p q r s t u w x y z A B C D E F G H I J K L M N P Q R:Value) (S:zn)
theorem zx.r0 :jw Try.prog ⟨false,false,false⟩ (zW Try.prog O) (reg Try.f29 0) (reg Try.f29 0).toList ([V,U,Z,x3,x4,x5,x6,W,X,Y,a,c,b,d,f,g,i,k,l,m,n,o,p,q,r,s,t,u,w,x,y,z,A,B,C,D,E,F,G,H,I,J,K,L,M,N,P,Q,R]) S =
  ( some ([V,U,Z,x3,Value.slice none 0 0,Value.slice none 0 0,Value.int IntKind.i64 0,W,X,Y,a,c,b,d,f,g,i,k,l,m,n,o,p,q,r,s,t,u,w,x,y,z,A,B,C,D,E,F,G,H,I,J,K,L,M,N,P,Q,R],S)):=by
 kernel_rfl
theorem zx.r1 :jw Try.prog ⟨false,false,false⟩ (zW Try.prog O) (reg Try.f29 1) (reg Try.f29 1).toList ([V,U,Z,x3,x4,x5,x6,W,X,Y,a,c,b,d,f,g,i,k,l,m,n,o,p,q,r,s,t,u,w,x,y,z,A,B,C,D,E,F,G,H,I,J,K,L,M,N,P,Q,R]) S =
  (zI (wB Try.prog BinOp.lss 3 (dem U) (Value.int IntKind.i64 0) S) (fun v1 S1=>gdK (dem v1) false (ret U) S1 (fun v3 S2=>gdK (dem v1) false (wB Try.prog BinOp.gtr 3 (dem v3) (Value.int IntKind.i64 64)) S2 (fun v4 S3=>zI (wR (dem v1) (Value.bool true) v4 S3) (fun v5 S4=>some ([V,U,Z,x3,x4,x5,x6,W,X,Y,a,c,b,dem U,v1,dem v1,dem v3,v4,v5,m,n,o,p,q,r,s,t,u,w,x,y,z,A,B,C,D,E,F,G,H,I,J,K,L,M,N,P,Q,R],S4)) ()) ()) ()) ()):=by
 refine sP Try.f29 1 0 (v:=U) ?_
 refine sD Try.f29 1 1 (fun v1 S1=>?_)
 refine sP Try.f29 1 2 (v:=v1) ?_
 refine sG Try.f29 1 3 (j:=2) (fun v3 S2=>?_)
 refine sG Try.f29 1 4 (j:=2) (fun v4 S3=>?_)
 refine sD Try.f29 1 5 (fun v5 S4=>?_)
 kernel_rfl
theorem zx.r2 :jw Try.prog ⟨false,false,false⟩ (zW Try.prog O) (reg Try.f29 2) (reg Try.f29 2).toList ([V,U,Z,x3,x4,x5,x6,W,X,Y,a,c,b,d,f,g,i,k,l,m,n,o,p,q,r,s,t,u,w,x,y,z,A,B,C,D,E,F,G,H,I,J,K,L,M,N,P,Q,R]) S =
  ( some ([V,U,Z,x3,Value.slice none 0 0,Value.slice none 0 0,Value.int IntKind.i64 11,W,X,Y,a,c,b,d,f,g,i,k,l,m,n,o,p,q,r,s,t,u,w,x,y,z,A,B,C,D,E,F,G,H,I,J,K,L,M,N,P,Q,R],S)):=by
 kernel_rfl
theorem zx.r3 :jw Try.prog ⟨false,false,false⟩ (zW Try.prog O) (reg Try.f29 3) (reg Try.f29 3).toList ([V,U,Z,x3,x4,x5,x6,W,X,Y,a,c,b,d,f,g,i,k,l,m,n,o,p,q,r,s,t,u,w,x,y,z,A,B,C,D,E,F,G,H,I,J,K,L,M,N,P,Q,R]) S =
  (zI (jH Try.prog 24 0 [] S) (fun v0 S1=>some ([V,U,Z,x3,x4,x5,x6,v0,X,Y,a,c,b,d,f,g,i,k,l,dem v0,n,o,p,q,r,s,t,u,w,x,y,z,A,B,C,D,E,F,G,H,I,J,K,L,M,N,P,Q,R],S1)) ()):=by
 kernel_rfl
theorem zx.r4 :jw Try.prog ⟨false,false,false⟩ (zW Try.prog O) (reg Try.f29 4) (reg Try.f29 4).toList ([V,U,Z,x3,x4,x5,x6,W,X,Y,a,c,b,d,f,g,i,k,l,m,n,o,p,q,r,s,t,u,w,x,y,z,A,B,C,D,E,F,G,H,I,J,K,L,M,N,P,Q,R]) S =
  (zI (jH Try.prog 33 0 [] S) (fun v0 S1=>zI (wP Try.prog 33 33 v0 (dem V) S1) (fun v2 S2=>some ([V,U,Z,x3,x4,x5,x6,W,v2,Y,a,c,b,d,f,g,i,k,l,m,dem v0,dem V,dem v2,q,r,s,t,u,w,x,y,z,A,B,C,D,E,F,G,H,I,J,K,L,M,N,P,Q,R],S2)) ()) ()):=by
 kernel_rfl
theorem zx.r5 :jw Try.prog ⟨false,false,false⟩ (zW Try.prog O) (reg Try.f29 5) (reg Try.f29 5).toList ([V,U,Z,x3,x4,x5,x6,W,X,Y,a,c,b,d,f,g,i,k,l,m,n,o,p,q,r,s,t,u,w,x,y,z,A,B,C,D,E,F,G,H,I,J,K,L,M,N,P,Q,R]) S =
  ( some ([V,U,Z,x3,x4,x5,x6,W,X,Value.int IntKind.i64 0,a,c,b,d,f,g,i,k,l,m,n,o,p,q,r,s,t,u,w,x,y,z,A,B,C,D,E,F,G,H,I,J,K,L,M,N,P,Q,R],S)):=by
 kernel_rfl
theorem zx.r6 :jw Try.prog ⟨false,false,false⟩ (zW Try.prog O) (reg Try.f29 6) (reg Try.f29 6).toList ([V,U,Z,x3,x4,x5,x6,W,X,Y,a,c,b,d,f,g,i,k,l,m,n,o,p,q,r,s,t,u,w,x,y,z,A,B,C,D,E,F,G,H,I,J,K,L,M,N,P,Q,R]) S =
  (zI (wB Try.prog BinOp.lss 3 (dem Y) (dem U) S) (fun v2 S1=>some ([V,U,Z,x3,x4,x5,x6,W,X,Y,a,c,b,d,f,g,i,k,l,m,n,o,p,dem Y,dem U,v2,t,u,w,x,y,z,A,B,C,D,E,F,G,H,I,J,K,L,M,N,P,Q,R],S1)) ()):=by
 kernel_rfl
theorem zx.r8 :jw Try.prog ⟨false,false,false⟩ (zW Try.prog O) (reg Try.f29 8) (reg Try.f29 8).toList ([V,U,Z,x3,x4,x5,x6,W,X,Y,a,c,b,d,f,g,i,k,l,m,n,o,p,q,r,s,t,u,w,x,y,z,A,B,C,D,E,F,G,H,I,J,K,L,M,N,P,Q,R]) S =
  (zI ((zW Try.prog O) 28 [(dem (dem X))] S) (fun v1 S1=>zI (zU v1 0 S1) (fun v3 S2=>zI (zU (zO 0 v1) 1 S2) (fun v4 S3=>zI (zU (zO 1 (zO 0 v1)) 2 S3) (fun v5 S4=>some ([V,U,Z,x3,x4,x5,x6,W,X,Y,v3,v4,v5,d,f,g,i,k,l,m,n,o,p,q,r,s,t,u,zO 2 (zO 1 (zO 0 v1)),dem X,dem v1,dem v3,dem v4,dem v5,C,D,E,F,G,H,I,J,K,L,M,N,P,Q,R],S4)) ()) ()) ()) ()):=by
 kernel_rfl
theorem zx.r9 :jw Try.prog ⟨false,false,false⟩ (zW Try.prog O) (reg Try.f29 9) (reg Try.f29 9).toList ([V,U,Z,x3,x4,x5,x6,W,X,Y,a,c,b,d,f,g,i,k,l,m,n,o,p,q,r,s,t,u,w,x,y,z,A,B,C,D,E,F,G,H,I,J,K,L,M,N,P,Q,R]) S =
  (zI (wB Try.prog BinOp.neq 3 (dem b) (Value.int IntKind.i64 0) S) (fun v1 S1=>gdK (dem v1) false (ret a) S1 (fun v3 S2=>gdK (dem v1) false (wB Try.prog BinOp.gtr 73 (dem v3) (Value.int IntKind.u64 4611686018427387905)) S2 (fun v4 S3=>zI (wR (dem v1) (Value.bool true) v4 S3) (fun v5 S4=>some ([V,U,Z,x3,x4,x5,x6,W,X,Y,a,c,b,d,f,g,i,k,l,m,n,o,p,q,r,s,t,u,w,x,y,z,A,B,dem b,v1,dem v1,dem v3,v4,v5,I,J,K,L,M,N,P,Q,R],S4)) ()) ()) ()) ()):=by
 refine sP Try.f29 9 0 (v:=b) ?_
 refine sD Try.f29 9 1 (fun v1 S1=>?_)
 refine sP Try.f29 9 2 (v:=v1) ?_
 refine sG Try.f29 9 3 (j:=2) (fun v3 S2=>?_)
 refine sG Try.f29 9 4 (j:=2) (fun v4 S3=>?_)
 refine sD Try.f29 9 5 (fun v5 S4=>?_)
 kernel_rfl
theorem zx.r10 :jw Try.prog ⟨false,false,false⟩ (zW Try.prog O) (reg Try.f29 10) (reg Try.f29 10).toList ([V,U,Z,x3,x4,x5,x6,W,X,Y,a,c,b,d,f,g,i,k,l,m,n,o,p,q,r,s,t,u,w,x,y,z,A,B,C,D,E,F,G,H,I,J,K,L,M,N,P,Q,R]) S =
  ( some ([V,U,Z,x3,Value.slice none 0 0,Value.slice none 0 0,Value.int IntKind.i64 11,W,X,Y,a,c,b,d,f,g,i,k,l,m,n,o,p,q,r,s,t,u,w,x,y,z,A,B,C,D,E,F,G,H,I,J,K,L,M,N,P,Q,R],S)):=by
 kernel_rfl
theorem zx.r11 :jw Try.prog ⟨false,false,false⟩ (zW Try.prog O) (reg Try.f29 11) (reg Try.f29 11).toList ([V,U,Z,x3,x4,x5,x6,W,X,Y,a,c,b,d,f,g,i,k,l,m,n,o,p,q,r,s,t,u,w,x,y,z,A,B,C,D,E,F,G,H,I,J,K,L,M,N,P,Q,R]) S =
  (zI (qA Try.prog false false 73 3 (dem a) S) (fun v2 S1=>zI (wB Try.prog BinOp.sub 3 v2 (Value.int IntKind.i64 1) S1) (fun v3 S2=>zI (jH Try.prog 24 1 [(0,v3)] S2) (fun v4 S3=>zI (wP Try.prog 24 24 W v4 S3) (fun v5 S4=>some ([V,U,Z,x3,x4,x5,x6,v5,X,Y,a,c,b,d,f,g,i,k,l,m,n,o,p,q,r,s,t,u,w,x,y,z,A,B,C,D,E,F,G,H,dem W,dem a,v2,v3,v4,dem v5,P,Q,R],S4)) ()) ()) ()) ()):=by
 kernel_rfl
theorem zx.r12 :jw Try.prog ⟨false,false,false⟩ (zW Try.prog O) (reg Try.f29 12) (reg Try.f29 12).toList ([V,U,Z,x3,x4,x5,x6,W,X,Y,a,c,b,d,f,g,i,k,l,m,n,o,p,q,r,s,t,u,w,x,y,z,A,B,C,D,E,F,G,H,I,J,K,L,M,N,P,Q,R]) S =
  ( some ([V,U,Z,x3,x4,x5,x6,W,c,Y,a,dem c,b,d,f,g,i,k,l,m,n,o,p,q,r,s,t,u,w,x,y,z,A,B,C,D,E,F,G,H,I,J,K,L,M,N,dem c,Q,R],S)):=by
 kernel_rfl
theorem zx.r7 :jw Try.prog ⟨false,false,false⟩ (zW Try.prog O) (reg Try.f29 7) (reg Try.f29 7).toList ([V,U,Z,x3,x4,x5,x6,W,X,Y,a,c,b,d,f,g,i,k,l,m,n,o,p,q,r,s,t,u,w,x,y,z,A,B,C,D,E,F,G,H,I,J,K,L,M,N,P,Q,R]) S =
  (zI (wB Try.prog BinOp.add 3 (dem Y) (Value.int IntKind.i64 1) S) (fun v1 S1=>some ([V,U,Z,x3,x4,x5,x6,W,X,v1,a,c,b,d,f,g,i,k,l,m,n,o,p,q,r,s,dem Y,dem v1,w,x,y,z,A,B,C,D,E,F,G,H,I,J,K,L,M,N,P,Q,R],S1)) ()):=by
 kernel_rfl
theorem zx.r13 :jw Try.prog ⟨false,false,false⟩ (zW Try.prog O) (reg Try.f29 13) (reg Try.f29 13).toList ([V,U,Z,x3,x4,x5,x6,W,X,Y,a,c,b,d,f,g,i,k,l,m,n,o,p,q,r,s,t,u,w,x,y,z,A,B,C,D,E,F,G,H,I,J,K,L,M,N,P,Q,R]) S =
  ( some ([V,U,Z,x3,W,X,Value.int IntKind.i64 0,dem W,dem X,Y,a,c,b,d,f,g,i,k,l,m,n,o,p,q,r,s,t,u,w,x,y,z,A,B,C,D,E,F,G,H,I,J,K,L,M,N,P,dem W,dem X],S)):=by
 kernel_rfl
theorem zx.rs:type_of% (ak5 @zx.r0 (ak5 @zx.r1 (ak5 @zx.r2 (ak5 @zx.r3 (ak5 @zx.r4 (ak5 @zx.r5 (ak5 @zx.r6 (ak5 @zx.r8 (ak5 @zx.r9 (ak5 @zx.r10 (ak5 @zx.r11 (ak5 @zx.r12 (ak5 @zx.r7 (@zx.r13)))))))))))))):=ak5 @zx.r0 (ak5 @zx.r1 (ak5 @zx.r2 (ak5 @zx.r3 (ak5 @zx.r4 (ak5 @zx.r5 (ak5 @zx.r6 (ak5 @zx.r8 (ak5 @zx.r9 (ak5 @zx.r10 (ak5 @zx.r11 (ak5 @zx.r12 (ak5 @zx.r7 (@zx.r13)))))))))))))
theorem zx.runs {V U:Value} {S S1:zn} {e:AEx} {T:List Value} (h:zG Try.prog O false zx.code ([V,U,zh,zh,zh,zh,zh,zh,zh,zh,zh,zh,zh,zh,zh,zh,zh,zh,zh,zh,zh,zh,zh,zh,zh,zh,zh,zh,zh,zh,zh,zh,zh,zh,zh,zh,zh,zh,zh,zh,zh,zh,zh,zh,zh,zh,zh,zh,zh]) S=some (e,T,S1)) (he:e=.normal∨e=.ret)  (h0:wu (T.getD 4 zh)=true) (h1:wu (T.getD 5 zh)=true) (h2:wu (T.getD 6 zh)=true):zW Try.prog O 29 [V,U] S=some (Value.tuple #[T.getD 4 zh,T.getD 5 zh,T.getD 6 zh],S1) :=
 yD rfl rfl Try.func29 (by decide) zx.body (by exact h) he ((yY ((show zK Try.prog T S1 Try.f29.results.toList=zK Try.prog T S1 [(ResultVar.tmp 4),(ResultVar.tmp 5),(ResultVar.tmp 6)] from by kernel_rfl).trans (by simp only [zK])) (by kernel_rfl) (by simp only [List.all_cons,List.all_nil,h0,h1,h2,Bool.and_true])).trans rfl)
end Go.Proofs.Ytfjogganfjkckaa
namespace Go.Proofs.Ytfjogganfjkckaa
open Go.Abs
abbrev jB.id:FuncId:=63
noncomputable def jB.jL:Code:=(Code.seq (Code.region 5 (reg Try.f63 5) false) (Code.seq (Code.cond (Operand.tmp 13) Code.skip (Code.exit 0)) (Code.seq (Code.block 1 (Code.seq (Code.region 6 (reg Try.f63 6) false) (Code.seq (Code.seq (Code.region 7 (reg Try.f63 7) false) (Code.cond (Operand.tmp 17) (Code.seq (Code.region 8 (reg Try.f63 8) false) Code.ret) Code.skip)) (Code.region 9 (reg Try.f63 9) false)))) (Code.region 10 (reg Try.f63 10) false))))
noncomputable def jB.code:Code:=(Code.seq (Code.region 0 (reg Try.f63 0) false) (Code.seq (Code.seq (Code.region 1 (reg Try.f63 1) false) (Code.cond (Operand.tmp 9) (Code.seq (Code.region 2 (reg Try.f63 2) false) Code.ret) Code.skip)) (Code.seq (Code.region 3 (reg Try.f63 3) false) (Code.seq (Code.seq (Code.region 4 (reg Try.f63 4) false) (Code.block 0 (Code.loop jB.jL))) (Code.seq (Code.region 11 (reg Try.f63 11) false) Code.ret)))))
theorem jB.body:Try.f63.body=some jB.code:=by kernel_rfl
theorem jB.eta {T:List Value} (h:T.length=26):T=[T.getD 0 zh,T.getD 1 zh,T.getD 2 zh,T.getD 3 zh,T.getD 4 zh,T.getD 5 zh,T.getD 6 zh,T.getD 7 zh,T.getD 8 zh,T.getD 9 zh,T.getD 10 zh,T.getD 11 zh,T.getD 12 zh,T.getD 13 zh,T.getD 14 zh,T.getD 15 zh,T.getD 16 zh,T.getD 17 zh,T.getD 18 zh,T.getD 19 zh,T.getD 20 zh,T.getD 21 zh,T.getD 22 zh,T.getD 23 zh,T.getD 24 zh,T.getD 25 zh]:=(qC T 26 h).trans (by kernel_rfl)
variable (s v A B u w t x y z b c a d f g i j k l m n o p q r:Value) (S:zn)
theorem jB.r0 :jw Try.prog ⟨false,false,false⟩ (zW Try.prog O) (reg Try.f63 0) (reg Try.f63 0).toList ([s,v,A,B,u,w,t,x,y,z,b,c,a,d,f,g,i,j,k,l,m,n,o,p,q,r]) S =
  ( some ([s,v,Value.slice none 0 0,Value.int IntKind.i64 0,u,w,t,x,y,z,b,c,a,d,f,g,i,j,k,l,m,n,o,p,q,r],S)):=by
 kernel_rfl
theorem jB.r1 :jw Try.prog ⟨false,false,false⟩ (zW Try.prog O) (reg Try.f63 1) (reg Try.f63 1).toList ([s,v,A,B,u,w,t,x,y,z,b,c,a,d,f,g,i,j,k,l,m,n,o,p,q,r]) S =
  (zI (Zz Try.prog 24 (dem s) S) (fun D C=>zI (wB Try.prog BinOp.gtr 3 D (Value.int IntKind.i64 64) C) (fun G F=>some ([s,v,A,B,u,w,t,dem s,D,G,b,c,a,d,f,g,i,j,k,l,m,n,o,p,q,r],F)) ()) ()):=by
 kernel_rfl
theorem jB.r2 :jw Try.prog ⟨false,false,false⟩ (zW Try.prog O) (reg Try.f63 2) (reg Try.f63 2).toList ([s,v,A,B,u,w,t,x,y,z,b,c,a,d,f,g,i,j,k,l,m,n,o,p,q,r]) S =
  ( some ([s,v,Value.slice none 0 0,Value.int IntKind.i64 11,u,w,t,x,y,z,b,c,a,d,f,g,i,j,k,l,m,n,o,p,q,r],S)):=by
 kernel_rfl
theorem jB.r3 :jw Try.prog ⟨false,false,false⟩ (zW Try.prog O) (reg Try.f63 3) (reg Try.f63 3).toList ([s,v,A,B,u,w,t,x,y,z,b,c,a,d,f,g,i,j,k,l,m,n,o,p,q,r]) S =
  ( some ([s,v,A,B,Value.slice none 0 0,w,t,x,y,z,b,c,a,d,f,g,i,j,k,l,m,n,o,p,q,r],S)):=by
 kernel_rfl
theorem jB.r4 :jw Try.prog ⟨false,false,false⟩ (zW Try.prog O) (reg Try.f63 4) (reg Try.f63 4).toList ([s,v,A,B,u,w,t,x,y,z,b,c,a,d,f,g,i,j,k,l,m,n,o,p,q,r]) S =
  (zI (Zz Try.prog 24 (dem s) S) (fun D C=>some ([s,v,A,B,u,w,t,x,y,z,dem s,D,Value.int IntKind.i64 0,d,f,g,i,j,k,l,m,n,o,p,q,r],C)) ()):=by
 kernel_rfl
theorem jB.r5 :jw Try.prog ⟨false,false,false⟩ (zW Try.prog O) (reg Try.f63 5) (reg Try.f63 5).toList ([s,v,A,B,u,w,t,x,y,z,b,c,a,d,f,g,i,j,k,l,m,n,o,p,q,r]) S =
  (zI (wB Try.prog BinOp.lss 3 a c S) (fun E C=>some ([s,v,A,B,u,w,t,x,y,z,b,c,a,E,f,g,i,j,k,l,m,n,o,p,q,r],C)) ()):=by
 kernel_rfl
theorem jB.r6 :jw Try.prog ⟨false,false,false⟩ (zW Try.prog O) (reg Try.f63 6) (reg Try.f63 6).toList ([s,v,A,B,u,w,t,x,y,z,b,c,a,d,f,g,i,j,k,l,m,n,o,p,q,r]) S =
  (zI (jo Try.prog 24 b a S) (fun E C=>zI (jf Try.prog false 3 E C) (fun D F=>some ([s,v,A,B,u,w,D,x,y,z,b,c,a,d,E,dem D,i,j,k,l,m,n,o,p,q,r],F)) ()) ()):=by
 kernel_rfl
theorem jB.r7 :jw Try.prog ⟨false,false,false⟩ (zW Try.prog O) (reg Try.f63 7) (reg Try.f63 7).toList ([s,v,A,B,u,w,t,x,y,z,b,c,a,d,f,g,i,j,k,l,m,n,o,p,q,r]) S =
  (zI (wB Try.prog BinOp.lss 3 (dem t) (Value.int IntKind.i64 (-1)) S) (fun D C=>some ([s,v,A,B,u,w,t,x,y,z,b,c,a,d,f,g,dem t,D,k,l,m,n,o,p,q,r],C)) ()):=by
 kernel_rfl
theorem jB.r8 :jw Try.prog ⟨false,false,false⟩ (zW Try.prog O) (reg Try.f63 8) (reg Try.f63 8).toList ([s,v,A,B,u,w,t,x,y,z,b,c,a,d,f,g,i,j,k,l,m,n,o,p,q,r]) S =
  ( some ([s,v,Value.slice none 0 0,Value.int IntKind.i64 11,u,w,t,x,y,z,b,c,a,d,f,g,i,j,k,l,m,n,o,p,q,r],S)):=by
 kernel_rfl
theorem jB.r9 :jw Try.prog ⟨false,false,false⟩ (zW Try.prog O) (reg Try.f63 9) (reg Try.f63 9).toList ([s,v,A,B,u,w,t,x,y,z,b,c,a,d,f,g,i,j,k,l,m,n,o,p,q,r]) S =
  (zI (qA Try.prog false false 3 73 (dem t) S) (fun G C=>zI (wB Try.prog BinOp.add 73 G (Value.int IntKind.u64 1) C) (fun H F=>zI ((zW Try.prog O) 72 [(dem H)] F) (fun I K=>zI (wP Try.prog 33 33 u I K) (fun J L=>some ([s,v,A,B,J,w,t,x,y,z,b,c,a,d,f,g,i,j,dem u,dem t,G,H,I,dem J,q,r],L)) ()) ()) ()) ()):=by
 kernel_rfl
theorem jB.r10 :jw Try.prog ⟨false,false,false⟩ (zW Try.prog O) (reg Try.f63 10) (reg Try.f63 10).toList ([s,v,A,B,u,w,t,x,y,z,b,c,a,d,f,g,i,j,k,l,m,n,o,p,q,r]) S =
  (zI (wB Try.prog BinOp.add 3 a (Value.int IntKind.i64 1) S) (fun E C=>some ([s,v,A,B,u,w,t,x,y,z,b,c,dem E,d,f,g,i,j,k,l,m,n,o,p,E,r],C)) ()):=by
 kernel_rfl
theorem jB.r11 :jw Try.prog ⟨false,false,false⟩ (zW Try.prog O) (reg Try.f63 11) (reg Try.f63 11).toList ([s,v,A,B,u,w,t,x,y,z,b,c,a,d,f,g,i,j,k,l,m,n,o,p,q,r]) S =
  ( some ([s,v,u,Value.int IntKind.i64 0,dem u,w,t,x,y,z,b,c,a,d,f,g,i,j,k,l,m,n,o,p,q,dem u],S)):=by
 kernel_rfl
theorem jB.rs:type_of% (ak5 @jB.r0 (ak5 @jB.r1 (ak5 @jB.r2 (ak5 @jB.r3 (ak5 @jB.r4 (ak5 @jB.r5 (ak5 @jB.r6 (ak5 @jB.r7 (ak5 @jB.r8 (ak5 @jB.r9 (ak5 @jB.r10 (@jB.r11)))))))))))):=ak5 @jB.r0 (ak5 @jB.r1 (ak5 @jB.r2 (ak5 @jB.r3 (ak5 @jB.r4 (ak5 @jB.r5 (ak5 @jB.r6 (ak5 @jB.r7 (ak5 @jB.r8 (ak5 @jB.r9 (ak5 @jB.r10 (@jB.r11)))))))))))
theorem jB.runs {s:Value} {S C:zn} {e:AEx} {T:List Value} (h:zG Try.prog O false jB.code ([s,zh,zh,zh,zh,zh,zh,zh,zh,zh,zh,zh,zh,zh,zh,zh,zh,zh,zh,zh,zh,zh,zh,zh,zh,zh]) S=some (e,T,C)) (he:e=.normal∨e=.ret)  (h0:wu (T.getD 2 zh)=true) (h1:wu (T.getD 3 zh)=true):zW Try.prog O 63 [s] S=some (Value.tuple #[T.getD 2 zh,T.getD 3 zh],C) :=
 yD rfl rfl Try.func63 (by decide) jB.body (by exact h) he ((yY ((show zK Try.prog T C Try.f63.results.toList=zK Try.prog T C [(ResultVar.tmp 2),(ResultVar.tmp 3)] from by kernel_rfl).trans (by simp only [zK])) (by kernel_rfl) (by simp only [List.all_cons,List.all_nil,h0,h1,Bool.and_true])).trans rfl)
end Go.Proofs.Ytfjogganfjkckaa
namespace Go.Proofs.Ytfjogganfjkckaa
open Go.Abs
abbrev zD.id:FuncId:=35
noncomputable def zD.jL:Code:=(Code.seq (Code.region 5 (reg Try.f35 5) false) (Code.seq (Code.cond (Operand.tmp 14) Code.skip (Code.exit 0)) (Code.seq (Code.block 1 (Code.seq (Code.region 6 (reg Try.f35 6) false) (Code.seq (Code.seq (Code.region 7 (reg Try.f35 7) false) (Code.cond (Operand.tmp 18) (Code.seq (Code.region 8 (reg Try.f35 8) false) Code.ret) Code.skip)) (Code.region 9 (reg Try.f35 9) false)))) (Code.region 10 (reg Try.f35 10) false))))
noncomputable def zD.code:Code:=(Code.seq (Code.region 0 (reg Try.f35 0) false) (Code.seq (Code.seq (Code.region 1 (reg Try.f35 1) false) (Code.cond (Operand.tmp 9) (Code.seq (Code.region 2 (reg Try.f35 2) false) Code.ret) Code.skip)) (Code.seq (Code.region 3 (reg Try.f35 3) false) (Code.seq (Code.seq (Code.region 4 (reg Try.f35 4) false) (Code.block 0 (Code.loop zD.jL))) (Code.seq (Code.region 11 (reg Try.f35 11) false) Code.ret)))))
theorem zD.body:Try.f35.body=some zD.code:=by kernel_rfl
theorem zD.eta {T:List Value} (h:T.length=27):T=[T.getD 0 zh,T.getD 1 zh,T.getD 2 zh,T.getD 3 zh,T.getD 4 zh,T.getD 5 zh,T.getD 6 zh,T.getD 7 zh,T.getD 8 zh,T.getD 9 zh,T.getD 10 zh,T.getD 11 zh,T.getD 12 zh,T.getD 13 zh,T.getD 14 zh,T.getD 15 zh,T.getD 16 zh,T.getD 17 zh,T.getD 18 zh,T.getD 19 zh,T.getD 20 zh,T.getD 21 zh,T.getD 22 zh,T.getD 23 zh,T.getD 24 zh,T.getD 25 zh,T.getD 26 zh]:=(qC T 27 h).trans (by kernel_rfl)
variable (t w B C v x u y z A d b c a f g i j k l m n o p q r s:Value) (S:zn)
theorem zD.r0 :jw Try.prog ⟨false,false,false⟩ (zW Try.prog O) (reg Try.f35 0) (reg Try.f35 0).toList ([t,w,B,C,v,x,u,y,z,A,d,b,c,a,f,g,i,j,k,l,m,n,o,p,q,r,s]) S =
  ( some ([t,w,Value.slice none 0 0,Value.int IntKind.i64 0,v,x,u,y,z,A,d,b,c,a,f,g,i,j,k,l,m,n,o,p,q,r,s],S)):=by
 kernel_rfl
theorem zD.r1 :jw Try.prog ⟨false,false,false⟩ (zW Try.prog O) (reg Try.f35 1) (reg Try.f35 1).toList ([t,w,B,C,v,x,u,y,z,A,d,b,c,a,f,g,i,j,k,l,m,n,o,p,q,r,s]) S =
  (zI (Zz Try.prog 24 (dem t) S) (fun F D=>zI (wB Try.prog BinOp.gtr 3 F (Value.int IntKind.i64 64) D) (fun H G=>some ([t,w,B,C,v,x,u,dem t,F,H,d,b,c,a,f,g,i,j,k,l,m,n,o,p,q,r,s],G)) ()) ()):=by
 kernel_rfl
theorem zD.r2 :jw Try.prog ⟨false,false,false⟩ (zW Try.prog O) (reg Try.f35 2) (reg Try.f35 2).toList ([t,w,B,C,v,x,u,y,z,A,d,b,c,a,f,g,i,j,k,l,m,n,o,p,q,r,s]) S =
  ( some ([t,w,Value.slice none 0 0,Value.int IntKind.i64 11,v,x,u,y,z,A,d,b,c,a,f,g,i,j,k,l,m,n,o,p,q,r,s],S)):=by
 kernel_rfl
theorem zD.r3 :jw Try.prog ⟨false,false,false⟩ (zW Try.prog O) (reg Try.f35 3) (reg Try.f35 3).toList ([t,w,B,C,v,x,u,y,z,A,d,b,c,a,f,g,i,j,k,l,m,n,o,p,q,r,s]) S =
  (zI (jH Try.prog 33 0 [] S) (fun E D=>some ([t,w,B,C,E,x,u,y,z,A,dem E,b,c,a,f,g,i,j,k,l,m,n,o,p,q,r,s],D)) ()):=by
 kernel_rfl
theorem zD.r4 :jw Try.prog ⟨false,false,false⟩ (zW Try.prog O) (reg Try.f35 4) (reg Try.f35 4).toList ([t,w,B,C,v,x,u,y,z,A,d,b,c,a,f,g,i,j,k,l,m,n,o,p,q,r,s]) S =
  (zI (Zz Try.prog 24 (dem t) S) (fun F D=>some ([t,w,B,C,v,x,u,y,z,A,d,dem t,F,Value.int IntKind.i64 0,f,g,i,j,k,l,m,n,o,p,q,r,s],D)) ()):=by
 kernel_rfl
theorem zD.r5 :jw Try.prog ⟨false,false,false⟩ (zW Try.prog O) (reg Try.f35 5) (reg Try.f35 5).toList ([t,w,B,C,v,x,u,y,z,A,d,b,c,a,f,g,i,j,k,l,m,n,o,p,q,r,s]) S =
  (zI (wB Try.prog BinOp.lss 3 a c S) (fun E D=>some ([t,w,B,C,v,x,u,y,z,A,d,b,c,a,E,g,i,j,k,l,m,n,o,p,q,r,s],D)) ()):=by
 kernel_rfl
theorem zD.r6 :jw Try.prog ⟨false,false,false⟩ (zW Try.prog O) (reg Try.f35 6) (reg Try.f35 6).toList ([t,w,B,C,v,x,u,y,z,A,d,b,c,a,f,g,i,j,k,l,m,n,o,p,q,r,s]) S =
  (zI (jo Try.prog 24 b a S) (fun E D=>zI (jf Try.prog false 3 E D) (fun F G=>some ([t,w,B,C,v,x,F,y,z,A,d,b,c,a,f,E,dem F,j,k,l,m,n,o,p,q,r,s],G)) ()) ()):=by
 kernel_rfl
theorem zD.r7 :jw Try.prog ⟨false,false,false⟩ (zW Try.prog O) (reg Try.f35 7) (reg Try.f35 7).toList ([t,w,B,C,v,x,u,y,z,A,d,b,c,a,f,g,i,j,k,l,m,n,o,p,q,r,s]) S =
  (zI (wB Try.prog BinOp.lss 3 (dem u) (Value.int IntKind.i64 (-1)) S) (fun F D=>some ([t,w,B,C,v,x,u,y,z,A,d,b,c,a,f,g,i,dem u,F,l,m,n,o,p,q,r,s],D)) ()):=by
 kernel_rfl
theorem zD.r8 :jw Try.prog ⟨false,false,false⟩ (zW Try.prog O) (reg Try.f35 8) (reg Try.f35 8).toList ([t,w,B,C,v,x,u,y,z,A,d,b,c,a,f,g,i,j,k,l,m,n,o,p,q,r,s]) S =
  ( some ([t,w,Value.slice none 0 0,Value.int IntKind.i64 11,v,x,u,y,z,A,d,b,c,a,f,g,i,j,k,l,m,n,o,p,q,r,s],S)):=by
 kernel_rfl
theorem zD.r9 :jw Try.prog ⟨false,false,false⟩ (zW Try.prog O) (reg Try.f35 9) (reg Try.f35 9).toList ([t,w,B,C,v,x,u,y,z,A,d,b,c,a,f,g,i,j,k,l,m,n,o,p,q,r,s]) S =
  (zI (qA Try.prog false false 3 73 (dem u) S) (fun H D=>zI (wB Try.prog BinOp.add 73 H (Value.int IntKind.u64 1) D) (fun I G=>zI ((zW Try.prog O) 38 [(dem I)] G) (fun J L=>zI (wP Try.prog 33 33 v J L) (fun K M=>some ([t,w,B,C,K,x,u,y,z,A,d,b,c,a,f,g,i,j,k,dem v,dem u,H,I,J,dem K,r,s],M)) ()) ()) ()) ()):=by
 kernel_rfl
theorem zD.r10 :jw Try.prog ⟨false,false,false⟩ (zW Try.prog O) (reg Try.f35 10) (reg Try.f35 10).toList ([t,w,B,C,v,x,u,y,z,A,d,b,c,a,f,g,i,j,k,l,m,n,o,p,q,r,s]) S =
  (zI (wB Try.prog BinOp.add 3 a (Value.int IntKind.i64 1) S) (fun E D=>some ([t,w,B,C,v,x,u,y,z,A,d,b,c,dem E,f,g,i,j,k,l,m,n,o,p,q,E,s],D)) ()):=by
 kernel_rfl
theorem zD.r11 :jw Try.prog ⟨false,false,false⟩ (zW Try.prog O) (reg Try.f35 11) (reg Try.f35 11).toList ([t,w,B,C,v,x,u,y,z,A,d,b,c,a,f,g,i,j,k,l,m,n,o,p,q,r,s]) S =
  ( some ([t,w,v,Value.int IntKind.i64 0,dem v,x,u,y,z,A,d,b,c,a,f,g,i,j,k,l,m,n,o,p,q,r,dem v],S)):=by
 kernel_rfl
theorem zD.rs:type_of% (ak5 @zD.r0 (ak5 @zD.r1 (ak5 @zD.r2 (ak5 @zD.r3 (ak5 @zD.r4 (ak5 @zD.r5 (ak5 @zD.r6 (ak5 @zD.r7 (ak5 @zD.r8 (ak5 @zD.r9 (ak5 @zD.r10 (@zD.r11)))))))))))):=ak5 @zD.r0 (ak5 @zD.r1 (ak5 @zD.r2 (ak5 @zD.r3 (ak5 @zD.r4 (ak5 @zD.r5 (ak5 @zD.r6 (ak5 @zD.r7 (ak5 @zD.r8 (ak5 @zD.r9 (ak5 @zD.r10 (@zD.r11)))))))))))
theorem zD.runs {t:Value} {S D:zn} {e:AEx} {T:List Value} (h:zG Try.prog O false zD.code ([t,zh,zh,zh,zh,zh,zh,zh,zh,zh,zh,zh,zh,zh,zh,zh,zh,zh,zh,zh,zh,zh,zh,zh,zh,zh,zh]) S=some (e,T,D)) (he:e=.normal∨e=.ret)  (h0:wu (T.getD 2 zh)=true) (h1:wu (T.getD 3 zh)=true):zW Try.prog O 35 [t] S=some (Value.tuple #[T.getD 2 zh,T.getD 3 zh],D) :=
 yD rfl rfl Try.func35 (by decide) zD.body (by exact h) he ((yY ((show zK Try.prog T D Try.f35.results.toList=zK Try.prog T D [(ResultVar.tmp 2),(ResultVar.tmp 3)] from by kernel_rfl).trans (by simp only [zK])) (by kernel_rfl) (by simp only [List.all_cons,List.all_nil,h0,h1,Bool.and_true])).trans rfl)
end Go.Proofs.Ytfjogganfjkckaa
namespace Go.Proofs.Ytfjogganfjkckaa
open Go.Abs
abbrev zB.id:FuncId:=28
noncomputable def zB.jL:Code:=(Code.seq (Code.seq (Code.region 4 (reg Try.f28 4) false) (Code.cond (Operand.tmp 17) Code.skip (Code.exit 0))) (Code.seq (Code.block 1 (Code.seq (Code.region 6 (reg Try.f28 6) false) (Code.seq (Code.seq (Code.region 7 (reg Try.f28 7) false) (Code.cond (Operand.tmp 31) (Code.seq (Code.region 8 (reg Try.f28 8) false) Code.ret) Code.skip)) (Code.seq (Code.region 9 (reg Try.f28 9) false) (Code.seq (Code.region 10 (reg Try.f28 10) false) (Code.seq (Code.region 11 (reg Try.f28 11) false) (Code.cond (Operand.tmp 43) (Code.seq (Code.region 12 (reg Try.f28 12) false) (Code.seq (Code.seq (Code.region 13 (reg Try.f28 13) false) (Code.cond (Operand.tmp 50) (Code.seq (Code.region 14 (reg Try.f28 14) false) Code.ret) Code.skip)) (Code.seq (Code.region 15 (reg Try.f28 15) false) Code.ret))) Code.skip))))))) (Code.region 5 (reg Try.f28 5) false)))
noncomputable def zB.code:Code:=(Code.seq (Code.region 0 (reg Try.f28 0) false) (Code.seq (Code.region 1 (reg Try.f28 1) false) (Code.seq (Code.region 2 (reg Try.f28 2) false) (Code.seq (Code.seq (Code.region 3 (reg Try.f28 3) false) (Code.block 0 (Code.loop zB.jL))) (Code.seq (Code.region 16 (reg Try.f28 16) false) Code.ret)))))
theorem zB.body:Try.f28.body=some zB.code:=by kernel_rfl
theorem zB.eta {T:List Value} (h:T.length=58):T=[T.getD 0 zh,T.getD 1 zh,T.getD 2 zh,T.getD 3 zh,T.getD 4 zh,T.getD 5 zh,T.getD 6 zh,T.getD 7 zh,T.getD 8 zh,T.getD 9 zh,T.getD 10 zh,T.getD 11 zh,T.getD 12 zh,T.getD 13 zh,T.getD 14 zh,T.getD 15 zh,T.getD 16 zh,T.getD 17 zh,T.getD 18 zh,T.getD 19 zh,T.getD 20 zh,T.getD 21 zh,T.getD 22 zh,T.getD 23 zh,T.getD 24 zh,T.getD 25 zh,T.getD 26 zh,T.getD 27 zh,T.getD 28 zh,T.getD 29 zh,T.getD 30 zh,T.getD 31 zh,T.getD 32 zh,T.getD 33 zh,T.getD 34 zh,T.getD 35 zh,T.getD 36 zh,T.getD 37 zh,T.getD 38 zh,T.getD 39 zh,T.getD 40 zh,T.getD 41 zh,T.getD 42 zh,T.getD 43 zh,T.getD 44 zh,T.getD 45 zh,T.getD 46 zh,T.getD 47 zh,T.getD 48 zh,T.getD 49 zh,T.getD 50 zh,T.getD 51 zh,T.getD 52 zh,T.getD 53 zh,T.getD 54 zh,T.getD 55 zh,T.getD 56 zh,T.getD 57 zh]:=(qC T 58 h).trans (by kernel_rfl)
theorem zB.list {T:List Value} (h:T.length=58):∃ x0 x1 x2 x3 x4 x5 x6 x7 x8 x9 a b c d f g i k l m n o p q r s t u w x y z A B C D E F G H I J K L M N P Q R U V W X Y Z a0 a1 a2,T=[x0,x1,x2,x3,x4,x5,x6,x7,x8,x9,a,b,c,d,f,g,i,k,l,m,n,o,p,q,r,s,t,u,w,x,y,z,A,B,C,D,E,F,G,H,I,J,K,L,M,N,P,Q,R,U,V,W,X,Y,Z,a0,a1,a2]:=⟨_,_,_,_,_,_,_,_,_,_,_,_,_,_,_,_,_,_,_,_,_,_,_,_,_,_,_,_,_,_,_,_,_,_,_,_,_,_,_,_,_,_,_,_,_,_,_,_,_,_,_,_,_,_,_,_,_,_,zB.eta h⟩
variable (x0 x1 x2 x3 x4 x5 x6 x7 x8 x9 a b c d f g i k l m n o p q r s t u w x y z A B C D E F G H I J K L M N P Q R U V W X Y Z a0 a1 a2:Value) (S:zn)
theorem zB.r0 :jw Try.prog ⟨false,false,false⟩ (zW Try.prog O) (reg Try.f28 0) (reg Try.f28 0).toList ([x0,x1,x2,x3,x4,x5,x6,x7,x8,x9,a,b,c,d,f,g,i,k,l,m,n,o,p,q,r,s,t,u,w,x,y,z,A,B,C,D,E,F,G,H,I,J,K,L,M,N,P,Q,R,U,V,W,X,Y,Z,a0,a1,a2]) S =
  ( some ([x0,x1,Value.int IntKind.u64 0,Value.slice none 0 0,Value.int IntKind.i64 0,x5,x6,x7,x8,x9,a,b,c,d,f,g,i,k,l,m,n,o,p,q,r,s,t,u,w,x,y,z,A,B,C,D,E,F,G,H,I,J,K,L,M,N,P,Q,R,U,V,W,X,Y,Z,a0,a1,a2],S)):=by
 kernel_rfl
theorem zB.r1 :jw Try.prog ⟨false,false,false⟩ (zW Try.prog O) (reg Try.f28 1) (reg Try.f28 1).toList ([x0,x1,x2,x3,x4,x5,x6,x7,x8,x9,a,b,c,d,f,g,i,k,l,m,n,o,p,q,r,s,t,u,w,x,y,z,A,B,C,D,E,F,G,H,I,J,K,L,M,N,P,Q,R,U,V,W,X,Y,Z,a0,a1,a2]) S =
  ( some ([x0,x1,x2,x3,x4,Value.int IntKind.u64 0,x6,x7,x8,x9,a,b,c,d,f,g,i,k,l,m,n,o,p,q,r,s,t,u,w,x,y,z,A,B,C,D,E,F,G,H,I,J,K,L,M,N,P,Q,R,U,V,W,X,Y,Z,a0,a1,a2],S)):=by
 kernel_rfl
theorem zB.r2 :jw Try.prog ⟨false,false,false⟩ (zW Try.prog O) (reg Try.f28 2) (reg Try.f28 2).toList ([x0,x1,x2,x3,x4,x5,x6,x7,x8,x9,a,b,c,d,f,g,i,k,l,m,n,o,p,q,r,s,t,u,w,x,y,z,A,B,C,D,E,F,G,H,I,J,K,L,M,N,P,Q,R,U,V,W,X,Y,Z,a0,a1,a2]) S =
  ( some ([x0,x1,x2,x3,x4,x5,Value.int IntKind.u64 1,x7,x8,x9,a,b,c,d,f,g,i,k,l,m,n,o,p,q,r,s,t,u,w,x,y,z,A,B,C,D,E,F,G,H,I,J,K,L,M,N,P,Q,R,U,V,W,X,Y,Z,a0,a1,a2],S)):=by
 kernel_rfl
theorem zB.r3 :jw Try.prog ⟨false,false,false⟩ (zW Try.prog O) (reg Try.f28 3) (reg Try.f28 3).toList ([x0,x1,x2,x3,x4,x5,x6,x7,x8,x9,a,b,c,d,f,g,i,k,l,m,n,o,p,q,r,s,t,u,w,x,y,z,A,B,C,D,E,F,G,H,I,J,K,L,M,N,P,Q,R,U,V,W,X,Y,Z,a0,a1,a2]) S =
  ( some ([x0,x1,x2,x3,x4,x5,x6,Value.int IntKind.i64 0,x8,x9,a,b,c,d,f,g,i,k,l,m,n,o,p,q,r,s,t,u,w,x,y,z,A,B,C,D,E,F,G,H,I,J,K,L,M,N,P,Q,R,U,V,W,X,Y,Z,a0,a1,a2],S)):=by
 kernel_rfl
theorem zB.r4 :jw Try.prog ⟨false,false,false⟩ (zW Try.prog O) (reg Try.f28 4) (reg Try.f28 4).toList ([x0,x1,x2,x3,x4,x5,x6,x7,x8,x9,a,b,c,d,f,g,i,k,l,m,n,o,p,q,r,s,t,u,w,x,y,z,A,B,C,D,E,F,G,H,I,J,K,L,M,N,P,Q,R,U,V,W,X,Y,Z,a0,a1,a2]) S =
  (zI (Zz Try.prog 33 (dem x0) S) (fun v2 S1=>zI (wB Try.prog BinOp.lss 3 (dem x7) v2 S1) (fun v3 S2=>gdK (dem v3) true (ret x7) S2 (fun v5 S3=>gdK (dem v3) true (wB Try.prog BinOp.lss 3 (dem v5) (Value.int IntKind.i64 10)) S3 (fun v6 S4=>zI (wR (dem v3) v6 (Value.bool false) S4) (fun v7 S5=>some ([x0,x1,x2,x3,x4,x5,x6,x7,x8,x9,dem x7,dem x0,v2,v3,dem v3,dem v5,v6,v7,l,m,n,o,p,q,r,s,t,u,w,x,y,z,A,B,C,D,E,F,G,H,I,J,K,L,M,N,P,Q,R,U,V,W,X,Y,Z,a0,a1,a2],S5)) ()) ()) ()) ()) ()):=by
 refine sP Try.f28 4 0 (v:=x7) ?_
 refine sP Try.f28 4 1 (v:=x0) ?_
 refine sD Try.f28 4 2 (fun v2 S1=>?_)
 refine sD Try.f28 4 3 (fun v3 S2=>?_)
 refine sP Try.f28 4 4 (v:=v3) ?_
 refine sG Try.f28 4 5 (j:=4) (fun v5 S3=>?_)
 refine sG Try.f28 4 6 (j:=4) (fun v6 S4=>?_)
 refine sD Try.f28 4 7 (fun v7 S5=>?_)
 kernel_rfl
theorem zB.r6 :jw Try.prog ⟨false,false,false⟩ (zW Try.prog O) (reg Try.f28 6) (reg Try.f28 6).toList ([x0,x1,x2,x3,x4,x5,x6,x7,x8,x9,a,b,c,d,f,g,i,k,l,m,n,o,p,q,r,s,t,u,w,x,y,z,A,B,C,D,E,F,G,H,I,J,K,L,M,N,P,Q,R,U,V,W,X,Y,Z,a0,a1,a2]) S =
  (zI (jo Try.prog 33 (dem x0) (dem x7) S) (fun v2 S1=>zI (jf Try.prog false 5 v2 S1) (fun v3 S2=>zI (wB Try.prog BinOp.rem 5 v3 (Value.int IntKind.u8 128) S2) (fun v4 S3=>zI (qA Try.prog false false 5 73 v4 S3) (fun v5 S4=>some ([x0,x1,x2,x3,x4,x5,x6,x7,v5,x9,a,b,c,d,f,g,i,k,l,m,dem x0,dem x7,v2,v3,v4,dem v5,t,u,w,x,y,z,A,B,C,D,E,F,G,H,I,J,K,L,M,N,P,Q,R,U,V,W,X,Y,Z,a0,a1,a2],S4)) ()) ()) ()) ()):=by
 kernel_rfl
theorem zB.r7 :jw Try.prog ⟨false,false,false⟩ (zW Try.prog O) (reg Try.f28 7) (reg Try.f28 7).toList ([x0,x1,x2,x3,x4,x5,x6,x7,x8,x9,a,b,c,d,f,g,i,k,l,m,n,o,p,q,r,s,t,u,w,x,y,z,A,B,C,D,E,F,G,H,I,J,K,L,M,N,P,Q,R,U,V,W,X,Y,Z,a0,a1,a2]) S =
  (zI (wB Try.prog BinOp.eql 3 (dem x7) (Value.int IntKind.i64 9) S) (fun v1 S1=>gdK (dem v1) true (ret x8) S1 (fun v3 S2=>gdK (dem v1) true (wB Try.prog BinOp.gtr 73 (dem v3) (Value.int IntKind.u64 1)) S2 (fun v4 S3=>zI (wR (dem v1) v4 (Value.bool false) S3) (fun v5 S4=>some ([x0,x1,x2,x3,x4,x5,x6,x7,x8,x9,a,b,c,d,f,g,i,k,l,m,n,o,p,q,r,s,dem x7,v1,dem v1,dem v3,v4,v5,A,B,C,D,E,F,G,H,I,J,K,L,M,N,P,Q,R,U,V,W,X,Y,Z,a0,a1,a2],S4)) ()) ()) ()) ()):=by
 refine sP Try.f28 7 0 (v:=x7) ?_
 refine sD Try.f28 7 1 (fun v1 S1=>?_)
 refine sP Try.f28 7 2 (v:=v1) ?_
 refine sG Try.f28 7 3 (j:=2) (fun v3 S2=>?_)
 refine sG Try.f28 7 4 (j:=2) (fun v4 S3=>?_)
 refine sD Try.f28 7 5 (fun v5 S4=>?_)
 kernel_rfl
theorem zB.r8 :jw Try.prog ⟨false,false,false⟩ (zW Try.prog O) (reg Try.f28 8) (reg Try.f28 8).toList ([x0,x1,x2,x3,x4,x5,x6,x7,x8,x9,a,b,c,d,f,g,i,k,l,m,n,o,p,q,r,s,t,u,w,x,y,z,A,B,C,D,E,F,G,H,I,J,K,L,M,N,P,Q,R,U,V,W,X,Y,Z,a0,a1,a2]) S =
  ( some ([x0,x1,Value.int IntKind.u64 0,Value.slice none 0 0,Value.int IntKind.i64 11,x5,x6,x7,x8,x9,a,b,c,d,f,g,i,k,l,m,n,o,p,q,r,s,t,u,w,x,y,z,A,B,C,D,E,F,G,H,I,J,K,L,M,N,P,Q,R,U,V,W,X,Y,Z,a0,a1,a2],S)):=by
 kernel_rfl
theorem zB.r9 :jw Try.prog ⟨false,false,false⟩ (zW Try.prog O) (reg Try.f28 9) (reg Try.f28 9).toList ([x0,x1,x2,x3,x4,x5,x6,x7,x8,x9,a,b,c,d,f,g,i,k,l,m,n,o,p,q,r,s,t,u,w,x,y,z,A,B,C,D,E,F,G,H,I,J,K,L,M,N,P,Q,R,U,V,W,X,Y,Z,a0,a1,a2]) S =
  (zI (wB Try.prog BinOp.mul 73 (dem x8) (dem x6) S) (fun v3 S1=>zI (wB Try.prog BinOp.add 73 (dem x5) v3 S1) (fun v4 S2=>some ([x0,x1,x2,x3,x4,v4,x6,x7,x8,x9,a,b,c,d,f,g,i,k,l,m,n,o,p,q,r,s,t,u,w,x,y,z,dem x5,dem x8,dem x6,v3,dem v4,F,G,H,I,J,K,L,M,N,P,Q,R,U,V,W,X,Y,Z,a0,a1,a2],S2)) ()) ()):=by
 kernel_rfl
theorem zB.r10 :jw Try.prog ⟨false,false,false⟩ (zW Try.prog O) (reg Try.f28 10) (reg Try.f28 10).toList ([x0,x1,x2,x3,x4,x5,x6,x7,x8,x9,a,b,c,d,f,g,i,k,l,m,n,o,p,q,r,s,t,u,w,x,y,z,A,B,C,D,E,F,G,H,I,J,K,L,M,N,P,Q,R,U,V,W,X,Y,Z,a0,a1,a2]) S =
  (zI (wB Try.prog BinOp.mul 73 (dem x6) (Value.int IntKind.u64 128) S) (fun v1 S1=>some ([x0,x1,x2,x3,x4,x5,v1,x7,x8,x9,a,b,c,d,f,g,i,k,l,m,n,o,p,q,r,s,t,u,w,x,y,z,A,B,C,D,E,dem x6,dem v1,H,I,J,K,L,M,N,P,Q,R,U,V,W,X,Y,Z,a0,a1,a2],S1)) ()):=by
 kernel_rfl
theorem zB.r11 :jw Try.prog ⟨false,false,false⟩ (zW Try.prog O) (reg Try.f28 11) (reg Try.f28 11).toList ([x0,x1,x2,x3,x4,x5,x6,x7,x8,x9,a,b,c,d,f,g,i,k,l,m,n,o,p,q,r,s,t,u,w,x,y,z,A,B,C,D,E,F,G,H,I,J,K,L,M,N,P,Q,R,U,V,W,X,Y,Z,a0,a1,a2]) S =
  (zI (jo Try.prog 33 (dem x0) (dem x7) S) (fun v2 S1=>zI (jf Try.prog false 5 v2 S1) (fun v3 S2=>zI (wB Try.prog BinOp.lss 5 v3 (Value.int IntKind.u8 128) S2) (fun v4 S3=>some ([x0,x1,x2,x3,x4,x5,x6,x7,x8,x9,a,b,c,d,f,g,i,k,l,m,n,o,p,q,r,s,t,u,w,x,y,z,A,B,C,D,E,F,G,dem x0,dem x7,v2,v3,v4,M,N,P,Q,R,U,V,W,X,Y,Z,a0,a1,a2],S3)) ()) ()) ()):=by
 kernel_rfl
theorem zB.r12 :jw Try.prog ⟨false,false,false⟩ (zW Try.prog O) (reg Try.f28 12) (reg Try.f28 12).toList ([x0,x1,x2,x3,x4,x5,x6,x7,x8,x9,a,b,c,d,f,g,i,k,l,m,n,o,p,q,r,s,t,u,w,x,y,z,A,B,C,D,E,F,G,H,I,J,K,L,M,N,P,Q,R,U,V,W,X,Y,Z,a0,a1,a2]) S =
  (zI ((zW Try.prog O) 38 [(dem (dem x5))] S) (fun v1 S1=>some ([x0,x1,x2,x3,x4,x5,x6,x7,x8,v1,a,b,c,d,f,g,i,k,l,m,n,o,p,q,r,s,t,u,w,x,y,z,A,B,C,D,E,F,G,H,I,J,K,L,dem x5,dem v1,P,Q,R,U,V,W,X,Y,Z,a0,a1,a2],S1)) ()):=by
 kernel_rfl
theorem zB.r13 :jw Try.prog ⟨false,false,false⟩ (zW Try.prog O) (reg Try.f28 13) (reg Try.f28 13).toList ([x0,x1,x2,x3,x4,x5,x6,x7,x8,x9,a,b,c,d,f,g,i,k,l,m,n,o,p,q,r,s,t,u,w,x,y,z,A,B,C,D,E,F,G,H,I,J,K,L,M,N,P,Q,R,U,V,W,X,Y,Z,a0,a1,a2]) S =
  (zI (Zz Try.prog 33 (dem x9) S) (fun v1 S1=>zI (wB Try.prog BinOp.add 3 (dem x7) (Value.int IntKind.i64 1) S1) (fun v3 S2=>zI (wB Try.prog BinOp.neq 3 v1 v3 S2) (fun v4 S3=>some ([x0,x1,x2,x3,x4,x5,x6,x7,x8,x9,a,b,c,d,f,g,i,k,l,m,n,o,p,q,r,s,t,u,w,x,y,z,A,B,C,D,E,F,G,H,I,J,K,L,M,N,dem x9,v1,dem x7,v3,v4,W,X,Y,Z,a0,a1,a2],S3)) ()) ()) ()):=by
 kernel_rfl
theorem zB.r14 :jw Try.prog ⟨false,false,false⟩ (zW Try.prog O) (reg Try.f28 14) (reg Try.f28 14).toList ([x0,x1,x2,x3,x4,x5,x6,x7,x8,x9,a,b,c,d,f,g,i,k,l,m,n,o,p,q,r,s,t,u,w,x,y,z,A,B,C,D,E,F,G,H,I,J,K,L,M,N,P,Q,R,U,V,W,X,Y,Z,a0,a1,a2]) S =
  ( some ([x0,x1,Value.int IntKind.u64 0,Value.slice none 0 0,Value.int IntKind.i64 11,x5,x6,x7,x8,x9,a,b,c,d,f,g,i,k,l,m,n,o,p,q,r,s,t,u,w,x,y,z,A,B,C,D,E,F,G,H,I,J,K,L,M,N,P,Q,R,U,V,W,X,Y,Z,a0,a1,a2],S)):=by
 kernel_rfl
theorem zB.r15 :jw Try.prog ⟨false,false,false⟩ (zW Try.prog O) (reg Try.f28 15) (reg Try.f28 15).toList ([x0,x1,x2,x3,x4,x5,x6,x7,x8,x9,a,b,c,d,f,g,i,k,l,m,n,o,p,q,r,s,t,u,w,x,y,z,A,B,C,D,E,F,G,H,I,J,K,L,M,N,P,Q,R,U,V,W,X,Y,Z,a0,a1,a2]) S =
  (zI (jH Try.prog 33 0 [] S) (fun v1 S1=>zI (wB Try.prog BinOp.add 3 (dem x7) (Value.int IntKind.i64 1) S1) (fun v4 S2=>zI (ZC Try.prog false 33 (dem x0) (some v4) none S2) (fun v5 S3=>zI (wP Try.prog 33 33 v1 v5 S3) (fun v6 S4=>some ([x0,x1,x5,v6,Value.int IntKind.i64 0,dem x5,x6,x7,x8,x9,a,b,c,d,f,g,i,k,l,m,n,o,p,q,r,s,t,u,w,x,y,z,A,B,C,D,E,F,G,H,I,J,K,L,M,N,P,Q,R,U,V,dem x5,dem v1,dem x0,dem x7,v4,v5,dem v6],S4)) ()) ()) ()) ()):=by
 kernel_rfl
theorem zB.r5 :jw Try.prog ⟨false,false,false⟩ (zW Try.prog O) (reg Try.f28 5) (reg Try.f28 5).toList ([x0,x1,x2,x3,x4,x5,x6,x7,x8,x9,a,b,c,d,f,g,i,k,l,m,n,o,p,q,r,s,t,u,w,x,y,z,A,B,C,D,E,F,G,H,I,J,K,L,M,N,P,Q,R,U,V,W,X,Y,Z,a0,a1,a2]) S =
  (zI (wB Try.prog BinOp.add 3 (dem x7) (Value.int IntKind.i64 1) S) (fun v1 S1=>some ([x0,x1,x2,x3,x4,x5,x6,v1,x8,x9,a,b,c,d,f,g,i,k,dem x7,dem v1,n,o,p,q,r,s,t,u,w,x,y,z,A,B,C,D,E,F,G,H,I,J,K,L,M,N,P,Q,R,U,V,W,X,Y,Z,a0,a1,a2],S1)) ()):=by
 kernel_rfl
theorem zB.r16 :jw Try.prog ⟨false,false,false⟩ (zW Try.prog O) (reg Try.f28 16) (reg Try.f28 16).toList ([x0,x1,x2,x3,x4,x5,x6,x7,x8,x9,a,b,c,d,f,g,i,k,l,m,n,o,p,q,r,s,t,u,w,x,y,z,A,B,C,D,E,F,G,H,I,J,K,L,M,N,P,Q,R,U,V,W,X,Y,Z,a0,a1,a2]) S =
  ( some ([x0,x1,Value.int IntKind.u64 0,Value.slice none 0 0,Value.int IntKind.i64 11,x5,x6,x7,x8,x9,a,b,c,d,f,g,i,k,l,m,n,o,p,q,r,s,t,u,w,x,y,z,A,B,C,D,E,F,G,H,I,J,K,L,M,N,P,Q,R,U,V,W,X,Y,Z,a0,a1,a2],S)):=by
 kernel_rfl
theorem zB.runs {x0:Value} {S S1:zn} {e:AEx} {T:List Value} (h:zG Try.prog O false zB.code ([x0,zh,zh,zh,zh,zh,zh,zh,zh,zh,zh,zh,zh,zh,zh,zh,zh,zh,zh,zh,zh,zh,zh,zh,zh,zh,zh,zh,zh,zh,zh,zh,zh,zh,zh,zh,zh,zh,zh,zh,zh,zh,zh,zh,zh,zh,zh,zh,zh,zh,zh,zh,zh,zh,zh,zh,zh,zh]) S=some (e,T,S1)) (he:e=.normal∨e=.ret)  (h0:wu (T.getD 2 zh)=true) (h1:wu (T.getD 3 zh)=true) (h2:wu (T.getD 4 zh)=true):zW Try.prog O 28 [x0] S=some (Value.tuple #[T.getD 2 zh,T.getD 3 zh,T.getD 4 zh],S1) :=
 yD rfl rfl Try.func28 (by decide) zB.body (by exact h) he ((yY ((show zK Try.prog T S1 Try.f28.results.toList=zK Try.prog T S1 [(ResultVar.tmp 2),(ResultVar.tmp 3),(ResultVar.tmp 4)] from by kernel_rfl).trans (by simp only [zK])) (by kernel_rfl) (by simp only [List.all_cons,List.all_nil,h0,h1,h2,Bool.and_true])).trans rfl)
end Go.Proofs.Ytfjogganfjkckaa
namespace Go.Proofs.Ytfjogganfjkckaa
open Go.Abs
abbrev slices_Clone.id:FuncId:=54
noncomputable def slices_Clone.code:Code:=(Code.seq (Code.region 0 (reg Try.f54 0) false) (Code.seq (Code.seq (Code.region 1 (reg Try.f54 1) false) (Code.cond (Operand.tmp 4) (Code.seq (Code.region 2 (reg Try.f54 2) false) Code.ret) Code.skip)) (Code.seq (Code.region 3 (reg Try.f54 3) false) Code.ret)))
theorem slices_Clone.body:Try.f54.body=some slices_Clone.code:=by kernel_rfl
variable (b c l f g i j k:Value) (S:zn)
theorem slices_Clone.r0 :jw Try.prog ⟨false,false,false⟩ (zW Try.prog O) (reg Try.f54 0) (reg Try.f54 0).toList ([b,c,l,f,g,i,j,k]) S =
  ( some ([b,c,Value.slice none 0 0,f,g,i,j,k],S)):=by
 kernel_rfl
theorem slices_Clone.r1 :jw Try.prog ⟨false,false,false⟩ (zW Try.prog O) (reg Try.f54 1) (reg Try.f54 1).toList ([b,c,l,f,g,i,j,k]) S =
  (zI (wB Try.prog BinOp.eql 33 (dem b) (Value.slice none 0 0) S) (fun o d=>some ([b,c,l,dem b,o,i,j,k],d)) ()):=by
 kernel_rfl
theorem slices_Clone.r2 :jw Try.prog ⟨false,false,false⟩ (zW Try.prog O) (reg Try.f54 2) (reg Try.f54 2).toList ([b,c,l,f,g,i,j,k]) S =
  ( some ([b,c,Value.slice none 0 0,f,g,i,j,k],S)):=by
 kernel_rfl
theorem slices_Clone.r3 :jw Try.prog ⟨false,false,false⟩ (zW Try.prog O) (reg Try.f54 3) (reg Try.f54 3).toList ([b,c,l,f,g,i,j,k]) S =
  (zI (jH Try.prog 33 0 [] S) (fun m d=>zI (wP Try.prog 33 33 m (dem b) d) (fun n p=>some ([b,c,n,f,g,dem m,dem b,dem n],p)) ()) ()):=by
 kernel_rfl
theorem slices_Clone.runs {b:Value} {S d:zn} {e:AEx} {T:List Value} (h:zG Try.prog O false slices_Clone.code ([b,zh,zh,zh,zh,zh,zh,zh]) S=some (e,T,d)) (he:e=.normal∨e=.ret):zW Try.prog O 54 [b] S=some (T.getD 2 zh,d) :=
 yD rfl rfl Try.func54 (by decide) slices_Clone.body (by exact h) he (yA (a:=T.getD 2 zh) ((show zK Try.prog T d Try.f54.results.toList=zK Try.prog T d [(ResultVar.tmp 2)] from by kernel_rfl).trans (by simp only [zK])) (by kernel_rfl))
end Go.Proofs.Ytfjogganfjkckaa
namespace Go.Proofs.Ytfjogganfjkckaa
open Go.Abs
abbrev jr.id:FuncId:=41
noncomputable def jr.jL:Code:=(Code.seq (Code.region 3 (reg Try.f41 3) false) (Code.seq (Code.cond (Operand.tmp 11) Code.skip (Code.exit 0)) (Code.seq (Code.block 1 (Code.seq (Code.region 4 (reg Try.f41 4) false) (Code.seq (Code.seq (Code.region 5 (reg Try.f41 5) false) (Code.cond (Operand.tmp 28) (Code.exit 0) Code.skip)) (Code.seq (Code.region 6 (reg Try.f41 6) false) (Code.seq (Code.region 7 (reg Try.f41 7) false) (Code.cond (Operand.tmp 38) (Code.seq (Code.region 8 (reg Try.f41 8) false) Code.ret) Code.skip)))))) (Code.region 9 (reg Try.f41 9) false))))
noncomputable def jr.code:Code:=(Code.seq (Code.region 0 (reg Try.f41 0) false) (Code.seq (Code.region 1 (reg Try.f41 1) false) (Code.seq (Code.seq (Code.region 2 (reg Try.f41 2) false) (Code.block 0 (Code.loop jr.jL))) (Code.seq (Code.region 10 (reg Try.f41 10) false) Code.ret))))
theorem jr.body:Try.f41.body=some jr.code:=by kernel_rfl
theorem jr.eta {T:List Value} (h:T.length=46):T=[T.getD 0 zh,T.getD 1 zh,T.getD 2 zh,T.getD 3 zh,T.getD 4 zh,T.getD 5 zh,T.getD 6 zh,T.getD 7 zh,T.getD 8 zh,T.getD 9 zh,T.getD 10 zh,T.getD 11 zh,T.getD 12 zh,T.getD 13 zh,T.getD 14 zh,T.getD 15 zh,T.getD 16 zh,T.getD 17 zh,T.getD 18 zh,T.getD 19 zh,T.getD 20 zh,T.getD 21 zh,T.getD 22 zh,T.getD 23 zh,T.getD 24 zh,T.getD 25 zh,T.getD 26 zh,T.getD 27 zh,T.getD 28 zh,T.getD 29 zh,T.getD 30 zh,T.getD 31 zh,T.getD 32 zh,T.getD 33 zh,T.getD 34 zh,T.getD 35 zh,T.getD 36 zh,T.getD 37 zh,T.getD 38 zh,T.getD 39 zh,T.getD 40 zh,T.getD 41 zh,T.getD 42 zh,T.getD 43 zh,T.getD 44 zh,T.getD 45 zh]:=(qC T 46 h).trans (by kernel_rfl)
theorem jr.list {T:List Value} (h:T.length=46):∃ P V Y Z x4 U Q R W X a b c d f g i k l m n o p q r s t u w x y z A B C D E F G H I J K L M N,T=[P,V,Y,Z,x4,U,Q,R,W,X,a,b,c,d,f,g,i,k,l,m,n,o,p,q,r,s,t,u,w,x,y,z,A,B,C,D,E,F,G,H,I,J,K,L,M,N]:=⟨_,_,_,_,_,_,_,_,_,_,_,_,_,_,_,_,_,_,_,_,_,_,_,_,_,_,_,_,_,_,_,_,_,_,_,_,_,_,_,_,_,_,_,_,_,_,jr.eta h⟩
variable (P V Y Z x4 U Q R W X a b c d f g i k l m n o p q r s t u w x y z A B C D E F G H I J K L M N:Value) (S:zn)
theorem jr.r0 :jw Try.prog ⟨false,false,false⟩ (zW Try.prog O) (reg Try.f41 0) (reg Try.f41 0).toList ([P,V,Y,Z,x4,U,Q,R,W,X,a,b,c,d,f,g,i,k,l,m,n,o,p,q,r,s,t,u,w,x,y,z,A,B,C,D,E,F,G,H,I,J,K,L,M,N]) S =
  ( some ([P,V,Value.int IntKind.u64 0,Value.slice none 0 0,Value.int IntKind.i64 0,U,Q,R,W,X,a,b,c,d,f,g,i,k,l,m,n,o,p,q,r,s,t,u,w,x,y,z,A,B,C,D,E,F,G,H,I,J,K,L,M,N],S)):=by
 kernel_rfl
theorem jr.r1 :jw Try.prog ⟨false,false,false⟩ (zW Try.prog O) (reg Try.f41 1) (reg Try.f41 1).toList ([P,V,Y,Z,x4,U,Q,R,W,X,a,b,c,d,f,g,i,k,l,m,n,o,p,q,r,s,t,u,w,x,y,z,A,B,C,D,E,F,G,H,I,J,K,L,M,N]) S =
  ( some ([P,V,Y,Z,x4,Value.int IntKind.u64 0,Q,R,W,X,a,b,c,d,f,g,i,k,l,m,n,o,p,q,r,s,t,u,w,x,y,z,A,B,C,D,E,F,G,H,I,J,K,L,M,N],S)):=by
 kernel_rfl
theorem jr.r2 :jw Try.prog ⟨false,false,false⟩ (zW Try.prog O) (reg Try.f41 2) (reg Try.f41 2).toList ([P,V,Y,Z,x4,U,Q,R,W,X,a,b,c,d,f,g,i,k,l,m,n,o,p,q,r,s,t,u,w,x,y,z,A,B,C,D,E,F,G,H,I,J,K,L,M,N]) S =
  (zI (Zz Try.prog 33 (dem P) S) (fun v1 S1=>some ([P,V,Y,Z,x4,U,Q,R,dem P,v1,Value.int IntKind.i64 0,b,c,d,f,g,i,k,l,m,n,o,p,q,r,s,t,u,w,x,y,z,A,B,C,D,E,F,G,H,I,J,K,L,M,N],S1)) ()):=by
 kernel_rfl
theorem jr.r3 :jw Try.prog ⟨false,false,false⟩ (zW Try.prog O) (reg Try.f41 3) (reg Try.f41 3).toList ([P,V,Y,Z,x4,U,Q,R,W,X,a,b,c,d,f,g,i,k,l,m,n,o,p,q,r,s,t,u,w,x,y,z,A,B,C,D,E,F,G,H,I,J,K,L,M,N]) S =
  (zI (wB Try.prog BinOp.lss 3 a X S) (fun v0 S1=>some ([P,V,Y,Z,x4,U,Q,R,W,X,a,v0,c,d,f,g,i,k,l,m,n,o,p,q,r,s,t,u,w,x,y,z,A,B,C,D,E,F,G,H,I,J,K,L,M,N],S1)) ()):=by
 kernel_rfl
theorem jr.r4 :jw Try.prog ⟨false,false,false⟩ (zW Try.prog O) (reg Try.f41 4) (reg Try.f41 4).toList ([P,V,Y,Z,x4,U,Q,R,W,X,a,b,c,d,f,g,i,k,l,m,n,o,p,q,r,s,t,u,w,x,y,z,A,B,C,D,E,F,G,H,I,J,K,L,M,N]) S =
  (zI (jo Try.prog 33 W (dem a) S) (fun v1 S1=>zI (jf Try.prog false 5 v1 S1) (fun v2 S2=>some ([P,V,Y,Z,x4,U,a,v2,W,X,dem a,b,dem a,v1,dem v2,g,i,k,l,m,n,o,p,q,r,s,t,u,w,x,y,z,A,B,C,D,E,F,G,H,I,J,K,L,M,N],S2)) ()) ()):=by
 kernel_rfl
theorem jr.r5 :jw Try.prog ⟨false,false,false⟩ (zW Try.prog O) (reg Try.f41 5) (reg Try.f41 5).toList ([P,V,Y,Z,x4,U,Q,R,W,X,a,b,c,d,f,g,i,k,l,m,n,o,p,q,r,s,t,u,w,x,y,z,A,B,C,D,E,F,G,H,I,J,K,L,M,N]) S =
  (zI (wB Try.prog BinOp.eql 3 (dem Q) (Value.int IntKind.i64 9) S) (fun v1 S1=>gdK (dem v1) true (ret R) S1 (fun v3 S2=>gdK (dem v1) true (wB Try.prog BinOp.gtr 5 (dem v3) (Value.int IntKind.u8 1)) S2 (fun v4 S3=>zI (wR (dem v1) v4 (Value.bool false) S3) (fun v5 S4=>gdK (dem v5) false (ret Q) S4 (fun v7 S5=>gdK (dem v5) false (wB Try.prog BinOp.gtr 3 (dem v7) (Value.int IntKind.i64 0)) S5 (fun v8 S6=>gdK (dem v5) false (ret v8) S6 (fun v9 S7=>gdK (dem v9) true (ret R) S7 (fun a0 S8=>gdK (dem v9) true (wB Try.prog BinOp.eql 5 (dem a0) (Value.int IntKind.u8 0)) S8 (fun a1 S9=>gdK (dem v5) false (wR (dem v9) a1 (Value.bool false)) S9 (fun a2 a3=>zI (wR (dem v5) (Value.bool true) a2 a3) (fun a4 a5=>some ([P,V,Y,Z,x4,U,Q,R,W,X,a,b,c,d,f,dem Q,v1,dem v1,dem v3,v4,v5,dem v5,dem v7,v8,dem v9,dem a0,a1,a2,a4,x,y,z,A,B,C,D,E,F,G,H,I,J,K,L,M,N],a5)) ()) ()) ()) ()) ()) ()) ()) ()) ()) ()) ()):=by
 refine sP Try.f41 5 0 (v:=Q) ?_
 refine sD Try.f41 5 1 (fun v1 S1=>?_)
 refine sP Try.f41 5 2 (v:=v1) ?_
 refine sG Try.f41 5 3 (j:=2) (fun v3 S2=>?_)
 refine sG Try.f41 5 4 (j:=2) (fun v4 S3=>?_)
 refine sD Try.f41 5 5 (fun v5 S4=>?_)
 refine sP Try.f41 5 6 (v:=v5) ?_
 refine sG Try.f41 5 7 (j:=6) (fun v7 S5=>?_)
 refine sG Try.f41 5 8 (j:=6) (fun v8 S6=>?_)
 refine sG Try.f41 5 9 (j:=6) (fun v9 S7=>?_)
 refine sG Try.f41 5 10 (j:=9) (fun a0 S8=>?_)
 refine sG Try.f41 5 11 (j:=9) (fun a1 S9=>?_)
 refine sG Try.f41 5 12 (j:=6) (fun a2 a3=>?_)
 refine sD Try.f41 5 13 (fun a4 a5=>?_)
 kernel_rfl
theorem jr.r6 :jw Try.prog ⟨false,false,false⟩ (zW Try.prog O) (reg Try.f41 6) (reg Try.f41 6).toList ([P,V,Y,Z,x4,U,Q,R,W,X,a,b,c,d,f,g,i,k,l,m,n,o,p,q,r,s,t,u,w,x,y,z,A,B,C,D,E,F,G,H,I,J,K,L,M,N]) S =
  (zI (wB Try.prog BinOp.and 5 (dem R) (Value.int IntKind.u8 127) S) (fun v2 S1=>zI (qA Try.prog false false 5 73 v2 S1) (fun v3 S2=>zI (wB Try.prog BinOp.mul 3 (Value.int IntKind.i64 7) (dem Q) S2) (fun v5 S3=>zI (wB Try.prog BinOp.shl 73 v3 v5 S3) (fun v6 S4=>zI (wB Try.prog BinOp.or 73 (dem U) v6 S4) (fun v7 S5=>some ([P,V,Y,Z,x4,v7,Q,R,W,X,a,b,c,d,f,g,i,k,l,m,n,o,p,q,r,s,t,u,w,dem U,dem R,v2,v3,dem Q,v5,v6,dem v7,F,G,H,I,J,K,L,M,N],S5)) ()) ()) ()) ()) ()):=by
 kernel_rfl
theorem jr.r7 :jw Try.prog ⟨false,false,false⟩ (zW Try.prog O) (reg Try.f41 7) (reg Try.f41 7).toList ([P,V,Y,Z,x4,U,Q,R,W,X,a,b,c,d,f,g,i,k,l,m,n,o,p,q,r,s,t,u,w,x,y,z,A,B,C,D,E,F,G,H,I,J,K,L,M,N]) S =
  (zI (wB Try.prog BinOp.lss 5 (dem R) (Value.int IntKind.u8 128) S) (fun v1 S1=>some ([P,V,Y,Z,x4,U,Q,R,W,X,a,b,c,d,f,g,i,k,l,m,n,o,p,q,r,s,t,u,w,x,y,z,A,B,C,D,E,dem R,v1,H,I,J,K,L,M,N],S1)) ()):=by
 kernel_rfl
theorem jr.r8 :jw Try.prog ⟨false,false,false⟩ (zW Try.prog O) (reg Try.f41 8) (reg Try.f41 8).toList ([P,V,Y,Z,x4,U,Q,R,W,X,a,b,c,d,f,g,i,k,l,m,n,o,p,q,r,s,t,u,w,x,y,z,A,B,C,D,E,F,G,H,I,J,K,L,M,N]) S =
  (zI (wB Try.prog BinOp.add 3 (dem Q) (Value.int IntKind.i64 1) S) (fun v3 S1=>zI (ZC Try.prog false 33 (dem P) (some v3) none S1) (fun v4 S2=>zI ((zW Try.prog O) 54 [(dem v4)] S2) (fun v5 S3=>some ([P,V,U,v5,Value.int IntKind.i64 0,dem U,Q,R,W,X,a,b,c,d,f,g,i,k,l,m,n,o,p,q,r,s,t,u,w,x,y,z,A,B,C,D,E,F,G,dem U,dem P,dem Q,v3,v4,dem v5,N],S3)) ()) ()) ()):=by
 kernel_rfl
theorem jr.r9 :jw Try.prog ⟨false,false,false⟩ (zW Try.prog O) (reg Try.f41 9) (reg Try.f41 9).toList ([P,V,Y,Z,x4,U,Q,R,W,X,a,b,c,d,f,g,i,k,l,m,n,o,p,q,r,s,t,u,w,x,y,z,A,B,C,D,E,F,G,H,I,J,K,L,M,N]) S =
  (zI (wB Try.prog BinOp.add 3 a (Value.int IntKind.i64 1) S) (fun v0 S1=>some ([P,V,Y,Z,x4,U,Q,R,W,X,dem v0,b,c,d,f,g,i,k,l,m,n,o,p,q,r,s,t,u,w,x,y,z,A,B,C,D,E,F,G,H,I,J,K,L,M,v0],S1)) ()):=by
 kernel_rfl
theorem jr.r10 :jw Try.prog ⟨false,false,false⟩ (zW Try.prog O) (reg Try.f41 10) (reg Try.f41 10).toList ([P,V,Y,Z,x4,U,Q,R,W,X,a,b,c,d,f,g,i,k,l,m,n,o,p,q,r,s,t,u,w,x,y,z,A,B,C,D,E,F,G,H,I,J,K,L,M,N]) S =
  ( some ([P,V,Value.int IntKind.u64 0,Value.slice none 0 0,Value.int IntKind.i64 11,U,Q,R,W,X,a,b,c,d,f,g,i,k,l,m,n,o,p,q,r,s,t,u,w,x,y,z,A,B,C,D,E,F,G,H,I,J,K,L,M,N],S)):=by
 kernel_rfl
theorem jr.runs {P:Value} {S S1:zn} {e:AEx} {T:List Value} (h:zG Try.prog O false jr.code ([P,zh,zh,zh,zh,zh,zh,zh,zh,zh,zh,zh,zh,zh,zh,zh,zh,zh,zh,zh,zh,zh,zh,zh,zh,zh,zh,zh,zh,zh,zh,zh,zh,zh,zh,zh,zh,zh,zh,zh,zh,zh,zh,zh,zh,zh]) S=some (e,T,S1)) (he:e=.normal∨e=.ret)  (h0:wu (T.getD 2 zh)=true) (h1:wu (T.getD 3 zh)=true) (h2:wu (T.getD 4 zh)=true):zW Try.prog O 41 [P] S=some (Value.tuple #[T.getD 2 zh,T.getD 3 zh,T.getD 4 zh],S1) :=
 yD rfl rfl Try.func41 (by decide) jr.body (by exact h) he ((yY ((show zK Try.prog T S1 Try.f41.results.toList=zK Try.prog T S1 [(ResultVar.tmp 2),(ResultVar.tmp 3),(ResultVar.tmp 4)] from by kernel_rfl).trans (by simp only [zK])) (by kernel_rfl) (by simp only [List.all_cons,List.all_nil,h0,h1,h2,Bool.and_true])).trans rfl)
end Go.Proofs.Ytfjogganfjkckaa
namespace Go.Proofs.Ytfjogganfjkckaa
open Go.Abs
abbrev yc.id:FuncId:=72
noncomputable def yc.jL:Code:=(Code.seq (Code.seq (Code.region 2 (reg Try.f72 2) false) (Code.cond (Operand.tmp 5) Code.skip (Code.exit 0))) (Code.block 1 (Code.seq (Code.region 3 (reg Try.f72 3) false) (Code.region 4 (reg Try.f72 4) false))))
noncomputable def yc.code:Code:=(Code.seq (Code.region 0 (reg Try.f72 0) false) (Code.seq (Code.region 1 (reg Try.f72 1) false) (Code.seq (Code.block 0 (Code.loop yc.jL)) (Code.seq (Code.region 5 (reg Try.f72 5) false) Code.ret))))
theorem yc.body:Try.f72.body=some yc.code:=by kernel_rfl
theorem yc.eta {T:List Value} (h:T.length=19):T=[T.getD 0 zh,T.getD 1 zh,T.getD 2 zh,T.getD 3 zh,T.getD 4 zh,T.getD 5 zh,T.getD 6 zh,T.getD 7 zh,T.getD 8 zh,T.getD 9 zh,T.getD 10 zh,T.getD 11 zh,T.getD 12 zh,T.getD 13 zh,T.getD 14 zh,T.getD 15 zh,T.getD 16 zh,T.getD 17 zh,T.getD 18 zh]:=(qC T 19 h).trans (by kernel_rfl)
theorem yc.list {T:List Value} (h:T.length=19):∃ b o v n p q r s t u c d f g i j k l m,T=[b,o,v,n,p,q,r,s,t,u,c,d,f,g,i,j,k,l,m]:=⟨_,_,_,_,_,_,_,_,_,_,_,_,_,_,_,_,_,_,_,yc.eta h⟩
variable (b o v n p q r s t u c d f g i j k l m:Value) (S:zn)
theorem yc.r0 :jw Try.prog ⟨false,false,false⟩ (zW Try.prog O) (reg Try.f72 0) (reg Try.f72 0).toList ([b,o,v,n,p,q,r,s,t,u,c,d,f,g,i,j,k,l,m]) S =
  ( some ([b,o,Value.slice none 0 0,n,p,q,r,s,t,u,c,d,f,g,i,j,k,l,m],S)):=by
 kernel_rfl
theorem yc.r1 :jw Try.prog ⟨false,false,false⟩ (zW Try.prog O) (reg Try.f72 1) (reg Try.f72 1).toList ([b,o,v,n,p,q,r,s,t,u,c,d,f,g,i,j,k,l,m]) S =
  ( some ([b,o,v,Value.slice none 0 0,p,q,r,s,t,u,c,d,f,g,i,j,k,l,m],S)):=by
 kernel_rfl
theorem yc.r2 :jw Try.prog ⟨false,false,false⟩ (zW Try.prog O) (reg Try.f72 2) (reg Try.f72 2).toList ([b,o,v,n,p,q,r,s,t,u,c,d,f,g,i,j,k,l,m]) S =
  (zI (wB Try.prog BinOp.geq 73 (dem b) (Value.int IntKind.u64 128) S) (fun A w=>some ([b,o,v,n,dem b,A,r,s,t,u,c,d,f,g,i,j,k,l,m],w)) ()):=by
 kernel_rfl
theorem yc.r3 :jw Try.prog ⟨false,false,false⟩ (zW Try.prog O) (reg Try.f72 3) (reg Try.f72 3).toList ([b,o,v,n,p,q,r,s,t,u,c,d,f,g,i,j,k,l,m]) S =
  (zI (qA Try.prog false false 73 5 (dem b) S) (fun x w=>zI (wB Try.prog BinOp.or 5 x (Value.int IntKind.u8 128) w) (fun y B=>zI (jH Try.prog 33 1 [(0,y)] B) (fun z C=>zI (wP Try.prog 33 33 n z C) (fun D E=>some ([b,o,v,D,p,q,dem n,dem b,x,y,z,dem D,f,g,i,j,k,l,m],E)) ()) ()) ()) ()):=by
 kernel_rfl
theorem yc.r4 :jw Try.prog ⟨false,false,false⟩ (zW Try.prog O) (reg Try.f72 4) (reg Try.f72 4).toList ([b,o,v,n,p,q,r,s,t,u,c,d,f,g,i,j,k,l,m]) S =
  (zI (wB Try.prog BinOp.shr 73 (dem b) (Value.int IntKind.u64 7) S) (fun A w=>some ([A,o,v,n,p,q,r,s,t,u,c,d,dem b,dem A,i,j,k,l,m],w)) ()):=by
 kernel_rfl
theorem yc.r5 :jw Try.prog ⟨false,false,false⟩ (zW Try.prog O) (reg Try.f72 5) (reg Try.f72 5).toList ([b,o,v,n,p,q,r,s,t,u,c,d,f,g,i,j,k,l,m]) S =
  (zI (qA Try.prog false false 73 5 (dem b) S) (fun x w=>zI (jH Try.prog 33 1 [(0,x)] w) (fun y B=>zI (wP Try.prog 33 33 n y B) (fun z C=>some ([b,o,z,dem n,p,q,r,s,t,u,c,d,f,g,dem n,dem b,x,y,dem z],C)) ()) ()) ()):=by
 kernel_rfl
theorem yc.runs {b:Value} {S w:zn} {e:AEx} {T:List Value} (h:zG Try.prog O false yc.code ([b,zh,zh,zh,zh,zh,zh,zh,zh,zh,zh,zh,zh,zh,zh,zh,zh,zh,zh]) S=some (e,T,w)) (he:e=.normal∨e=.ret):zW Try.prog O 72 [b] S=some (T.getD 2 zh,w) :=
 yD rfl rfl Try.func72 (by decide) yc.body (by exact h) he (yA (a:=T.getD 2 zh) ((show zK Try.prog T w Try.f72.results.toList=zK Try.prog T w [(ResultVar.tmp 2)] from by kernel_rfl).trans (by simp only [zK])) (by kernel_rfl))
end Go.Proofs.Ytfjogganfjkckaa
namespace Go.Proofs.Ytfjogganfjkckaa
open Go.Abs
abbrev jl.id:FuncId:=38
noncomputable def jl.jL:Code:=(Code.block 1 (Code.seq (Code.region 2 (reg Try.f38 2) false) (Code.seq (Code.region 3 (reg Try.f38 3) false) (Code.seq (Code.seq (Code.region 4 (reg Try.f38 4) false) (Code.cond (Operand.tmp 12) (Code.seq (Code.region 5 (reg Try.f38 5) false) Code.ret) Code.skip)) (Code.region 6 (reg Try.f38 6) false)))))
noncomputable def jl.code:Code:=(Code.seq (Code.region 0 (reg Try.f38 0) false) (Code.seq (Code.region 1 (reg Try.f38 1) false) (Code.block 0 (Code.loop jl.jL))))
theorem jl.body:Try.f38.body=some jl.code:=by kernel_rfl
theorem jl.eta {T:List Value} (h:T.length=22):T=[T.getD 0 zh,T.getD 1 zh,T.getD 2 zh,T.getD 3 zh,T.getD 4 zh,T.getD 5 zh,T.getD 6 zh,T.getD 7 zh,T.getD 8 zh,T.getD 9 zh,T.getD 10 zh,T.getD 11 zh,T.getD 12 zh,T.getD 13 zh,T.getD 14 zh,T.getD 15 zh,T.getD 16 zh,T.getD 17 zh,T.getD 18 zh,T.getD 19 zh,T.getD 20 zh,T.getD 21 zh]:=(qC T 22 h).trans (by kernel_rfl)
theorem jl.list {T:List Value} (h:T.length=22):∃ b s z r q u v w x y c d f g i j k l m n o p,T=[b,s,z,r,q,u,v,w,x,y,c,d,f,g,i,j,k,l,m,n,o,p]:=⟨_,_,_,_,_,_,_,_,_,_,_,_,_,_,_,_,_,_,_,_,_,_,jl.eta h⟩
variable (b s z r q u v w x y c d f g i j k l m n o p:Value) (S:zn)
theorem jl.r0 :jw Try.prog ⟨false,false,false⟩ (zW Try.prog O) (reg Try.f38 0) (reg Try.f38 0).toList ([b,s,z,r,q,u,v,w,x,y,c,d,f,g,i,j,k,l,m,n,o,p]) S =
  ( some ([b,s,Value.slice none 0 0,r,q,u,v,w,x,y,c,d,f,g,i,j,k,l,m,n,o,p],S)):=by
 kernel_rfl
theorem jl.r1 :jw Try.prog ⟨false,false,false⟩ (zW Try.prog O) (reg Try.f38 1) (reg Try.f38 1).toList ([b,s,z,r,q,u,v,w,x,y,c,d,f,g,i,j,k,l,m,n,o,p]) S =
  (zI (jH Try.prog 33 0 [] S) (fun E t=>some ([b,s,z,E,q,dem E,v,w,x,y,c,d,f,g,i,j,k,l,m,n,o,p],t)) ()):=by
 kernel_rfl
theorem jl.r2 :jw Try.prog ⟨false,false,false⟩ (zW Try.prog O) (reg Try.f38 2) (reg Try.f38 2).toList ([b,s,z,r,q,u,v,w,x,y,c,d,f,g,i,j,k,l,m,n,o,p]) S =
  (zI (wB Try.prog BinOp.rem 73 (dem b) (Value.int IntKind.u64 128) S) (fun B t=>zI (qA Try.prog false false 73 5 B t) (fun A C=>some ([b,s,z,r,A,u,dem b,B,dem A,y,c,d,f,g,i,j,k,l,m,n,o,p],C)) ()) ()):=by
 kernel_rfl
theorem jl.r3 :jw Try.prog ⟨false,false,false⟩ (zW Try.prog O) (reg Try.f38 3) (reg Try.f38 3).toList ([b,s,z,r,q,u,v,w,x,y,c,d,f,g,i,j,k,l,m,n,o,p]) S =
  (zI (wB Try.prog BinOp.quo 73 (dem b) (Value.int IntKind.u64 128) S) (fun B t=>some ([B,s,z,r,q,u,v,w,x,dem b,dem B,d,f,g,i,j,k,l,m,n,o,p],t)) ()):=by
 kernel_rfl
theorem jl.r4 :jw Try.prog ⟨false,false,false⟩ (zW Try.prog O) (reg Try.f38 4) (reg Try.f38 4).toList ([b,s,z,r,q,u,v,w,x,y,c,d,f,g,i,j,k,l,m,n,o,p]) S =
  (zI (wB Try.prog BinOp.eql 73 (dem b) (Value.int IntKind.u64 0) S) (fun B t=>some ([b,s,z,r,q,u,v,w,x,y,c,dem b,B,g,i,j,k,l,m,n,o,p],t)) ()):=by
 kernel_rfl
theorem jl.r5 :jw Try.prog ⟨false,false,false⟩ (zW Try.prog O) (reg Try.f38 5) (reg Try.f38 5).toList ([b,s,z,r,q,u,v,w,x,y,c,d,f,g,i,j,k,l,m,n,o,p]) S =
  (zI (jH Try.prog 33 1 [(0,(dem q))] S) (fun A t=>zI (wP Try.prog 33 33 r A t) (fun D C=>some ([b,s,D,dem r,q,u,v,w,x,y,c,d,f,dem r,dem q,A,dem D,l,m,n,o,p],C)) ()) ()):=by
 kernel_rfl
theorem jl.r6 :jw Try.prog ⟨false,false,false⟩ (zW Try.prog O) (reg Try.f38 6) (reg Try.f38 6).toList ([b,s,z,r,q,u,v,w,x,y,c,d,f,g,i,j,k,l,m,n,o,p]) S =
  (zI (wB Try.prog BinOp.add 5 (dem q) (Value.int IntKind.u8 128) S) (fun A t=>zI (jH Try.prog 33 1 [(0,A)] t) (fun D C=>zI (wP Try.prog 33 33 r D C) (fun F G=>some ([b,s,z,F,q,u,v,w,x,y,c,d,f,g,i,j,k,dem r,dem q,A,D,dem F],G)) ()) ()) ()):=by
 kernel_rfl
theorem jl.runs {b:Value} {S t:zn} {e:AEx} {T:List Value} (h:zG Try.prog O false jl.code ([b,zh,zh,zh,zh,zh,zh,zh,zh,zh,zh,zh,zh,zh,zh,zh,zh,zh,zh,zh,zh,zh]) S=some (e,T,t)) (he:e=.normal∨e=.ret):zW Try.prog O 38 [b] S=some (T.getD 2 zh,t) :=
 yD rfl rfl Try.func38 (by decide) jl.body (by exact h) he (yA (a:=T.getD 2 zh) ((show zK Try.prog T t Try.f38.results.toList=zK Try.prog T t [(ResultVar.tmp 2)] from by kernel_rfl).trans (by simp only [zK])) (by kernel_rfl))
end Go.Proofs.Ytfjogganfjkckaa
namespace Go.Proofs.Ytfjogganfjkckaa
open Go.Abs
def enc (n:Nat):List UInt8:=if n < 128 then [UInt8.ofNat n] else UInt8.ofNat (n % 128+128)::enc (n / 128)
termination_by n
decreasing_by omega
theorem vT {n:Nat} (h:n < 128):enc n=[UInt8.ofNat n]:=by rw [enc,if_pos h]
theorem Yc {n:Nat} (h:¬ n < 128):enc n=UInt8.ofNat (n % 128+128)::enc (n / 128):=by rw [enc,if_neg h]
theorem wrap_u8 (n:Nat):IntKind.u8.wrap (n:Int)=((n % 256:Nat):Int):=by
 simp [IntKind.wrap,IntKind.bits,IntKind.signed]
theorem wrap_u64 (n:Nat):IntKind.u64.wrap (n:Int)=((n % 2 ^ 64:Nat):Int):=by
 simp [IntKind.wrap,IntKind.bits,IntKind.signed]
theorem akA:∀ m:Fin 256,orI .u8 (m.val:Int) 128=((m.val % 128+128:Nat):Int):=by decide +kernel
theorem aiN (n:Nat):orI .u8 (IntKind.u8.wrap (n:Int)) 128=((UInt8.ofNat (n % 128+128)).toNat:Int):=by
 rw [wrap_u8,akA ⟨n % 256,by omega⟩]
 simp only [UInt8.toNat_ofNat']
 omega
theorem abN {n:Nat}:IntKind.u8.wrap (n:Int)=((UInt8.ofNat n).toNat:Int):=by
 rw [wrap_u8]
 simp
theorem akW (n:Nat):(n:Int).fdiv (2 ^ min (Int.toNat 7) (IntKind.bits .u64))=((n / 128:Nat):Int):=by
 have:(2:Int) ^ min (Int.toNat 7) (IntKind.bits .u64)=128:=by decide
 rw [this,Int.fdiv_eq_ediv_of_nonneg _ (by omega)]
 omega
theorem afV (k:Nat):∀ n,n < 128 ^ (k+1)→(enc n).length≤k+1:=by
 induction k with
 | zero=>intro n h;rw [vT (by omega)];simp
 | succ k ih =>
  intro n h
  by_cases hn:n < 128
  ·
   rw [vT hn];simp
  ·
   rw [Yc hn]
   have:=ih (n / 128) (by rw [Nat.div_lt_iff_lt_mul (by omega)];exact h)
   simp only [List.length_cons];omega
theorem Ju {n:Nat} (h:n < 2 ^ 64):(enc n).length≤10:=afV 9 n (Nat.lt_of_lt_of_le h (by decide))
theorem aep (n:Nat):(n:Int).tmod 128=((n % 128:Nat):Int):=by
 rw [Int.tmod_eq_emod_of_nonneg (by omega)];omega
theorem ajo (n:Nat) (h:n < 2 ^ 64):IntKind.u64.wrap ((n:Int).tdiv 128)=((n / 128:Nat):Int):=by
 rw [Int.tdiv_eq_ediv_of_nonneg (by omega),show (n:Int) / 128=((n / 128:Nat):Int) by omega,wrap_u64]
 omega
theorem akC (n:Nat):IntKind.u8.wrap ((n % 128:Nat):Int)=((UInt8.ofNat (n % 128)).toNat:Int):=abN
theorem ajk (n:Nat):IntKind.u8.wrap (((UInt8.ofNat (n % 128)).toNat:Int)+128)=((UInt8.ofNat (n % 128+128)).toNat:Int):=by
 have:((UInt8.ofNat (n % 128)).toNat:Int)+128=((n % 128+128:Nat):Int):=by simp only [UInt8.toNat_ofNat'];omega
 rw [this];exact abN
theorem afI:sv 2 1 0 []=by_ 2 []:=rfl
theorem agZ (x:UInt8):sv 2 1 1 [.int .u8 x.toNat]=by_ 2 [x]:=rfl
theorem ab6 {k:Nat} {l:List UInt8} {x:UInt8} {S:zn} (h:Okl k l) (hk:k≠1) (hl:l.length≤140737488355000):wP Try.prog 33 33 (by_ k l) (by_ 2 [x]) S=some (by_ 2 (l++[x]),S):=by
 rw [kX h hk Okl.own (by simp;omega),if_neg (fun h=>by have:=h.2;simp at this)]
theorem yc.round:∀ (n:Nat) (l:List UInt8) (k:Nat) {T:List Value} {S:zn} {r:St},qw (zG Try.prog O false yc.jL) T S=r→T.length=19→T.getD 0 zh=.int .u64 n→T.getD 3 zh=by_ k l →
  Okl k l→k≠1→n * 2 ^ l.length < 2 ^ 64→∃ T' l' k' n',r=some (.exit 0,T',S)∧T'.length=19∧T'.getD 0 zh=.int .u64 (n':Nat)∧T'.getD 3 zh=by_ k' l' ∧
   Okl k' l'∧k'≠1∧n' < 128∧l'++[UInt8.ofNat n']=l++enc n:=by
 intro n
 induction n using Nat.strongRecOn with
 | _ n ih =>
  intro l k T S r hL hT h0 h3 hs hk hl
  obtain ⟨x0,x1,x2,x3,x4,x5,x6,x7,x8,x9,x10,x11,x12,x13,x14,x15,x16,x17,x18,hTe⟩:=yc.list hT
  rw [hTe] at h0 h3
  simp only [List.getD_cons_succ,List.getD_cons_zero] at h0 h3
  subst h0 h3
  have hr:zG Try.prog O false yc.jL T S=zG Try.prog O false yc.jL T S:=rfl
  by_cases hlt:n < 128
  ·
   have hd:decide ((128:Int)≤(n:Int))=false:=by simp;omega
   conv at hr =>
    rhs
    rw [hTe]
    simp only [yc.jL,zSs,reduceIte,Nat.reduceEqDiff,Int.reduceEq,Int.reduceLT,Int.reduceLE,yc.r2,hd]
   exact ⟨_,l,k,n,hL.symm.trans (jZ hr (by simp)),rfl,rfl,rfl,hs,hk,hlt,by rw [vT hlt]⟩
  ·
   have hd:decide ((128:Int)≤(n:Int))=true:=by simp;omega
   have hll:l.length < 64:=by
    have:2 ^ l.length < 2 ^ 64:=Nat.lt_of_le_of_lt (Nat.le_mul_of_pos_left _ (by omega)) hl
    exact (Nat.pow_lt_pow_iff_right (by omega)).1 this
   have e1:∀ x S,wP Try.prog 33 33 (by_ k l) (by_ 2 [x]) S=some (by_ 2 (l++[x]),S):=fun x S=>ab6 hs hk (by omega)
   conv at hr =>
    rhs
    rw [hTe]
    simp only [yc.jL,zSs,reduceIte,Nat.reduceEqDiff,Int.reduceEq,Int.reduceLT,Int.reduceLE,yc.r2,hd,yc.r3,ZT,aeS,aiN,Z8,agZ,e1,yc.r4,acI _ _ _ _ (show (0:Int)≤7 by omega),akW]
   have hmul:n / 128 * 2 ^ (l.length+1) < 2 ^ 64:=by
    refine Nat.lt_of_le_of_lt ?_ hl
    rw [Nat.pow_succ,Nat.mul_comm (2 ^ l.length) 2,← Nat.mul_assoc]
    exact Nat.mul_le_mul_right _ (by omega)
   obtain ⟨T',l',k',n',g1,g2,g3,g4,g5,g6,g7,g8⟩:=ih (n / 128) (by omega) _ 2 ((wY hr).symm.trans hL) rfl rfl rfl Okl.own (by decide) (by simpa using hmul)
   refine ⟨T',l',k',n',g1,g2,g3,g4,g5,g6,g7,?_⟩
   rw [g8,Yc hlt,List.append_assoc];rfl
theorem yc.v (n:Nat) (hn:n < 2 ^ 64) (S:zn):zW Try.prog O yc.id [.int .u64 n] S=some (by_ 2 (enc n),S):=by
 obtain ⟨T,hTe⟩:∃ T,T=(.int .u64 n::zh::zh::zh::zh::zh::zh::zh::zh::zh::zh::zh::zh::zh::zh::zh::zh::zh::zh::[]):=⟨_,rfl⟩
 have hr:zG Try.prog O false yc.code T S=zG Try.prog O false yc.code T S:=rfl
 conv at hr =>
  rhs
  rw [hTe]
  simp only [yc.code,zSs,reduceIte,Nat.reduceEqDiff,Int.reduceEq,Int.reduceLT,Int.reduceLE,yc.r0,yc.r1]
 generalize hL:qw (zG Try.prog O false yc.jL) _ _=r at hr
 obtain ⟨T',l',k',n',rfl,g2,g3,g4,g5,g6,g7,g8⟩:=yc.round n [] 0 hL rfl rfl rfl Okl.none (by decide) (by simpa using hn)
 obtain ⟨x0,x1,x2,x3,x4,x5,x6,x7,x8,x9,x10,x11,x12,x13,x14,x15,x16,x17,x18,hT'⟩:=yc.list g2
 rw [hT'] at g3 g4
 simp only [List.getD_cons_succ,List.getD_cons_zero] at g3 g4
 subst g3 g4
 have hlen:l'.length+1=(enc n).length:=by simpa using congrArg List.length g8
 have h10:=Ju hn
 have e1:∀ x S,wP Try.prog 33 33 (by_ k' l') (by_ 2 [x]) S=some (by_ 2 (l'++[x]),S):=fun x S=>ab6 g5 g6 (by omega)
 conv at hr =>
  rhs
  rw [hT']
  simp only [zSs,reduceIte,Nat.reduceEqDiff,Int.reduceEq,Int.reduceLT,Int.reduceLE,yc.r5,ZT,abN,Z8,agZ,e1]
 rw [hTe] at hr
 have:=yc.runs hr (.inr rfl)
 rw [List.nil_append] at g8
 rw [← g8]
 exact this
theorem jl.round:∀ (n:Nat) (l:List UInt8) {T:List Value} {S:zn} {r:St},qw (zG Try.prog O false jl.jL) T S=r→T.length=22→T.getD 0 zh=.int .u64 n→T.getD 3 zh=by_ 2 l →
  n * 2 ^ l.length < 2 ^ 64→l.length < 64→∃ T',r=some (.ret,T',S)∧T'.getD 2 zh=by_ 2 (l++enc n):=by
 intro n
 induction n using Nat.strongRecOn with
 | _ n ih =>
  intro l T S r hL hT h0 h3 hl hll
  obtain ⟨x0,x1,x2,x3,x4,x5,x6,x7,x8,x9,x10,x11,x12,x13,x14,x15,x16,x17,x18,x19,x20,x21,hTe⟩:=jl.list hT
  rw [hTe] at h0 h3
  simp only [List.getD_cons_succ,List.getD_cons_zero] at h0 h3
  subst h0 h3
  have hn:n < 2 ^ 64:=Nat.lt_of_le_of_lt (Nat.le_mul_of_pos_right _ (by exact Nat.two_pow_pos _)) hl
  have e1:∀ x S,wP Try.prog 33 33 (by_ 2 l) (by_ 2 [x]) S=some (by_ 2 (l++[x]),S):=fun x S=>ab6 Okl.own (by decide) (by omega)
  have hr:zG Try.prog O false jl.jL T S=zG Try.prog O false jl.jL T S:=rfl
  conv at hr =>
   rhs
   rw [hTe]
   simp only [jl.jL,zSs,reduceIte,Nat.reduceEqDiff,Int.reduceEq,Int.reduceLT,Int.reduceLE,jl.r2,jl.r3,jl.r4,WG _ _ _ (show (128:Int)≠0 by omega),xK _ _ _ (show (128:Int)≠0 by omega),aep,ajo n hn,ZT,akC]
  by_cases hz:n / 128=0
  ·
   have hd:decide (((n / 128:Nat):Int)=0)=true:=by simp;omega
   conv at hr =>
    rhs
    simp only [hd,zSs,reduceIte,Nat.reduceEqDiff,Int.reduceEq,Int.reduceLT,Int.reduceLE,jl.r5,Z8,agZ,e1]
   refine ⟨_,hL.symm.trans (jZ hr (by simp)),?_⟩
   rw [vT (by omega)]
   simp only [List.getD_cons_succ,List.getD_cons_zero]
   rw [show n % 128=n by omega]
  ·
   have hd:decide (((n / 128:Nat):Int)=0)=false:=by simp;omega
   conv at hr =>
    rhs
    simp only [hd,zSs,reduceIte,Nat.reduceEqDiff,Int.reduceEq,Int.reduceLT,Int.reduceLE,jl.r6,ajk,Z8,agZ,e1]
   have hmul:n / 128 * 2 ^ (l.length+1) < 2 ^ 64:=by
    refine Nat.lt_of_le_of_lt ?_ hl
    rw [Nat.pow_succ,Nat.mul_comm (2 ^ l.length) 2,← Nat.mul_assoc]
    exact Nat.mul_le_mul_right _ (by omega)
   have hl2:l.length+1 < 64:=by
    have:2 ^ (l.length+1) < 2 ^ 64:=Nat.lt_of_le_of_lt (Nat.le_mul_of_pos_left _ (by omega)) hmul
    exact (Nat.pow_lt_pow_iff_right (by omega)).1 this
   obtain ⟨T',g1,g2⟩:=ih (n / 128) (by omega) _ ((wY hr).symm.trans hL) rfl rfl rfl (by simpa using hmul) (by simpa using hl2)
   refine ⟨T',g1,?_⟩
   rw [g2,Yc (n:=n) (by omega),List.append_assoc]
   rfl
theorem jl.v (n:Nat) (hn:n < 2 ^ 64) (S:zn):zW Try.prog O jl.id [.int .u64 n] S=some (by_ 2 (enc n),S):=by
 obtain ⟨T,hTe⟩:∃ T,T=(.int .u64 n::zh::zh::zh::zh::zh::zh::zh::zh::zh::zh::zh::zh::zh::zh::zh::zh::zh::zh::zh::zh::zh::[]):=⟨_,rfl⟩
 have hr:zG Try.prog O false jl.code T S=zG Try.prog O false jl.code T S:=rfl
 conv at hr =>
  rhs
  rw [hTe]
  simp only [jl.code,zSs,reduceIte,Nat.reduceEqDiff,Int.reduceEq,Int.reduceLT,Int.reduceLE,jl.r0,jl.r1,vM,afI]
 generalize hL:qw (zG Try.prog O false jl.jL) _ _=r at hr
 obtain ⟨T',rfl,g2⟩:=jl.round n [] hL rfl rfl rfl (by simpa using hn) (by simp)
 conv at hr =>
  rhs
  simp only [zSs,reduceIte,Nat.reduceEqDiff,Int.reduceEq,Int.reduceLT,Int.reduceLE]
 rw [hTe] at hr
 have hrun:=jl.runs hr (.inr rfl)
 rw [g2] at hrun
 exact hrun
end Go.Proofs.Ytfjogganfjkckaa
namespace Go.Proofs.Ytfjogganfjkckaa
open Go.Abs
theorem slices_Clone.v {k:Nat} {l:List UInt8} (h:Okl k l) (hk:k≠2) (hl:l.length≤140737488355328) (S:zn):zW Try.prog O slices_Clone.id [by_ k l] S=some (by_ (if k=0 then 0 else 2) l,S):=by
 obtain ⟨T,hTe⟩:∃ T,T=(by_ k l::zh::zh::zh::zh::zh::zh::zh::[]):=⟨_,rfl⟩
 have hr:zG Try.prog O false slices_Clone.code T S=zG Try.prog O false slices_Clone.code T S:=rfl
 conv at hr =>
  rhs
  rw [hTe]
  simp only [slices_Clone.code,zSs,reduceIte,Nat.reduceEqDiff,Int.reduceEq,Int.reduceLT,Int.reduceLE,slices_Clone.r0,slices_Clone.r1,if_neg hk,ahq h]
 by_cases h0:k=0
 ·
  have hl0:=h.nil h0
  subst h0 hl0
  conv at hr =>
   rhs
   simp only [decide_true,zSs,reduceIte,Nat.reduceEqDiff,Int.reduceEq,Int.reduceLT,Int.reduceLE,slices_Clone.r2]
  rw [hTe] at hr
  exact slices_Clone.runs hr (.inr rfl)
 ·
  have e1:∀ S,wP Try.prog 33 33 (by_ 2 []) (by_ k l) S=some (by_ 2 l,S):=fun S=>by
   rw [kX Okl.own (by decide) h (by simpa using hl)];rfl
  conv at hr =>
   rhs
   simp only [h0,decide_false,zSs,reduceIte,Nat.reduceEqDiff,Int.reduceEq,Int.reduceLT,Int.reduceLE,slices_Clone.r3,vM,afI,if_neg hk,e1]
  rw [hTe] at hr
  rw [if_neg h0]
  exact slices_Clone.runs hr (.inr rfl)
def scan:Nat→Nat→List UInt8→Option (Nat×List UInt8)
 | _,_,[]=>none
 | i,acc,x::r=>if (i=9∧1 < x.toNat)∨(0 < i∧x.toNat=0) then none else if x.toNat < 128 then some (acc+x.toNat * 128 ^ i,r) else scan (i+1) (acc+(x.toNat - 128) * 128 ^ i) r
def Xk (l:List UInt8):Value :=
 match scan 0 0 l with
 | none=>.tuple #[.int .u64 0,.slice none 0 0,.int .i64 11]
 | some (m,rest)=>.tuple #[.int .u64 (m:Nat),by_ 2 rest,.int .i64 0]
theorem jr.stop (x0 x1 x2 x3 x4 x5 x6 x7 x8 x9 x10 x11 x12 x13 x14 x15 x16 x17 x18 x19 x20 x21 x22 x23 x24 x25 x26 x27 x28 x29 x30 x31 x32 x33 x34 x35 x36 x37 x38 x39 x40 x41 x42 x43 x44 x45:Value) (i x:Int) (S:zn) (h6:x6=.int .i64 i) (h7:x7=.int .u8 x):∃ y15 y16 y17 y18 y19 y20 y21 y22 y23 y24 y25 y26 y27,jw Try.prog ⟨false,false,false⟩ (zW Try.prog O) (reg Try.f41 5) (reg Try.f41 5).toList (x0::x1::x2::x3::x4::x5::x6::x7::x8::x9::x10::x11::x12::x13::x14::x15::x16::x17::x18::x19::x20::x21::x22::x23::x24::x25::x26::x27::x28::x29::x30::x31::x32::x33::x34::x35::x36::x37::x38::x39::x40::x41::x42::x43::x44::x45::[]) S =
  some ((x0::x1::x2::x3::x4::x5::x6::x7::x8::x9::x10::x11::x12::x13::x14::y15::y16::y17::y18::y19::y20::y21::y22::y23::y24::y25::y26::y27::.bool (decide ((i=9∧1 < x)∨(0 < i∧x=0)))::x29::x30::x31::x32::x33::x34::x35::x36::x37::x38::x39::x40::x41::x42::x43::x44::x45::[]),S):=by
 subst h6 h7
 rw [jr.r5]
 simp only [zSs,reduceIte,Nat.reduceEqDiff,Int.reduceEq,Int.reduceLT,Int.reduceLE]
 rcases Bool.eq_false_or_eq_true (decide (i=9)) with d1 | d1 <;> rcases Bool.eq_false_or_eq_true (decide (1 < x)) with d2 | d2 <;> rcases Bool.eq_false_or_eq_true (decide (0 < i)) with d3 | d3 <;> rcases Bool.eq_false_or_eq_true (decide (x=0)) with d4 | d4 <;>
  simp only [d1,d2,d3,d4,zSs,reduceIte,Nat.reduceEqDiff,Int.reduceEq,Int.reduceLT,Int.reduceLE] <;> simp only [decide_eq_true_eq,decide_eq_false_iff_not] at d1 d2 d3 d4 <;>
  simp only [d1,d2,d3,d4,true_and,false_and,and_true,and_false,or_true,true_or,or_false,false_or,decide_true,decide_false,not_true,not_false_iff,Int.reduceLT,Int.reduceEq,and_self,or_self] <;> first | exact ⟨_,_,_,_,_,_,_,_,_,_,_,_,_,rfl⟩ | omega
theorem ajP:∀ m:Fin 256,aku .u8 (m.val:Int) 127=((m.val % 128:Nat):Int):=by decide +kernel
theorem ahp (x:UInt8):aku .u8 (x.toNat:Int) 127=((x.toNat % 128:Nat):Int):=ajP ⟨x.toNat,x.toNat_lt⟩
theorem Zw {n:Nat} (h:n < 2 ^ 64):IntKind.u64.wrap (n:Int)=(n:Int):=by
 rw [wrap_u64,Nat.mod_eq_of_lt h]
theorem aiD {a c i:Nat} (ha:a < 2 ^ i) (h:c * 2 ^ i < 2 ^ 64) (h2:a < 2 ^ 64):orI .u64 (a:Int) ((c * 2 ^ i:Nat):Int)=((a+c * 2 ^ i:Nat):Int):=by
 have hor:a ||| c * 2 ^ i=a+c * 2 ^ i:=by
  have:=Nat.shiftLeft_add_eq_or_of_lt ha c
  rw [Nat.shiftLeft_eq] at this
  rw [Nat.or_comm,← this,Nat.add_comm]
 have hlt:a ||| c * 2 ^ i < 2 ^ 64:=Nat.or_lt_two_pow h2 h
 unfold orI
 rw [BitVec.ofInt_natCast,BitVec.ofInt_natCast,BitVec.toNat_or,BitVec.toNat_ofNat,BitVec.toNat_ofNat]
 rw [show IntKind.bits .u64=64 from rfl,Nat.mod_eq_of_lt h2,Nat.mod_eq_of_lt h,Zw hlt,hor]
theorem ak4 {c i:Nat} (hi:i≤9) (h:c * 128 ^ i < 2 ^ 64):IntKind.u64.wrap ((c:Int) * 2 ^ (min (Int.toNat (7 * (i:Int))) (IntKind.bits .u64)))=((c * 2 ^ (7 * i):Nat):Int):=by
 have e1:min (Int.toNat (7 * (i:Int))) (IntKind.bits .u64)=7 * i:=by
  rw [show IntKind.bits .u64=64 from rfl];omega
 have e2:(128:Nat) ^ i=2 ^ (7 * i):=by rw [Nat.pow_mul]
 rw [e1,show (c:Int) * 2 ^ (7 * i)=((c * 2 ^ (7 * i):Nat):Int) by simp,Zw (by rw [← e2];exact h)]
theorem ac4 {l pre suf:List UInt8} {x:UInt8} (hl:l=pre++x::suf):(l.drop ((pre.length:Int)+1).toNat).take ((l.length:Int).toNat - ((pre.length:Int)+1).toNat)=suf:=by
 rw [show ((pre.length:Int)+1).toNat=pre.length+1 by omega,show (l.length:Int).toNat=l.length by omega,hl]
 rw [show pre++x::suf=(pre++[x])++suf by simp,show pre.length+1=(pre++[x]).length by simp,List.drop_left]
 rw [List.take_of_length_le];simp;omega
theorem jr.round {k:Nat} {l:List UInt8} (hv:Okl k l) (hk:k≠2) (hlen:l.length≤140737488355328) {S:zn}:∀ (suf pre:List UInt8) (acc:Nat) {T:List Value} {r:St},qw (zG Try.prog O false jr.jL) T S=r→T.length=46 →
  T.getD 0 zh=by_ k l→T.getD 8 zh=by_ k l→T.getD 9 zh=.int .i64 l.length→T.getD 10 zh=.int .i64 pre.length→T.getD 5 zh=.int .u64 acc→l=pre++suf→acc < 128 ^ pre.length→pre.length≤9 →
  ∃ e T',r=some (e,T',S)∧match scan pre.length acc suf with
   | none=>e=.exit 0∧T'.length=46
   | some (m,rest)=>e=.ret∧m < 2 ^ 64∧T'.getD 2 zh=.int .u64 m∧T'.getD 3 zh=by_ 2 rest∧T'.getD 4 zh=.int .i64 0:=by
 intro suf
 induction suf with
 | nil =>
  intro pre acc T r hL hT h0 h8 h9 h10 h5 hl hacc hpre
  obtain ⟨x0,x1,x2,x3,x4,x5,x6,x7,x8,x9,x10,x11,x12,x13,x14,x15,x16,x17,x18,x19,x20,x21,x22,x23,x24,x25,x26,x27,x28,x29,x30,x31,x32,x33,x34,x35,x36,x37,x38,x39,x40,x41,x42,x43,x44,x45,hTe⟩:=jr.list hT
  rw [hTe] at h0 h8 h9 h10 h5
  simp only [List.getD_cons_succ,List.getD_cons_zero] at h0 h8 h9 h10 h5
  subst h0 h8 h9 h10 h5
  have hr:zG Try.prog O false jr.jL T S=zG Try.prog O false jr.jL T S:=rfl
  have hd:decide ((pre.length:Int) < (l.length:Int))=false:=by rw [hl];simp
  conv at hr =>
   rhs
   rw [hTe]
   simp only [jr.jL,zSs,reduceIte,Nat.reduceEqDiff,Int.reduceEq,Int.reduceLT,Int.reduceLE,jr.r3,hd]
  exact ⟨_,_,hL.symm.trans (jZ hr (by simp)),rfl,rfl⟩
 | cons x suf ih =>
  intro pre acc T r hL hT h0 h8 h9 h10 h5 hl hacc hpre
  obtain ⟨x0,x1,x2,x3,x4,x5,x6,x7,x8,x9,x10,x11,x12,x13,x14,x15,x16,x17,x18,x19,x20,x21,x22,x23,x24,x25,x26,x27,x28,x29,x30,x31,x32,x33,x34,x35,x36,x37,x38,x39,x40,x41,x42,x43,x44,x45,hTe⟩:=jr.list hT
  rw [hTe] at h0 h8 h9 h10 h5
  simp only [List.getD_cons_succ,List.getD_cons_zero] at h0 h8 h9 h10 h5
  subst h0 h8 h9 h10 h5
  have hr:zG Try.prog O false jr.jL T S=zG Try.prog O false jr.jL T S:=rfl
  have hlt:(pre.length:Int) < (l.length:Int):=by rw [hl];simp;omega
  have hd:decide ((pre.length:Int) < (l.length:Int))=true:=by simpa using hlt
  have k0:k≠0:=fun h=>by have:=hv.nil h;rw [this] at hl;simp at hl
  have e1:∀ S,jo Try.prog 33 (by_ k l) (.int .i64 pre.length) S=some (EP [.int .u8 x.toNat],S):=fun S=>by
   rw [agC hv (by omega) hlt];rw [Qr hl]
  obtain ⟨y15,y16,y17,y18,y19,y20,y21,y22,y23,y24,y25,y26,y27,e3⟩:=jr.stop (by_ k l) x1 x2 x3 x4 (.int .u64 acc) (.int .i64 pre.length) (.int .u8 x.toNat) (by_ k l) (.int .i64 l.length) (.int .i64 pre.length) (.bool true) (.int .i64 pre.length) (EP [.int .u8 x.toNat]) (.int .u8 x.toNat) x15 x16 x17 x18 x19 x20 x21 x22 x23 x24 x25 x26 x27 x28 x29 x30 x31 x32 x33 x34 x35 x36 x37 x38 x39 x40 x41 x42 x43 x44 x45 (pre.length:Int) (x.toNat:Int) S rfl rfl
  conv at hr =>
   rhs
   rw [hTe]
   simp only [jr.jL,zSs,reduceIte,Nat.reduceEqDiff,Int.reduceEq,Int.reduceLT,Int.reduceLE,jr.r3,hd,jr.r4,e1,KA,if_neg hk,e3]
  have hst:((pre.length:Int)=9∧1 < (x.toNat:Int)∨0 < (pre.length:Int)∧(x.toNat:Int)=0) ↔ ((pre.length=9∧1 < x.toNat)∨(0 < pre.length∧x.toNat=0)):=by omega
  by_cases hs:(pre.length=9∧1 < x.toNat)∨(0 < pre.length∧x.toNat=0)
  ·
   have hs2:=decide_eq_true (hst.2 hs)
   conv at hr =>
    rhs
    simp only [hs2,zSs,reduceIte,Nat.reduceEqDiff,Int.reduceEq,Int.reduceLT,Int.reduceLE]
   refine ⟨_,_,hL.symm.trans (jZ hr (by simp)),?_⟩
   rw [scan,if_pos hs]
   exact ⟨rfl,rfl⟩
  ·
   have hs2:=decide_eq_false (fun h=>hs (hst.1 h))
   have hx256:=x.toNat_lt
   have hpw:128 ^ pre.length≤128 ^ 9:=Nat.pow_le_pow_right (by omega) hpre
   have hc64:x.toNat % 128 * 128 ^ pre.length < 2 ^ 64:=by
    by_cases h9:pre.length=9
    ·
     rw [h9];have:x.toNat % 128≤1:=by omega
     exact Nat.lt_of_le_of_lt (Nat.mul_le_mul_right _ this) (by decide)
    ·
     have h8:128 ^ pre.length≤128 ^ 8:=Nat.pow_le_pow_right (by omega) (by omega)
     exact Nat.lt_of_le_of_lt (Nat.mul_le_mul (by omega:x.toNat % 128≤127) h8) (by decide)
   have hm:IntKind.i64.wrap (7 * (pre.length:Int))=7 * (pre.length:Int):=wrap_i64 (by omega) (by omega)
   have e128:(128:Nat) ^ pre.length=2 ^ (7 * pre.length):=by rw [Nat.pow_mul]
   have hor:=aiD (a:=acc) (c:=x.toNat % 128) (i:=7 * pre.length) (by rw [← e128];exact hacc) (by rw [← e128];exact hc64) (Nat.lt_of_lt_of_le hacc (Nat.le_trans hpw (by decide)))
   conv at hr =>
    rhs
    simp only [hs2,zSs,reduceIte,Nat.reduceEqDiff,Int.reduceEq,Int.reduceLT,Int.reduceLE,jr.r6,ahL,ahp,Zb,Zw (show x.toNat % 128 < 2 ^ 64 by omega),hm,VD _ _ _ _ (show (0:Int)≤7 * (pre.length:Int) by omega),ak4 hpre hc64,aeS,hor,jr.r7]
   rw [← e128] at hr
   have hadd:acc+x.toNat % 128 * 128 ^ pre.length < 128 ^ (pre.length+1):=by
    rw [Nat.pow_succ]
    have:x.toNat % 128 * 128 ^ pre.length≤127 * 128 ^ pre.length:=Nat.mul_le_mul_right _ (by omega)
    omega
   have hi1:IntKind.i64.wrap ((pre.length:Int)+1)=(pre.length:Int)+1:=wrap_i64 (by omega) (by omega)
   by_cases hxs:x.toNat < 128
   ·
    have hd2:decide ((x.toNat:Int) < 128)=true:=by simp;omega
    have e4:∀ S,ZL Try.prog 33 (by_ k l) (some (.int .i64 ((pre.length:Int)+1))) none S=some (by_ k suf,S):=fun S=>by
     rw [acU hv (lo:=some (.int .i64 ((pre.length:Int)+1))) (hi:=none) (i:=(pre.length:Int)+1) (j:=l.length) rfl rfl (by omega) (by omega) (by omega),ac4 hl,if_neg hk]
    have ok2:Okl k suf:=⟨hv.le,fun h=>absurd h k0⟩
    have e5:∀ S,zW Try.prog O slices_Clone.id [by_ k suf] S=some (by_ 2 suf,S):=fun S=>by
     rw [slices_Clone.v ok2 hk (by have:=congrArg List.length hl;simp at this;omega),if_neg k0]
    conv at hr =>
     rhs
     simp only [hd2,zSs,reduceIte,Nat.reduceEqDiff,Int.reduceEq,Int.reduceLT,Int.reduceLE,jr.r8,hi1,if_neg hk,e4,e5]
    refine ⟨_,_,hL.symm.trans (jZ hr (by simp)),?_⟩
    rw [scan,if_neg hs,if_pos hxs]
    have hxm:x.toNat % 128=x.toNat:=by omega
    rw [hxm]
    refine ⟨rfl,?_,rfl,rfl,rfl⟩
    rw [hxm] at hadd
    by_cases h9:pre.length=9
    ·
     rw [h9] at hacc ⊢
     have:x.toNat≤1:=by omega
     have h1:x.toNat * 128 ^ 9≤1 * 128 ^ 9:=Nat.mul_le_mul_right _ this
     have h2:(128:Nat) ^ 9+1 * 128 ^ 9=2 ^ 64:=by decide
     omega
    ·
     have h8:128 ^ (pre.length+1)≤128 ^ 9:=Nat.pow_le_pow_right (by omega) (by omega)
     exact Nat.lt_of_lt_of_le hadd (Nat.le_trans h8 (by decide))
   ·
    have hd2:decide ((x.toNat:Int) < 128)=false:=by simp;omega
    conv at hr =>
     rhs
     simp only [hd2,zSs,reduceIte,Nat.reduceEqDiff,Int.reduceEq,Int.reduceLT,Int.reduceLE,jr.r9,hi1]
    obtain ⟨e,T',g1,g3⟩:=ih (pre++[x]) (acc+x.toNat % 128 * 128 ^ pre.length) ((wY hr).symm.trans hL) rfl rfl rfl rfl (by simp) rfl (by simp [hl]) (by simpa using hadd) (by simp;omega)
    refine ⟨e,T',g1,?_⟩
    rw [scan,if_neg hs,if_neg hxs]
    have hxm:x.toNat % 128=x.toNat - 128:=by omega
    rw [hxm] at g3
    simpa using g3
theorem jr.v {k:Nat} {l:List UInt8} (hv:Okl k l) (hk:k≠2) (hlen:l.length≤140737488355328) (S:zn):zW Try.prog O jr.id [by_ k l] S=some (Xk l,S):=by
 obtain ⟨T,hTe⟩:∃ T,T=(by_ k l::zh::zh::zh::zh::zh::zh::zh::zh::zh::zh::zh::zh::zh::zh::zh::zh::zh::zh::zh::zh::zh::zh::zh::zh::zh::zh::zh::zh::zh::zh::zh::zh::zh::zh::zh::zh::zh::zh::zh::zh::zh::zh::zh::zh::zh::[]):=⟨_,rfl⟩
 have hr:zG Try.prog O false jr.code T S=zG Try.prog O false jr.code T S:=rfl
 conv at hr =>
  rhs
  rw [hTe]
  simp only [jr.code,zSs,reduceIte,Nat.reduceEqDiff,Int.reduceEq,Int.reduceLT,Int.reduceLE,jr.r0,jr.r1,jr.r2,if_neg hk,Zy hv]
 generalize hL:qw (zG Try.prog O false jr.jL) _ _=r at hr
 obtain ⟨e,T',rfl,g3⟩:=jr.round hv hk hlen l [] 0 hL rfl rfl rfl rfl rfl rfl rfl (by simp) (by simp)
 simp only [List.length_nil] at g3
 unfold Xk
 cases hsc:scan 0 0 l with
 | none =>
  rw [hsc] at g3
  obtain ⟨rfl,hT'⟩:=g3
  obtain ⟨x0,x1,x2,x3,x4,x5,x6,x7,x8,x9,x10,x11,x12,x13,x14,x15,x16,x17,x18,x19,x20,x21,x22,x23,x24,x25,x26,x27,x28,x29,x30,x31,x32,x33,x34,x35,x36,x37,x38,x39,x40,x41,x42,x43,x44,x45,hTe'⟩:=jr.list hT'
  conv at hr =>
   rhs
   rw [hTe']
   simp only [zSs,reduceIte,Nat.reduceEqDiff,Int.reduceEq,Int.reduceLT,Int.reduceLE,jr.r10]
  rw [hTe] at hr
  exact jr.runs hr (.inr rfl) rfl rfl rfl
 | some mr =>
  obtain ⟨m,rest⟩:=mr
  rw [hsc] at g3
  obtain ⟨rfl,hm,h2,h3,h4⟩:=g3
  conv at hr =>
   rhs
   simp only [zSs,reduceIte,Nat.reduceEqDiff,Int.reduceEq,Int.reduceLT,Int.reduceLE]
  rw [hTe] at hr
  have hrun:=jr.runs hr (.inr rfl) (by rw [h2];rfl) (by rw [h3];exact wC) (by rw [h4];rfl)
  rw [h2,h3,h4] at hrun
  exact hrun
theorem QV:∀ (suf:List UInt8) (i acc:Nat),acc < 128 ^ i→i≤9→∀ m rest,scan i acc suf=some (m,rest)→m < 2 ^ 64∧rest.length < suf.length:=by
 intro suf
 induction suf with
 | nil=>intro i acc _ _ m rest h;cases h
 | cons x suf ih =>
  intro i acc hacc hi m rest h
  rw [scan] at h
  have hx256:=x.toNat_lt
  split at h
  ·
   cases h
  ·
   rename_i hs
   split at h
   ·
    rename_i hx
    cases h
    refine ⟨?_,by simp⟩
    by_cases h9:i=9
    ·
     subst h9
     have:x.toNat≤1:=by omega
     have h1:x.toNat * 128 ^ 9≤1 * 128 ^ 9:=Nat.mul_le_mul_right _ this
     have h2:(128:Nat) ^ 9+1 * 128 ^ 9=2 ^ 64:=by decide
     omega
    ·
     have h8:128 ^ (i+1)≤128 ^ 9:=Nat.pow_le_pow_right (by omega) (by omega)
     have h3:acc+x.toNat * 128 ^ i < 128 ^ (i+1):=by
      rw [Nat.pow_succ]
      have:x.toNat * 128 ^ i≤127 * 128 ^ i:=Nat.mul_le_mul_right _ (by omega)
      omega
     exact Nat.lt_of_lt_of_le h3 (Nat.le_trans h8 (by decide))
   ·
    rename_i hx
    have h9:i≠9:=by omega
    have hadd:acc+(x.toNat - 128) * 128 ^ i < 128 ^ (i+1):=by
     rw [Nat.pow_succ]
     have:(x.toNat - 128) * 128 ^ i≤127 * 128 ^ i:=Nat.mul_le_mul_right _ (by omega)
     omega
    obtain ⟨h1,h2⟩:=ih (i+1) _ hadd (by omega) m rest h
    exact ⟨h1,by simp;omega⟩
end Go.Proofs.Ytfjogganfjkckaa
namespace Go.Proofs.Ytfjogganfjkckaa
open Go.Abs
theorem zB.goes (x0 x1 x2 x3 x4 x5 x6 x7 x8 x9 x10 x11 x12 x13 x14 x15 x16 x17 x18 x19 x20 x21 x22 x23 x24 x25 x26 x27 x28 x29 x30 x31 x32 x33 x34 x35 x36 x37 x38 x39 x40 x41 x42 x43 x44 x45 x46 x47 x48 x49 x50 x51 x52 x53 x54 x55 x56 x57:Value) (i:Int) {S:zn} {k:Nat} {l:List UInt8} (hv:Okl k l) (hk:k≠2) (h0:x0=by_ k l) (h7:x7=.int .i64 i):∃ y10 y11 y12 y13 y14 y15 y16,jw Try.prog ⟨false,false,false⟩ (zW Try.prog O) (reg Try.f28 4) (reg Try.f28 4).toList (x0::x1::x2::x3::x4::x5::x6::x7::x8::x9::x10::x11::x12::x13::x14::x15::x16::x17::x18::x19::x20::x21::x22::x23::x24::x25::x26::x27::x28::x29::x30::x31::x32::x33::x34::x35::x36::x37::x38::x39::x40::x41::x42::x43::x44::x45::x46::x47::x48::x49::x50::x51::x52::x53::x54::x55::x56::x57::[]) S =
  some ((x0::x1::x2::x3::x4::x5::x6::x7::x8::x9::y10::y11::y12::y13::y14::y15::y16::.bool (decide (i < l.length∧i < 10))::x18::x19::x20::x21::x22::x23::x24::x25::x26::x27::x28::x29::x30::x31::x32::x33::x34::x35::x36::x37::x38::x39::x40::x41::x42::x43::x44::x45::x46::x47::x48::x49::x50::x51::x52::x53::x54::x55::x56::x57::[]),S):=by
 subst h7 h0
 rw [zB.r4]
 simp only [zSs,reduceIte,Nat.reduceEqDiff,Int.reduceEq,Int.reduceLT,Int.reduceLE,if_neg hk,Zy hv,goInt]
 rcases Bool.eq_false_or_eq_true (decide (i < (l.length:Int))) with d1 | d1 <;> rcases Bool.eq_false_or_eq_true (decide (i < 10)) with d2 | d2 <;>
  simp only [d1,d2,zSs,reduceIte,Nat.reduceEqDiff,Int.reduceEq,Int.reduceLT,Int.reduceLE] <;> simp only [decide_eq_true_eq,decide_eq_false_iff_not] at d1 d2 <;>
  simp only [d1,d2,and_true,and_false,true_and,false_and,decide_true,decide_false] <;> exact ⟨_,_,_,_,_,_,_,rfl⟩
theorem zB.nine {T:List Value} {S:zn} {i c:Int} (hT:T.length=58) (h7:T.getD 7 zh=.int .i64 i) (h8:T.getD 8 zh=.int .u64 c):∃ T',jw Try.prog ⟨false,false,false⟩ (zW Try.prog O) (reg Try.f28 7) (reg Try.f28 7).toList T S=some (T',S) ∧
  T'.length=58∧T'.getD 31 zh=.bool (decide (i=9∧1 < c))∧∀ j,j < 10→T'.getD j zh=T.getD j zh:=by
 obtain ⟨x0,x1,x2,x3,x4,x5,x6,x7,x8,x9,x10,x11,x12,x13,x14,x15,x16,x17,x18,x19,x20,x21,x22,x23,x24,x25,x26,x27,x28,x29,x30,x31,x32,x33,x34,x35,x36,x37,x38,x39,x40,x41,x42,x43,x44,x45,x46,x47,x48,x49,x50,x51,x52,x53,x54,x55,x56,x57,rfl⟩:=zB.list hT
 simp only [List.getD_cons_succ,List.getD_cons_zero] at h7 h8
 subst h7 h8
 rw [zB.r7]
 simp only [zSs,reduceIte,Nat.reduceEqDiff,Int.reduceEq,Int.reduceLT,Int.reduceLE]
 rcases Bool.eq_false_or_eq_true (decide (i=9)) with d1 | d1 <;> rcases Bool.eq_false_or_eq_true (decide (1 < c)) with d2 | d2 <;>
  simp only [d1,d2,zSs,reduceIte,Nat.reduceEqDiff,Int.reduceEq,Int.reduceLT,Int.reduceLE] <;> simp only [decide_eq_true_eq,decide_eq_false_iff_not] at d1 d2 <;>
  simp only [d1,d2,and_true,and_false,true_and,false_and,decide_true,decide_false] <;> exact ⟨_,rfl,rfl,rfl,fun j hj=>by (match j,hj with | 0,_=>rfl | 1,_=>rfl | 2,_=>rfl | 3,_=>rfl | 4,_=>rfl | 5,_=>rfl | 6,_=>rfl | 7,_=>rfl | 8,_=>rfl | 9,_=>rfl)⟩
theorem adq (k:Nat):∀ n,128 ^ k≤n→n < 128 ^ (k+1)→(enc n).length=k+1:=by
 induction k with
 | zero=>intro n _ h;rw [vT (by omega)];rfl
 | succ k ih =>
  intro n h1 h2
  have hn:¬ n < 128:=by
   have:128 ^ 1≤128 ^ (k+1):=Nat.pow_le_pow_right (by omega) (by omega)
   omega
  rw [Yc hn,List.length_cons,ih (n / 128) (by rw [Nat.le_div_iff_mul_le (by omega)];exact h1) (by rw [Nat.div_lt_iff_lt_mul (by omega)];exact h2)]
theorem afg (n:Nat):0 < (enc n).length:=by
 by_cases h:n < 128
 ·
  rw [vT h];simp
 ·
  rw [Yc h];simp
section
variable {k:Nat} {l:List UInt8} {S:zn}
theorem zB.out (hv:Okl k l) (hk:k≠2) {i:Nat} {T:List Value} {r:St} (hL:qw (zG Try.prog O false zB.jL) T S=r) (hT:T.length=58)
  (h0:T.getD 0 zh=by_ k l) (h7:T.getD 7 zh=.int .i64 i) (hi:l.length≤i∨10≤i):∃ T',r=some (.exit 0,T',S)∧T'.length=58:=by
 obtain ⟨x0,x1,x2,x3,x4,x5,x6,x7,x8,x9,x10,x11,x12,x13,x14,x15,x16,x17,x18,x19,x20,x21,x22,x23,x24,x25,x26,x27,x28,x29,x30,x31,x32,x33,x34,x35,x36,x37,x38,x39,x40,x41,x42,x43,x44,x45,x46,x47,x48,x49,x50,x51,x52,x53,x54,x55,x56,x57,hTe⟩:=zB.list hT
 rw [hTe] at h0 h7
 simp only [List.getD_cons_succ,List.getD_cons_zero] at h0 h7
 have hr:zG Try.prog O false zB.jL T S=zG Try.prog O false zB.jL T S:=rfl
 obtain ⟨y10,y11,y12,y13,y14,y15,y16,e1⟩:=zB.goes x0 x1 x2 x3 x4 x5 x6 x7 x8 x9 x10 x11 x12 x13 x14 x15 x16 x17 x18 x19 x20 x21 x22 x23 x24 x25 x26 x27 x28 x29 x30 x31 x32 x33 x34 x35 x36 x37 x38 x39 x40 x41 x42 x43 x44 x45 x46 x47 x48 x49 x50 x51 x52 x53 x54 x55 x56 x57 (i:Int) (S:=S) hv hk h0 h7
 have hd:decide ((i:Int) < (l.length:Int)∧(i:Int) < 10)=false:=by simp;omega
 rw [hd] at e1
 conv at hr =>
  rhs
  rw [hTe]
  simp only [zB.jL,zSs,reduceIte,Nat.reduceEqDiff,Int.reduceEq,Int.reduceLT,Int.reduceLE,e1]
 exact ⟨_,hL.symm.trans (jZ hr (by simp)),rfl⟩
theorem zB.round (hv:Okl k l) (hk:k≠2) (hlen:l.length≤140737488355328):∀ (suf pre:List UInt8) (acc:Nat) {T:List Value} {r:St},qw (zG Try.prog O false zB.jL) T S=r→T.length=58 →
  T.getD 0 zh=by_ k l→T.getD 7 zh=.int .i64 pre.length→T.getD 5 zh=.int .u64 acc→T.getD 6 zh=.int .u64 (128 ^ pre.length:Nat)→l=pre++suf→acc < 128 ^ pre.length→pre.length≤9 →
  ∃ e T',r=some (e,T',S)∧match scan pre.length acc suf with
   | none=>(e=.exit 0∧T'.length=58)∨(e=.ret∧T'.getD 2 zh=.int .u64 0∧T'.getD 3 zh=.slice none 0 0∧T'.getD 4 zh=.int .i64 11)
   | some (m,rest)=>e=.ret∧T'.getD 2 zh=.int .u64 m∧T'.getD 3 zh=by_ 2 rest∧T'.getD 4 zh=.int .i64 0:=by
 intro suf
 induction suf with
 | nil =>
  intro pre acc T r hL hT h0 h7 h5 h6 hl hacc hpre
  obtain ⟨T',h1,h2⟩:=zB.out hv hk hL hT h0 h7 (by rw [hl];simp)
  exact ⟨_,T',h1,.inl ⟨rfl,h2⟩⟩
 | cons x suf ih =>
  intro pre acc T r hL hT h0 h7 h5 h6 hl hacc hpre
  obtain ⟨x0,x1,x2,x3,x4,x5,x6,x7,x8,x9,x10,x11,x12,x13,x14,x15,x16,x17,x18,x19,x20,x21,x22,x23,x24,x25,x26,x27,x28,x29,x30,x31,x32,x33,x34,x35,x36,x37,x38,x39,x40,x41,x42,x43,x44,x45,x46,x47,x48,x49,x50,x51,x52,x53,x54,x55,x56,x57,hTe⟩:=zB.list hT
  rw [hTe] at h0 h7 h5 h6
  simp only [List.getD_cons_succ,List.getD_cons_zero] at h0 h7 h5 h6
  have hr:zG Try.prog O false zB.jL T S=zG Try.prog O false zB.jL T S:=rfl
  have hlt:(pre.length:Int) < (l.length:Int):=by rw [hl];simp;omega
  have k0:k≠0:=fun h=>by have:=hv.nil h;rw [this] at hl;simp at hl
  have e1:∀ S,jo Try.prog 33 (by_ k l) (.int .i64 pre.length) S=some (EP [.int .u8 x.toNat],S):=fun S=>by
   rw [agC hv (by omega) hlt];rw [Qr hl]
  have hx256:=x.toNat_lt
  obtain ⟨y10,y11,y12,y13,y14,y15,y16,e3⟩:=zB.goes x0 x1 x2 x3 x4 x5 x6 x7 x8 x9 x10 x11 x12 x13 x14 x15 x16 x17 x18 x19 x20 x21 x22 x23 x24 x25 x26 x27 x28 x29 x30 x31 x32 x33 x34 x35 x36 x37 x38 x39 x40 x41 x42 x43 x44 x45 x46 x47 x48 x49 x50 x51 x52 x53 x54 x55 x56 x57 (pre.length:Int) (S:=S) hv hk h0 h7
  have hd:decide ((pre.length:Int) < (l.length:Int)∧(pre.length:Int) < 10)=true:=by rw [decide_eq_true_eq];omega
  rw [hd,h7,h5,h6,h0] at e3
  have hlow:(x.toNat:Int).tmod 128=((x.toNat % 128:Nat):Int):=aep _
  conv at hr =>
   rhs
   rw [hTe]
   simp only [zB.jL,zSs,reduceIte,Nat.reduceEqDiff,Int.reduceEq,Int.reduceLT,Int.reduceLE,h7,h5,h6,h0,e3,zB.r6,if_neg hk,e1,KA,WG _ _ _ (show (128:Int)≠0 by omega),hlow,Zb,Zw (show x.toNat % 128 < 2 ^ 64 by omega)]
  generalize hT2:(_::_:List Value)=T2 at hr
  have t0:T2.length=58:=by rw [← hT2];rfl
  have t1:T2.getD 0 zh=by_ k l:=by rw [← hT2];rfl
  have t2:T2.getD 5 zh=.int .u64 acc:=by rw [← hT2];rfl
  have t3:T2.getD 6 zh=.int .u64 (128 ^ pre.length:Nat):=by rw [← hT2];rfl
  have t4:T2.getD 7 zh=.int .i64 pre.length:=by rw [← hT2];rfl
  have t5:T2.getD 8 zh=.int .u64 (x.toNat % 128:Nat):=by rw [← hT2];rfl
  obtain ⟨T3,e4,f0,f1,f2⟩:=zB.nine (S:=S) t0 t4 t5
  rw [← f2 _ (by omega)] at t1 t2 t3 t4 t5
  conv at hr =>
   rhs
   simp only [e4,zSs,reduceIte,Nat.reduceEqDiff,Int.reduceEq,Int.reduceLT,Int.reduceLE,f1]
  clear hT2 e4 f1 f2 e3 hTe h7 h5 h6 h0
  obtain ⟨z0,z1,z2,z3,z4,z5,z6,z7,z8,z9,z10,z11,z12,z13,z14,z15,z16,z17,z18,z19,z20,z21,z22,z23,z24,z25,z26,z27,z28,z29,z30,z31,z32,z33,z34,z35,z36,z37,z38,z39,z40,z41,z42,z43,z44,z45,z46,z47,z48,z49,z50,z51,z52,z53,z54,z55,z56,z57,hTe⟩:=zB.list f0
  rw [hTe] at t1 t2 t3 t4 t5
  simp only [List.getD_cons_succ,List.getD_cons_zero] at t1 t2 t3 t4 t5
  subst t1
  by_cases hs1:pre.length=9∧1 < x.toNat % 128
  ·
   have hd1:decide ((pre.length:Int)=9∧1 < ((x.toNat % 128:Nat):Int))=true:=by rw [decide_eq_true_eq];omega
   conv at hr =>
    rhs
    rw [hTe]
    simp only [hd1,zSs,reduceIte,Nat.reduceEqDiff,Int.reduceEq,Int.reduceLT,Int.reduceLE,zB.r8]
   refine ⟨_,_,hL.symm.trans (jZ hr (by simp)),?_⟩
   rw [scan,if_pos (.inl ⟨hs1.1,by omega⟩)]
   exact .inr ⟨rfl,rfl,rfl,rfl⟩
  ·
   have hd1:decide ((pre.length:Int)=9∧1 < ((x.toNat % 128:Nat):Int))=false:=by rw [decide_eq_false_iff_not];omega
   have hpw:128 ^ pre.length≤128 ^ 9:=Nat.pow_le_pow_right (by omega) hpre
   have hc64:x.toNat % 128 * 128 ^ pre.length < 2 ^ 64:=by
    by_cases h9:pre.length=9
    ·
     rw [h9];have:x.toNat % 128≤1:=by omega
     exact Nat.lt_of_le_of_lt (Nat.mul_le_mul_right _ this) (by decide)
    ·
     have h8:128 ^ pre.length≤128 ^ 8:=Nat.pow_le_pow_right (by omega) (by omega)
     exact Nat.lt_of_le_of_lt (Nat.mul_le_mul (by omega:x.toNat % 128≤127) h8) (by decide)
   have ha64:acc+x.toNat % 128 * 128 ^ pre.length < 2 ^ 64:=by
    by_cases h9:pre.length=9
    ·
     rw [h9] at hacc ⊢
     have:x.toNat % 128≤1:=by omega
     have h1:x.toNat % 128 * 128 ^ 9≤1 * 128 ^ 9:=Nat.mul_le_mul_right _ this
     have h2:(128:Nat) ^ 9+1 * 128 ^ 9=2 ^ 64:=by decide
     omega
    ·
     have h8:128 ^ (pre.length+1)≤128 ^ 9:=Nat.pow_le_pow_right (by omega) (by omega)
     have h3:acc+x.toNat % 128 * 128 ^ pre.length < 128 ^ (pre.length+1):=by
      rw [Nat.pow_succ]
      have:x.toNat % 128 * 128 ^ pre.length≤127 * 128 ^ pre.length:=Nat.mul_le_mul_right _ (by omega)
      omega
     exact Nat.lt_of_lt_of_le h3 (Nat.le_trans h8 (by decide))
   have w1:IntKind.u64.wrap (((x.toNat % 128:Nat):Int) * ((128 ^ pre.length:Nat):Int))=((x.toNat % 128 * 128 ^ pre.length:Nat):Int):=by
    rw [← Int.natCast_mul,Zw hc64]
   have w2:IntKind.u64.wrap ((acc:Int)+((x.toNat % 128 * 128 ^ pre.length:Nat):Int))=((acc+x.toNat % 128 * 128 ^ pre.length:Nat):Int):=by
    rw [← Int.natCast_add,Zw ha64]
   conv at hr =>
    rhs
    rw [hTe]
    simp only [hd1,zSs,reduceIte,Nat.reduceEqDiff,Int.reduceEq,Int.reduceLT,Int.reduceLE,zB.r9,zB.r10,zB.r11,t2,t3,t4,t5,w1,w2,if_neg hk,e1,KA]
   have hi1:IntKind.i64.wrap ((pre.length:Int)+1)=(pre.length:Int)+1:=wrap_i64 (by omega) (by omega)
   by_cases hxs:x.toNat < 128
   ·
    have hxm:x.toNat % 128=x.toNat:=by omega
    rw [hxm] at hr ha64
    have hd2:decide ((x.toNat:Int) < 128)=true:=by rw [decide_eq_true_eq];omega
    conv at hr =>
     rhs
     simp only [hd2,zSs,reduceIte,Nat.reduceEqDiff,Int.reduceEq,Int.reduceLT,Int.reduceLE,zB.r12,jl.v _ ha64,zB.r13,Zy (Okl.read),goInt,hi1]
    by_cases hz:0 < pre.length∧x.toNat=0
    ·
     have hlen2:(enc (acc+x.toNat * 128 ^ pre.length)).length≤pre.length:=by
      obtain ⟨q,hq⟩:∃ q,pre.length=q+1:=⟨pre.length - 1,by omega⟩
      rw [hz.2,Nat.zero_mul,Nat.add_zero,hq]
      exact afV q acc (by rw [← hq];exact hacc)
     have hd3:decide ((((enc (acc+x.toNat * 128 ^ pre.length)).length:Nat):Int)=(pre.length:Int)+1)=false:=by rw [decide_eq_false_iff_not];omega
     conv at hr =>
      rhs
      simp only [hd3,zSs,reduceIte,Nat.reduceEqDiff,Int.reduceEq,Int.reduceLT,Int.reduceLE,zB.r14]
     refine ⟨_,_,hL.symm.trans (jZ hr (by simp)),?_⟩
     rw [scan,if_pos (.inr hz)]
     exact .inr ⟨rfl,rfl,rfl,rfl⟩
    ·
     have hlen2:(enc (acc+x.toNat * 128 ^ pre.length)).length=pre.length+1:=by
      by_cases hp0:pre.length=0
      ·
       rw [hp0] at hacc ⊢
       rw [vT (by omega)];rfl
      ·
       refine adq _ _ ?_ ?_
       ·
        have:1 * 128 ^ pre.length≤x.toNat * 128 ^ pre.length:=Nat.mul_le_mul_right _ (by omega)
        omega
       ·
        rw [Nat.pow_succ]
        have:x.toNat * 128 ^ pre.length≤127 * 128 ^ pre.length:=Nat.mul_le_mul_right _ (by omega)
        omega
     have hd3:decide ((((enc (acc+x.toNat * 128 ^ pre.length)).length:Nat):Int)=(pre.length:Int)+1)=true:=by rw [decide_eq_true_eq];omega
     have e4:∀ S,ZL Try.prog 33 (by_ k l) (some (.int .i64 ((pre.length:Int)+1))) none S=some (by_ k suf,S):=fun S=>by
      rw [acU hv (lo:=some (.int .i64 ((pre.length:Int)+1))) (hi:=none) (i:=(pre.length:Int)+1) (j:=l.length) rfl rfl (by omega) (by omega) (by omega),ac4 hl,if_neg hk]
     have ok2:Okl k suf:=⟨hv.le,fun h=>absurd h k0⟩
     have e5:∀ S,wP Try.prog 33 33 (by_ 2 []) (by_ k suf) S=some (by_ 2 suf,S):=fun S=>by
      rw [kX Okl.own (by decide) ok2 (by have:=congrArg List.length hl;simp at this;simp;omega)];rfl
     conv at hr =>
      rhs
      simp only [hd3,zSs,reduceIte,Nat.reduceEqDiff,Int.reduceEq,Int.reduceLT,Int.reduceLE,zB.r15,vM,afI,hi1,if_neg hk,e4,e5]
     refine ⟨_,_,hL.symm.trans (jZ hr (by simp)),?_⟩
     rw [scan,if_neg (by rintro (h | h);exact absurd ⟨h.1,by omega⟩ hs1;exact hz h),if_pos hxs]
     exact ⟨rfl,rfl,rfl,rfl⟩
   ·
    have hd2:decide ((x.toNat:Int) < 128)=false:=by rw [decide_eq_false_iff_not];omega
    conv at hr =>
     rhs
     simp only [hd2,zSs,reduceIte,Nat.reduceEqDiff,Int.reduceEq,Int.reduceLT,Int.reduceLE,zB.r5,hi1]
    obtain ⟨T1,hr,q0,q1,q2,q3,q4⟩:∃ T1,zG Try.prog O false zB.jL T S=some (.normal,T1,S)∧T1.length=58∧T1.getD 0 zh=by_ k l∧T1.getD 7 zh=.int .i64 ((pre.length:Int)+1) ∧
     T1.getD 5 zh=.int .u64 ((acc+x.toNat % 128 * 128 ^ pre.length:Nat):Int)∧T1.getD 6 zh=.int .u64 (IntKind.u64.wrap (((128 ^ pre.length:Nat):Int) * 128)):=⟨_,hr,rfl,rfl,rfl,rfl,rfl⟩
    by_cases hp9:pre.length=9
    ·
     obtain ⟨T',h1,h2⟩:=zB.out hv hk ((wY hr).symm.trans hL) q0 q1 (i:=pre.length+1) q2 (.inr (by omega))
     refine ⟨_,T',h1,?_⟩
     rw [scan,if_pos (.inl ⟨hp9,by omega⟩)]
     exact .inl ⟨rfl,h2⟩
    ·
     have hpl:IntKind.u64.wrap (((128 ^ pre.length:Nat):Int) * 128)=((128 ^ (pre.length+1):Nat):Int):=by
      have h8:128 ^ (pre.length+1)≤128 ^ 9:=Nat.pow_le_pow_right (by omega) (by omega)
      rw [show ((128 ^ pre.length:Nat):Int) * 128=((128 ^ (pre.length+1):Nat):Int) by rw [Nat.pow_succ,Int.natCast_mul];rfl]
      exact Zw (Nat.lt_of_le_of_lt h8 (by decide))
     rw [hpl] at q4
     have hadd:acc+x.toNat % 128 * 128 ^ pre.length < 128 ^ (pre.length+1):=by
      rw [Nat.pow_succ]
      have:x.toNat % 128 * 128 ^ pre.length≤127 * 128 ^ pre.length:=Nat.mul_le_mul_right _ (by omega)
      omega
     have hpl2:(pre++[x]).length=pre.length+1:=by simp
     obtain ⟨e,T',g1,g3⟩:=ih (pre++[x]) (acc+x.toNat % 128 * 128 ^ pre.length) ((wY hr).symm.trans hL) q0 q1 (by rw [hpl2];exact q2) q3 (by rw [hpl2];exact q4) (by simp [hl]) (by rw [hpl2];exact hadd) (by rw [hpl2];omega)
     refine ⟨e,T',g1,?_⟩
     rw [scan,if_neg (by omega),if_neg hxs]
     have hxm:x.toNat % 128=x.toNat - 128:=by omega
     rw [hxm,hpl2] at g3
     exact g3
theorem zB.v (hv:Okl k l) (hk:k≠2) (hlen:l.length≤140737488355328) (S:zn):zW Try.prog O zB.id [by_ k l] S=some (Xk l,S):=by
 obtain ⟨T,hTe⟩:∃ T,T=(by_ k l::zh::zh::zh::zh::zh::zh::zh::zh::zh::zh::zh::zh::zh::zh::zh::zh::zh::zh::zh::zh::zh::zh::zh::zh::zh::zh::zh::zh::zh::zh::zh::zh::zh::zh::zh::zh::zh::zh::zh::zh::zh::zh::zh::zh::zh::zh::zh::zh::zh::zh::zh::zh::zh::zh::zh::zh::zh::[]):=⟨_,rfl⟩
 have hr:zG Try.prog O false zB.code T S=zG Try.prog O false zB.code T S:=rfl
 conv at hr =>
  rhs
  rw [hTe]
  simp only [zB.code,zSs,reduceIte,Nat.reduceEqDiff,Int.reduceEq,Int.reduceLT,Int.reduceLE,zB.r0,zB.r1,zB.r2,zB.r3]
 generalize hL:qw (zG Try.prog O false zB.jL) _ _=r at hr
 obtain ⟨e,T',rfl,g3⟩:=zB.round hv hk hlen l [] 0 hL rfl rfl rfl rfl rfl rfl (by simp) (by simp)
 simp only [List.length_nil] at g3
 unfold Xk
 cases hsc:scan 0 0 l with
 | none =>
  rw [hsc] at g3
  rcases g3 with ⟨rfl,hT'⟩ | ⟨rfl,h2,h3,h4⟩
  ·
   obtain ⟨x0,x1,x2,x3,x4,x5,x6,x7,x8,x9,x10,x11,x12,x13,x14,x15,x16,x17,x18,x19,x20,x21,x22,x23,x24,x25,x26,x27,x28,x29,x30,x31,x32,x33,x34,x35,x36,x37,x38,x39,x40,x41,x42,x43,x44,x45,x46,x47,x48,x49,x50,x51,x52,x53,x54,x55,x56,x57,hTe'⟩:=zB.list hT'
   conv at hr =>
    rhs
    rw [hTe']
    simp only [zSs,reduceIte,Nat.reduceEqDiff,Int.reduceEq,Int.reduceLT,Int.reduceLE,zB.r16]
   rw [hTe] at hr
   exact zB.runs hr (.inr rfl) rfl rfl rfl
  ·
   conv at hr =>
    rhs
    simp only [zSs,reduceIte,Nat.reduceEqDiff,Int.reduceEq,Int.reduceLT,Int.reduceLE]
   rw [hTe] at hr
   have hrun:=zB.runs hr (.inr rfl) (by rw [h2];rfl) (by rw [h3];rfl) (by rw [h4];rfl)
   rw [h2,h3,h4] at hrun
   exact hrun
 | some mr =>
  obtain ⟨m,rest⟩:=mr
  rw [hsc] at g3
  obtain ⟨rfl,h2,h3,h4⟩:=g3
  conv at hr =>
   rhs
   simp only [zSs,reduceIte,Nat.reduceEqDiff,Int.reduceEq,Int.reduceLT,Int.reduceLE]
  rw [hTe] at hr
  have hrun:=zB.runs hr (.inr rfl) (by rw [h2];rfl) (by rw [h3];exact wC) (by rw [h4];rfl)
  rw [h2,h3,h4] at hrun
  exact hrun
end
end Go.Proofs.Ytfjogganfjkckaa
