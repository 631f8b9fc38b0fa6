/-
The law MsgBack returns true for every input, and leaves it as it was; no condition. Part 5 of 6 of the texts (put together by a program: own names are short, what isn't needed is left out).
-/
import Derived.Test.YtbgcphbbchndkaaZMsgBack4
import Derived.Test.YtbgcphbbchndkaaChecked
import Derived.KernelRfl
set_option linter.unusedVariables false
set_option linter.unusedSimpArgs false
set_option maxRecDepth 100000
namespace Go.Proofs.Ytbgcphbbchndkaa
open Go.Abs
abbrev zk.id : FuncId := 51
noncomputable def zk.jJ : Code := (Code.seq (Code.region 6 (reg Try.f51 6) false) (Code.seq (Code.cond (Operand.tmp 22) Code.skip (Code.exit 0)) (Code.seq (Code.block 1 (Code.seq (Code.region 7 (reg Try.f51 7) false) (Code.seq (Code.seq (Code.region 8 (reg Try.f51 8) false) (Code.cond (Operand.tmp 34) (Code.seq (Code.region 9 (reg Try.f51 9) false) Code.ret) Code.skip)) (Code.seq (Code.region 10 (reg Try.f51 10) false) (Code.region 11 (reg Try.f51 11) false))))) (Code.region 12 (reg Try.f51 12) false))))
noncomputable def zk.code : Code := (Code.seq (Code.region 0 (reg Try.f51 0) false) (Code.seq (Code.seq (Code.region 1 (reg Try.f51 1) false) (Code.cond (Operand.tmp 17) (Code.seq (Code.region 2 (reg Try.f51 2) false) Code.ret) Code.skip)) (Code.seq (Code.region 3 (reg Try.f51 3) false) (Code.seq (Code.region 4 (reg Try.f51 4) false) (Code.seq (Code.seq (Code.region 5 (reg Try.f51 5) false) (Code.block 0 (Code.loop zk.jJ))) (Code.seq (Code.region 13 (reg Try.f51 13) false) Code.ret))))))
theorem zk.body : Try.f51.body = some zk.code := by kernel_rfl
theorem zk.eta {T : List Value} (h : T.length = 45) : T = [T.getD 0 undef,T.getD 1 undef,T.getD 2 undef,T.getD 3 undef,T.getD 4 undef,T.getD 5 undef,T.getD 6 undef,T.getD 7 undef,T.getD 8 undef,T.getD 9 undef,T.getD 10 undef,T.getD 11 undef,T.getD 12 undef,T.getD 13 undef,T.getD 14 undef,T.getD 15 undef,T.getD 16 undef,T.getD 17 undef,T.getD 18 undef,T.getD 19 undef,T.getD 20 undef,T.getD 21 undef,T.getD 22 undef,T.getD 23 undef,T.getD 24 undef,T.getD 25 undef,T.getD 26 undef,T.getD 27 undef,T.getD 28 undef,T.getD 29 undef,T.getD 30 undef,T.getD 31 undef,T.getD 32 undef,T.getD 33 undef,T.getD 34 undef,T.getD 35 undef,T.getD 36 undef,T.getD 37 undef,T.getD 38 undef,T.getD 39 undef,T.getD 40 undef,T.getD 41 undef,T.getD 42 undef,T.getD 43 undef,T.getD 44 undef] := (kE T 45 h).trans (by kernel_rfl)
variable (P N V W X Y Z Q R U b a f g i k l m n o c d p q r s t u w x y z A B C D E F G H I J K L M : Value) (S : zh)
theorem zk.r0  : jd Try.prog ⟨false, false, false⟩ (zM Try.prog O) (reg Try.f51 0) (reg Try.f51 0).toList ([P,N,V,W,X,Y,Z,Q,R,U,b,a,f,g,i,k,l,m,n,o,c,d,p,q,r,s,t,u,w,x,y,z,A,B,C,D,E,F,G,H,I,J,K,L,M]) S =
  ( some ([P,N,V,W,Value.slice none 0 0,Value.slice none 0 0,Value.int IntKind.i64 0,Q,R,U,b,a,f,g,i,k,l,m,n,o,c,d,p,q,r,s,t,u,w,x,y,z,A,B,C,D,E,F,G,H,I,J,K,L,M], S)) := by
 kernel_rfl
theorem zk.r1  : jd Try.prog ⟨false, false, false⟩ (zM Try.prog O) (reg Try.f51 1) (reg Try.f51 1).toList ([P,N,V,W,X,Y,Z,Q,R,U,b,a,f,g,i,k,l,m,n,o,c,d,p,q,r,s,t,u,w,x,y,z,A,B,C,D,E,F,G,H,I,J,K,L,M]) S =
  (zA (jZ Try.prog BinOp.lss 3 (dem N) (Value.int IntKind.i64 0) S) (fun v1 S1 => gdK (dem v1) false (ret N) S1 (fun v3 S2 => gdK (dem v1) false (jZ Try.prog BinOp.gtr 3 (dem v3) (Value.int IntKind.i64 64)) S2 (fun v4 S3 => zA (wY (dem v1) (Value.bool true) v4 S3) (fun v5 S4 => some ([P,N,V,W,X,Y,Z,Q,R,U,b,a,dem N,v1,dem v1,dem v3,v4,v5,n,o,c,d,p,q,r,s,t,u,w,x,y,z,A,B,C,D,E,F,G,H,I,J,K,L,M], S4)) ()) ()) ()) ()) := by
 refine sP Try.f51 1 0 (v := N) ?_
 refine sD Try.f51 1 1 (fun v1 S1 => ?_)
 refine sP Try.f51 1 2 (v := v1) ?_
 refine sG Try.f51 1 3 (j := 2) (fun v3 S2 => ?_)
 refine sG Try.f51 1 4 (j := 2) (fun v4 S3 => ?_)
 refine sD Try.f51 1 5 (fun v5 S4 => ?_)
 kernel_rfl
theorem zk.r2  : jd Try.prog ⟨false, false, false⟩ (zM Try.prog O) (reg Try.f51 2) (reg Try.f51 2).toList ([P,N,V,W,X,Y,Z,Q,R,U,b,a,f,g,i,k,l,m,n,o,c,d,p,q,r,s,t,u,w,x,y,z,A,B,C,D,E,F,G,H,I,J,K,L,M]) S =
  ( some ([P,N,V,W,Value.slice none 0 0,Value.slice none 0 0,Value.int IntKind.i64 11,Q,R,U,b,a,f,g,i,k,l,m,n,o,c,d,p,q,r,s,t,u,w,x,y,z,A,B,C,D,E,F,G,H,I,J,K,L,M], S)) := by
 kernel_rfl
theorem zk.r3  : jd Try.prog ⟨false, false, false⟩ (zM Try.prog O) (reg Try.f51 3) (reg Try.f51 3).toList ([P,N,V,W,X,Y,Z,Q,R,U,b,a,f,g,i,k,l,m,n,o,c,d,p,q,r,s,t,u,w,x,y,z,A,B,C,D,E,F,G,H,I,J,K,L,M]) S =
  (zA ((zM Try.prog O) 50 [(dem (dem P))] S) (fun v1 S1 => some ([P,N,V,W,X,Y,Z,v1,R,U,b,a,f,g,i,k,l,m,dem P,dem v1,c,d,p,q,r,s,t,u,w,x,y,z,A,B,C,D,E,F,G,H,I,J,K,L,M], S1)) ()) := by
 kernel_rfl
theorem zk.r4  : jd Try.prog ⟨false, false, false⟩ (zM Try.prog O) (reg Try.f51 4) (reg Try.f51 4).toList ([P,N,V,W,X,Y,Z,Q,R,U,b,a,f,g,i,k,l,m,n,o,c,d,p,q,r,s,t,u,w,x,y,z,A,B,C,D,E,F,G,H,I,J,K,L,M]) S =
  ( some ([P,N,V,W,X,Y,Z,Q,Value.slice none 0 0,U,b,a,f,g,i,k,l,m,n,o,c,d,p,q,r,s,t,u,w,x,y,z,A,B,C,D,E,F,G,H,I,J,K,L,M], S)) := by
 kernel_rfl
theorem zk.r5  : jd Try.prog ⟨false, false, false⟩ (zM Try.prog O) (reg Try.f51 5) (reg Try.f51 5).toList ([P,N,V,W,X,Y,Z,Q,R,U,b,a,f,g,i,k,l,m,n,o,c,d,p,q,r,s,t,u,w,x,y,z,A,B,C,D,E,F,G,H,I,J,K,L,M]) S =
  ( some ([P,N,V,W,X,Y,Z,Q,R,U,b,a,f,g,i,k,l,m,n,o,dem N,Value.int IntKind.i64 0,p,q,r,s,t,u,w,x,y,z,A,B,C,D,E,F,G,H,I,J,K,L,M], S)) := by
 kernel_rfl
theorem zk.r6  : jd Try.prog ⟨false, false, false⟩ (zM Try.prog O) (reg Try.f51 6) (reg Try.f51 6).toList ([P,N,V,W,X,Y,Z,Q,R,U,b,a,f,g,i,k,l,m,n,o,c,d,p,q,r,s,t,u,w,x,y,z,A,B,C,D,E,F,G,H,I,J,K,L,M]) S =
  (zA (jZ Try.prog BinOp.lss 3 d c S) (fun v0 S1 => some ([P,N,V,W,X,Y,Z,Q,R,U,b,a,f,g,i,k,l,m,n,o,c,d,v0,q,r,s,t,u,w,x,y,z,A,B,C,D,E,F,G,H,I,J,K,L,M], S1)) ()) := by
 kernel_rfl
theorem zk.r7  : jd Try.prog ⟨false, false, false⟩ (zM Try.prog O) (reg Try.f51 7) (reg Try.f51 7).toList ([P,N,V,W,X,Y,Z,Q,R,U,b,a,f,g,i,k,l,m,n,o,c,d,p,q,r,s,t,u,w,x,y,z,A,B,C,D,E,F,G,H,I,J,K,L,M]) S =
  (zA ((zM Try.prog O) 24 [(dem (dem Q))] S) (fun v1 S1 => zA (zx v1 0 S1) (fun v3 S2 => zA (zx (zH 0 v1) 1 S2) (fun v4 S3 => zA (zx (zH 1 (zH 0 v1)) 2 S3) (fun v5 S4 => some ([P,N,V,W,X,Y,Z,Q,R,v3,v4,v5,f,g,i,k,l,m,n,o,c,d,p,zH 2 (zH 1 (zH 0 v1)),dem Q,dem v1,dem v3,dem v4,dem v5,x,y,z,A,B,C,D,E,F,G,H,I,J,K,L,M], S4)) ()) ()) ()) ()) := by
 kernel_rfl
theorem zk.r8  : jd Try.prog ⟨false, false, false⟩ (zM Try.prog O) (reg Try.f51 8) (reg Try.f51 8).toList ([P,N,V,W,X,Y,Z,Q,R,U,b,a,f,g,i,k,l,m,n,o,c,d,p,q,r,s,t,u,w,x,y,z,A,B,C,D,E,F,G,H,I,J,K,L,M]) S =
  (zA (jZ Try.prog BinOp.neq 31 (dem a) (Value.int IntKind.i64 0) S) (fun v1 S1 => gdK (dem v1) false (ret U) S1 (fun v3 S2 => gdK (dem v1) false (jZ Try.prog BinOp.gtr 42 (dem v3) (Value.int IntKind.u64 4611686018427387905)) S2 (fun v4 S3 => zA (wY (dem v1) (Value.bool true) v4 S3) (fun v5 S4 => some ([P,N,V,W,X,Y,Z,Q,R,U,b,a,f,g,i,k,l,m,n,o,c,d,p,q,r,s,t,u,w,dem a,v1,dem v1,dem v3,v4,v5,D,E,F,G,H,I,J,K,L,M], S4)) ()) ()) ()) ()) := by
 refine sP Try.f51 8 0 (v := a) ?_
 refine sD Try.f51 8 1 (fun v1 S1 => ?_)
 refine sP Try.f51 8 2 (v := v1) ?_
 refine sG Try.f51 8 3 (j := 2) (fun v3 S2 => ?_)
 refine sG Try.f51 8 4 (j := 2) (fun v4 S3 => ?_)
 refine sD Try.f51 8 5 (fun v5 S4 => ?_)
 kernel_rfl
theorem zk.r9  : jd Try.prog ⟨false, false, false⟩ (zM Try.prog O) (reg Try.f51 9) (reg Try.f51 9).toList ([P,N,V,W,X,Y,Z,Q,R,U,b,a,f,g,i,k,l,m,n,o,c,d,p,q,r,s,t,u,w,x,y,z,A,B,C,D,E,F,G,H,I,J,K,L,M]) S =
  ( some ([P,N,V,W,Value.slice none 0 0,Value.slice none 0 0,Value.int IntKind.i64 11,Q,R,U,b,a,f,g,i,k,l,m,n,o,c,d,p,q,r,s,t,u,w,x,y,z,A,B,C,D,E,F,G,H,I,J,K,L,M], S)) := by
 kernel_rfl
theorem zk.r10  : jd Try.prog ⟨false, false, false⟩ (zM Try.prog O) (reg Try.f51 10) (reg Try.f51 10).toList ([P,N,V,W,X,Y,Z,Q,R,U,b,a,f,g,i,k,l,m,n,o,c,d,p,q,r,s,t,u,w,x,y,z,A,B,C,D,E,F,G,H,I,J,K,L,M]) S =
  (zA (ql Try.prog false false 42 3 (dem U) S) (fun v2 S1 => zA (jZ Try.prog BinOp.sub 3 v2 (Value.int IntKind.i64 1) S1) (fun v3 S2 => zA (jB Try.prog 57 1 [(0, v3)] S2) (fun v4 S3 => zA (wB Try.prog 57 57 R v4 S3) (fun v5 S4 => some ([P,N,V,W,X,Y,Z,Q,v5,U,b,a,f,g,i,k,l,m,n,o,c,d,p,q,r,s,t,u,w,x,y,z,A,B,C,dem R,dem U,v2,v3,v4,dem v5,J,K,L,M], S4)) ()) ()) ()) ()) := by
 kernel_rfl
theorem zk.r11  : jd Try.prog ⟨false, false, false⟩ (zM Try.prog O) (reg Try.f51 11) (reg Try.f51 11).toList ([P,N,V,W,X,Y,Z,Q,R,U,b,a,f,g,i,k,l,m,n,o,c,d,p,q,r,s,t,u,w,x,y,z,A,B,C,D,E,F,G,H,I,J,K,L,M]) S =
  ( some ([P,N,V,W,X,Y,Z,b,R,U,dem b,a,f,g,i,k,l,m,n,o,c,d,p,q,r,s,t,u,w,x,y,z,A,B,C,D,E,F,G,H,I,dem b,K,L,M], S)) := by
 kernel_rfl
theorem zk.r12  : jd Try.prog ⟨false, false, false⟩ (zM Try.prog O) (reg Try.f51 12) (reg Try.f51 12).toList ([P,N,V,W,X,Y,Z,Q,R,U,b,a,f,g,i,k,l,m,n,o,c,d,p,q,r,s,t,u,w,x,y,z,A,B,C,D,E,F,G,H,I,J,K,L,M]) S =
  (zA (jZ Try.prog BinOp.add 3 d (Value.int IntKind.i64 1) S) (fun v0 S1 => some ([P,N,V,W,X,Y,Z,Q,R,U,b,a,f,g,i,k,l,m,n,o,c,dem v0,p,q,r,s,t,u,w,x,y,z,A,B,C,D,E,F,G,H,I,J,v0,L,M], S1)) ()) := by
 kernel_rfl
theorem zk.r13  : jd Try.prog ⟨false, false, false⟩ (zM Try.prog O) (reg Try.f51 13) (reg Try.f51 13).toList ([P,N,V,W,X,Y,Z,Q,R,U,b,a,f,g,i,k,l,m,n,o,c,d,p,q,r,s,t,u,w,x,y,z,A,B,C,D,E,F,G,H,I,J,K,L,M]) S =
  ( some ([P,N,V,W,R,Q,Value.int IntKind.i64 0,dem Q,dem R,U,b,a,f,g,i,k,l,m,n,o,c,d,p,q,r,s,t,u,w,x,y,z,A,B,C,D,E,F,G,H,I,J,K,dem R,dem Q], S)) := by
 kernel_rfl
theorem zk.rs : type_of% (And.intro @zk.r0 (And.intro @zk.r1 (And.intro @zk.r2 (And.intro @zk.r3 (And.intro @zk.r4 (And.intro @zk.r5 (And.intro @zk.r6 (And.intro @zk.r7 (And.intro @zk.r8 (And.intro @zk.r9 (And.intro @zk.r10 (And.intro @zk.r11 (And.intro @zk.r12 (@zk.r13)))))))))))))) := And.intro @zk.r0 (And.intro @zk.r1 (And.intro @zk.r2 (And.intro @zk.r3 (And.intro @zk.r4 (And.intro @zk.r5 (And.intro @zk.r6 (And.intro @zk.r7 (And.intro @zk.r8 (And.intro @zk.r9 (And.intro @zk.r10 (And.intro @zk.r11 (And.intro @zk.r12 (@zk.r13)))))))))))))
theorem zk.runs {P N : Value} {S S1 : zh} {e : AEx} {T : List Value} (h : zu Try.prog O false zk.code ([P,N,undef,undef,undef,undef,undef,undef,undef,undef,undef,undef,undef,undef,undef,undef,undef,undef,undef,undef,undef,undef,undef,undef,undef,undef,undef,undef,undef,undef,undef,undef,undef,undef,undef,undef,undef,undef,undef,undef,undef,undef,undef,undef,undef]) S = some (e, T, S1)) (he : e = .normal ∨ e = .ret)  (h0 : jD (T.getD 4 undef) = true) (h1 : jD (T.getD 5 undef) = true) (h2 : jD (T.getD 6 undef) = true) : zM Try.prog O 51 [P, N] S = some (Value.tuple #[T.getD 4 undef, T.getD 5 undef, T.getD 6 undef], S1) :=
 yX rfl rfl Try.func51 (by decide) zk.body (by exact h) he ((yT ((show zC Try.prog T S1 Try.f51.results.toList = zC Try.prog T S1 [(ResultVar.tmp 4), (ResultVar.tmp 5), (ResultVar.tmp 6)] from by kernel_rfl).trans (by simp only [zC])) (by kernel_rfl) (by simp only [List.all_cons, List.all_nil, h0, h1, h2, Bool.and_true])).trans rfl)
end Go.Proofs.Ytbgcphbbchndkaa
namespace Go.Proofs.Ytbgcphbbchndkaa
open Go.Abs
abbrev zG.id : FuncId := 32
noncomputable def zG.jJ : Code := (Code.seq (Code.region 5 (reg Try.f32 5) false) (Code.seq (Code.cond (Operand.tmp 13) Code.skip (Code.exit 0)) (Code.seq (Code.block 1 (Code.seq (Code.region 6 (reg Try.f32 6) false) (Code.seq (Code.seq (Code.region 7 (reg Try.f32 7) false) (Code.cond (Operand.tmp 17) (Code.seq (Code.region 8 (reg Try.f32 8) false) Code.ret) Code.skip)) (Code.region 9 (reg Try.f32 9) false)))) (Code.region 10 (reg Try.f32 10) false))))
noncomputable def zG.code : Code := (Code.seq (Code.region 0 (reg Try.f32 0) false) (Code.seq (Code.seq (Code.region 1 (reg Try.f32 1) false) (Code.cond (Operand.tmp 9) (Code.seq (Code.region 2 (reg Try.f32 2) false) Code.ret) Code.skip)) (Code.seq (Code.region 3 (reg Try.f32 3) false) (Code.seq (Code.seq (Code.region 4 (reg Try.f32 4) false) (Code.block 0 (Code.loop zG.jJ))) (Code.seq (Code.region 11 (reg Try.f32 11) false) Code.ret)))))
theorem zG.body : Try.f32.body = some zG.code := by kernel_rfl
theorem zG.eta {T : List Value} (h : T.length = 26) : T = [T.getD 0 undef,T.getD 1 undef,T.getD 2 undef,T.getD 3 undef,T.getD 4 undef,T.getD 5 undef,T.getD 6 undef,T.getD 7 undef,T.getD 8 undef,T.getD 9 undef,T.getD 10 undef,T.getD 11 undef,T.getD 12 undef,T.getD 13 undef,T.getD 14 undef,T.getD 15 undef,T.getD 16 undef,T.getD 17 undef,T.getD 18 undef,T.getD 19 undef,T.getD 20 undef,T.getD 21 undef,T.getD 22 undef,T.getD 23 undef,T.getD 24 undef,T.getD 25 undef] := (kE T 26 h).trans (by kernel_rfl)
variable (s v A B u w t x y z b c a d f g i j k l m n o p q r : Value) (S : zh)
theorem zG.r0  : jd Try.prog ⟨false, false, false⟩ (zM Try.prog O) (reg Try.f32 0) (reg Try.f32 0).toList ([s,v,A,B,u,w,t,x,y,z,b,c,a,d,f,g,i,j,k,l,m,n,o,p,q,r]) S =
  ( some ([s,v,Value.slice none 0 0,Value.int IntKind.i64 0,u,w,t,x,y,z,b,c,a,d,f,g,i,j,k,l,m,n,o,p,q,r], S)) := by
 kernel_rfl
theorem zG.r1  : jd Try.prog ⟨false, false, false⟩ (zM Try.prog O) (reg Try.f32 1) (reg Try.f32 1).toList ([s,v,A,B,u,w,t,x,y,z,b,c,a,d,f,g,i,j,k,l,m,n,o,p,q,r]) S =
  (zA (Jc Try.prog 57 (dem s) S) (fun D C => zA (jZ Try.prog BinOp.gtr 3 D (Value.int IntKind.i64 64) C) (fun G F => some ([s,v,A,B,u,w,t,dem s,D,G,b,c,a,d,f,g,i,j,k,l,m,n,o,p,q,r], F)) ()) ()) := by
 kernel_rfl
theorem zG.r2  : jd Try.prog ⟨false, false, false⟩ (zM Try.prog O) (reg Try.f32 2) (reg Try.f32 2).toList ([s,v,A,B,u,w,t,x,y,z,b,c,a,d,f,g,i,j,k,l,m,n,o,p,q,r]) S =
  ( some ([s,v,Value.slice none 0 0,Value.int IntKind.i64 11,u,w,t,x,y,z,b,c,a,d,f,g,i,j,k,l,m,n,o,p,q,r], S)) := by
 kernel_rfl
theorem zG.r3  : jd Try.prog ⟨false, false, false⟩ (zM Try.prog O) (reg Try.f32 3) (reg Try.f32 3).toList ([s,v,A,B,u,w,t,x,y,z,b,c,a,d,f,g,i,j,k,l,m,n,o,p,q,r]) S =
  ( some ([s,v,A,B,Value.slice none 0 0,w,t,x,y,z,b,c,a,d,f,g,i,j,k,l,m,n,o,p,q,r], S)) := by
 kernel_rfl
theorem zG.r4  : jd Try.prog ⟨false, false, false⟩ (zM Try.prog O) (reg Try.f32 4) (reg Try.f32 4).toList ([s,v,A,B,u,w,t,x,y,z,b,c,a,d,f,g,i,j,k,l,m,n,o,p,q,r]) S =
  (zA (Jc Try.prog 57 (dem s) S) (fun D C => some ([s,v,A,B,u,w,t,x,y,z,dem s,D,Value.int IntKind.i64 0,d,f,g,i,j,k,l,m,n,o,p,q,r], C)) ()) := by
 kernel_rfl
theorem zG.r5  : jd Try.prog ⟨false, false, false⟩ (zM Try.prog O) (reg Try.f32 5) (reg Try.f32 5).toList ([s,v,A,B,u,w,t,x,y,z,b,c,a,d,f,g,i,j,k,l,m,n,o,p,q,r]) S =
  (zA (jZ Try.prog BinOp.lss 3 a c S) (fun E C => some ([s,v,A,B,u,w,t,x,y,z,b,c,a,E,f,g,i,j,k,l,m,n,o,p,q,r], C)) ()) := by
 kernel_rfl
theorem zG.r6  : jd Try.prog ⟨false, false, false⟩ (zM Try.prog O) (reg Try.f32 6) (reg Try.f32 6).toList ([s,v,A,B,u,w,t,x,y,z,b,c,a,d,f,g,i,j,k,l,m,n,o,p,q,r]) S =
  (zA (zW Try.prog 57 b a S) (fun E C => zA (zO Try.prog false 3 E C) (fun D F => some ([s,v,A,B,u,w,D,x,y,z,b,c,a,d,E,dem D,i,j,k,l,m,n,o,p,q,r], F)) ()) ()) := by
 kernel_rfl
theorem zG.r7  : jd Try.prog ⟨false, false, false⟩ (zM Try.prog O) (reg Try.f32 7) (reg Try.f32 7).toList ([s,v,A,B,u,w,t,x,y,z,b,c,a,d,f,g,i,j,k,l,m,n,o,p,q,r]) S =
  (zA (jZ Try.prog BinOp.lss 3 (dem t) (Value.int IntKind.i64 (-1)) S) (fun D C => some ([s,v,A,B,u,w,t,x,y,z,b,c,a,d,f,g,dem t,D,k,l,m,n,o,p,q,r], C)) ()) := by
 kernel_rfl
theorem zG.r8  : jd Try.prog ⟨false, false, false⟩ (zM Try.prog O) (reg Try.f32 8) (reg Try.f32 8).toList ([s,v,A,B,u,w,t,x,y,z,b,c,a,d,f,g,i,j,k,l,m,n,o,p,q,r]) S =
  ( some ([s,v,Value.slice none 0 0,Value.int IntKind.i64 11,u,w,t,x,y,z,b,c,a,d,f,g,i,j,k,l,m,n,o,p,q,r], S)) := by
 kernel_rfl
theorem zG.r9  : jd Try.prog ⟨false, false, false⟩ (zM Try.prog O) (reg Try.f32 9) (reg Try.f32 9).toList ([s,v,A,B,u,w,t,x,y,z,b,c,a,d,f,g,i,j,k,l,m,n,o,p,q,r]) S =
  (zA (ql Try.prog false false 3 42 (dem t) S) (fun G C => zA (jZ Try.prog BinOp.add 42 G (Value.int IntKind.u64 1) C) (fun H F => zA ((zM Try.prog O) 35 [(dem H)] F) (fun I K => zA (wB Try.prog 23 23 u I K) (fun J L => some ([s,v,A,B,J,w,t,x,y,z,b,c,a,d,f,g,i,j,dem u,dem t,G,H,I,dem J,q,r], L)) ()) ()) ()) ()) := by
 kernel_rfl
theorem zG.r10  : jd Try.prog ⟨false, false, false⟩ (zM Try.prog O) (reg Try.f32 10) (reg Try.f32 10).toList ([s,v,A,B,u,w,t,x,y,z,b,c,a,d,f,g,i,j,k,l,m,n,o,p,q,r]) S =
  (zA (jZ Try.prog BinOp.add 3 a (Value.int IntKind.i64 1) S) (fun E C => some ([s,v,A,B,u,w,t,x,y,z,b,c,dem E,d,f,g,i,j,k,l,m,n,o,p,E,r], C)) ()) := by
 kernel_rfl
theorem zG.r11  : jd Try.prog ⟨false, false, false⟩ (zM Try.prog O) (reg Try.f32 11) (reg Try.f32 11).toList ([s,v,A,B,u,w,t,x,y,z,b,c,a,d,f,g,i,j,k,l,m,n,o,p,q,r]) S =
  ( some ([s,v,u,Value.int IntKind.i64 0,dem u,w,t,x,y,z,b,c,a,d,f,g,i,j,k,l,m,n,o,p,q,dem u], S)) := by
 kernel_rfl
theorem zG.rs : type_of% (And.intro @zG.r0 (And.intro @zG.r1 (And.intro @zG.r2 (And.intro @zG.r3 (And.intro @zG.r4 (And.intro @zG.r5 (And.intro @zG.r6 (And.intro @zG.r7 (And.intro @zG.r8 (And.intro @zG.r9 (And.intro @zG.r10 (@zG.r11)))))))))))) := And.intro @zG.r0 (And.intro @zG.r1 (And.intro @zG.r2 (And.intro @zG.r3 (And.intro @zG.r4 (And.intro @zG.r5 (And.intro @zG.r6 (And.intro @zG.r7 (And.intro @zG.r8 (And.intro @zG.r9 (And.intro @zG.r10 (@zG.r11)))))))))))
theorem zG.runs {s : Value} {S C : zh} {e : AEx} {T : List Value} (h : zu Try.prog O false zG.code ([s,undef,undef,undef,undef,undef,undef,undef,undef,undef,undef,undef,undef,undef,undef,undef,undef,undef,undef,undef,undef,undef,undef,undef,undef,undef]) S = some (e, T, C)) (he : e = .normal ∨ e = .ret)  (h0 : jD (T.getD 2 undef) = true) (h1 : jD (T.getD 3 undef) = true) : zM Try.prog O 32 [s] S = some (Value.tuple #[T.getD 2 undef, T.getD 3 undef], C) :=
 yX rfl rfl Try.func32 (by decide) zG.body (by exact h) he ((yT ((show zC Try.prog T C Try.f32.results.toList = zC Try.prog T C [(ResultVar.tmp 2), (ResultVar.tmp 3)] from by kernel_rfl).trans (by simp only [zC])) (by kernel_rfl) (by simp only [List.all_cons, List.all_nil, h0, h1, Bool.and_true])).trans rfl)
end Go.Proofs.Ytbgcphbbchndkaa
namespace Go.Proofs.Ytbgcphbbchndkaa
open Go.Abs
abbrev slices_Clone.id : FuncId := 50
noncomputable def slices_Clone.code : Code := (Code.seq (Code.region 0 (reg Try.f50 0) false) (Code.seq (Code.seq (Code.region 1 (reg Try.f50 1) false) (Code.cond (Operand.tmp 4) (Code.seq (Code.region 2 (reg Try.f50 2) false) Code.ret) Code.skip)) (Code.seq (Code.region 3 (reg Try.f50 3) false) Code.ret)))
theorem slices_Clone.body : Try.f50.body = some slices_Clone.code := by kernel_rfl
variable (b c l f g i j k : Value) (S : zh)
theorem slices_Clone.r0  : jd Try.prog ⟨false, false, false⟩ (zM Try.prog O) (reg Try.f50 0) (reg Try.f50 0).toList ([b,c,l,f,g,i,j,k]) S =
  ( some ([b,c,Value.slice none 0 0,f,g,i,j,k], S)) := by
 kernel_rfl
theorem slices_Clone.r1  : jd Try.prog ⟨false, false, false⟩ (zM Try.prog O) (reg Try.f50 1) (reg Try.f50 1).toList ([b,c,l,f,g,i,j,k]) S =
  (zA (jZ Try.prog BinOp.eql 23 (dem b) (Value.slice none 0 0) S) (fun o d => some ([b,c,l,dem b,o,i,j,k], d)) ()) := by
 kernel_rfl
theorem slices_Clone.r2  : jd Try.prog ⟨false, false, false⟩ (zM Try.prog O) (reg Try.f50 2) (reg Try.f50 2).toList ([b,c,l,f,g,i,j,k]) S =
  ( some ([b,c,Value.slice none 0 0,f,g,i,j,k], S)) := by
 kernel_rfl
theorem slices_Clone.r3  : jd Try.prog ⟨false, false, false⟩ (zM Try.prog O) (reg Try.f50 3) (reg Try.f50 3).toList ([b,c,l,f,g,i,j,k]) S =
  (zA (jB Try.prog 23 0 [] S) (fun m d => zA (wB Try.prog 23 23 m (dem b) d) (fun n p => some ([b,c,n,f,g,dem m,dem b,dem n], p)) ()) ()) := by
 kernel_rfl
theorem slices_Clone.runs {b : Value} {S d : zh} {e : AEx} {T : List Value} (h : zu Try.prog O false slices_Clone.code ([b,undef,undef,undef,undef,undef,undef,undef]) S = some (e, T, d)) (he : e = .normal ∨ e = .ret) : zM Try.prog O 50 [b] S = some (T.getD 2 undef, d) :=
 yX rfl rfl Try.func50 (by decide) slices_Clone.body (by exact h) he (yD (a := T.getD 2 undef) ((show zC Try.prog T d Try.f50.results.toList = zC Try.prog T d [(ResultVar.tmp 2)] from by kernel_rfl).trans (by simp only [zC])) (by kernel_rfl))
end Go.Proofs.Ytbgcphbbchndkaa
namespace Go.Proofs.Ytbgcphbbchndkaa
open Go.Abs
abbrev zB.id : FuncId := 24
noncomputable def zB.jJ : Code := (Code.seq (Code.region 3 (reg Try.f24 3) false) (Code.seq (Code.cond (Operand.tmp 11) Code.skip (Code.exit 0)) (Code.seq (Code.block 1 (Code.seq (Code.region 4 (reg Try.f24 4) false) (Code.seq (Code.seq (Code.region 5 (reg Try.f24 5) false) (Code.cond (Operand.tmp 28) (Code.exit 0) Code.skip)) (Code.seq (Code.region 6 (reg Try.f24 6) false) (Code.seq (Code.region 7 (reg Try.f24 7) false) (Code.cond (Operand.tmp 38) (Code.seq (Code.region 8 (reg Try.f24 8) false) Code.ret) Code.skip)))))) (Code.region 9 (reg Try.f24 9) false))))
noncomputable def zB.code : Code := (Code.seq (Code.region 0 (reg Try.f24 0) false) (Code.seq (Code.region 1 (reg Try.f24 1) false) (Code.seq (Code.seq (Code.region 2 (reg Try.f24 2) false) (Code.block 0 (Code.loop zB.jJ))) (Code.seq (Code.region 10 (reg Try.f24 10) false) Code.ret))))
theorem zB.body : Try.f24.body = some zB.code := by kernel_rfl
theorem zB.eta {T : List Value} (h : T.length = 46) : T = [T.getD 0 undef,T.getD 1 undef,T.getD 2 undef,T.getD 3 undef,T.getD 4 undef,T.getD 5 undef,T.getD 6 undef,T.getD 7 undef,T.getD 8 undef,T.getD 9 undef,T.getD 10 undef,T.getD 11 undef,T.getD 12 undef,T.getD 13 undef,T.getD 14 undef,T.getD 15 undef,T.getD 16 undef,T.getD 17 undef,T.getD 18 undef,T.getD 19 undef,T.getD 20 undef,T.getD 21 undef,T.getD 22 undef,T.getD 23 undef,T.getD 24 undef,T.getD 25 undef,T.getD 26 undef,T.getD 27 undef,T.getD 28 undef,T.getD 29 undef,T.getD 30 undef,T.getD 31 undef,T.getD 32 undef,T.getD 33 undef,T.getD 34 undef,T.getD 35 undef,T.getD 36 undef,T.getD 37 undef,T.getD 38 undef,T.getD 39 undef,T.getD 40 undef,T.getD 41 undef,T.getD 42 undef,T.getD 43 undef,T.getD 44 undef,T.getD 45 undef] := (kE T 46 h).trans (by kernel_rfl)
theorem zB.list {T : List Value} (h : T.length = 46) : ∃ P V Y Z x4 U Q R W X a b c d f g i k l m n o p q r s t u w x y z A B C D E F G H I J K L M N, T = [P,V,Y,Z,x4,U,Q,R,W,X,a,b,c,d,f,g,i,k,l,m,n,o,p,q,r,s,t,u,w,x,y,z,A,B,C,D,E,F,G,H,I,J,K,L,M,N] := ⟨_, _, _, _, _, _, _, _, _, _, _, _, _, _, _, _, _, _, _, _, _, _, _, _, _, _, _, _, _, _, _, _, _, _, _, _, _, _, _, _, _, _, _, _, _, _, zB.eta h⟩
variable (P V Y Z x4 U Q R W X a b c d f g i k l m n o p q r s t u w x y z A B C D E F G H I J K L M N : Value) (S : zh)
theorem zB.r0  : jd Try.prog ⟨false, false, false⟩ (zM Try.prog O) (reg Try.f24 0) (reg Try.f24 0).toList ([P,V,Y,Z,x4,U,Q,R,W,X,a,b,c,d,f,g,i,k,l,m,n,o,p,q,r,s,t,u,w,x,y,z,A,B,C,D,E,F,G,H,I,J,K,L,M,N]) S =
  ( some ([P,V,Value.int IntKind.u64 0,Value.slice none 0 0,Value.int IntKind.i64 0,U,Q,R,W,X,a,b,c,d,f,g,i,k,l,m,n,o,p,q,r,s,t,u,w,x,y,z,A,B,C,D,E,F,G,H,I,J,K,L,M,N], S)) := by
 kernel_rfl
theorem zB.r1  : jd Try.prog ⟨false, false, false⟩ (zM Try.prog O) (reg Try.f24 1) (reg Try.f24 1).toList ([P,V,Y,Z,x4,U,Q,R,W,X,a,b,c,d,f,g,i,k,l,m,n,o,p,q,r,s,t,u,w,x,y,z,A,B,C,D,E,F,G,H,I,J,K,L,M,N]) S =
  ( some ([P,V,Y,Z,x4,Value.int IntKind.u64 0,Q,R,W,X,a,b,c,d,f,g,i,k,l,m,n,o,p,q,r,s,t,u,w,x,y,z,A,B,C,D,E,F,G,H,I,J,K,L,M,N], S)) := by
 kernel_rfl
theorem zB.r2  : jd Try.prog ⟨false, false, false⟩ (zM Try.prog O) (reg Try.f24 2) (reg Try.f24 2).toList ([P,V,Y,Z,x4,U,Q,R,W,X,a,b,c,d,f,g,i,k,l,m,n,o,p,q,r,s,t,u,w,x,y,z,A,B,C,D,E,F,G,H,I,J,K,L,M,N]) S =
  (zA (Jc Try.prog 23 (dem P) S) (fun v1 S1 => some ([P,V,Y,Z,x4,U,Q,R,dem P,v1,Value.int IntKind.i64 0,b,c,d,f,g,i,k,l,m,n,o,p,q,r,s,t,u,w,x,y,z,A,B,C,D,E,F,G,H,I,J,K,L,M,N], S1)) ()) := by
 kernel_rfl
theorem zB.r3  : jd Try.prog ⟨false, false, false⟩ (zM Try.prog O) (reg Try.f24 3) (reg Try.f24 3).toList ([P,V,Y,Z,x4,U,Q,R,W,X,a,b,c,d,f,g,i,k,l,m,n,o,p,q,r,s,t,u,w,x,y,z,A,B,C,D,E,F,G,H,I,J,K,L,M,N]) S =
  (zA (jZ Try.prog BinOp.lss 3 a X S) (fun v0 S1 => some ([P,V,Y,Z,x4,U,Q,R,W,X,a,v0,c,d,f,g,i,k,l,m,n,o,p,q,r,s,t,u,w,x,y,z,A,B,C,D,E,F,G,H,I,J,K,L,M,N], S1)) ()) := by
 kernel_rfl
theorem zB.r4  : jd Try.prog ⟨false, false, false⟩ (zM Try.prog O) (reg Try.f24 4) (reg Try.f24 4).toList ([P,V,Y,Z,x4,U,Q,R,W,X,a,b,c,d,f,g,i,k,l,m,n,o,p,q,r,s,t,u,w,x,y,z,A,B,C,D,E,F,G,H,I,J,K,L,M,N]) S =
  (zA (zW Try.prog 23 W (dem a) S) (fun v1 S1 => zA (zO Try.prog false 5 v1 S1) (fun v2 S2 => some ([P,V,Y,Z,x4,U,a,v2,W,X,dem a,b,dem a,v1,dem v2,g,i,k,l,m,n,o,p,q,r,s,t,u,w,x,y,z,A,B,C,D,E,F,G,H,I,J,K,L,M,N], S2)) ()) ()) := by
 kernel_rfl
theorem zB.r5  : jd Try.prog ⟨false, false, false⟩ (zM Try.prog O) (reg Try.f24 5) (reg Try.f24 5).toList ([P,V,Y,Z,x4,U,Q,R,W,X,a,b,c,d,f,g,i,k,l,m,n,o,p,q,r,s,t,u,w,x,y,z,A,B,C,D,E,F,G,H,I,J,K,L,M,N]) S =
  (zA (jZ Try.prog BinOp.eql 3 (dem Q) (Value.int IntKind.i64 9) S) (fun v1 S1 => gdK (dem v1) true (ret R) S1 (fun v3 S2 => gdK (dem v1) true (jZ Try.prog BinOp.gtr 5 (dem v3) (Value.int IntKind.u8 1)) S2 (fun v4 S3 => zA (wY (dem v1) v4 (Value.bool false) S3) (fun v5 S4 => gdK (dem v5) false (ret Q) S4 (fun v7 S5 => gdK (dem v5) false (jZ Try.prog BinOp.gtr 3 (dem v7) (Value.int IntKind.i64 0)) S5 (fun v8 S6 => gdK (dem v5) false (ret v8) S6 (fun v9 S7 => gdK (dem v9) true (ret R) S7 (fun a0 S8 => gdK (dem v9) true (jZ Try.prog BinOp.eql 5 (dem a0) (Value.int IntKind.u8 0)) S8 (fun a1 S9 => gdK (dem v5) false (wY (dem v9) a1 (Value.bool false)) S9 (fun a2 a3 => zA (wY (dem v5) (Value.bool true) a2 a3) (fun a4 a5 => some ([P,V,Y,Z,x4,U,Q,R,W,X,a,b,c,d,f,dem Q,v1,dem v1,dem v3,v4,v5,dem v5,dem v7,v8,dem v9,dem a0,a1,a2,a4,x,y,z,A,B,C,D,E,F,G,H,I,J,K,L,M,N], a5)) ()) ()) ()) ()) ()) ()) ()) ()) ()) ()) ()) := by
 refine sP Try.f24 5 0 (v := Q) ?_
 refine sD Try.f24 5 1 (fun v1 S1 => ?_)
 refine sP Try.f24 5 2 (v := v1) ?_
 refine sG Try.f24 5 3 (j := 2) (fun v3 S2 => ?_)
 refine sG Try.f24 5 4 (j := 2) (fun v4 S3 => ?_)
 refine sD Try.f24 5 5 (fun v5 S4 => ?_)
 refine sP Try.f24 5 6 (v := v5) ?_
 refine sG Try.f24 5 7 (j := 6) (fun v7 S5 => ?_)
 refine sG Try.f24 5 8 (j := 6) (fun v8 S6 => ?_)
 refine sG Try.f24 5 9 (j := 6) (fun v9 S7 => ?_)
 refine sG Try.f24 5 10 (j := 9) (fun a0 S8 => ?_)
 refine sG Try.f24 5 11 (j := 9) (fun a1 S9 => ?_)
 refine sG Try.f24 5 12 (j := 6) (fun a2 a3 => ?_)
 refine sD Try.f24 5 13 (fun a4 a5 => ?_)
 kernel_rfl
theorem zB.r6  : jd Try.prog ⟨false, false, false⟩ (zM Try.prog O) (reg Try.f24 6) (reg Try.f24 6).toList ([P,V,Y,Z,x4,U,Q,R,W,X,a,b,c,d,f,g,i,k,l,m,n,o,p,q,r,s,t,u,w,x,y,z,A,B,C,D,E,F,G,H,I,J,K,L,M,N]) S =
  (zA (jZ Try.prog BinOp.and 5 (dem R) (Value.int IntKind.u8 127) S) (fun v2 S1 => zA (ql Try.prog false false 5 42 v2 S1) (fun v3 S2 => zA (jZ Try.prog BinOp.mul 3 (Value.int IntKind.i64 7) (dem Q) S2) (fun v5 S3 => zA (jZ Try.prog BinOp.shl 42 v3 v5 S3) (fun v6 S4 => zA (jZ Try.prog BinOp.or 42 (dem U) v6 S4) (fun v7 S5 => some ([P,V,Y,Z,x4,v7,Q,R,W,X,a,b,c,d,f,g,i,k,l,m,n,o,p,q,r,s,t,u,w,dem U,dem R,v2,v3,dem Q,v5,v6,dem v7,F,G,H,I,J,K,L,M,N], S5)) ()) ()) ()) ()) ()) := by
 kernel_rfl
theorem zB.r7  : jd Try.prog ⟨false, false, false⟩ (zM Try.prog O) (reg Try.f24 7) (reg Try.f24 7).toList ([P,V,Y,Z,x4,U,Q,R,W,X,a,b,c,d,f,g,i,k,l,m,n,o,p,q,r,s,t,u,w,x,y,z,A,B,C,D,E,F,G,H,I,J,K,L,M,N]) S =
  (zA (jZ Try.prog BinOp.lss 5 (dem R) (Value.int IntKind.u8 128) S) (fun v1 S1 => some ([P,V,Y,Z,x4,U,Q,R,W,X,a,b,c,d,f,g,i,k,l,m,n,o,p,q,r,s,t,u,w,x,y,z,A,B,C,D,E,dem R,v1,H,I,J,K,L,M,N], S1)) ()) := by
 kernel_rfl
theorem zB.r8  : jd Try.prog ⟨false, false, false⟩ (zM Try.prog O) (reg Try.f24 8) (reg Try.f24 8).toList ([P,V,Y,Z,x4,U,Q,R,W,X,a,b,c,d,f,g,i,k,l,m,n,o,p,q,r,s,t,u,w,x,y,z,A,B,C,D,E,F,G,H,I,J,K,L,M,N]) S =
  (zA (jZ Try.prog BinOp.add 3 (dem Q) (Value.int IntKind.i64 1) S) (fun v3 S1 => zA (xW Try.prog false 23 (dem P) (some v3) none S1) (fun v4 S2 => zA ((zM Try.prog O) 50 [(dem v4)] S2) (fun v5 S3 => some ([P,V,U,v5,Value.int IntKind.i64 0,dem U,Q,R,W,X,a,b,c,d,f,g,i,k,l,m,n,o,p,q,r,s,t,u,w,x,y,z,A,B,C,D,E,F,G,dem U,dem P,dem Q,v3,v4,dem v5,N], S3)) ()) ()) ()) := by
 kernel_rfl
theorem zB.r9  : jd Try.prog ⟨false, false, false⟩ (zM Try.prog O) (reg Try.f24 9) (reg Try.f24 9).toList ([P,V,Y,Z,x4,U,Q,R,W,X,a,b,c,d,f,g,i,k,l,m,n,o,p,q,r,s,t,u,w,x,y,z,A,B,C,D,E,F,G,H,I,J,K,L,M,N]) S =
  (zA (jZ Try.prog BinOp.add 3 a (Value.int IntKind.i64 1) S) (fun v0 S1 => some ([P,V,Y,Z,x4,U,Q,R,W,X,dem v0,b,c,d,f,g,i,k,l,m,n,o,p,q,r,s,t,u,w,x,y,z,A,B,C,D,E,F,G,H,I,J,K,L,M,v0], S1)) ()) := by
 kernel_rfl
theorem zB.r10  : jd Try.prog ⟨false, false, false⟩ (zM Try.prog O) (reg Try.f24 10) (reg Try.f24 10).toList ([P,V,Y,Z,x4,U,Q,R,W,X,a,b,c,d,f,g,i,k,l,m,n,o,p,q,r,s,t,u,w,x,y,z,A,B,C,D,E,F,G,H,I,J,K,L,M,N]) S =
  ( some ([P,V,Value.int IntKind.u64 0,Value.slice none 0 0,Value.int IntKind.i64 11,U,Q,R,W,X,a,b,c,d,f,g,i,k,l,m,n,o,p,q,r,s,t,u,w,x,y,z,A,B,C,D,E,F,G,H,I,J,K,L,M,N], S)) := by
 kernel_rfl
theorem zB.runs {P : Value} {S S1 : zh} {e : AEx} {T : List Value} (h : zu Try.prog O false zB.code ([P,undef,undef,undef,undef,undef,undef,undef,undef,undef,undef,undef,undef,undef,undef,undef,undef,undef,undef,undef,undef,undef,undef,undef,undef,undef,undef,undef,undef,undef,undef,undef,undef,undef,undef,undef,undef,undef,undef,undef,undef,undef,undef,undef,undef,undef]) S = some (e, T, S1)) (he : e = .normal ∨ e = .ret)  (h0 : jD (T.getD 2 undef) = true) (h1 : jD (T.getD 3 undef) = true) (h2 : jD (T.getD 4 undef) = true) : zM Try.prog O 24 [P] S = some (Value.tuple #[T.getD 2 undef, T.getD 3 undef, T.getD 4 undef], S1) :=
 yX rfl rfl Try.func24 (by decide) zB.body (by exact h) he ((yT ((show zC Try.prog T S1 Try.f24.results.toList = zC Try.prog T S1 [(ResultVar.tmp 2), (ResultVar.tmp 3), (ResultVar.tmp 4)] from by kernel_rfl).trans (by simp only [zC])) (by kernel_rfl) (by simp only [List.all_cons, List.all_nil, h0, h1, h2, Bool.and_true])).trans rfl)
end Go.Proofs.Ytbgcphbbchndkaa
namespace Go.Proofs.Ytbgcphbbchndkaa
open Go.Abs
abbrev jA.id : FuncId := 35
noncomputable def jA.jJ : Code := (Code.seq (Code.seq (Code.region 2 (reg Try.f35 2) false) (Code.cond (Operand.tmp 5) Code.skip (Code.exit 0))) (Code.block 1 (Code.seq (Code.region 3 (reg Try.f35 3) false) (Code.region 4 (reg Try.f35 4) false))))
noncomputable def jA.code : Code := (Code.seq (Code.region 0 (reg Try.f35 0) false) (Code.seq (Code.region 1 (reg Try.f35 1) false) (Code.seq (Code.block 0 (Code.loop jA.jJ)) (Code.seq (Code.region 5 (reg Try.f35 5) false) Code.ret))))
theorem jA.body : Try.f35.body = some jA.code := by kernel_rfl
theorem jA.eta {T : List Value} (h : T.length = 19) : T = [T.getD 0 undef,T.getD 1 undef,T.getD 2 undef,T.getD 3 undef,T.getD 4 undef,T.getD 5 undef,T.getD 6 undef,T.getD 7 undef,T.getD 8 undef,T.getD 9 undef,T.getD 10 undef,T.getD 11 undef,T.getD 12 undef,T.getD 13 undef,T.getD 14 undef,T.getD 15 undef,T.getD 16 undef,T.getD 17 undef,T.getD 18 undef] := (kE T 19 h).trans (by kernel_rfl)
theorem jA.list {T : List Value} (h : T.length = 19) : ∃ b o v n p q r s t u c d f g i j k l m, T = [b,o,v,n,p,q,r,s,t,u,c,d,f,g,i,j,k,l,m] := ⟨_, _, _, _, _, _, _, _, _, _, _, _, _, _, _, _, _, _, _, jA.eta h⟩
variable (b o v n p q r s t u c d f g i j k l m : Value) (S : zh)
theorem jA.r0  : jd Try.prog ⟨false, false, false⟩ (zM Try.prog O) (reg Try.f35 0) (reg Try.f35 0).toList ([b,o,v,n,p,q,r,s,t,u,c,d,f,g,i,j,k,l,m]) S =
  ( some ([b,o,Value.slice none 0 0,n,p,q,r,s,t,u,c,d,f,g,i,j,k,l,m], S)) := by
 kernel_rfl
theorem jA.r1  : jd Try.prog ⟨false, false, false⟩ (zM Try.prog O) (reg Try.f35 1) (reg Try.f35 1).toList ([b,o,v,n,p,q,r,s,t,u,c,d,f,g,i,j,k,l,m]) S =
  ( some ([b,o,v,Value.slice none 0 0,p,q,r,s,t,u,c,d,f,g,i,j,k,l,m], S)) := by
 kernel_rfl
theorem jA.r2  : jd Try.prog ⟨false, false, false⟩ (zM Try.prog O) (reg Try.f35 2) (reg Try.f35 2).toList ([b,o,v,n,p,q,r,s,t,u,c,d,f,g,i,j,k,l,m]) S =
  (zA (jZ Try.prog BinOp.geq 42 (dem b) (Value.int IntKind.u64 128) S) (fun A w => some ([b,o,v,n,dem b,A,r,s,t,u,c,d,f,g,i,j,k,l,m], w)) ()) := by
 kernel_rfl
theorem jA.r3  : jd Try.prog ⟨false, false, false⟩ (zM Try.prog O) (reg Try.f35 3) (reg Try.f35 3).toList ([b,o,v,n,p,q,r,s,t,u,c,d,f,g,i,j,k,l,m]) S =
  (zA (ql Try.prog false false 42 5 (dem b) S) (fun x w => zA (jZ Try.prog BinOp.or 5 x (Value.int IntKind.u8 128) w) (fun y B => zA (jB Try.prog 23 1 [(0, y)] B) (fun z C => zA (wB Try.prog 23 23 n z C) (fun D E => some ([b,o,v,D,p,q,dem n,dem b,x,y,z,dem D,f,g,i,j,k,l,m], E)) ()) ()) ()) ()) := by
 kernel_rfl
theorem jA.r4  : jd Try.prog ⟨false, false, false⟩ (zM Try.prog O) (reg Try.f35 4) (reg Try.f35 4).toList ([b,o,v,n,p,q,r,s,t,u,c,d,f,g,i,j,k,l,m]) S =
  (zA (jZ Try.prog BinOp.shr 42 (dem b) (Value.int IntKind.u64 7) S) (fun A w => some ([A,o,v,n,p,q,r,s,t,u,c,d,dem b,dem A,i,j,k,l,m], w)) ()) := by
 kernel_rfl
theorem jA.r5  : jd Try.prog ⟨false, false, false⟩ (zM Try.prog O) (reg Try.f35 5) (reg Try.f35 5).toList ([b,o,v,n,p,q,r,s,t,u,c,d,f,g,i,j,k,l,m]) S =
  (zA (ql Try.prog false false 42 5 (dem b) S) (fun x w => zA (jB Try.prog 23 1 [(0, x)] w) (fun y B => zA (wB Try.prog 23 23 n y B) (fun z C => some ([b,o,z,dem n,p,q,r,s,t,u,c,d,f,g,dem n,dem b,x,y,dem z], C)) ()) ()) ()) := by
 kernel_rfl
theorem jA.runs {b : Value} {S w : zh} {e : AEx} {T : List Value} (h : zu Try.prog O false jA.code ([b,undef,undef,undef,undef,undef,undef,undef,undef,undef,undef,undef,undef,undef,undef,undef,undef,undef,undef]) S = some (e, T, w)) (he : e = .normal ∨ e = .ret) : zM Try.prog O 35 [b] S = some (T.getD 2 undef, w) :=
 yX rfl rfl Try.func35 (by decide) jA.body (by exact h) he (yD (a := T.getD 2 undef) ((show zC Try.prog T w Try.f35.results.toList = zC Try.prog T w [(ResultVar.tmp 2)] from by kernel_rfl).trans (by simp only [zC])) (by kernel_rfl))
end Go.Proofs.Ytbgcphbbchndkaa
namespace Go.Proofs.Ytbgcphbbchndkaa
open Go.Abs
theorem aeh : Try.prog.underlying 3 = some (TypeDesc.int IntKind.i64) := by kernel_rfl
theorem abn : xC Try.prog 3 = some 1 := by kernel_rfl
theorem aiS : bytesOf Try.prog 3 = some 8 := by kernel_rfl
theorem aiY : zeroOf Try.prog 3 = (some (Value.int IntKind.i64 0)) := by kernel_rfl
theorem ZN : qR Try.prog 3 = some false := by kernel_rfl
theorem aiv : zeroOf Try.prog 4 = (some (Value.bool false)) := by kernel_rfl
theorem VZ : Try.prog.underlying 5 = some (TypeDesc.int IntKind.u8) := by kernel_rfl
theorem V4 : xC Try.prog 5 = some 1 := by kernel_rfl
theorem agQ : bytesOf Try.prog 5 = some 1 := by kernel_rfl
theorem ahx : zeroOf Try.prog 5 = (some (Value.int IntKind.u8 0)) := by kernel_rfl
theorem ahp : qR Try.prog 5 = some false := by kernel_rfl
theorem aer : Try.prog.underlying 9 = some TypeDesc.string := by kernel_rfl
theorem xq : Try.prog.underlying 23 = some (TypeDesc.slice 5) := by kernel_rfl
theorem acT : xC Try.prog 23 = some 1 := by kernel_rfl
theorem adY : qR Try.prog 23 = some false := by kernel_rfl
theorem aeV : Try.prog.underlying 25 = some (TypeDesc.struct #[{ name := "ID", type := 3, offset := 0, embedded := false, tag := "", pkgPath := "", byteOffset := 0 }, { name := "Fee", type := 3, offset := 1, embedded := false, tag := "", pkgPath := "", byteOffset := 8 }]) := by kernel_rfl
theorem xK : xC Try.prog 25 = some 2 := by kernel_rfl
theorem aee : bytesOf Try.prog 25 = some 16 := by kernel_rfl
theorem ae3 : zeroOf Try.prog 25 = (some (Value.agg #[(Value.int IntKind.i64 0), (Value.int IntKind.i64 0)])) := by kernel_rfl
theorem KR : qR Try.prog 25 = some true := by kernel_rfl
theorem ZK : Try.prog.underlying 26 = some (TypeDesc.slice 25) := by kernel_rfl
theorem aa2 : qR Try.prog 26 = some false := by kernel_rfl
theorem xw : xC Try.prog 28 = some 5 := by kernel_rfl
theorem Yz : qR Try.prog 28 = some true := by kernel_rfl
theorem Ym : xC Try.prog 30 = some 13 := by kernel_rfl
theorem adl : qR Try.prog 30 = some true := by kernel_rfl
theorem WQ : Try.prog.underlying 42 = some (TypeDesc.int IntKind.u64) := by kernel_rfl
theorem Qx : Try.prog.underlying 57 = some (TypeDesc.slice 3) := by kernel_rfl
theorem Vk : Try.prog.underlying 88 = some (TypeDesc.slice 23) := by kernel_rfl
theorem Wv : Try.prog.underlying 100 = some (TypeDesc.map 3 4) := by kernel_rfl
theorem vP (q o : Nat) (S : zh) : zo Try.prog 25 (.pointer (some ⟨q, o, none⟩)) 0 S = some (.pointer (some ⟨q, o + 0, none⟩), S) := by kernel_rfl
theorem Yn (q o : Nat) (S : zh) : zo Try.prog 25 (.pointer (some ⟨q, o, none⟩)) 1 S = some (.pointer (some ⟨q, o + 1, none⟩), S) := by kernel_rfl
theorem jS (q o : Nat) (S : zh) : zo Try.prog 28 (.pointer (some ⟨q, o, none⟩)) 0 S = some (.pointer (some ⟨q, o + 0, none⟩), S) := by kernel_rfl
theorem jT (q o : Nat) (S : zh) : zo Try.prog 28 (.pointer (some ⟨q, o, none⟩)) 1 S = some (.pointer (some ⟨q, o + 1, none⟩), S) := by kernel_rfl
theorem jQ (q o : Nat) (S : zh) : zo Try.prog 28 (.pointer (some ⟨q, o, none⟩)) 2 S = some (.pointer (some ⟨q, o + 2, none⟩), S) := by kernel_rfl
theorem jU (q o : Nat) (S : zh) : zo Try.prog 28 (.pointer (some ⟨q, o, none⟩)) 3 S = some (.pointer (some ⟨q, o + 3, none⟩), S) := by kernel_rfl
theorem jR (q o : Nat) (S : zh) : zo Try.prog 28 (.pointer (some ⟨q, o, none⟩)) 4 S = some (.pointer (some ⟨q, o + 4, none⟩), S) := by kernel_rfl
theorem zJ (q o : Nat) (S : zh) : zo Try.prog 30 (.pointer (some ⟨q, o, none⟩)) 0 S = some (.pointer (some ⟨q, o + 0, none⟩), S) := by kernel_rfl
theorem zU (q o : Nat) (S : zh) : zo Try.prog 30 (.pointer (some ⟨q, o, none⟩)) 1 S = some (.pointer (some ⟨q, o + 1, none⟩), S) := by kernel_rfl
theorem jc (q o : Nat) (S : zh) : zo Try.prog 30 (.pointer (some ⟨q, o, none⟩)) 2 S = some (.pointer (some ⟨q, o + 2, none⟩), S) := by kernel_rfl
theorem je (q o : Nat) (S : zh) : zo Try.prog 30 (.pointer (some ⟨q, o, none⟩)) 3 S = some (.pointer (some ⟨q, o + 3, none⟩), S) := by kernel_rfl
theorem zN (q o : Nat) (S : zh) : zo Try.prog 30 (.pointer (some ⟨q, o, none⟩)) 4 S = some (.pointer (some ⟨q, o + 4, none⟩), S) := by kernel_rfl
theorem jo (q o : Nat) (S : zh) : zo Try.prog 30 (.pointer (some ⟨q, o, none⟩)) 5 S = some (.pointer (some ⟨q, o + 5, none⟩), S) := by kernel_rfl
theorem jm (q o : Nat) (S : zh) : zo Try.prog 30 (.pointer (some ⟨q, o, none⟩)) 6 S = some (.pointer (some ⟨q, o + 6, none⟩), S) := by kernel_rfl
theorem jq (q o : Nat) (S : zh) : zo Try.prog 30 (.pointer (some ⟨q, o, none⟩)) 7 S = some (.pointer (some ⟨q, o + 8, none⟩), S) := by kernel_rfl
theorem xY {fx : Bool} {x0 x1 : Value} {S : zh} : zO Try.prog fx 25 (EP [x0, x1]) S = some (.agg [x0, x1].toArray, S) := adG KR xK rfl
theorem KZ {q : Nat} {x0 x1 : Value} {own : Own} {e : Nat} {S : zh} (h : S.get q = some (.cells [x0, x1] own e)) : zO Try.prog false 25 (.pointer (some ⟨q, 0, none⟩)) S = some (.agg [qO x0, qO x1].toArray, S) := (Ju (o := 0) h KR xK (by simp)).trans (by simp)
theorem XO {q : Nat} {x0 x1 x2 x3 x4 : Value} {own : Own} {e : Nat} {S : zh} (h : S.get q = some (.cells [x0, x1, x2, x3, x4] own e)) : zO Try.prog false 28 (.pointer (some ⟨q, 0, none⟩)) S = some (.agg [qO x0, qO x1, qO x2, qO x3, qO x4].toArray, S) := (Ju (o := 0) h Yz xw (by simp)).trans (by simp)
theorem abA {q : Nat} {x0 x1 x2 x3 x4 x5 x6 x7 x8 x9 x10 x11 x12 : Value} {own : Own} {e : Nat} {S : zh} (h : S.get q = some (.cells [x0, x1, x2, x3, x4, x5, x6, x7, x8, x9, x10, x11, x12] own e)) : zO Try.prog false 30 (.pointer (some ⟨q, 0, none⟩)) S = some (.agg [qO x0, qO x1, qO x2, qO x3, qO x4, qO x5, qO x6, qO x7, qO x8, qO x9, qO x10, qO x11, qO x12].toArray, S) := (Ju (o := 0) h adl Ym (by simp)).trans (by simp)
theorem Jr  (S : zh) : yg Try.prog 25 [] S = some (.agg [(Value.int IntKind.i64 0), (Value.int IntKind.i64 0)].toArray, S) := by
 kernel_rfl
theorem Kv {y0 y1 : Value} (h0 : y0.cells = #[y0]) (h1 : y1.cells = #[y1]) (S : zh) : yg Try.prog 25 [(0, y0), (1, y1)] S = some (.agg [y0, y1].toArray, S) := by
 rw [show yg Try.prog 25 [(0, y0), (1, y1)] S = (match xE ([(0, 1), (1, 1)][·]?) [(Value.int IntKind.i64 0), (Value.int IntKind.i64 0)] [(0, y0), (1, y1)] with | some l => some (.agg l.toArray, S) | none => none) from by kernel_rfl]
 simp [xE, splice, yU, h0, h1]
theorem Xu  (S : zh) : yg Try.prog 28 [] S = some (.agg [(Value.int IntKind.i64 0), (Value.int IntKind.i64 0), (Value.int IntKind.i64 0), (Value.int IntKind.i64 0), (Value.slice none 0 0)].toArray, S) := by
 kernel_rfl
theorem Zd {y0 y1 y2 y3 y4 : Value} (h0 : y0.cells = #[y0]) (h1 : y1.cells = #[y1]) (h2 : y2.cells = #[y2]) (h3 : y3.cells = #[y3]) (h4 : y4.cells = #[y4]) (S : zh) : yg Try.prog 28 [(0, y0), (1, y1), (2, y2), (3, y3), (4, y4)] S = some (.agg [y0, y1, y2, y3, y4].toArray, S) := by
 rw [show yg Try.prog 28 [(0, y0), (1, y1), (2, y2), (3, y3), (4, y4)] S = (match xE ([(0, 1), (1, 1), (2, 1), (3, 1), (4, 1)][·]?) [(Value.int IntKind.i64 0), (Value.int IntKind.i64 0), (Value.int IntKind.i64 0), (Value.int IntKind.i64 0), (Value.slice none 0 0)] [(0, y0), (1, y1), (2, y2), (3, y3), (4, y4)] with | some l => some (.agg l.toArray, S) | none => none) from by kernel_rfl]
 simp [xE, splice, yU, h0, h1, h2, h3, h4]
theorem J9  (S : zh) : yg Try.prog 30 [] S = some (.agg [(Value.int IntKind.i64 0), (Value.int IntKind.i64 0), (Value.int IntKind.i64 0), (Value.int IntKind.i64 0), (Value.int IntKind.i64 0), (Value.int IntKind.i64 0), (Value.int IntKind.i64 0), (Value.int IntKind.i64 0), (Value.int IntKind.i64 0), (Value.int IntKind.i64 0), (Value.int IntKind.i64 0), (Value.int IntKind.i64 0), (Value.slice none 0 0)].toArray, S) := by
 kernel_rfl
theorem yS {y0 y1 : Value} (h0 : y0.cells = #[y0]) (h1 : y1.cells = #[y1]) (S : zh) : yg Try.prog 30 [(0, y0), (1, y1)] S = some (.agg [y0, y1, (Value.int IntKind.i64 0), (Value.int IntKind.i64 0), (Value.int IntKind.i64 0), (Value.int IntKind.i64 0), (Value.int IntKind.i64 0), (Value.int IntKind.i64 0), (Value.int IntKind.i64 0), (Value.int IntKind.i64 0), (Value.int IntKind.i64 0), (Value.int IntKind.i64 0), (Value.slice none 0 0)].toArray, S) := by
 rw [show yg Try.prog 30 [(0, y0), (1, y1)] S = (match xE ([(0, 1), (1, 1), (2, 1), (3, 1), (4, 1), (5, 1), (6, 2), (8, 5)][·]?) [(Value.int IntKind.i64 0), (Value.int IntKind.i64 0), (Value.int IntKind.i64 0), (Value.int IntKind.i64 0), (Value.int IntKind.i64 0), (Value.int IntKind.i64 0), (Value.int IntKind.i64 0), (Value.int IntKind.i64 0), (Value.int IntKind.i64 0), (Value.int IntKind.i64 0), (Value.int IntKind.i64 0), (Value.int IntKind.i64 0), (Value.slice none 0 0)] [(0, y0), (1, y1)] with | some l => some (.agg l.toArray, S) | none => none) from by kernel_rfl]
 simp [xE, splice, yU, h0, h1]
theorem Zc {y0 y1 y2 y3 y4 y5 : Value} (h0 : y0.cells = #[y0]) (h1 : y1.cells = #[y1]) (h2 : y2.cells = #[y2]) (h3 : y3.cells = #[y3]) (h4 : y4.cells = #[y4]) (h5 : y5.cells = #[y5]) (S : zh) : yg Try.prog 30 [(0, y0), (1, y1), (2, y2), (3, y3), (4, y4), (5, y5)] S = some (.agg [y0, y1, y2, y3, y4, y5, (Value.int IntKind.i64 0), (Value.int IntKind.i64 0), (Value.int IntKind.i64 0), (Value.int IntKind.i64 0), (Value.int IntKind.i64 0), (Value.int IntKind.i64 0), (Value.slice none 0 0)].toArray, S) := by
 rw [show yg Try.prog 30 [(0, y0), (1, y1), (2, y2), (3, y3), (4, y4), (5, y5)] S = (match xE ([(0, 1), (1, 1), (2, 1), (3, 1), (4, 1), (5, 1), (6, 2), (8, 5)][·]?) [(Value.int IntKind.i64 0), (Value.int IntKind.i64 0), (Value.int IntKind.i64 0), (Value.int IntKind.i64 0), (Value.int IntKind.i64 0), (Value.int IntKind.i64 0), (Value.int IntKind.i64 0), (Value.int IntKind.i64 0), (Value.int IntKind.i64 0), (Value.int IntKind.i64 0), (Value.int IntKind.i64 0), (Value.int IntKind.i64 0), (Value.slice none 0 0)] [(0, y0), (1, y1), (2, y2), (3, y3), (4, y4), (5, y5)] with | some l => some (.agg l.toArray, S) | none => none) from by kernel_rfl]
 simp [xE, splice, yU, h0, h1, h2, h3, h4, h5]
@[simp] theorem Jm (k : IntKind) (n : Int) (H : zh) : yF Try.prog 3 42 (.int k n) H = some (.int IntKind.u64 (IntKind.wrap IntKind.u64 n), H) := Jj aeh WQ k n
@[simp] theorem Zv (k : IntKind) (n : Int) (H : zh) : yF Try.prog 5 42 (.int k n) H = some (.int IntKind.u64 (IntKind.wrap IntKind.u64 n), H) := Jj VZ WQ k n
@[simp] theorem Kq (k : IntKind) (n : Int) (H : zh) : yF Try.prog 42 3 (.int k n) H = some (.int IntKind.i64 (IntKind.wrap IntKind.i64 n), H) := Jj WQ aeh k n
@[simp] theorem Zh (k : IntKind) (n : Int) (H : zh) : yF Try.prog 42 5 (.int k n) H = some (.int IntKind.u8 (IntKind.wrap IntKind.u8 n), H) := Jj WQ VZ k n
theorem Zq (S : zh) : jB Try.prog 23 0 [] S = some (sv 2 1 0 [], S) := by kernel_rfl
theorem Ws (x0 : Int) (S : zh) : jB Try.prog 23 1 [(0, .int IntKind.u8 x0)] S = some (sv 2 1 1 [.int IntKind.u8 x0], S) := by kernel_rfl
theorem Y2 (x0 : Int) (S : zh) : jB Try.prog 57 1 [(0, .int IntKind.i64 x0)] S = some (sv 2 1 1 [.int IntKind.i64 x0], S) := by kernel_rfl
theorem aaR (x0 x1 : Int) (S : zh) : jB Try.prog 57 2 [(0, .int IntKind.i64 x0), (1, .int IntKind.i64 x1)] S = some (sv 2 1 2 [.int IntKind.i64 x0, .int IntKind.i64 x1], S) := by kernel_rfl
theorem Wy {k : Nat} {l : List UInt8} {S : zh} (h : Okl k l) : Jc Try.prog 23 (by_ k l) S = some (goInt l.length, S) := ada xq h
theorem aiu {k : Nat} {l : List UInt8} {S : zh} {ki : IntKind} {i : Int} (h : Okl k l) (h0 : 0 ≤ i) (hi : i < l.length) : zW Try.prog 23 (by_ k l) (.int ki i) S = some (EP [.int .u8 (l[i.toNat]'(by omega)).toNat], S) := agT xq V4 aag h h0 hi
theorem ady {fx : Bool} {v : Value} {S : zh} : zO Try.prog fx 5 (EP [v]) S = some (v, S) := WU ahp
theorem aek {k : Nat} {l : List UInt8} {S : zh} {lo hi : Option Value} {i j : Int} (h : Okl k l) (hlo : kT 0 lo = some i) (hhi : kT l.length hi = some j) (h0 : 0 ≤ i) (hij : i ≤ j) (hj : j ≤ l.length) : vZ Try.prog 23 (by_ k l) lo hi S = some (by_ (if k = 2 then 1 else k) ((l.drop i.toNat).take (j.toNat - i.toNat)), S) := afz xq V4 aag h hlo hhi h0 hij hj
theorem qX {k : Nat} {l : List UInt8} {S : zh} {j : Nat} {m : List UInt8} (h : Okl k l) (hk : k ≠ 1) (hm : Okl j m) (hl : l.length + m.length ≤ 140737488355328) : wB Try.prog 23 23 (by_ k l) (by_ j m) S = some (by_ (if k = 0 ∧ m.length = 0 then 0 else 2) (l ++ m), S) := YG xq V4 ahx rfl agQ (by omega) xq aag ain h hk hm (by omega) (by omega)
theorem ag7 {k : Nat} {l : List UInt8} {S : zh} (h : Okl k l) (hl : l.length ≤ 140737488355328) : wB Try.prog 23 23 (by_ 2 []) (by_ k l) S = some (by_ 2 l, S) := by
 rw [qX Okl.own (by decide) h (by simpa using hl)]; rfl
theorem ae5 {k : Nat} {l : List UInt8} {S : zh} (h : Okl k l) : jZ Try.prog .eql 23 (by_ k l) (.slice none 0 0) S = some (.bool (decide (k = 0)), S) := aeW xq h
theorem afO {k : Nat} {l : List UInt8} {S : zh} (h : Okl k l) : ZM Try.prog 23 9 (by_ k l) S = some (.string ⟨l.toArray⟩, S) := adq xq VZ aer h
theorem afH {k : Nat} {l : List Int} {S : zh} (h : Okl k l) : Jc Try.prog 57 (iz k l) S = some (goInt l.length, S) := ada Qx h
theorem acB {k : Nat} {l : List Int} {S : zh} {ki : IntKind} {i : Int} (h : Okl k l) (h0 : 0 ≤ i) (hi : i < l.length) : zW Try.prog 57 (iz k l) (.int ki i) S = some (EP [.int .i64 (l[i.toNat]'(by omega))], S) := agT Qx abn af6 h h0 hi
theorem qY {fx : Bool} {v : Value} {S : zh} : zO Try.prog fx 3 (EP [v]) S = some (v, S) := WU ZN
theorem adi {k : Nat} {l : List Int} {S : zh} {j : Nat} {m : List Int} (h : Okl k l) (hk : k ≠ 1) (hm : Okl j m) (hl : l.length + m.length ≤ 17592186044416) : wB Try.prog 57 57 (iz k l) (iz j m) S = some (iz (if k = 0 ∧ m.length = 0 then 0 else 2) (l ++ m), S) := YG Qx abn aiY rfl aiS (by omega) Qx af6 aie h hk hm (by omega) (by omega)
theorem wk : type_of% (And.intro @Y7 (And.intro @Js (And.intro @WA (And.intro @YQ (And.intro @Qe (And.intro @Yf (And.intro @Yk (And.intro @YC (And.intro @WH (And.intro @XZ (And.intro @YJ (And.intro @KX (And.intro @aao (And.intro @Jp (And.intro @Qc (And.intro @WY (And.intro @Qs (And.intro @Yr (And.intro @YP (And.intro @afU (And.intro @afZ (And.intro @agk (And.intro @agq (And.intro @agz (And.intro @Vs (And.intro @VP (And.intro @ade (And.intro @aea (And.intro @acp (And.intro @aay (And.intro @WG (And.intro @XY (And.intro @Bool.and_true (And.intro @Bool.true_and (And.intro @Bool.and_self (And.intro @V7 (And.intro @vN (And.intro @Qj (And.intro @Xx (And.intro @Yc (And.intro @agh (And.intro @agx (And.intro @afP (And.intro @afN (And.intro @ah3 (And.intro @aij (And.intro @aiq (And.intro @aiH (And.intro @aiw (And.intro @af5 (And.intro @agv (And.intro @agc (And.intro @af9 (And.intro @af2 (And.intro @adu (And.intro @Qd (And.intro @Bool.false_eq_true (And.intro @V5 (And.intro @acz (And.intro @Qg (And.intro @Xj (And.intro @Xd (And.intro @afK (And.intro @Xn (And.intro @afI (And.intro @Yv (And.intro @adz (And.intro @aae (And.intro @Qk (And.intro @acE (And.intro @acY (And.intro @aaj (And.intro @Ye (And.intro @Xy (And.intro @acU (And.intro @ad7 (And.intro @aaK (And.intro @QN (And.intro @aas (And.intro @YL (And.intro @Xk (And.intro @XC (And.intro @Y8 (And.intro @JF (And.intro @ZW (And.intro @WX (And.intro @Xz (And.intro @J5 (And.intro @Qh (And.intro @ZY (And.intro @ZR (And.intro @ZP (And.intro @QK (And.intro @Kt (And.intro @WM (And.intro @QD (And.intro @KF (And.intro @QS (And.intro @KL (And.intro @QB (And.intro @QW (And.intro @adn (And.intro @Bool.not_true (And.intro @Bool.not_false (And.intro @Bool.true_eq_false (And.intro @decide_true (And.intro @decide_false (And.intro @ab7 (And.intro @adX (And.intro @acu (And.intro @abQ (And.intro @adk (And.intro @ab4 (And.intro @acf (And.intro @acC (And.intro @adK (And.intro @adU (And.intro @acn (And.intro @acG (And.intro @acK (And.intro @acD (@ad1)))))))))))))))))))))))))))))))))))))))))))))))))))))))))))))))))))))))))))))))))))))))))))))))))))))))))))))))))))))))))) := And.intro @Y7 (And.intro @Js (And.intro @WA (And.intro @YQ (And.intro @Qe (And.intro @Yf (And.intro @Yk (And.intro @YC (And.intro @WH (And.intro @XZ (And.intro @YJ (And.intro @KX (And.intro @aao (And.intro @Jp (And.intro @Qc (And.intro @WY (And.intro @Qs (And.intro @Yr (And.intro @YP (And.intro @afU (And.intro @afZ (And.intro @agk (And.intro @agq (And.intro @agz (And.intro @Vs (And.intro @VP (And.intro @ade (And.intro @aea (And.intro @acp (And.intro @aay (And.intro @WG (And.intro @XY (And.intro @Bool.and_true (And.intro @Bool.true_and (And.intro @Bool.and_self (And.intro @V7 (And.intro @vN (And.intro @Qj (And.intro @Xx (And.intro @Yc (And.intro @agh (And.intro @agx (And.intro @afP (And.intro @afN (And.intro @ah3 (And.intro @aij (And.intro @aiq (And.intro @aiH (And.intro @aiw (And.intro @af5 (And.intro @agv (And.intro @agc (And.intro @af9 (And.intro @af2 (And.intro @adu (And.intro @Qd (And.intro @Bool.false_eq_true (And.intro @V5 (And.intro @acz (And.intro @Qg (And.intro @Xj (And.intro @Xd (And.intro @afK (And.intro @Xn (And.intro @afI (And.intro @Yv (And.intro @adz (And.intro @aae (And.intro @Qk (And.intro @acE (And.intro @acY (And.intro @aaj (And.intro @Ye (And.intro @Xy (And.intro @acU (And.intro @ad7 (And.intro @aaK (And.intro @QN (And.intro @aas (And.intro @YL (And.intro @Xk (And.intro @XC (And.intro @Y8 (And.intro @JF (And.intro @ZW (And.intro @WX (And.intro @Xz (And.intro @J5 (And.intro @Qh (And.intro @ZY (And.intro @ZR (And.intro @ZP (And.intro @QK (And.intro @Kt (And.intro @WM (And.intro @QD (And.intro @KF (And.intro @QS (And.intro @KL (And.intro @QB (And.intro @QW (And.intro @adn (And.intro @Bool.not_true (And.intro @Bool.not_false (And.intro @Bool.true_eq_false (And.intro @decide_true (And.intro @decide_false (And.intro @ab7 (And.intro @adX (And.intro @acu (And.intro @abQ (And.intro @adk (And.intro @ab4 (And.intro @acf (And.intro @acC (And.intro @adK (And.intro @adU (And.intro @acn (And.intro @acG (And.intro @acK (And.intro @acD (@ad1)))))))))))))))))))))))))))))))))))))))))))))))))))))))))))))))))))))))))))))))))))))))))))))))))))))))))))))))))))))))))
theorem zSs : type_of% (And.intro wk (And.intro (@List.getD_cons_succ Value) (And.intro (@List.getD_cons_zero Value) (And.intro @if_true.{1} (And.intro @if_false.{1} (And.intro (@List.getElem?_cons_succ Value) (And.intro (@List.getElem?_cons_zero Value) (And.intro @Option.map_some.{0,0} @eq_self.{1})))))))) := And.intro wk (And.intro (@List.getD_cons_succ Value) (And.intro (@List.getD_cons_zero Value) (And.intro @if_true.{1} (And.intro @if_false.{1} (And.intro (@List.getElem?_cons_succ Value) (And.intro (@List.getElem?_cons_zero Value) (And.intro @Option.map_some.{0,0} @eq_self.{1})))))))
end Go.Proofs.Ytbgcphbbchndkaa
namespace Go.Proofs.Ytbgcphbbchndkaa
open Go.Abs
def enc (n : Nat) : List UInt8 := if n < 128 then [UInt8.ofNat n] else UInt8.ofNat (n % 128 + 128) :: enc (n / 128)
termination_by n
decreasing_by omega
theorem vF {n : Nat} (h : n < 128) : enc n = [UInt8.ofNat n] := by rw [enc, if_pos h]
theorem YS {n : Nat} (h : ¬ n < 128) : enc n = UInt8.ofNat (n % 128 + 128) :: enc (n / 128) := by rw [enc, if_neg h]
theorem wrap_u8 (n : Nat) : IntKind.u8.wrap (n : Int) = ((n % 256 : Nat) : Int) := by
 simp [IntKind.wrap, IntKind.bits, IntKind.signed]
theorem wrap_u64 (n : Nat) : IntKind.u64.wrap (n : Int) = ((n % 2 ^ 64 : Nat) : Int) := by
 simp [IntKind.wrap, IntKind.bits, IntKind.signed]
theorem aiV : ∀ m : Fin 256, orI .u8 (m.val : Int) 128 = ((m.val % 128 + 128 : Nat) : Int) := by decide +kernel
theorem ag8 (n : Nat) : orI .u8 (IntKind.u8.wrap (n : Int)) 128 = ((UInt8.ofNat (n % 128 + 128)).toNat : Int) := by
 rw [wrap_u8, aiV ⟨n % 256, by omega⟩]
 simp only [UInt8.toNat_ofNat']
 omega
theorem agK {n : Nat} : IntKind.u8.wrap (n : Int) = ((UInt8.ofNat n).toNat : Int) := by
 rw [wrap_u8]
 simp
theorem aja (n : Nat) : (n : Int).fdiv (2 ^ min (Int.toNat 7) (IntKind.bits .u64)) = ((n / 128 : Nat) : Int) := by
 have : (2 : Int) ^ min (Int.toNat 7) (IntKind.bits .u64) = 128 := by decide
 rw [this, Int.fdiv_eq_ediv_of_nonneg _ (by omega)]
 omega
theorem ag4 (k : Nat) : ∀ n, n < 128 ^ (k + 1) → (enc n).length ≤ k + 1 := by
 induction k with
 | zero => intro n h; rw [vF (by omega)]; simp
 | succ k ih =>
  intro n h
  by_cases hn : n < 128
  ·
   rw [vF hn]; simp
  ·
   rw [YS hn]
   have := ih (n / 128) (by rw [Nat.div_lt_iff_lt_mul (by omega)]; exact h)
   simp only [List.length_cons]; omega
theorem Zg {n : Nat} (h : n < 2 ^ 64) : (enc n).length ≤ 10 := ag4 9 n (Nat.lt_of_lt_of_le h (by decide))
theorem aio : sv 2 1 0 [] = by_ 2 [] := rfl
theorem ah9 (x : UInt8) : sv 2 1 1 [.int .u8 x.toNat] = by_ 2 [x] := rfl
theorem aco {k : Nat} {l : List UInt8} {x : UInt8} {S : zh} (h : Okl k l) (hk : k ≠ 1) (hl : l.length ≤ 140737488355000) : wB Try.prog 23 23 (by_ k l) (by_ 2 [x]) S = some (by_ 2 (l ++ [x]), S) := by
 rw [qX h hk Okl.own (by simp; omega), if_neg (fun h => by have := h.2; simp at this)]
theorem jA.round : ∀ (n : Nat) (l : List UInt8) (k : Nat) {T : List Value} {S : zh} {r : St}, qJ (zu Try.prog O false jA.jJ) T S = r → T.length = 19 → T.getD 0 undef = .int .u64 n → T.getD 3 undef = by_ k l →
  Okl k l → k ≠ 1 → n * 2 ^ l.length < 2 ^ 64 → ∃ T' l' k' n', r = some (.exit 0, T', S) ∧ T'.length = 19 ∧ T'.getD 0 undef = .int .u64 (n' : Nat) ∧ T'.getD 3 undef = by_ k' l' ∧
   Okl k' l' ∧ k' ≠ 1 ∧ n' < 128 ∧ l' ++ [UInt8.ofNat n'] = l ++ enc n := by
 intro n
 induction n using Nat.strongRecOn with
 | _ n ih =>
  intro l k T S r hL hT h0 h3 hs hk hl
  obtain ⟨x0, x1, x2, x3, x4, x5, x6, x7, x8, x9, x10, x11, x12, x13, x14, x15, x16, x17, x18, hTe⟩ := jA.list hT
  rw [hTe] at h0 h3
  simp only [List.getD_cons_succ, List.getD_cons_zero] at h0 h3
  subst h0 h3
  have hr : zu Try.prog O false jA.jJ T S = zu Try.prog O false jA.jJ T S := rfl
  by_cases hlt : n < 128
  ·
   have hd : decide ((128 : Int) ≤ (n : Int)) = false := by simp; omega
   conv at hr =>
    rhs
    rw [hTe]
    simp only [jA.jJ, zSs, reduceIte, Nat.reduceEqDiff, Int.reduceEq, Int.reduceLT, Int.reduceLE, jA.r2, hd]
   exact ⟨_, l, k, n, hL.symm.trans (wo hr (by simp)), rfl, rfl, rfl, hs, hk, hlt, by rw [vF hlt]⟩
  ·
   have hd : decide ((128 : Int) ≤ (n : Int)) = true := by simp; omega
   have hll : l.length < 64 := by
    have : 2 ^ l.length < 2 ^ 64 := Nat.lt_of_le_of_lt (Nat.le_mul_of_pos_left _ (by omega)) hl
    exact (Nat.pow_lt_pow_iff_right (by omega)).1 this
   have e1 : ∀ x S, wB Try.prog 23 23 (by_ k l) (by_ 2 [x]) S = some (by_ 2 (l ++ [x]), S) := fun x S => aco hs hk (by omega)
   conv at hr =>
    rhs
    rw [hTe]
    simp only [jA.jJ, zSs, reduceIte, Nat.reduceEqDiff, Int.reduceEq, Int.reduceLT, Int.reduceLE, jA.r2, hd, jA.r3, Zh, adg, ag8, Ws, ah9, e1, jA.r4, aax _ _ _ _ (show (0 : Int) ≤ 7 by omega), aja]
   have hmul : n / 128 * 2 ^ (l.length + 1) < 2 ^ 64 := by
    refine Nat.lt_of_le_of_lt ?_ hl
    rw [Nat.pow_succ, Nat.mul_comm (2 ^ l.length) 2, ← Nat.mul_assoc]
    exact Nat.mul_le_mul_right _ (by omega)
   obtain ⟨T', l', k', n', g1, g2, g3, g4, g5, g6, g7, g8⟩ := ih (n / 128) (by omega) _ 2 ((yV hr).symm.trans hL) rfl rfl rfl Okl.own (by decide) (by simpa using hmul)
   refine ⟨T', l', k', n', g1, g2, g3, g4, g5, g6, g7, ?_⟩
   rw [g8, YS hlt, List.append_assoc]; rfl
theorem jA.v (n : Nat) (hn : n < 2 ^ 64) (S : zh) : zM Try.prog O jA.id [.int .u64 n] S = some (by_ 2 (enc n), S) := by
 obtain ⟨T, hTe⟩ : ∃ T, T = (.int .u64 n :: undef :: undef :: undef :: undef :: undef :: undef :: undef :: undef :: undef :: undef :: undef :: undef :: undef :: undef :: undef :: undef :: undef :: undef :: []) := ⟨_, rfl⟩
 have hr : zu Try.prog O false jA.code T S = zu Try.prog O false jA.code T S := rfl
 conv at hr =>
  rhs
  rw [hTe]
  simp only [jA.code, zSs, reduceIte, Nat.reduceEqDiff, Int.reduceEq, Int.reduceLT, Int.reduceLE, jA.r0, jA.r1]
 generalize hL : qJ (zu Try.prog O false jA.jJ) _ _ = r at hr
 obtain ⟨T', l', k', n', rfl, g2, g3, g4, g5, g6, g7, g8⟩ := jA.round n [] 0 hL rfl rfl rfl Okl.none (by decide) (by simpa using hn)
 obtain ⟨x0, x1, x2, x3, x4, x5, x6, x7, x8, x9, x10, x11, x12, x13, x14, x15, x16, x17, x18, hT'⟩ := jA.list g2
 rw [hT'] at g3 g4
 simp only [List.getD_cons_succ, List.getD_cons_zero] at g3 g4
 subst g3 g4
 have hlen : l'.length + 1 = (enc n).length := by simpa using congrArg List.length g8
 have h10 := Zg hn
 have e1 : ∀ x S, wB Try.prog 23 23 (by_ k' l') (by_ 2 [x]) S = some (by_ 2 (l' ++ [x]), S) := fun x S => aco g5 g6 (by omega)
 conv at hr =>
  rhs
  rw [hT']
  simp only [zSs, reduceIte, Nat.reduceEqDiff, Int.reduceEq, Int.reduceLT, Int.reduceLE, jA.r5, Zh, agK, Ws, ah9, e1]
 rw [hTe] at hr
 have := jA.runs hr (.inr rfl)
 rw [List.nil_append] at g8
 rw [← g8]
 exact this
end Go.Proofs.Ytbgcphbbchndkaa
namespace Go.Proofs.Ytbgcphbbchndkaa
open Go.Abs
theorem slices_Clone.v {k : Nat} {l : List UInt8} (h : Okl k l) (hk : k ≠ 2) (hl : l.length ≤ 140737488355328) (S : zh) : zM Try.prog O slices_Clone.id [by_ k l] S = some (by_ (if k = 0 then 0 else 2) l, S) := by
 obtain ⟨T, hTe⟩ : ∃ T, T = (by_ k l :: undef :: undef :: undef :: undef :: undef :: undef :: undef :: []) := ⟨_, rfl⟩
 have hr : zu Try.prog O false slices_Clone.code T S = zu Try.prog O false slices_Clone.code T S := rfl
 conv at hr =>
  rhs
  rw [hTe]
  simp only [slices_Clone.code, zSs, reduceIte, Nat.reduceEqDiff, Int.reduceEq, Int.reduceLT, Int.reduceLE, slices_Clone.r0, slices_Clone.r1, if_neg hk, ae5 h]
 by_cases h0 : k = 0
 ·
  have hl0 := h.nil h0
  subst h0 hl0
  conv at hr =>
   rhs
   simp only [decide_true, zSs, reduceIte, Nat.reduceEqDiff, Int.reduceEq, Int.reduceLT, Int.reduceLE, slices_Clone.r2]
  rw [hTe] at hr
  exact slices_Clone.runs hr (.inr rfl)
 ·
  have e1 : ∀ S, wB Try.prog 23 23 (by_ 2 []) (by_ k l) S = some (by_ 2 l, S) := fun S => by
   rw [qX Okl.own (by decide) h (by simpa using hl)]; rfl
  conv at hr =>
   rhs
   simp only [h0, decide_false, zSs, reduceIte, Nat.reduceEqDiff, Int.reduceEq, Int.reduceLT, Int.reduceLE, slices_Clone.r3, Zq, aio, if_neg hk, e1]
  rw [hTe] at hr
  rw [if_neg h0]
  exact slices_Clone.runs hr (.inr rfl)
def scan : Nat → Nat → List UInt8 → Option (Nat × List UInt8)
 | _, _, [] => none
 | i, acc, x :: r => if (i = 9 ∧ 1 < x.toNat) ∨ (0 < i ∧ x.toNat = 0) then none else if x.toNat < 128 then some (acc + x.toNat * 128 ^ i, r) else scan (i + 1) (acc + (x.toNat - 128) * 128 ^ i) r
def adO (l : List UInt8) : Value :=
 match scan 0 0 l with
 | none => .tuple #[.int .u64 0, .slice none 0 0, .int .i64 11]
 | some (m, rest) => .tuple #[.int .u64 (m : Nat), by_ 2 rest, .int .i64 0]
theorem zB.stop (x0 x1 x2 x3 x4 x5 x6 x7 x8 x9 x10 x11 x12 x13 x14 x15 x16 x17 x18 x19 x20 x21 x22 x23 x24 x25 x26 x27 x28 x29 x30 x31 x32 x33 x34 x35 x36 x37 x38 x39 x40 x41 x42 x43 x44 x45 : Value) (i x : Int) (S : zh) (h6 : x6 = .int .i64 i) (h7 : x7 = .int .u8 x) : ∃ y15 y16 y17 y18 y19 y20 y21 y22 y23 y24 y25 y26 y27, jd Try.prog ⟨false, false, false⟩ (zM Try.prog O) (reg Try.f24 5) (reg Try.f24 5).toList (x0 :: x1 :: x2 :: x3 :: x4 :: x5 :: x6 :: x7 :: x8 :: x9 :: x10 :: x11 :: x12 :: x13 :: x14 :: x15 :: x16 :: x17 :: x18 :: x19 :: x20 :: x21 :: x22 :: x23 :: x24 :: x25 :: x26 :: x27 :: x28 :: x29 :: x30 :: x31 :: x32 :: x33 :: x34 :: x35 :: x36 :: x37 :: x38 :: x39 :: x40 :: x41 :: x42 :: x43 :: x44 :: x45 :: []) S =
  some ((x0 :: x1 :: x2 :: x3 :: x4 :: x5 :: x6 :: x7 :: x8 :: x9 :: x10 :: x11 :: x12 :: x13 :: x14 :: y15 :: y16 :: y17 :: y18 :: y19 :: y20 :: y21 :: y22 :: y23 :: y24 :: y25 :: y26 :: y27 :: .bool (decide ((i = 9 ∧ 1 < x) ∨ (0 < i ∧ x = 0))) :: x29 :: x30 :: x31 :: x32 :: x33 :: x34 :: x35 :: x36 :: x37 :: x38 :: x39 :: x40 :: x41 :: x42 :: x43 :: x44 :: x45 :: []), S) := by
 subst h6 h7
 rw [zB.r5]
 simp only [zSs, reduceIte, Nat.reduceEqDiff, Int.reduceEq, Int.reduceLT, Int.reduceLE]
 rcases Bool.eq_false_or_eq_true (decide (i = 9)) with d1 | d1 <;> rcases Bool.eq_false_or_eq_true (decide (1 < x)) with d2 | d2 <;> rcases Bool.eq_false_or_eq_true (decide (0 < i)) with d3 | d3 <;> rcases Bool.eq_false_or_eq_true (decide (x = 0)) with d4 | d4 <;>
  simp only [d1, d2, d3, d4, zSs, reduceIte, Nat.reduceEqDiff, Int.reduceEq, Int.reduceLT, Int.reduceLE] <;> simp only [decide_eq_true_eq, decide_eq_false_iff_not] at d1 d2 d3 d4 <;>
  simp only [d1, d2, d3, d4, true_and, false_and, and_true, and_false, or_true, true_or, or_false, false_or, decide_true, decide_false, not_true, not_false_iff, Int.reduceLT, Int.reduceEq, and_self, or_self] <;> first | exact ⟨_, _, _, _, _, _, _, _, _, _, _, _, _, rfl⟩ | omega
theorem aiz : ∀ m : Fin 256, aiJ .u8 (m.val : Int) 127 = ((m.val % 128 : Nat) : Int) := by decide +kernel
theorem aeA (x : UInt8) : aiJ .u8 (x.toNat : Int) 127 = ((x.toNat % 128 : Nat) : Int) := aiz ⟨x.toNat, x.toNat_lt⟩
theorem Jv {n : Nat} (h : n < 2 ^ 64) : IntKind.u64.wrap (n : Int) = (n : Int) := by
 rw [wrap_u64, Nat.mod_eq_of_lt h]
theorem ahj {a c i : Nat} (ha : a < 2 ^ i) (h : c * 2 ^ i < 2 ^ 64) (h2 : a < 2 ^ 64) : orI .u64 (a : Int) ((c * 2 ^ i : Nat) : Int) = ((a + c * 2 ^ i : Nat) : Int) := by
 have hor : a ||| c * 2 ^ i = a + c * 2 ^ i := by
  have := Nat.shiftLeft_add_eq_or_of_lt ha c
  rw [Nat.shiftLeft_eq] at this
  rw [Nat.or_comm, ← this, Nat.add_comm]
 have hlt : a ||| c * 2 ^ i < 2 ^ 64 := Nat.or_lt_two_pow h2 h
 unfold orI
 rw [BitVec.ofInt_natCast, BitVec.ofInt_natCast, BitVec.toNat_or, BitVec.toNat_ofNat, BitVec.toNat_ofNat]
 rw [show IntKind.bits .u64 = 64 from rfl, Nat.mod_eq_of_lt h2, Nat.mod_eq_of_lt h, Jv hlt, hor]
theorem ajf {c i : Nat} (hi : i ≤ 9) (h : c * 128 ^ i < 2 ^ 64) : IntKind.u64.wrap ((c : Int) * 2 ^ (min (Int.toNat (7 * (i : Int))) (IntKind.bits .u64))) = ((c * 2 ^ (7 * i) : Nat) : Int) := by
 have e1 : min (Int.toNat (7 * (i : Int))) (IntKind.bits .u64) = 7 * i := by
  rw [show IntKind.bits .u64 = 64 from rfl]; omega
 have e2 : (128 : Nat) ^ i = 2 ^ (7 * i) := by rw [Nat.pow_mul]
 rw [e1, show (c : Int) * 2 ^ (7 * i) = ((c * 2 ^ (7 * i) : Nat) : Int) by simp, Jv (by rw [← e2]; exact h)]
theorem aeK {l pre suf : List UInt8} {x : UInt8} (hl : l = pre ++ x :: suf) : (l.drop ((pre.length : Int) + 1).toNat).take ((l.length : Int).toNat - ((pre.length : Int) + 1).toNat) = suf := by
 rw [show ((pre.length : Int) + 1).toNat = pre.length + 1 by omega, show (l.length : Int).toNat = l.length by omega, hl]
 rw [show pre ++ x :: suf = (pre ++ [x]) ++ suf by simp, show pre.length + 1 = (pre ++ [x]).length by simp, List.drop_left]
 rw [List.take_of_length_le]; simp; omega
theorem zB.round {k : Nat} {l : List UInt8} (hv : Okl k l) (hk : k ≠ 2) (hlen : l.length ≤ 140737488355328) {S : zh} : ∀ (suf pre : List UInt8) (acc : Nat) {T : List Value} {r : St}, qJ (zu Try.prog O false zB.jJ) T S = r → T.length = 46 →
  T.getD 0 undef = by_ k l → T.getD 8 undef = by_ k l → T.getD 9 undef = .int .i64 l.length → T.getD 10 undef = .int .i64 pre.length → T.getD 5 undef = .int .u64 acc → l = pre ++ suf → acc < 128 ^ pre.length → pre.length ≤ 9 →
  ∃ e T', r = some (e, T', S) ∧ match scan pre.length acc suf with
   | none => e = .exit 0 ∧ T'.length = 46
   | some (m, rest) => e = .ret ∧ m < 2 ^ 64 ∧ T'.getD 2 undef = .int .u64 m ∧ T'.getD 3 undef = by_ 2 rest ∧ T'.getD 4 undef = .int .i64 0 := by
 intro suf
 induction suf with
 | nil =>
  intro pre acc T r hL hT h0 h8 h9 h10 h5 hl hacc hpre
  obtain ⟨x0, x1, x2, x3, x4, x5, x6, x7, x8, x9, x10, x11, x12, x13, x14, x15, x16, x17, x18, x19, x20, x21, x22, x23, x24, x25, x26, x27, x28, x29, x30, x31, x32, x33, x34, x35, x36, x37, x38, x39, x40, x41, x42, x43, x44, x45, hTe⟩ := zB.list hT
  rw [hTe] at h0 h8 h9 h10 h5
  simp only [List.getD_cons_succ, List.getD_cons_zero] at h0 h8 h9 h10 h5
  subst h0 h8 h9 h10 h5
  have hr : zu Try.prog O false zB.jJ T S = zu Try.prog O false zB.jJ T S := rfl
  have hd : decide ((pre.length : Int) < (l.length : Int)) = false := by rw [hl]; simp
  conv at hr =>
   rhs
   rw [hTe]
   simp only [zB.jJ, zSs, reduceIte, Nat.reduceEqDiff, Int.reduceEq, Int.reduceLT, Int.reduceLE, zB.r3, hd]
  exact ⟨_, _, hL.symm.trans (wo hr (by simp)), rfl, rfl⟩
 | cons x suf ih =>
  intro pre acc T r hL hT h0 h8 h9 h10 h5 hl hacc hpre
  obtain ⟨x0, x1, x2, x3, x4, x5, x6, x7, x8, x9, x10, x11, x12, x13, x14, x15, x16, x17, x18, x19, x20, x21, x22, x23, x24, x25, x26, x27, x28, x29, x30, x31, x32, x33, x34, x35, x36, x37, x38, x39, x40, x41, x42, x43, x44, x45, hTe⟩ := zB.list hT
  rw [hTe] at h0 h8 h9 h10 h5
  simp only [List.getD_cons_succ, List.getD_cons_zero] at h0 h8 h9 h10 h5
  subst h0 h8 h9 h10 h5
  have hr : zu Try.prog O false zB.jJ T S = zu Try.prog O false zB.jJ T S := rfl
  have hlt : (pre.length : Int) < (l.length : Int) := by rw [hl]; simp; omega
  have hd : decide ((pre.length : Int) < (l.length : Int)) = true := by simpa using hlt
  have k0 : k ≠ 0 := fun h => by have := hv.nil h; rw [this] at hl; simp at hl
  have e1 : ∀ S, zW Try.prog 23 (by_ k l) (.int .i64 pre.length) S = some (EP [.int .u8 x.toNat], S) := fun S => by
   rw [aiu hv (by omega) hlt]; rw [adM hl]
  obtain ⟨y15, y16, y17, y18, y19, y20, y21, y22, y23, y24, y25, y26, y27, e3⟩ := zB.stop (by_ k l) x1 x2 x3 x4 (.int .u64 acc) (.int .i64 pre.length) (.int .u8 x.toNat) (by_ k l) (.int .i64 l.length) (.int .i64 pre.length) (.bool true) (.int .i64 pre.length) (EP [.int .u8 x.toNat]) (.int .u8 x.toNat) x15 x16 x17 x18 x19 x20 x21 x22 x23 x24 x25 x26 x27 x28 x29 x30 x31 x32 x33 x34 x35 x36 x37 x38 x39 x40 x41 x42 x43 x44 x45 (pre.length : Int) (x.toNat : Int) S rfl rfl
  conv at hr =>
   rhs
   rw [hTe]
   simp only [zB.jJ, zSs, reduceIte, Nat.reduceEqDiff, Int.reduceEq, Int.reduceLT, Int.reduceLE, zB.r3, hd, zB.r4, e1, ady, if_neg hk, e3]
  have hst : ((pre.length : Int) = 9 ∧ 1 < (x.toNat : Int) ∨ 0 < (pre.length : Int) ∧ (x.toNat : Int) = 0) ↔ ((pre.length = 9 ∧ 1 < x.toNat) ∨ (0 < pre.length ∧ x.toNat = 0)) := by omega
  by_cases hs : (pre.length = 9 ∧ 1 < x.toNat) ∨ (0 < pre.length ∧ x.toNat = 0)
  ·
   have hs2 := decide_eq_true (hst.2 hs)
   conv at hr =>
    rhs
    simp only [hs2, zSs, reduceIte, Nat.reduceEqDiff, Int.reduceEq, Int.reduceLT, Int.reduceLE]
   refine ⟨_, _, hL.symm.trans (wo hr (by simp)), ?_⟩
   rw [scan, if_pos hs]
   exact ⟨rfl, rfl⟩
  ·
   have hs2 := decide_eq_false (fun h => hs (hst.1 h))
   have hx256 := x.toNat_lt
   have hpw : 128 ^ pre.length ≤ 128 ^ 9 := Nat.pow_le_pow_right (by omega) hpre
   have hc64 : x.toNat % 128 * 128 ^ pre.length < 2 ^ 64 := by
    by_cases h9 : pre.length = 9
    ·
     rw [h9]; have : x.toNat % 128 ≤ 1 := by omega
     exact Nat.lt_of_le_of_lt (Nat.mul_le_mul_right _ this) (by decide)
    ·
     have h8 : 128 ^ pre.length ≤ 128 ^ 8 := Nat.pow_le_pow_right (by omega) (by omega)
     exact Nat.lt_of_le_of_lt (Nat.mul_le_mul (by omega : x.toNat % 128 ≤ 127) h8) (by decide)
   have hm : IntKind.i64.wrap (7 * (pre.length : Int)) = 7 * (pre.length : Int) := wrap_i64 (by omega) (by omega)
   have e128 : (128 : Nat) ^ pre.length = 2 ^ (7 * pre.length) := by rw [Nat.pow_mul]
   have hor := ahj (a := acc) (c := x.toNat % 128) (i := 7 * pre.length) (by rw [← e128]; exact hacc) (by rw [← e128]; exact hc64) (Nat.lt_of_lt_of_le hacc (Nat.le_trans hpw (by decide)))
   conv at hr =>
    rhs
    simp only [hs2, zSs, reduceIte, Nat.reduceEqDiff, Int.reduceEq, Int.reduceLT, Int.reduceLE, zB.r6, afq, aeA, Zv, Jv (show x.toNat % 128 < 2 ^ 64 by omega), hm, afA _ _ _ _ (show (0 : Int) ≤ 7 * (pre.length : Int) by omega), ajf hpre hc64, adg, hor, zB.r7]
   rw [← e128] at hr
   have hadd : acc + x.toNat % 128 * 128 ^ pre.length < 128 ^ (pre.length + 1) := by
    rw [Nat.pow_succ]
    have : x.toNat % 128 * 128 ^ pre.length ≤ 127 * 128 ^ pre.length := Nat.mul_le_mul_right _ (by omega)
    omega
   have hi1 : IntKind.i64.wrap ((pre.length : Int) + 1) = (pre.length : Int) + 1 := wrap_i64 (by omega) (by omega)
   by_cases hxs : x.toNat < 128
   ·
    have hd2 : decide ((x.toNat : Int) < 128) = true := by simp; omega
    have e4 : ∀ S, vZ Try.prog 23 (by_ k l) (some (.int .i64 ((pre.length : Int) + 1))) none S = some (by_ k suf, S) := fun S => by
     rw [aek hv (lo := some (.int .i64 ((pre.length : Int) + 1))) (hi := none) (i := (pre.length : Int) + 1) (j := l.length) rfl rfl (by omega) (by omega) (by omega), aeK hl, if_neg hk]
    have ok2 : Okl k suf := ⟨hv.le, fun h => absurd h k0⟩
    have e5 : ∀ S, zM Try.prog O slices_Clone.id [by_ k suf] S = some (by_ 2 suf, S) := fun S => by
     rw [slices_Clone.v ok2 hk (by have := congrArg List.length hl; simp at this; omega), if_neg k0]
    conv at hr =>
     rhs
     simp only [hd2, zSs, reduceIte, Nat.reduceEqDiff, Int.reduceEq, Int.reduceLT, Int.reduceLE, zB.r8, hi1, if_neg hk, e4, e5]
    refine ⟨_, _, hL.symm.trans (wo hr (by simp)), ?_⟩
    rw [scan, if_neg hs, if_pos hxs]
    have hxm : x.toNat % 128 = x.toNat := by omega
    rw [hxm]
    refine ⟨rfl, ?_, rfl, rfl, rfl⟩
    rw [hxm] at hadd
    by_cases h9 : pre.length = 9
    ·
     rw [h9] at hacc ⊢
     have : x.toNat ≤ 1 := by omega
     have h1 : x.toNat * 128 ^ 9 ≤ 1 * 128 ^ 9 := Nat.mul_le_mul_right _ this
     have h2 : (128 : Nat) ^ 9 + 1 * 128 ^ 9 = 2 ^ 64 := by decide
     omega
    ·
     have h8 : 128 ^ (pre.length + 1) ≤ 128 ^ 9 := Nat.pow_le_pow_right (by omega) (by omega)
     exact Nat.lt_of_lt_of_le hadd (Nat.le_trans h8 (by decide))
   ·
    have hd2 : decide ((x.toNat : Int) < 128) = false := by simp; omega
    conv at hr =>
     rhs
     simp only [hd2, zSs, reduceIte, Nat.reduceEqDiff, Int.reduceEq, Int.reduceLT, Int.reduceLE, zB.r9, hi1]
    obtain ⟨e, T', g1, g3⟩ := ih (pre ++ [x]) (acc + x.toNat % 128 * 128 ^ pre.length) ((yV hr).symm.trans hL) rfl rfl rfl rfl (by simp) rfl (by simp [hl]) (by simpa using hadd) (by simp; omega)
    refine ⟨e, T', g1, ?_⟩
    rw [scan, if_neg hs, if_neg hxs]
    have hxm : x.toNat % 128 = x.toNat - 128 := by omega
    rw [hxm] at g3
    simpa using g3
theorem zB.v {k : Nat} {l : List UInt8} (hv : Okl k l) (hk : k ≠ 2) (hlen : l.length ≤ 140737488355328) (S : zh) : zM Try.prog O zB.id [by_ k l] S = some (adO l, S) := by
 obtain ⟨T, hTe⟩ : ∃ T, T = (by_ k l :: undef :: undef :: undef :: undef :: undef :: undef :: undef :: undef :: undef :: undef :: undef :: undef :: undef :: undef :: undef :: undef :: undef :: undef :: undef :: undef :: undef :: undef :: undef :: undef :: undef :: undef :: undef :: undef :: undef :: undef :: undef :: undef :: undef :: undef :: undef :: undef :: undef :: undef :: undef :: undef :: undef :: undef :: undef :: undef :: undef :: []) := ⟨_, rfl⟩
 have hr : zu Try.prog O false zB.code T S = zu Try.prog O false zB.code T S := rfl
 conv at hr =>
  rhs
  rw [hTe]
  simp only [zB.code, zSs, reduceIte, Nat.reduceEqDiff, Int.reduceEq, Int.reduceLT, Int.reduceLE, zB.r0, zB.r1, zB.r2, if_neg hk, Wy hv]
 generalize hL : qJ (zu Try.prog O false zB.jJ) _ _ = r at hr
 obtain ⟨e, T', rfl, g3⟩ := zB.round hv hk hlen l [] 0 hL rfl rfl rfl rfl rfl rfl rfl (by simp) (by simp)
 simp only [List.length_nil] at g3
 unfold adO
 cases hsc : scan 0 0 l with
 | none =>
  rw [hsc] at g3
  obtain ⟨rfl, hT'⟩ := g3
  obtain ⟨x0, x1, x2, x3, x4, x5, x6, x7, x8, x9, x10, x11, x12, x13, x14, x15, x16, x17, x18, x19, x20, x21, x22, x23, x24, x25, x26, x27, x28, x29, x30, x31, x32, x33, x34, x35, x36, x37, x38, x39, x40, x41, x42, x43, x44, x45, hTe'⟩ := zB.list hT'
  conv at hr =>
   rhs
   rw [hTe']
   simp only [zSs, reduceIte, Nat.reduceEqDiff, Int.reduceEq, Int.reduceLT, Int.reduceLE, zB.r10]
  rw [hTe] at hr
  exact zB.runs hr (.inr rfl) rfl rfl rfl
 | some mr =>
  obtain ⟨m, rest⟩ := mr
  rw [hsc] at g3
  obtain ⟨rfl, hm, h2, h3, h4⟩ := g3
  conv at hr =>
   rhs
   simp only [zSs, reduceIte, Nat.reduceEqDiff, Int.reduceEq, Int.reduceLT, Int.reduceLE]
  rw [hTe] at hr
  have hrun := zB.runs hr (.inr rfl) (by rw [h2]; rfl) (by rw [h3]; exact jL) (by rw [h4]; rfl)
  rw [h2, h3, h4] at hrun
  exact hrun
theorem VT : ∀ (suf : List UInt8) (i acc : Nat), acc < 128 ^ i → i ≤ 9 → ∀ m rest, scan i acc suf = some (m, rest) → m < 2 ^ 64 ∧ rest.length < suf.length := by
 intro suf
 induction suf with
 | nil => intro i acc _ _ m rest h; cases h
 | cons x suf ih =>
  intro i acc hacc hi m rest h
  rw [scan] at h
  have hx256 := x.toNat_lt
  split at h
  ·
   cases h
  ·
   rename_i hs
   split at h
   ·
    rename_i hx
    cases h
    refine ⟨?_, by simp⟩
    by_cases h9 : i = 9
    ·
     subst h9
     have : x.toNat ≤ 1 := by omega
     have h1 : x.toNat * 128 ^ 9 ≤ 1 * 128 ^ 9 := Nat.mul_le_mul_right _ this
     have h2 : (128 : Nat) ^ 9 + 1 * 128 ^ 9 = 2 ^ 64 := by decide
     omega
    ·
     have h8 : 128 ^ (i + 1) ≤ 128 ^ 9 := Nat.pow_le_pow_right (by omega) (by omega)
     have h3 : acc + x.toNat * 128 ^ i < 128 ^ (i + 1) := by
      rw [Nat.pow_succ]
      have : x.toNat * 128 ^ i ≤ 127 * 128 ^ i := Nat.mul_le_mul_right _ (by omega)
      omega
     exact Nat.lt_of_lt_of_le h3 (Nat.le_trans h8 (by decide))
   ·
    rename_i hx
    have h9 : i ≠ 9 := by omega
    have hadd : acc + (x.toNat - 128) * 128 ^ i < 128 ^ (i + 1) := by
     rw [Nat.pow_succ]
     have : (x.toNat - 128) * 128 ^ i ≤ 127 * 128 ^ i := Nat.mul_le_mul_right _ (by omega)
     omega
    obtain ⟨h1, h2⟩ := ih (i + 1) _ hadd (by omega) m rest h
    exact ⟨h1, by simp; omega⟩
end Go.Proofs.Ytbgcphbbchndkaa
namespace Go.Proofs.Ytbgcphbbchndkaa
open Go.Abs
theorem ahw (n : Nat) : 0 < (enc n).length := by
 by_cases h : n < 128
 ·
  rw [vF h]; simp
 ·
  rw [YS h]; simp
section
variable {k : Nat} {l : List UInt8} {S : zh}
end
end Go.Proofs.Ytbgcphbbchndkaa
namespace Go.Proofs.Ytbgcphbbchndkaa
open Go.Abs
theorem Yi {n : Nat} (h : n < 256) : (UInt8.ofNat n).toNat = n := by rw [UInt8.toNat_ofNat']; omega
theorem Vl : ∀ (n i acc : Nat) (r : List UInt8), i ≤ 9 → (0 < i → 0 < n) → n * 128 ^ i < 2 ^ 64 → scan i acc (enc n ++ r) = some (acc + n * 128 ^ i, r) := by
 intro n
 induction n using Nat.strongRecOn with
 | _ n ih =>
  intro i acc r hi hn hlt
  have h9 : i = 9 → n ≤ 1 := by
   intro h; subst h
   have : (128 : Nat) ^ 9 = 2 ^ 63 := by decide
   omega
  by_cases hs : n < 128
  ·
   rw [vF hs, List.singleton_append, scan, Yi (by omega), if_neg (by rintro (⟨h1, h2⟩ | ⟨h1, h2⟩); exact absurd (h9 h1) (by omega); exact absurd (hn h1) (by omega)), if_pos hs]
  ·
   rw [YS hs, List.cons_append, scan, Yi (by omega)]
   have hi9 : i ≠ 9 := fun h => by have := h9 h; omega
   rw [if_neg (by rintro (⟨h1, h2⟩ | ⟨h1, h2⟩); exact hi9 h1; omega), if_neg (by omega)]
   have hmul : n / 128 * 128 ^ (i + 1) ≤ n * 128 ^ i := by
    rw [Nat.pow_succ, ← Nat.mul_assoc, Nat.mul_right_comm]
    exact Nat.mul_le_mul_right _ (by omega)
   rw [ih (n / 128) (by omega) (i + 1) _ r (by omega) (fun _ => by omega) (Nat.lt_of_le_of_lt hmul hlt)]
   congr 2
   have : n = n % 128 + n / 128 * 128 := by omega
   have e1 : (n % 128 + 128 - 128) * 128 ^ i + n / 128 * 128 ^ (i + 1) = n * 128 ^ i := by
    rw [Nat.pow_succ]
    conv => rhs; rw [this, Nat.add_mul]
    rw [Nat.add_sub_cancel, Nat.mul_comm (128 ^ i) 128, ← Nat.mul_assoc]
   omega
theorem JE {n : Nat} (h : n < 2 ^ 64) (r : List UInt8) : scan 0 0 (enc n ++ r) = some (n, r) := by
 rw [Vl n 0 0 r (by omega) (by omega) (by simpa using h)]; simp
theorem XE : ∀ (l : List UInt8) (i acc m : Nat) (r : List UInt8), scan i acc l = some (m, r) → ∃ n, l = enc n ++ r ∧ m = acc + n * 128 ^ i ∧ (0 < i → 0 < n) := by
 intro l
 induction l with
 | nil => intro i acc m r h; cases h
 | cons x l ih =>
  intro i acc m r h
  rw [scan] at h
  have hx := x.toNat_lt
  split at h
  ·
   cases h
  ·
   rename_i hs
   split at h
   ·
    rename_i hx2
    cases h
    refine ⟨x.toNat, ?_, rfl, fun hi => by omega⟩
    rw [vF hx2]; simp
   ·
    rename_i hx2
    obtain ⟨n, h1, h2, h3⟩ := ih _ _ _ _ h
    refine ⟨x.toNat - 128 + n * 128, ?_, ?_, fun _ => ?_⟩
    ·
     have hn := h3 (by omega)
     rw [YS (by omega), show (x.toNat - 128 + n * 128) / 128 = n by omega, show (x.toNat - 128 + n * 128) % 128 + 128 = x.toNat by omega, h1]
     simp
    ·
     rw [h2, Nat.pow_succ, Nat.add_mul]
     rw [Nat.mul_comm (128 ^ i) 128, ← Nat.mul_assoc]; omega
    ·
     have := h3 (by omega); omega
theorem XU {l r : List UInt8} {m : Nat} (h : scan 0 0 l = some (m, r)) : l = enc m ++ r ∧ m < 2 ^ 64 := by
 obtain ⟨n, h1, h2, _⟩ := XE l 0 0 m r h
 have : m = n := by simpa using h2
 subst this
 exact ⟨h1, (VT l 0 0 (by decide) (by omega) m r h).1⟩
theorem ahq {a b : Nat} (ha : a < 2 ^ 64) (hb : b < 2 ^ 64) {r s : List UInt8} (h : enc a ++ r = enc b ++ s) : a = b ∧ r = s := by
 have h1 := JE ha r
 rw [h, JE hb s] at h1
 simp only [Option.some.injEq, Prod.mk.injEq] at h1
 exact ⟨h1.1.symm, h1.2.symm⟩
end Go.Proofs.Ytbgcphbbchndkaa
namespace Go.Proofs.Ytbgcphbbchndkaa
open Go.Abs
theorem aii (x : Int) : sv 2 1 1 [.int .i64 x] = iz 2 [x] := rfl
theorem ahe {k : Nat} {l : List Int} {x : Int} {S : zh} (h : Okl k l) (hk : k ≠ 1) (hl : l.length ≤ 17592186044000) : wB Try.prog 57 57 (iz k l) (iz 2 [x]) S = some (iz 2 (l ++ [x]), S) := by
 rw [adi h hk Okl.own (by simp; omega), if_neg (fun h => by have := h.2; simp at this)]
end Go.Proofs.Ytbgcphbbchndkaa
namespace Go.Abs
open Go.RowKit
theorem aiB {b : Nat} {e : Ty} {α : Type} (f : α → List Value) (Q : α → Prop) (h : ∀ x, e.Good x → ∃ y, e.JL x = f y ∧ Q y) (hf : ∀ y, (f y).length = e.sz) (x : (Ty.slc b e).Val) (hg : (Ty.slc b e).Good x) :
  ∃ k l, Okl k l ∧ k ≠ 2 ∧ (Ty.slc b e).JL x = [vs f e.sz k l] ∧ l.length * b ≤ 140737488351232 ∧ ∀ y ∈ l, Q y := by
 match x, hg with
 | none, _ => exact ⟨0, [], Okl.none, by decide, rfl, by simp, fun y hy => by cases hy⟩
 | some xs, hg =>
  obtain ⟨h1, h2, h3⟩ := hg
  have key : ∀ xs : List e.Val, (∀ n ∈ xs, e.Good n) → ∃ l : List α, xs.flatMap e.JL = l.flatMap f ∧ l.length = xs.length ∧ ∀ y ∈ l, Q y := by
   intro xs
   induction xs with
   | nil => intro _; exact ⟨[], rfl, rfl, fun y hy => by cases hy⟩
   | cons n xs ih =>
    intro hn
    obtain ⟨y, hy, hq⟩ := h n (hn n (by simp))
    obtain ⟨l, k1, k2, k3⟩ := ih (fun m hm => hn m (by simp [hm]))
    refine ⟨y :: l, by rw [List.flatMap_cons, List.flatMap_cons, hy, k1], by simp [k2], fun z hz => ?_⟩
    rcases List.mem_cons.1 hz with rfl | hz
    ·
     exact hq
    ·
     exact k3 z hz
  obtain ⟨l, k1, k2, k3⟩ := key xs h3
  refine ⟨1, l, Okl.read, by decide, ?_, by rw [k2]; exact h1, k3⟩
  show [SL 1 e.sz (List.length xs) (List.flatMap e.JL xs)] = [_]
  unfold vs
  rw [sv1, k1, k2]
theorem abw {cs xs : List Value} (h : cs.length = xs.length) : splice cs 0 xs = xs := by
 unfold splice
 rw [List.take_zero, List.nil_append, Nat.zero_add, ← h, List.drop_length, List.append_nil]
theorem ahW {k e n : Nat} {cs : List Value} : (sv k e n cs).oneCell' = true := by unfold sv; split <;> rfl
theorem agj {α : Type} {f : α → List Value} {e k : Nat} {l : List α} : (vs f e k l).oneCell' = true := ahW
theorem ads {k : IntKind} {n : Int} : (Value.int k n).oneCell' = true := rfl
theorem YK {P : Program} {t : TypeId} {z xs : List Value} {x : Value} (S : zh) (hx : x.cells.toList = xs) (hs : xC P t = some z.length) (hl : xs.length = z.length) (h1 : xs.all (·.oneCell') = true) :
  ∃ S2, jO P t (.pointer (some ⟨S.next, 0, none⟩)) x (S.push (.cells z (.own []) 0)) = some (undef, S2) ∧ S2.get S.next = some (.cells xs (.own []) 0) ∧ Ext S S2 ∧ S.next < S2.next := by
 have hg : (S.push (.cells z (.own []) 0)).get S.next = some (.cells z (.own []) 0) := by rw [zh.jX, if_pos rfl]
 refine ⟨_, qV hg hs (by rw [← Array.length_toList, hx, hl]) (by rw [hx]; exact h1) (by simp), ?_, (Ext.push S _).set (Nat.le_refl _) _, by simp [zh.kills]⟩
 rw [zh.wH, if_pos rfl, hx, abw hl.symm]
theorem Xg {P : Program} {t : TypeId} {q o n : Nat} {cs : List Value} {e : Nat} {x : Value} {S S0 : zh} (hg : S.get q = some (.cells cs (.own []) e)) (hs : xC P t = some n) (hn : x.cells.size = n) (h1 : x.cells.toList.all (·.oneCell') = true) (hle : o + n ≤ cs.length) (hE : Ext S0 S) (hq : S0.next ≤ q) :
  ∃ S2, jO P t (.pointer (some ⟨q, o, none⟩)) x S = some (undef, S2) ∧ S2.get q = some (.cells (splice cs o x.cells.toList) (.own []) e) ∧ Ext S0 S2 ∧ S2.next = S.next ∧ ∀ k, k ≠ q → S2.get k = S.get k := by
 exact ⟨_, qV hg hs hn h1 hle, by rw [zh.wH, if_pos rfl], hE.set hq _, by simp [zh.kills], fun k hk => by rw [zh.wH, if_neg hk]; rfl⟩
theorem aiD (x : Value) (S : zh) : ∃ S2, J7 x S = some (.pointer (some ⟨S.next, 0, none⟩), S2) ∧ S2.get S.next = some (.cells x.cells.toList (.own []) 0) ∧ Ext S S2 ∧ S.next < S2.next :=
 ⟨_, rfl, by rw [zh.jX, if_pos rfl], Ext.push _ _, by simp⟩
end Go.Abs
namespace Go.Proofs.Ytbgcphbbchndkaa
open Go.Abs
theorem bb0 (S : zh) : jB Try.prog 23 0 [] S = some (by_ 2 [], S) := by rw [Zq]; rfl
structure Tb where
 k : Nat
 b : List UInt8
structure Tb.Ok (t : Tb) : Prop where
 okl : Okl t.k t.b
 ne : t.k ≠ 2
 le : t.b.length ≤ 140737488351232
end Go.Proofs.Ytbgcphbbchndkaa
namespace Go.Proofs.Ytbgcphbbchndkaa
open Go.Abs
def encs (l : List Int) : List UInt8 := l.flatMap fun n => enc (n + 1).toNat
def afl (k : Nat) (l : List Int) : Value := if 64 < l.length ∨ ∃ n ∈ l, n < -1 then .tuple #[.slice none 0 0, .int .i64 11] else .tuple #[by_ (if l = [] then k else 2) (encs l), .int .i64 0]
theorem abB {n : Int} (h : -1 ≤ n) (h2 : n < 9223372036854775808) : IntKind.u64.wrap (IntKind.u64.wrap n + 1) = ((n + 1).toNat : Int) := by
 simp [IntKind.wrap, IntKind.bits, IntKind.signed]
 omega
theorem xA (a b : List Int) : encs (a ++ b) = encs a ++ encs b := by simp [encs]
theorem aes (n : Int) : encs [n] = enc (n + 1).toNat := by simp [encs]
theorem vS {l : List Int} (h : ∀ n ∈ l, n < 9223372036854775808) : (encs l).length ≤ l.length * 10 := by
 induction l with
 | nil => simp [encs]
 | cons n l ih =>
  have h1 := ih fun m hm => h m (by simp [hm])
  have h2 : (enc (n + 1).toNat).length ≤ 10 := Zg (by have := h n (by simp); omega)
  simp only [encs, List.flatMap_cons, List.length_append, List.length_cons] at *
  omega
theorem zG.round {k : Nat} {l : List Int} (hv : Okl k l) (hk : k ≠ 2) (h64 : l.length ≤ 64) (hb : ∀ n ∈ l, n < 9223372036854775808) {S : zh} : ∀ (suf pre : List Int) {T : List Value} {r : St}, qJ (zu Try.prog O false zG.jJ) T S = r → T.length = 26 →
  T.getD 10 undef = iz k l → T.getD 11 undef = .int .i64 l.length → T.getD 12 undef = .int .i64 pre.length → T.getD 4 undef = by_ (if pre = [] then 0 else 2) (encs pre) → l = pre ++ suf →
  ∃ e T', r = some (e, T', S) ∧ if (∃ n ∈ suf, n < -1) then e = .ret ∧ T'.getD 2 undef = .slice none 0 0 ∧ T'.getD 3 undef = .int .i64 11 else e = .exit 0 ∧ T'.length = 26 ∧ T'.getD 4 undef = by_ (if l = [] then 0 else 2) (encs l) := by
 intro suf
 induction suf with
 | nil =>
  intro pre T r hL hT ha hb hc h4 hl
  have hTe := zG.eta hT
  rw [ha, hb, hc, h4] at hTe
  have hr : zu Try.prog O false zG.jJ T S = zu Try.prog O false zG.jJ T S := rfl
  have hd : ¬ (pre.length : Int) < (l.length : Int) := by rw [hl]; simp
  conv at hr =>
   rhs
   rw [hTe]
   simp only [zG.jJ, zG.code, zG.rs, zSs, reduceIte, Nat.reduceEqDiff, Int.reduceEq, Int.reduceLT, Int.reduceLE, hd]
  refine ⟨_, _, hL.symm.trans (wo hr (by simp)), ?_⟩
  rw [if_neg (by simp)]
  simp only [List.append_nil] at hl
  subst hl
  exact ⟨rfl, rfl, rfl⟩
 | cons n suf ih =>
  intro pre T r hL hT ha hbb hc h4 hl
  have hTe := zG.eta hT
  rw [ha, hbb, hc, h4] at hTe
  have hr : zu Try.prog O false zG.jJ T S = zu Try.prog O false zG.jJ T S := rfl
  have hll : l.length = pre.length + (suf.length + 1) := by rw [hl]; simp
  have hlt : (pre.length : Int) < (l.length : Int) := by omega
  have e1 : ∀ S, zW Try.prog 57 (iz k l) (.int .i64 pre.length) S = some (EP [.int .i64 n], S) := fun S => by
   rw [acB hv (by omega) hlt]; rw [ab2 hl]
  have hn := hb n (by rw [hl]; simp)
  by_cases h1 : n < -1
  ·
   conv at hr =>
    rhs
    rw [hTe]
    simp only [zG.jJ, zG.code, zG.rs, zSs, reduceIte, Nat.reduceEqDiff, Int.reduceEq, Int.reduceLT, Int.reduceLE, hlt, e1, qY, h1]
   refine ⟨_, _, hL.symm.trans (wo hr (by simp)), ?_⟩
   rw [if_pos ⟨n, by simp, h1⟩]
   exact ⟨rfl, rfl, rfl⟩
  ·
   have w1 := abB (n := n) (by omega) (by omega)
   have hpb : (encs pre).length ≤ pre.length * 10 := vS fun m hm => hb m (by rw [hl]; simp [hm])
   have hp10 : (enc (n + 1).toNat).length ≤ 10 := Zg (by omega)
   have hpp := ahw (n + 1).toNat
   have g1 := fun S => jA.v (n + 1).toNat (by omega) S
   have e2 : ∀ S, wB Try.prog 23 23 (by_ (if pre = [] then 0 else 2) (encs pre)) (by_ 2 (enc (n + 1).toNat)) S = some (by_ 2 (encs (pre ++ [n])), S) := fun S => by
    have ok : Okl (if pre = [] then 0 else 2) (encs pre) := ⟨by split <;> omega, fun h => by split at h <;> first | (rename_i hp; subst hp; rfl) | omega⟩
    rw [qX ok (by split <;> omega) Okl.own (by omega), if_neg (fun h => by have := h.2; omega), xA, aes]
   have wi : IntKind.i64.wrap ((pre.length : Int) + 1) = ((pre ++ [n]).length : Int) := by rw [wrap_i64 (by omega) (by omega)]; simp
   conv at hr =>
    rhs
    rw [hTe]
    simp only [zG.jJ, zG.code, zG.rs, zSs, reduceIte, Nat.reduceEqDiff, Int.reduceEq, Int.reduceLT, Int.reduceLE, hlt, e1, qY, h1, Jm, w1, g1, e2, wi]
   obtain ⟨e, T', g1, g2⟩ := ih (pre ++ [n]) ((yV hr).symm.trans hL) rfl rfl rfl rfl (by rw [if_neg (show ¬ pre ++ [n] = [] by simp)]; rfl) (by simp [hl])
   refine ⟨e, T', g1, ?_⟩
   by_cases h2 : ∃ m ∈ suf, m < -1
   ·
    rw [if_pos h2] at g2
    obtain ⟨m, hm, hm2⟩ := h2
    rw [if_pos ⟨m, by simp [hm], hm2⟩]
    exact g2
   ·
    rw [if_neg h2] at g2
    rw [if_neg (by rintro ⟨m, hm, hm2⟩; rcases List.mem_cons.1 hm with rfl | hm; exact h1 hm2; exact h2 ⟨m, hm, hm2⟩)]
    exact g2
theorem zG.v {k : Nat} {l : List Int} (hv : Okl k l) (hk : k ≠ 2) (hb : ∀ n ∈ l, n < 9223372036854775808) (S : zh) : zM Try.prog O zG.id [iz k l] S = some (afl 0 l, S) := by
 obtain ⟨T, hTe⟩ : ∃ T, T = (iz k l :: undef :: undef :: undef :: undef :: undef :: undef :: undef :: undef :: undef :: undef :: undef :: undef :: undef :: undef :: undef :: undef :: undef :: undef :: undef :: undef :: undef :: undef :: undef :: undef :: undef :: []) := ⟨_, rfl⟩
 have hr : zu Try.prog O false zG.code T S = zu Try.prog O false zG.code T S := rfl
 unfold afl
 by_cases h1 : 64 < l.length
 ·
  have d1 : (64 : Int) < (l.length : Int) := by omega
  conv at hr =>
   rhs
   rw [hTe]
   simp only [zG.code, zG.rs, zSs, reduceIte, Nat.reduceEqDiff, Int.reduceEq, Int.reduceLT, Int.reduceLE, if_neg hk, afH hv, goInt, d1]
  rw [hTe] at hr
  rw [if_pos (.inl h1)]
  exact zG.runs hr (.inr rfl) (by simp only [List.getD_cons_succ, List.getD_cons_zero, jL, jF, jh, jv, jG]) (by simp only [List.getD_cons_succ, List.getD_cons_zero, jL, jF, jh, jv, jG])
 ·
  have d1 : ¬ (64 : Int) < (l.length : Int) := by omega
  conv at hr =>
   rhs
   rw [hTe]
   simp only [zG.code, zG.rs, zSs, reduceIte, Nat.reduceEqDiff, Int.reduceEq, Int.reduceLT, Int.reduceLE, if_neg hk, afH hv, goInt, d1, Zq, aio]
  generalize hL : qJ (zu Try.prog O false zG.jJ) _ _ = r at hr
  obtain ⟨e, T', rfl, g⟩ := zG.round hv hk (by omega) hb l [] hL rfl rfl rfl rfl rfl rfl
  by_cases h2 : ∃ n ∈ l, n < -1
  ·
   rw [if_pos h2] at g
   obtain ⟨rfl, g2, g3⟩ := g
   conv at hr =>
    rhs
    simp only [zSs, reduceIte, Nat.reduceEqDiff, Int.reduceEq, Int.reduceLT, Int.reduceLE]
   rw [hTe] at hr
   rw [if_pos (.inr h2)]
   have hrun := zG.runs hr (.inr rfl) (by rw [g2]; rfl) (by rw [g3]; rfl)
   rw [g2, g3] at hrun
   exact hrun
  ·
   rw [if_neg h2] at g
   obtain ⟨rfl, g2, g3⟩ := g
   have hTe' := zG.eta g2
   rw [g3] at hTe'
   conv at hr =>
    rhs
    rw [hTe']
    simp only [zG.code, zG.rs, zSs, reduceIte, Nat.reduceEqDiff, Int.reduceEq, Int.reduceLT, Int.reduceLE]
   rw [hTe] at hr
   rw [if_neg (by rintro (h | h); exact h1 h; exact h2 h)]
   exact zG.runs hr (.inr rfl) (by simp only [List.getD_cons_succ, List.getD_cons_zero, jL, jF, jh, jv, jG]) (by simp only [List.getD_cons_succ, List.getD_cons_zero, jL, jF, jh, jv, jG])
end Go.Proofs.Ytbgcphbbchndkaa
namespace Go.Proofs.Ytbgcphbbchndkaa
open Go.Abs
def wJ : Nat → List UInt8 → Option (List Int × List UInt8)
 | 0, l => some ([], l)
 | m + 1, l => match scan 0 0 l with
  | some (n, r) => if n ≤ 4611686018427387905 then (match wJ m r with
   | some (a, b) => some (((n : Int) - 1) :: a, b)
   | none => none) else none
  | none => none
def Zw (k0 k1 : Nat) (many : Int) (l : List UInt8) : Value :=
 if many < 0 ∨ 64 < many then .tuple #[.slice none 0 0, .slice none 0 0, .int .i64 11]
 else match wJ many.toNat l with
  | some (a, b) => .tuple #[iz (if many = 0 then k0 else 2) a, by_ (if many = 0 then k1 else 2) b, .int .i64 0]
  | none => .tuple #[.slice none 0 0, .slice none 0 0, .int .i64 11]
theorem zk.round {many : Int} (hmany : many ≤ 64) {S : zh} : ∀ (m : Nat) (i : Int) (rest : List UInt8) (kr : Nat) (out : List Int) (ko : Nat) {T : List Value} {r : St}, qJ (zu Try.prog O false zk.jJ) T S = r → T.length = 45 →
  T.getD 20 undef = .int .i64 many → T.getD 21 undef = .int .i64 i → T.getD 7 undef = by_ kr rest → T.getD 8 undef = iz ko out → 0 ≤ i → many = i + m → Okl kr rest → rest.length ≤ 140737488355328 → Okl ko out → ko ≠ 1 → (out.length : Int) = i →
  ∃ e T', r = some (e, T', S) ∧ match wJ m rest with
   | none => e = .ret ∧ T'.getD 4 undef = .slice none 0 0 ∧ T'.getD 5 undef = .slice none 0 0 ∧ T'.getD 6 undef = .int .i64 11
   | some (a, b) => e = .exit 0 ∧ T'.length = 45 ∧ T'.getD 8 undef = iz (if m = 0 then ko else 2) (out ++ a) ∧ T'.getD 7 undef = by_ (if m = 0 then kr else 2) b := by
 intro m
 induction m with
 | zero =>
  intro i rest kr out ko T r hL hT h1 h2 h3 h4 h0 hm hkr hlen hko hk1 hol
  have hTe := zk.eta hT
  rw [h1, h2, h3, h4] at hTe
  have hr : zu Try.prog O false zk.jJ T S = zu Try.prog O false zk.jJ T S := rfl
  have hd : ¬ i < many := by omega
  conv at hr =>
   rhs
   rw [hTe]
   simp only [zk.jJ, zk.code, zk.rs, zSs, reduceIte, Nat.reduceEqDiff, Int.reduceEq, Int.reduceLT, Int.reduceLE, hd]
  exact ⟨_, _, hL.symm.trans (wo hr (by simp)), rfl, rfl, by simp, rfl⟩
 | succ m ih =>
  intro i rest kr out ko T r hL hT h1 h2 h3 h4 h0 hm hkr hlen hko hk1 hol
  have hTe := zk.eta hT
  rw [h1, h2, h3, h4] at hTe
  have hr : zu Try.prog O false zk.jJ T S = zu Try.prog O false zk.jJ T S := rfl
  have hd : i < many := by omega
  have g1 : ∀ S, zM Try.prog O zB.id [by_ (if kr = 2 then 1 else kr) rest] S = some (adO rest, S) := zB.v hkr.dem (by split <;> omega) hlen
  unfold adO at g1
  rw [wJ]
  cases hsc : scan 0 0 rest with
  | none =>
   rw [hsc] at g1
   have d11 : ¬ (11 : Int) = 0 := by omega
   conv at hr =>
    rhs
    rw [hTe]
    simp only [zk.jJ, zk.code, zk.rs, zSs, reduceIte, Nat.reduceEqDiff, Int.reduceEq, Int.reduceLT, Int.reduceLE, afT, hd, g1, d11]
   exact ⟨_, _, hL.symm.trans (wo hr (by simp)), rfl, rfl, rfl, rfl⟩
  | some nr =>
   obtain ⟨n, r'⟩ := nr
   rw [hsc] at g1
   obtain ⟨hn, hrl⟩ := VT rest 0 0 (by decide) (by omega) n r' hsc
   dsimp only
   by_cases h5 : n ≤ 4611686018427387905
   ·
    have d1 : ¬ (4611686018427387905 : Int) < (n : Int) := by omega
    have w1 : IntKind.i64.wrap (n : Int) = (n : Int) := wrap_i64 (by omega) (by omega)
    have w2 : IntKind.i64.wrap ((n : Int) - 1) = (n : Int) - 1 := wrap_i64 (by omega) (by omega)
    have w3 : IntKind.i64.wrap (i + 1) = i + 1 := wrap_i64 (by omega) (by omega)
    have e1 : ∀ x S, wB Try.prog 57 57 (iz ko out) (iz 2 [x]) S = some (iz 2 (out ++ [x]), S) := fun x S => ahe hko hk1 (by omega)
    conv at hr =>
     rhs
     rw [hTe]
     simp only [zk.jJ, zk.code, zk.rs, zSs, reduceIte, Nat.reduceEqDiff, Int.reduceEq, Int.reduceLT, Int.reduceLE, afT, hd, g1, d1, Kq, w1, w2, w3, Y2, aii, e1]
    obtain ⟨e, T', g2, g3⟩ := ih (i + 1) r' 2 (out ++ [(n : Int) - 1]) 2 ((yV hr).symm.trans hL) rfl rfl rfl rfl rfl (by omega) (by omega) Okl.own (by omega) Okl.own (by decide) (by simp; omega)
    refine ⟨e, T', g2, ?_⟩
    rw [if_pos h5]
    cases hrn : wJ m r' with
    | none => rw [hrn] at g3; exact g3
    | some ab =>
     obtain ⟨a, b⟩ := ab
     rw [hrn] at g3
     obtain ⟨q1, q2, q3, q4⟩ := g3
     refine ⟨q1, q2, ?_, ?_⟩
     ·
      rw [q3]; simp
     ·
      rw [q4]; simp
   ·
    have d1 : (4611686018427387905 : Int) < (n : Int) := by omega
    conv at hr =>
     rhs
     rw [hTe]
     simp only [zk.jJ, zk.code, zk.rs, zSs, reduceIte, Nat.reduceEqDiff, Int.reduceEq, Int.reduceLT, Int.reduceLE, afT, hd, g1, d1]
    refine ⟨_, _, hL.symm.trans (wo hr (by simp)), ?_⟩
    rw [if_neg h5]
    exact ⟨rfl, rfl, rfl, rfl⟩
theorem zk.v {k : Nat} {l : List UInt8} {many : Int} (hv : Okl k l) (hk : k ≠ 2) (hlen : l.length ≤ 140737488355328) (S : zh) : zM Try.prog O zk.id [by_ k l, .int .i64 many] S = some (Zw 0 (if k = 0 then 0 else 2) many l, S) := by
 obtain ⟨T, hTe⟩ : ∃ T, T = (by_ k l :: .int .i64 many :: undef :: undef :: undef :: undef :: undef :: undef :: undef :: undef :: undef :: undef :: undef :: undef :: undef :: undef :: undef :: undef :: undef :: undef :: undef :: undef :: undef :: undef :: undef :: undef :: undef :: undef :: undef :: undef :: undef :: undef :: undef :: undef :: undef :: undef :: undef :: undef :: undef :: undef :: undef :: undef :: undef :: undef :: undef :: []) := ⟨_, rfl⟩
 have hr : zu Try.prog O false zk.code T S = zu Try.prog O false zk.code T S := rfl
 have c1 : ∀ S, zM Try.prog O 50 [by_ k l] S = some (by_ (if k = 0 then 0 else 2) l, S) := slices_Clone.v hv hk hlen
 unfold Zw
 by_cases h1 : many < 0
 ·
  conv at hr =>
   rhs
   rw [hTe]
   simp only [zk.code, zk.rs, zSs, reduceIte, Nat.reduceEqDiff, Int.reduceEq, Int.reduceLT, Int.reduceLE, h1]
  rw [hTe] at hr
  rw [if_pos (.inl h1)]
  exact zk.runs hr (.inr rfl) (by simp only [List.getD_cons_succ, List.getD_cons_zero, jL, jF, jh, jv, jG]) (by simp only [List.getD_cons_succ, List.getD_cons_zero, jL, jF, jh, jv, jG]) (by simp only [List.getD_cons_succ, List.getD_cons_zero, jL, jF, jh, jv, jG])
 ·
  by_cases h2 : 64 < many
  ·
   conv at hr =>
    rhs
    rw [hTe]
    simp only [zk.code, zk.rs, zSs, reduceIte, Nat.reduceEqDiff, Int.reduceEq, Int.reduceLT, Int.reduceLE, h1, h2]
   rw [hTe] at hr
   rw [if_pos (.inr h2)]
   exact zk.runs hr (.inr rfl) (by simp only [List.getD_cons_succ, List.getD_cons_zero, jL, jF, jh, jv, jG]) (by simp only [List.getD_cons_succ, List.getD_cons_zero, jL, jF, jh, jv, jG]) (by simp only [List.getD_cons_succ, List.getD_cons_zero, jL, jF, jh, jv, jG])
  ·
   rw [if_neg (by omega)]
   conv at hr =>
    rhs
    rw [hTe]
    simp only [zk.code, zk.rs, zSs, reduceIte, Nat.reduceEqDiff, Int.reduceEq, Int.reduceLT, Int.reduceLE, h1, h2, if_neg hk, c1]
   generalize hL : qJ (zu Try.prog O false zk.jJ) _ _ = r at hr
   have okr : Okl (if k = 0 then 0 else 2) l := ⟨by split <;> omega, fun h => by split at h <;> first | (rename_i hp; exact hv.nil hp) | omega⟩
   obtain ⟨e, T', rfl, g⟩ := zk.round (many := many) (by omega) many.toNat 0 l (if k = 0 then 0 else 2) [] 0 hL rfl rfl rfl rfl rfl (by omega) (by omega) okr hlen Okl.none (by decide) rfl
   cases hrn : wJ many.toNat l with
   | none =>
    rw [hrn] at g
    obtain ⟨rfl, g2, g3, g4⟩ := g
    conv at hr =>
     rhs
     simp only [zSs, reduceIte, Nat.reduceEqDiff, Int.reduceEq, Int.reduceLT, Int.reduceLE]
    rw [hTe] at hr
    have hrun := zk.runs hr (.inr rfl) (by rw [g2]; rfl) (by rw [g3]; rfl) (by rw [g4]; rfl)
    rw [g2, g3, g4] at hrun
    exact hrun
   | some ab =>
    obtain ⟨a, b⟩ := ab
    rw [hrn] at g
    obtain ⟨rfl, g2, g3, g4⟩ := g
    have hTe' := zk.eta g2
    rw [g3, g4] at hTe'
    have hz : (many.toNat = 0) ↔ (many = 0) := by omega
    simp only [hz, List.nil_append] at hTe'
    conv at hr =>
     rhs
     rw [hTe']
     simp only [zk.code, zk.rs, zSs, reduceIte, Nat.reduceEqDiff, Int.reduceEq, Int.reduceLT, Int.reduceLE]
    rw [hTe] at hr
    exact zk.runs hr (.inr rfl) (by simp only [List.getD_cons_succ, List.getD_cons_zero, jL, jF, jh, jv, jG]) (by simp only [List.getD_cons_succ, List.getD_cons_zero, jL, jF, jh, jv, jG]) (by simp only [List.getD_cons_succ, List.getD_cons_zero, jL, jF, jh, jv, jG])
end Go.Proofs.Ytbgcphbbchndkaa
namespace Go.Proofs.Ytbgcphbbchndkaa
open Go.Abs
def Few (n : Int) : Prop := -1 ≤ n ∧ n ≤ 4611686018427387904
theorem wE : ∀ (m : Nat) (l : List UInt8) (a : List Int) (b : List UInt8), wJ m l = some (a, b) ↔ a.length = m ∧ l = encs a ++ b ∧ ∀ n ∈ a, Few n := by
 intro m
 induction m with
 | zero =>
  intro l a b
  constructor
  ·
   intro h; cases h; exact ⟨rfl, rfl, fun n h => by cases h⟩
  ·
   rintro ⟨h1, h2, _⟩
   have : a = [] := List.length_eq_zero_iff.mp h1
   subst this
   rw [h2]; rfl
 | succ m ih =>
  intro l a b
  rw [wJ]
  constructor
  ·
   intro h
   cases hsc : scan 0 0 l with
   | none => rw [hsc] at h; cases h
   | some nr =>
    obtain ⟨n, r⟩ := nr
    rw [hsc] at h
    dsimp only at h
    split at h
    ·
     rename_i hn
     cases hr : wJ m r with
     | none => rw [hr] at h; cases h
     | some ab =>
      obtain ⟨a', b'⟩ := ab
      rw [hr] at h
      obtain ⟨h1, h2, h3⟩ := (ih r a' b').mp hr
      cases h
      obtain ⟨f1, f2⟩ := XU hsc
      refine ⟨by simp [h1], ?_, fun x hx => ?_⟩
      ·
       rw [f1, h2]
       have : ((n : Int) - 1 + 1).toNat = n := by omega
       simp [encs, this]
      ·
       rcases List.mem_cons.1 hx with rfl | hx
       ·
        unfold Few; omega
       ·
        exact h3 x hx
    ·
     cases h
  ·
   rintro ⟨h1, h2, h3⟩
   cases a with
   | nil => simp at h1
   | cons x a =>
    have hx : Few x := h3 x (by simp)
    unfold Few at hx
    have he : encs (x :: a) ++ b = enc (x + 1).toNat ++ (encs a ++ b) := by simp [encs]
    rw [h2, he, JE (by omega)]
    dsimp only
    rw [if_pos (by omega), (ih (encs a ++ b) a b).mpr ⟨by simpa using h1, rfl, fun n hn => h3 n (by simp [hn])⟩]
    have : ((x + 1).toNat : Int) - 1 = x := by omega
    simp only [this]
theorem ZA {m : Nat} {l : List UInt8} {a : List Int} {b : List UInt8} (h : wJ m l = some (a, b)) : a.length = m ∧ b.length ≤ l.length := by
 obtain ⟨h1, h2, _⟩ := (wE m l a b).mp h
 exact ⟨h1, by rw [h2]; simp⟩
theorem ZF {a c : List Int} {b d : List UInt8} (h : a.length = c.length) (ha : ∀ n ∈ a, Few n) (hc : ∀ n ∈ c, Few n) (he : encs a ++ b = encs c ++ d) : a = c ∧ b = d := by
 have h1 := (wE a.length (encs a ++ b) a b).mpr ⟨rfl, rfl, ha⟩
 have h2 := (wE a.length (encs a ++ b) c d).mpr ⟨h.symm, he, hc⟩
 rw [h1] at h2
 simpa using h2
theorem WO {k : Nat} {l : List Int} (h : l.length ≤ 64) (h1 : ∀ n ∈ l, -1 ≤ n) (h0 : l ≠ []) : afl k l = .tuple #[by_ 2 (encs l), .int .i64 0] := by
 unfold afl
 rw [if_neg (by rintro (h2 | ⟨n, h2, h3⟩); { omega }; { have := h1 n h2; omega }), if_neg h0]
theorem vI {k0 k1 m : Nat} {l : List UInt8} (h0 : 0 < m) (h : m ≤ 64) : Zw k0 k1 m l = match wJ m l with
  | some (a, b) => .tuple #[iz 2 a, by_ 2 b, .int .i64 0]
  | none => .tuple #[.slice none 0 0, .slice none 0 0, .int .i64 11] := by
 unfold Zw
 rw [if_neg (by omega), Int.toNat_natCast]
 have : (m : Int) ≠ 0 := by omega
 simp only [if_neg this]
 all_goals (cases wJ m l <;> rfl)
noncomputable def rd {α : Type} (ok : α → Prop) (e : α → List UInt8) (b : List UInt8) : Option α := open Classical in if h : ∃ x, ok x ∧ b = e x then some h.choose else none
theorem adh {α : Type} {ok : α → Prop} {e : α → List UInt8} (inj : ∀ x y, ok x → ok y → e x = e y → x = y) (b : List UInt8) (x : α) : rd ok e b = some x ↔ ok x ∧ b = e x := by
 unfold rd
 constructor
 ·
  intro h
  split at h
  ·
   rename_i he
   cases h
   exact he.choose_spec
  ·
   cases h
 ·
  intro h
  have he : ∃ x, ok x ∧ b = e x := ⟨x, h⟩
  rw [dif_pos he]
  exact congrArg some (inj _ _ he.choose_spec.1 h.1 (he.choose_spec.2.symm.trans h.2))
end Go.Proofs.Ytbgcphbbchndkaa
namespace Go.Proofs.Ytbgcphbbchndkaa
open Go.Abs
def abl (n : Int) : Int := IntKind.u64.wrap (IntKind.u64.wrap (IntKind.u64.wrap n + 1) * 11400714819323198485)
def aaZ (h : Int) (x : UInt8) : Int := IntKind.u64.wrap (abL .u64 h (x.toNat : Int) * 1099511628211)
def ajh (h : Int) : Int := abL .u64 h (h.fdiv (2 ^ min (Int.toNat 29) (IntKind.bits .u64)))
def Jf (key : Int) (b : List UInt8) : Int := ajh (b.foldl aaZ (abL .u64 key 14695981039346656037))
theorem acM (x : UInt8) : IntKind.u64.wrap (x.toNat : Int) = (x.toNat : Int) := Jv (by have := x.toNat_lt; omega)
theorem afk (x : Int) : IntKind.u64.wrap x = x % 18446744073709551616 := rfl
theorem afg (a b : Int) : 0 ≤ abL .u64 a b ∧ abL .u64 a b < 18446744073709551616 := by
 unfold abL
 have h : ∀ x : Int, 0 ≤ IntKind.u64.wrap x ∧ IntKind.u64.wrap x < 18446744073709551616 := fun x => by rw [afk]; omega
 first | exact h _ | (simp only [IntKind.ofBits, IntKind.signed]; first | exact h _ | omega)
theorem yI.v (n : Int) (S : zh) : zM Try.prog O yI.id [.int .i64 n] S = some (.int .u64 (abl n), S) := by
 obtain ⟨T, hTe⟩ : ∃ T, T = (.int .i64 n :: undef :: undef :: undef :: undef :: undef :: undef :: []) := ⟨_, rfl⟩
 have hr : zu Try.prog O false yI.code T S = zu Try.prog O false yI.code T S := rfl
 conv at hr =>
  rhs
  rw [hTe]
  simp only [yI.code, yI.rs, zSs, reduceIte, Nat.reduceEqDiff, Int.reduceEq, Int.reduceLT, Int.reduceLE, WM, Jm]
 rw [hTe] at hr
 exact yI.runs hr (.inr rfl)
section
variable {l : List UInt8} {k : Nat}
theorem zZ.round (hv : Okl k l) (hlen : l.length ≤ 140737488355328) {S : zh} : ∀ (suf pre : List UInt8) (h : Int) {T : List Value} {r : St}, qJ (zu Try.prog O false zZ.jJ) T S = r → T.length = 35 →
  T.getD 5 undef = .int .u64 h → T.getD 18 undef = by_ k l → T.getD 19 undef = .int .i64 l.length → T.getD 20 undef = .int .i64 pre.length → l = pre ++ suf →
  ∃ T', r = some (.exit 2, T', S) ∧ T'.length = 35 ∧ T'.getD 5 undef = .int .u64 (suf.foldl aaZ h) ∧ T'.getD 12 undef = T.getD 12 undef ∧ T'.getD 13 undef = T.getD 13 undef ∧ T'.getD 14 undef = T.getD 14 undef := by
 intro suf
 induction suf with
 | nil =>
  intro pre h T r hL hT h5 h18 h19 h20 hl
  have hTe := zZ.eta hT
  rw [h5, h18, h19, h20] at hTe
  have hr : zu Try.prog O false zZ.jJ T S = zu Try.prog O false zZ.jJ T S := rfl
  have d1 : ¬ (pre.length : Int) < (l.length : Int) := by rw [hl]; simp
  conv at hr =>
   rhs
   rw [hTe]
   simp only [zZ.jJ, zZ.code, zZ.rs, zSs, reduceIte, Nat.reduceEqDiff, Int.reduceEq, Int.reduceLT, Int.reduceLE, d1]
  exact ⟨_, hL.symm.trans (wo hr (by simp)), rfl, rfl, rfl, rfl, rfl⟩
 | cons x suf ih =>
  intro pre h T r hL hT h5 h18 h19 h20 hl
  have hTe := zZ.eta hT
  rw [h5, h18, h19, h20] at hTe
  have hr : zu Try.prog O false zZ.jJ T S = zu Try.prog O false zZ.jJ T S := rfl
  have d1 : (pre.length : Int) < (l.length : Int) := by rw [hl]; simp; omega
  have e1 : ∀ S, zW Try.prog 23 (by_ k l) (.int .i64 pre.length) S = some (EP [.int .u8 x.toNat], S) := fun S => by
   rw [aiu hv (by omega) d1]; rw [adM hl]
  have wi : IntKind.i64.wrap ((pre.length : Int) + 1) = ((pre ++ [x]).length : Int) := by rw [wrap_i64 (by omega) (by omega)]; simp
  have em : IntKind.u64.wrap (abL .u64 h (x.toNat : Int) * 1099511628211) = aaZ h x := rfl
  conv at hr =>
   rhs
   rw [hTe]
   simp only [zZ.jJ, zZ.code, zZ.rs, zSs, reduceIte, Nat.reduceEqDiff, Int.reduceEq, Int.reduceLT, Int.reduceLE, d1, e1, ady, Zv, acM, QA, WM, em, wi]
  obtain ⟨T', q1, q2, q3, q4, q5, q6⟩ := ih (pre ++ [x]) (aaZ h x) ((yV hr).symm.trans hL) rfl rfl rfl rfl rfl (by simp [hl])
  exact ⟨T', q1, q2, q3, q4, q5, q6⟩
theorem WS (S : zh) : jB Try.prog 88 1 [(0, by_ 1 l)] S = some (sv 2 1 1 [by_ 1 l], S) := by kernel_rfl
theorem aey (i : Int) (hi : i = 0) (S : zh) : zW Try.prog 88 (sv 1 1 1 [by_ 1 l]) (.int .i64 i) S = some (EP [by_ 1 l], S) := by subst hi; exact JM Vk acT ⟨by decide, fun h => by cases h⟩ (by omega) (by omega)
theorem zZ.v (hlen : l.length ≤ 140737488355328) {key : Int} (S : zh) : zM Try.prog O zZ.id [.int .u64 key, sv 1 1 1 [by_ 1 l]] S = some (.int .u64 (Jf key l), S) := by
 obtain ⟨T, hTe⟩ : ∃ T, T = (.int .u64 key :: sv 1 1 1 [by_ 1 l] :: undef :: undef :: undef :: undef :: undef :: undef :: undef :: undef :: undef :: undef :: undef :: undef :: undef :: undef :: undef :: undef :: undef :: undef :: undef :: undef :: undef :: undef :: undef :: undef :: undef :: undef :: undef :: undef :: undef :: undef :: undef :: undef :: undef :: []) := ⟨_, rfl⟩
 have hr : zu Try.prog O false zZ.code T S = zu Try.prog O false zZ.code T S := rfl
 have ln : ∀ S, Jc Try.prog 88 (sv 1 1 1 [by_ 1 l]) S = some (.int .i64 1, S) := fun S => by kernel_rfl
 have lb : ∀ S, Jc Try.prog 23 (by_ 1 l) S = some (.int .i64 l.length, S) := fun S => Wy Okl.read
 conv at hr =>
  rhs
  rw [hTe]
  simp only [zZ.code, zZ.rs, zSs, reduceIte, Nat.reduceEqDiff, Int.reduceEq, Int.reduceLT, Int.reduceLE, QA, ln]
 generalize hL : qJ (zu Try.prog O false zZ.Xm) _ _ = r at hr
 have key1 : ∃ T', r = some (.exit 0, T', S) ∧ T'.length = 35 ∧ T'.getD 5 undef = .int .u64 (l.foldl aaZ (abL .u64 key 14695981039346656037)) := by
  generalize hT0 : (_ :: _ : List Value) = T0 at hL
  have hT0' : T0.length = 35 := by rw [← hT0]; rfl
  have g5 : T0.getD 5 undef = .int .u64 (abL .u64 key 14695981039346656037) := by rw [← hT0]; rfl
  have g12 : T0.getD 12 undef = sv 1 1 1 [by_ 1 l] := by rw [← hT0]; rfl
  have g13 : T0.getD 13 undef = .int .i64 1 := by rw [← hT0]; rfl
  have g14 : T0.getD 14 undef = .int .i64 0 := by rw [← hT0]; rfl
  have hTe := zZ.eta hT0'
  rw [g5, g12, g13, g14] at hTe
  have hr : zu Try.prog O false zZ.Xm T0 S = zu Try.prog O false zZ.Xm T0 S := rfl
  have z1 : (0 : Int) < 1 := by omega
  conv at hr =>
   rhs
   rw [hTe]
   simp only [zZ.Xm, zZ.code, zZ.rs, zSs, reduceIte, Nat.reduceEqDiff, Int.reduceEq, Int.reduceLT, Int.reduceLE, z1, aey 0 rfl, WU adY, lb]
  generalize hL1 : qJ (zu Try.prog O false zZ.jJ) _ _ = r1 at hr
  obtain ⟨T1, rfl, q1, q2, q3, q4, q5⟩ := zZ.round (Okl.read (l := l)) hlen l [] _ hL1 rfl rfl rfl rfl rfl rfl
  have q3 : T1.getD 12 undef = sv 1 1 1 [by_ 1 l] := q3
  have q4 : T1.getD 13 undef = .int .i64 1 := q4
  have q5 : T1.getD 14 undef = .int .i64 0 := q5
  have hT1 := zZ.eta q1
  rw [q2, q3, q4, q5] at hT1
  have w1 : IntKind.i64.wrap (0 + 1) = 1 := by decide
  conv at hr =>
   rhs
   rw [hT1]
   simp only [zZ.code, zZ.rs, zSs, reduceIte, Nat.reduceEqDiff, Int.reduceEq, Int.reduceLT, Int.reduceLE, w1]
  have hL2 := (yV hr).symm.trans hL
  generalize hT2 : (_ :: _ : List Value) = T2 at hL2
  have hT2' : T2.length = 35 := by rw [← hT2]; rfl
  have f5 : T2.getD 5 undef = .int .u64 (l.foldl aaZ (abL .u64 key 14695981039346656037)) := by rw [← hT2]; rfl
  have f13 : T2.getD 13 undef = .int .i64 1 := by rw [← hT2]; rfl
  have f14 : T2.getD 14 undef = .int .i64 1 := by rw [← hT2]; rfl
  have hTe2 := zZ.eta hT2'
  rw [f5, f13, f14] at hTe2
  have hr2 : zu Try.prog O false zZ.Xm T2 S = zu Try.prog O false zZ.Xm T2 S := rfl
  have z2 : ¬ (1 : Int) < 1 := by omega
  conv at hr2 =>
   rhs
   rw [hTe2]
   simp only [zZ.Xm, zZ.code, zZ.rs, zSs, reduceIte, Nat.reduceEqDiff, Int.reduceEq, Int.reduceLT, Int.reduceLE, z2]
  exact ⟨_, hL2.symm.trans (wo hr2 (by simp)), rfl, rfl⟩
 obtain ⟨T', rfl, g1, g2⟩ := key1
 have hT' := zZ.eta g1
 rw [g2] at hT'
 conv at hr =>
  rhs
  rw [hT']
  simp only [zZ.code, zZ.rs, zSs, reduceIte, Nat.reduceEqDiff, Int.reduceEq, Int.reduceLT, Int.reduceLE, QA, aax _ _ _ _ (show (0 : Int) ≤ 29 by omega)]
 rw [hTe] at hr
 exact zZ.runs hr (.inr rfl)
theorem wF.v (hv : Okl k l) (k1 : k = 1) (hlen : l.length ≤ 140737488355328) {key mark : Int} (S : zh) : zM Try.prog O wF.id [.int .u64 key, .int .u64 mark, by_ k l] S = some (.bool (decide (Jf key l = mark)), S) := by
 subst k1
 obtain ⟨T, hTe⟩ : ∃ T, T = (.int .u64 key :: .int .u64 mark :: by_ 1 l :: undef :: undef :: undef :: undef :: undef :: undef :: undef :: undef :: undef :: undef :: []) := ⟨_, rfl⟩
 have hr : zu Try.prog O false wF.code T S = zu Try.prog O false wF.code T S := rfl
 have c1 := fun S => zZ.v hlen (key := key) S
 have z : ¬ (1 : Nat) = 2 := by decide
 conv at hr =>
  rhs
  rw [hTe]
  simp only [wF.code, wF.rs, zSs, reduceIte, Nat.reduceEqDiff, Int.reduceEq, Int.reduceLT, Int.reduceLE, if_neg z, WS, c1]
 rw [hTe] at hr
 exact wF.runs hr (.inr rfl)
end
end Go.Proofs.Ytbgcphbbchndkaa
namespace Go.Proofs.Ytbgcphbbchndkaa
open Go.Abs
abbrev zL.id : FuncId := 53
noncomputable def zL.code : Code := (Code.seq (Code.region 0 (reg Try.f53 0) false) (Code.seq (Code.region 1 (reg Try.f53 1) false) (Code.seq (Code.seq (Code.region 2 (reg Try.f53 2) false) (Code.cond (Operand.tmp 16) (Code.seq (Code.region 3 (reg Try.f53 3) false) Code.ret) Code.skip)) (Code.seq (Code.region 4 (reg Try.f53 4) false) (Code.seq (Code.region 5 (reg Try.f53 5) true) (Code.seq (Code.seq (Code.region 6 (reg Try.f53 6) false) (Code.cond (Operand.tmp 43) (Code.seq (Code.region 7 (reg Try.f53 7) false) Code.ret) Code.skip)) (Code.seq (Code.region 8 (reg Try.f53 8) false) Code.ret)))))))
theorem zL.body : Try.f53.body = some zL.code := by kernel_rfl
variable (U x1 X x3 a Y V W Z x9 c d f g i k l m n o p q r s t u w x y z A B C D E F G H I J K L M N P Q : Value) (S : zh)
theorem zL.r0  : jd Try.prog ⟨false, false, false⟩ (zM Try.prog O) (reg Try.f53 0) (reg Try.f53 0).toList ([U,x1,X,x3,a,Y,V,W,Z,x9,c,d,f,g,i,k,l,m,n,o,p,q,r,s,t,u,w,x,y,z,A,B,C,D,E,F,G,H,I,J,K,L,M,N,P,Q]) S =
  (zA (wG Try.prog 28 S) (fun v0 R => some ([U,x1,v0,Value.int IntKind.i64 0,a,Y,V,W,Z,x9,c,d,f,g,i,k,l,m,n,o,p,q,r,s,t,u,w,x,y,z,A,B,C,D,E,F,G,H,I,J,K,L,M,N,P,Q], R)) ()) := by
 kernel_rfl
theorem zL.r1  : jd Try.prog ⟨false, false, false⟩ (zM Try.prog O) (reg Try.f53 1) (reg Try.f53 1).toList ([U,x1,X,x3,a,Y,V,W,Z,x9,c,d,f,g,i,k,l,m,n,o,p,q,r,s,t,u,w,x,y,z,A,B,C,D,E,F,G,H,I,J,K,L,M,N,P,Q]) S =
  (zA ((zM Try.prog O) 51 [(dem (dem U)), (Value.int IntKind.i64 4)] S) (fun b R => zA (zx b 0 R) (fun v3 S2 => zA (zx (zH 0 b) 1 S2) (fun v4 S3 => zA (zx (zH 1 (zH 0 b)) 2 S3) (fun v5 S4 => some ([U,x1,X,x3,v3,v4,v5,W,Z,zH 2 (zH 1 (zH 0 b)),dem U,dem b,dem v3,dem v4,dem v5,k,l,m,n,o,p,q,r,s,t,u,w,x,y,z,A,B,C,D,E,F,G,H,I,J,K,L,M,N,P,Q], S4)) ()) ()) ()) ()) := by
 kernel_rfl
theorem zL.r2  : jd Try.prog ⟨false, false, false⟩ (zM Try.prog O) (reg Try.f53 2) (reg Try.f53 2).toList ([U,x1,X,x3,a,Y,V,W,Z,x9,c,d,f,g,i,k,l,m,n,o,p,q,r,s,t,u,w,x,y,z,A,B,C,D,E,F,G,H,I,J,K,L,M,N,P,Q]) S =
  (zA (jZ Try.prog BinOp.neq 31 (dem V) (Value.int IntKind.i64 0) S) (fun b R => some ([U,x1,X,x3,a,Y,V,W,Z,x9,c,d,f,g,i,dem V,b,m,n,o,p,q,r,s,t,u,w,x,y,z,A,B,C,D,E,F,G,H,I,J,K,L,M,N,P,Q], R)) ()) := by
 kernel_rfl
theorem zL.r3  : jd Try.prog ⟨false, false, false⟩ (zM Try.prog O) (reg Try.f53 3) (reg Try.f53 3).toList ([U,x1,X,x3,a,Y,V,W,Z,x9,c,d,f,g,i,k,l,m,n,o,p,q,r,s,t,u,w,x,y,z,A,B,C,D,E,F,G,H,I,J,K,L,M,N,P,Q]) S =
  (zA (yg Try.prog 28 [] S) (fun v0 R => zA (jO Try.prog 28 X (dem v0) R) (fun b S2 => some ([U,x1,X,Value.int IntKind.i64 71,a,Y,V,W,Z,x9,c,d,f,g,i,k,l,v0,n,o,p,q,r,s,t,u,w,x,y,z,A,B,C,D,E,F,G,H,I,J,K,L,M,N,P,Q], S2)) ()) ()) := by
 kernel_rfl
theorem zL.r4  : jd Try.prog ⟨false, false, false⟩ (zM Try.prog O) (reg Try.f53 4) (reg Try.f53 4).toList ([U,x1,X,x3,a,Y,V,W,Z,x9,c,d,f,g,i,k,l,m,n,o,p,q,r,s,t,u,w,x,y,z,A,B,C,D,E,F,G,H,I,J,K,L,M,N,P,Q]) S =
  (zA ((zM Try.prog O) 65 [(dem (dem Y))] S) (fun b R => zA (zx b 0 R) (fun v3 S2 => zA (zx (zH 0 b) 1 S2) (fun v4 S3 => some ([U,x1,X,x3,a,Y,v4,v3,Z,x9,c,d,f,g,i,k,l,m,zH 1 (zH 0 b),dem Y,dem b,dem v3,dem v4,s,t,u,w,x,y,z,A,B,C,D,E,F,G,H,I,J,K,L,M,N,P,Q], S3)) ()) ()) ()) := by
 kernel_rfl
theorem zL.d5 : ku Try.prog (reg Try.f53 5) = true := by kernel_rfl
theorem zL.ff5 : fixed Try.prog (reg Try.f53 5) = false := by kernel_rfl
theorem zL.k5 : checked Try.prog (reg Try.f53 5) = [0, 1, 2, 3, 4, 5, 6, 7, 8, 9, 10, 11, 12, 13] := by kernel_rfl
theorem zL.g5 : again Try.prog (reg Try.f53 5) = [(2, 14), (5, 14), (8, 14), (11, 14)] := by kernel_rfl
theorem zL.r5  : zu Try.prog O false (.region 5 (reg Try.f53 5) true) ([U,x1,X,x3,a,Y,V,W,Z,x9,c,d,f,g,i,k,l,m,n,o,p,q,r,s,t,u,w,x,y,z,A,B,C,D,E,F,G,H,I,J,K,L,M,N,P,Q]) S =
  WL (okK a ( zA (zW Try.prog 57 (dem a) (Value.int IntKind.i64 0) S) (fun b R => okK b ( zA (zO Try.prog false 3 b R) (fun v2 S2 => okK v2 ( okK a ( zA (zW Try.prog 57 (dem a) (Value.int IntKind.i64 1) S2) (fun v4 S3 => okK v4 ( zA (zO Try.prog false 3 v4 S3) (fun v5 S4 => okK v5 ( okK a ( zA (zW Try.prog 57 (dem a) (Value.int IntKind.i64 2) S4) (fun v7 S5 => okK v7 ( zA (zO Try.prog false 3 v7 S5) (fun v8 S6 => okK v8 ( okK a ( zA (zW Try.prog 57 (dem a) (Value.int IntKind.i64 3) S6) (fun a0 S7 => okK a0 ( zA (zO Try.prog false 3 a0 S7) (fun a2 S8 => okK a2 ( okK W ( zA (yg Try.prog 28 [(0, (dem v2)), (1, (dem v5)), (2, (dem v8)), (3, (dem a2)), (4, (dem (dem W)))] S8) (fun a3 S9 => okK a3 ( zA (wG Try.prog 28 S9) (fun a4 a1 => zA (jO Try.prog 28 a4 (dem a3) a1) (fun a6 a5 => ckK (qm b R a1 && (qm v4 S3 a1 && (qm v7 S5 a1 && (qm a0 S7 a1 && (true))))) (some ([U,x1,X,x3,a,Y,V,W,a4,x9,c,d,f,g,i,k,l,m,n,o,p,q,r,dem a,b,v2,dem a,v4,v5,dem a,v7,v8,dem a,a0,a2,dem W,a3,H,I,J,K,L,M,N,P,Q], a5)) ()) ()) ()) ()) ()) ()) ()) ()) ()) ()) ()) ()) ()) ()) ()) ()) ()) ()) ()) ()) ()) ()) ()) ()) ()) ()) := by
 rw [yQ zL.d5 zL.ff5 zL.k5 zL.g5]
 refine congrArg WL ?_
 refine uPC Try.f53 5 0 (v := a) (pe := undef) ?_
 refine uDC Try.f53 5 1 (pe := undef) (fun b R => ?_)
 refine uDC Try.f53 5 2 (pe := b) (fun v2 S2 => ?_)
 refine uPC Try.f53 5 3 (v := a) (pe := undef) ?_
 refine uDC Try.f53 5 4 (pe := undef) (fun v4 S3 => ?_)
 refine uDC Try.f53 5 5 (pe := v4) (fun v5 S4 => ?_)
 refine uPC Try.f53 5 6 (v := a) (pe := undef) ?_
 refine uDC Try.f53 5 7 (pe := undef) (fun v7 S5 => ?_)
 refine uDC Try.f53 5 8 (pe := v7) (fun v8 S6 => ?_)
 refine uPC Try.f53 5 9 (v := a) (pe := undef) ?_
 refine uDC Try.f53 5 10 (pe := undef) (fun a0 S7 => ?_)
 refine uDC Try.f53 5 11 (pe := a0) (fun a2 S8 => ?_)
 refine uPC Try.f53 5 12 (v := W) (pe := undef) ?_
 refine uDC Try.f53 5 13 (pe := undef) (fun a3 S9 => ?_)
 refine uD Try.f53 5 14 (pe := undef) (fun a4 a1 => ?_)
 refine uD Try.f53 5 15 (pe := undef) (fun a6 a5 => ?_)
 kernel_rfl
theorem zL.r6  : jd Try.prog ⟨false, false, false⟩ (zM Try.prog O) (reg Try.f53 6) (reg Try.f53 6).toList ([U,x1,X,x3,a,Y,V,W,Z,x9,c,d,f,g,i,k,l,m,n,o,p,q,r,s,t,u,w,x,y,z,A,B,C,D,E,F,G,H,I,J,K,L,M,N,P,Q]) S =
  (zA (jZ Try.prog BinOp.neq 31 (dem V) (Value.int IntKind.i64 0) S) (fun b R => gdK (dem b) false (zO Try.prog false 28 Z) R (fun v3 S2 => gdK (dem b) false ((zM Try.prog O) 39 [(dem v3)]) S2 (fun v4 S3 => gdK (dem b) false (aUn Try.prog UnOp.not v4) S3 (fun v5 S4 => zA (wY (dem b) (Value.bool true) v5 S4) (fun v6 S5 => some ([U,x1,X,x3,a,Y,V,W,Z,x9,c,d,f,g,i,k,l,m,n,o,p,q,r,s,t,u,w,x,y,z,A,B,C,D,E,F,G,dem V,b,dem b,v3,v4,v5,v6,P,Q], S5)) ()) ()) ()) ()) ()) := by
 refine sP Try.f53 6 0 (v := V) ?_
 refine sD Try.f53 6 1 (fun b R => ?_)
 refine sP Try.f53 6 2 (v := b) ?_
 refine sG Try.f53 6 3 (j := 2) (fun v3 S2 => ?_)
 refine sG Try.f53 6 4 (j := 2) (fun v4 S3 => ?_)
 refine sG Try.f53 6 5 (j := 2) (fun v5 S4 => ?_)
 refine sD Try.f53 6 6 (fun v6 S5 => ?_)
 kernel_rfl
theorem zL.r7  : jd Try.prog ⟨false, false, false⟩ (zM Try.prog O) (reg Try.f53 7) (reg Try.f53 7).toList ([U,x1,X,x3,a,Y,V,W,Z,x9,c,d,f,g,i,k,l,m,n,o,p,q,r,s,t,u,w,x,y,z,A,B,C,D,E,F,G,H,I,J,K,L,M,N,P,Q]) S =
  (zA (yg Try.prog 28 [] S) (fun v0 R => zA (jO Try.prog 28 X (dem v0) R) (fun b S2 => some ([U,x1,X,Value.int IntKind.i64 71,a,Y,V,W,Z,x9,c,d,f,g,i,k,l,m,n,o,p,q,r,s,t,u,w,x,y,z,A,B,C,D,E,F,G,H,I,J,K,L,M,N,v0,Q], S2)) ()) ()) := by
 kernel_rfl
theorem zL.r8  : jd Try.prog ⟨false, false, false⟩ (zM Try.prog O) (reg Try.f53 8) (reg Try.f53 8).toList ([U,x1,X,x3,a,Y,V,W,Z,x9,c,d,f,g,i,k,l,m,n,o,p,q,r,s,t,u,w,x,y,z,A,B,C,D,E,F,G,H,I,J,K,L,M,N,P,Q]) S =
  (zA (zO Try.prog false 28 Z S) (fun v0 R => zA (jO Try.prog 28 X (dem v0) R) (fun b S2 => some ([U,x1,X,Value.int IntKind.i64 0,a,Y,V,W,Z,x9,c,d,f,g,i,k,l,m,n,o,p,q,r,s,t,u,w,x,y,z,A,B,C,D,E,F,G,H,I,J,K,L,M,N,P,v0], S2)) ()) ()) := by
 kernel_rfl
theorem zL.rs : type_of% (And.intro @zL.r0 (And.intro @zL.r1 (And.intro @zL.r2 (And.intro @zL.r3 (And.intro @zL.r4 (And.intro @zL.r5 (And.intro @zL.r6 (And.intro @zL.r7 (@zL.r8))))))))) := And.intro @zL.r0 (And.intro @zL.r1 (And.intro @zL.r2 (And.intro @zL.r3 (And.intro @zL.r4 (And.intro @zL.r5 (And.intro @zL.r6 (And.intro @zL.r7 (@zL.r8))))))))
theorem zL.runs {U : Value} {S R : zh} {e : AEx} {T : List Value} (h : zu Try.prog O false zL.code ([U,undef,undef,undef,undef,undef,undef,undef,undef,undef,undef,undef,undef,undef,undef,undef,undef,undef,undef,undef,undef,undef,undef,undef,undef,undef,undef,undef,undef,undef,undef,undef,undef,undef,undef,undef,undef,undef,undef,undef,undef,undef,undef,undef,undef,undef]) zh.empty = some (e, T, R)) (he : e = .normal ∨ e = .ret) {w0 : Value} (c0 : zO Try.prog false 28 (T.getD 2 undef) R = some (w0, R)) (h0 : jD (w0) = true) (h1 : jD (T.getD 3 undef) = true) (hca : [U].all (jf 16) = true) (hcv : jf 16 (Value.tuple #[w0, T.getD 3 undef]) = true) : zM Try.prog O 53 [U] S = some (Value.tuple #[w0, T.getD 3 undef], S) :=
 wR rfl rfl Try.func53 (by decide) zL.body (by exact h) he ((yT ((show zC Try.prog T R Try.f53.results.toList = zC Try.prog T R [(ResultVar.cell 2 28), (ResultVar.tmp 3)] from by kernel_rfl).trans (by simp only [zC, c0])) (by kernel_rfl) (by simp only [List.all_cons, List.all_nil, h0, h1, Bool.and_true])).trans rfl) hca hcv
end Go.Proofs.Ytbgcphbbchndkaa
namespace Go.Proofs.Ytbgcphbbchndkaa
open Go.Abs
abbrev jl.id : FuncId := 41
noncomputable def jl.code : Code := (Code.seq (Code.region 0 (reg Try.f41 0) false) (Code.seq (Code.region 1 (reg Try.f41 1) false) Code.ret))
theorem jl.body : Try.f41.body = some jl.code := by kernel_rfl
variable (g i k l x4 x5 x6 x7 x8 x9 o p q r s t u w x y z A B C D E F G H I J K L M N P Q R : Value) (S : zh)
theorem jl.r0  : jd Try.prog ⟨false, false, false⟩ (zM Try.prog O) (reg Try.f41 0) (reg Try.f41 0).toList ([g,i,k,l,x4,x5,x6,x7,x8,x9,o,p,q,r,s,t,u,w,x,y,z,A,B,C,D,E,F,G,H,I,J,K,L,M,N,P,Q,R]) S =
  (zA (J7 (dem g) S) (fun U m => zA (J7 (dem i) m) (fun V S2 => some ([g,i,U,V,Value.bool false,x5,x6,x7,x8,x9,o,p,q,r,s,t,u,w,x,y,z,A,B,C,D,E,F,G,H,I,J,K,L,M,N,P,Q,R], S2)) ()) ()) := by
 kernel_rfl
theorem jl.r1  : jd Try.prog ⟨false, false, false⟩ (zM Try.prog O) (reg Try.f41 1) (reg Try.f41 1).toList ([g,i,k,l,x4,x5,x6,x7,x8,x9,o,p,q,r,s,t,u,w,x,y,z,A,B,C,D,E,F,G,H,I,J,K,L,M,N,P,Q,R]) S =
  (zA (zo Try.prog 28 k 0 S) (fun U m => zA (zO Try.prog false 3 U m) (fun V S2 => zA (zo Try.prog 28 l 0 S2) (fun v2 S3 => zA (zO Try.prog false 3 v2 S3) (fun v3 S4 => zA (jZ Try.prog BinOp.eql 3 V v3 S4) (fun f S5 => gdK (dem f) true (zo Try.prog 28 k 1) S5 (fun v6 S6 => gdK (dem f) true (zO Try.prog false 3 v6) S6 (fun v7 S7 => gdK (dem f) true (zo Try.prog 28 l 1) S7 (fun v8 S8 => gdK (dem f) true (zO Try.prog false 3 v8) S8 (fun v9 S9 => gdK (dem f) true (jZ Try.prog BinOp.eql 3 v7 v9) S9 (fun W b2 => zA (wY (dem f) W (Value.bool false) b2) (fun b b3 => gdK (dem b) true (zo Try.prog 28 k 2) b3 (fun X b4 => gdK (dem b) true (zO Try.prog false 3 X) b4 (fun Y b5 => gdK (dem b) true (zo Try.prog 28 l 2) b5 (fun Z b6 => gdK (dem b) true (zO Try.prog false 3 Z) b6 (fun a0 b7 => gdK (dem b) true (jZ Try.prog BinOp.eql 3 Y a0) b7 (fun a1 b8 => zA (wY (dem b) a1 (Value.bool false) b8) (fun c b9 => gdK (dem c) true (zo Try.prog 28 k 3) b9 (fun a2 c0 => gdK (dem c) true (zO Try.prog false 3 a2) c0 (fun a3 c1 => gdK (dem c) true (zo Try.prog 28 l 3) c1 (fun a4 c2 => gdK (dem c) true (zO Try.prog false 3 a4) c2 (fun a5 c3 => gdK (dem c) true (jZ Try.prog BinOp.eql 3 a3 a5) c3 (fun a6 c4 => zA (wY (dem c) a6 (Value.bool false) c4) (fun d c5 => gdK (dem d) true (zo Try.prog 28 k 4) c5 (fun a7 c6 => gdK (dem d) true (zO Try.prog false 26 a7) c6 (fun a8 c7 => gdK (dem d) true (zo Try.prog 28 l 4) c7 (fun a9 c8 => gdK (dem d) true (zO Try.prog false 26 a9) c8 (fun b0 c9 => gdK (dem d) true ((zM Try.prog O) 60 [(dem a8), (dem b0)]) c9 (fun b1 d0 => zA (wY (dem d) b1 (Value.bool false) d0) (fun n d1 => some ([g,i,k,l,n,U,V,v2,v3,f,dem f,v6,v7,v8,v9,W,b,dem b,X,Y,Z,a0,a1,c,dem c,a2,a3,a4,a5,a6,d,dem d,a7,a8,a9,b0,b1,dem n], d1)) ()) ()) ()) ()) ()) ()) ()) ()) ()) ()) ()) ()) ()) ()) ()) ()) ()) ()) ()) ()) ()) ()) ()) ()) ()) ()) ()) ()) ()) := by
 refine sD Try.f41 1 0 (fun U m => ?_)
 refine sD Try.f41 1 1 (fun V S2 => ?_)
 refine sD Try.f41 1 2 (fun v2 S3 => ?_)
 refine sD Try.f41 1 3 (fun v3 S4 => ?_)
 refine sD Try.f41 1 4 (fun f S5 => ?_)
 refine sP Try.f41 1 5 (v := f) ?_
 refine sG Try.f41 1 6 (j := 5) (fun v6 S6 => ?_)
 refine sG Try.f41 1 7 (j := 5) (fun v7 S7 => ?_)
 refine sG Try.f41 1 8 (j := 5) (fun v8 S8 => ?_)
 refine sG Try.f41 1 9 (j := 5) (fun v9 S9 => ?_)
 refine sG Try.f41 1 10 (j := 5) (fun W b2 => ?_)
 refine sD Try.f41 1 11 (fun b b3 => ?_)
 refine sP Try.f41 1 12 (v := b) ?_
 refine sG Try.f41 1 13 (j := 12) (fun X b4 => ?_)
 refine sG Try.f41 1 14 (j := 12) (fun Y b5 => ?_)
 refine sG Try.f41 1 15 (j := 12) (fun Z b6 => ?_)
 refine sG Try.f41 1 16 (j := 12) (fun a0 b7 => ?_)
 refine sG Try.f41 1 17 (j := 12) (fun a1 b8 => ?_)
 refine sD Try.f41 1 18 (fun c b9 => ?_)
 refine sP Try.f41 1 19 (v := c) ?_
 refine sG Try.f41 1 20 (j := 19) (fun a2 c0 => ?_)
 refine sG Try.f41 1 21 (j := 19) (fun a3 c1 => ?_)
 refine sG Try.f41 1 22 (j := 19) (fun a4 c2 => ?_)
 refine sG Try.f41 1 23 (j := 19) (fun a5 c3 => ?_)
 refine sG Try.f41 1 24 (j := 19) (fun a6 c4 => ?_)
 refine sD Try.f41 1 25 (fun d c5 => ?_)
 refine sP Try.f41 1 26 (v := d) ?_
 refine sG Try.f41 1 27 (j := 26) (fun a7 c6 => ?_)
 refine sG Try.f41 1 28 (j := 26) (fun a8 c7 => ?_)
 refine sG Try.f41 1 29 (j := 26) (fun a9 c8 => ?_)
 refine sG Try.f41 1 30 (j := 26) (fun b0 c9 => ?_)
 refine sG Try.f41 1 31 (j := 26) (fun b1 d0 => ?_)
 refine sD Try.f41 1 32 (fun n d1 => ?_)
 refine sP Try.f41 1 33 (v := n) ?_
 kernel_rfl
theorem jl.rs : type_of% (And.intro @jl.r0 (@jl.r1)) := And.intro @jl.r0 (@jl.r1)
theorem jl.runs {g i : Value} {S m : zh} {e : AEx} {T : List Value} (h : zu Try.prog O false jl.code ([g,i,undef,undef,undef,undef,undef,undef,undef,undef,undef,undef,undef,undef,undef,undef,undef,undef,undef,undef,undef,undef,undef,undef,undef,undef,undef,undef,undef,undef,undef,undef,undef,undef,undef,undef,undef,undef]) zh.empty = some (e, T, m)) (he : e = .normal ∨ e = .ret) (hca : [g, i].all (jf 16) = true) (hcv : jf 16 (T.getD 4 undef) = true) : zM Try.prog O 41 [g, i] S = some (T.getD 4 undef, S) :=
 wR rfl rfl Try.func41 (by decide) jl.body (by exact h) he (yD (a := T.getD 4 undef) ((show zC Try.prog T m Try.f41.results.toList = zC Try.prog T m [(ResultVar.tmp 4)] from by kernel_rfl).trans (by simp only [zC])) (by kernel_rfl)) hca hcv
end Go.Proofs.Ytbgcphbbchndkaa
namespace Go.Proofs.Ytbgcphbbchndkaa
open Go.Abs
abbrev zY.id : FuncId := 34
noncomputable def zY.code : Code := (Code.seq (Code.region 0 (reg Try.f34 0) false) (Code.seq (Code.seq (Code.region 1 (reg Try.f34 1) false) (Code.cond (Operand.tmp 10) (Code.seq (Code.region 2 (reg Try.f34 2) false) Code.ret) Code.skip)) (Code.seq (Code.region 3 (reg Try.f34 3) false) (Code.seq (Code.region 4 (reg Try.f34 4) false) (Code.seq (Code.region 5 (reg Try.f34 5) false) Code.ret)))))
theorem zY.body : Try.f34.body = some zY.code := by kernel_rfl
variable (a b K L B F C G H I c d f g i j k l m n o p q r s t u v w x y z A : Value) (S : zh)
theorem zY.r0  : jd Try.prog ⟨false, false, false⟩ (zM Try.prog O) (reg Try.f34 0) (reg Try.f34 0).toList ([a,b,K,L,B,F,C,G,H,I,c,d,f,g,i,j,k,l,m,n,o,p,q,r,s,t,u,v,w,x,y,z,A]) S =
  (zA (J7 (dem a) S) (fun J D => some ([a,J,Value.slice none 0 0,Value.int IntKind.i64 0,B,F,C,G,H,I,c,d,f,g,i,j,k,l,m,n,o,p,q,r,s,t,u,v,w,x,y,z,A], D)) ()) := by
 kernel_rfl
theorem zY.r1  : jd Try.prog ⟨false, false, false⟩ (zM Try.prog O) (reg Try.f34 1) (reg Try.f34 1).toList ([a,b,K,L,B,F,C,G,H,I,c,d,f,g,i,j,k,l,m,n,o,p,q,r,s,t,u,v,w,x,y,z,A]) S =
  (zA (zO Try.prog false 28 b S) (fun J D => zA ((zM Try.prog O) 39 [(dem J)] D) (fun M N => zA (aUn Try.prog UnOp.not M N) (fun E P => some ([a,b,K,L,B,F,C,G,J,M,E,d,f,g,i,j,k,l,m,n,o,p,q,r,s,t,u,v,w,x,y,z,A], P)) ()) ()) ()) := by
 kernel_rfl
theorem zY.r2  : jd Try.prog ⟨false, false, false⟩ (zM Try.prog O) (reg Try.f34 2) (reg Try.f34 2).toList ([a,b,K,L,B,F,C,G,H,I,c,d,f,g,i,j,k,l,m,n,o,p,q,r,s,t,u,v,w,x,y,z,A]) S =
  ( some ([a,b,Value.slice none 0 0,Value.int IntKind.i64 71,B,F,C,G,H,I,c,d,f,g,i,j,k,l,m,n,o,p,q,r,s,t,u,v,w,x,y,z,A], S)) := by
 kernel_rfl
theorem zY.r3  : jd Try.prog ⟨false, false, false⟩ (zM Try.prog O) (reg Try.f34 3) (reg Try.f34 3).toList ([a,b,K,L,B,F,C,G,H,I,c,d,f,g,i,j,k,l,m,n,o,p,q,r,s,t,u,v,w,x,y,z,A]) S =
  (zA (zo Try.prog 28 b 0 S) (fun J D => zA (zO Try.prog false 3 J D) (fun M N => zA (zo Try.prog 28 b 1 N) (fun E P => zA (zO Try.prog false 3 E P) (fun Z X => zA (zo Try.prog 28 b 2 X) (fun Q Y => zA (zO Try.prog false 3 Q Y) (fun R S6 => zA (zo Try.prog 28 b 3 S6) (fun v6 S7 => zA (zO Try.prog false 3 v6 S7) (fun v7 S8 => zA (jB Try.prog 57 4 [(0, M), (1, Z), (2, R), (3, v7)] S8) (fun v8 S9 => zA ((zM Try.prog O) 32 [(dem v8)] S9) (fun U a0 => zA (zx U 0 a0) (fun V a1 => zA (zx (zH 0 U) 1 a1) (fun W a2 => some ([a,b,K,L,V,W,C,G,H,I,c,zH 1 (zH 0 U),J,M,E,Z,Q,R,v6,v7,v8,dem U,dem V,dem W,s,t,u,v,w,x,y,z,A], a2)) ()) ()) ()) ()) ()) ()) ()) ()) ()) ()) ()) ()) := by
 kernel_rfl
theorem zY.r4  : jd Try.prog ⟨false, false, false⟩ (zM Try.prog O) (reg Try.f34 4) (reg Try.f34 4).toList ([a,b,K,L,B,F,C,G,H,I,c,d,f,g,i,j,k,l,m,n,o,p,q,r,s,t,u,v,w,x,y,z,A]) S =
  (zA (zo Try.prog 28 b 4 S) (fun J D => zA (zO Try.prog false 26 J D) (fun M N => zA ((zM Try.prog O) 56 [(dem M)] N) (fun E P => zA (zx E 0 P) (fun Q X => zA (zx (zH 0 E) 1 X) (fun R Y => some ([a,b,K,L,B,F,Q,R,H,I,c,d,f,g,i,j,k,l,m,n,o,p,q,r,zH 1 (zH 0 E),J,M,dem E,dem Q,dem R,y,z,A], Y)) ()) ()) ()) ()) ()) := by
 kernel_rfl
theorem zY.r5  : jd Try.prog ⟨false, false, false⟩ (zM Try.prog O) (reg Try.f34 5) (reg Try.f34 5).toList ([a,b,K,L,B,F,C,G,H,I,c,d,f,g,i,j,k,l,m,n,o,p,q,r,s,t,u,v,w,x,y,z,A]) S =
  (zA (wB Try.prog 23 23 B (dem C) S) (fun E D => some ([a,b,E,Value.int IntKind.i64 0,dem B,F,C,G,H,I,c,d,f,g,i,j,k,l,m,n,o,p,q,r,s,t,u,v,w,x,dem B,dem C,dem E], D)) ()) := by
 kernel_rfl
theorem zY.rs : type_of% (And.intro @zY.r0 (And.intro @zY.r1 (And.intro @zY.r2 (And.intro @zY.r3 (And.intro @zY.r4 (@zY.r5)))))) := And.intro @zY.r0 (And.intro @zY.r1 (And.intro @zY.r2 (And.intro @zY.r3 (And.intro @zY.r4 (@zY.r5)))))
theorem zY.runs {a : Value} {S D : zh} {e : AEx} {T : List Value} (h : zu Try.prog O false zY.code ([a,undef,undef,undef,undef,undef,undef,undef,undef,undef,undef,undef,undef,undef,undef,undef,undef,undef,undef,undef,undef,undef,undef,undef,undef,undef,undef,undef,undef,undef,undef,undef,undef]) zh.empty = some (e, T, D)) (he : e = .normal ∨ e = .ret)  (h0 : jD (T.getD 2 undef) = true) (h1 : jD (T.getD 3 undef) = true) (hca : [a].all (jf 16) = true) (hcv : jf 16 (Value.tuple #[T.getD 2 undef, T.getD 3 undef]) = true) : zM Try.prog O 34 [a] S = some (Value.tuple #[T.getD 2 undef, T.getD 3 undef], S) :=
 wR rfl rfl Try.func34 (by decide) zY.body (by exact h) he ((yT ((show zC Try.prog T D Try.f34.results.toList = zC Try.prog T D [(ResultVar.tmp 2), (ResultVar.tmp 3)] from by kernel_rfl).trans (by simp only [zC])) (by kernel_rfl) (by simp only [List.all_cons, List.all_nil, h0, h1, Bool.and_true])).trans rfl) hca hcv
end Go.Proofs.Ytbgcphbbchndkaa
namespace Go.Proofs.Ytbgcphbbchndkaa
open Go.Abs
abbrev zF.id : FuncId := 39
noncomputable def zF.code : Code := (Code.seq (Code.region 0 (reg Try.f39 0) false) (Code.seq (Code.seq (Code.region 1 (reg Try.f39 1) false) (Code.cond (Operand.tmp 20) (Code.seq (Code.region 2 (reg Try.f39 2) false) Code.ret) Code.skip)) (Code.seq (Code.seq (Code.region 3 (reg Try.f39 3) false) (Code.cond (Operand.tmp 37) (Code.seq (Code.region 4 (reg Try.f39 4) false) Code.ret) Code.skip)) (Code.seq (Code.region 5 (reg Try.f39 5) false) (Code.seq (Code.region 6 (reg Try.f39 6) false) Code.ret)))))
theorem zF.body : Try.f39.body = some zF.code := by kernel_rfl
variable (U b x2 X V Y Z x7 x8 x9 c d f g i k l m n o p q r s t u w x y z A B C D E F G H I J K L M N P Q : Value) (S : zh)
theorem zF.r0  : jd Try.prog ⟨false, false, false⟩ (zM Try.prog O) (reg Try.f39 0) (reg Try.f39 0).toList ([U,b,x2,X,V,Y,Z,x7,x8,x9,c,d,f,g,i,k,l,m,n,o,p,q,r,s,t,u,w,x,y,z,A,B,C,D,E,F,G,H,I,J,K,L,M,N,P,Q]) S =
  (zA (J7 (dem U) S) (fun v0 W => some ([U,v0,Value.bool false,X,V,Y,Z,x7,x8,x9,c,d,f,g,i,k,l,m,n,o,p,q,r,s,t,u,w,x,y,z,A,B,C,D,E,F,G,H,I,J,K,L,M,N,P,Q], W)) ()) := by
 kernel_rfl
theorem zF.r1  : jd Try.prog ⟨false, false, false⟩ (zM Try.prog O) (reg Try.f39 1) (reg Try.f39 1).toList ([U,b,x2,X,V,Y,Z,x7,x8,x9,c,d,f,g,i,k,l,m,n,o,p,q,r,s,t,u,w,x,y,z,A,B,C,D,E,F,G,H,I,J,K,L,M,N,P,Q]) S =
  (zA (zo Try.prog 28 b 0 S) (fun v0 W => zA (zO Try.prog false 3 v0 W) (fun v1 S2 => zA ((zM Try.prog O) 57 [(dem v1), (Value.int IntKind.i64 1), (Value.int IntKind.i64 4095)] S2) (fun R S3 => zA (aUn Try.prog UnOp.not R S3) (fun v3 S4 => gdK (dem v3) false (zo Try.prog 28 b 1) S4 (fun v5 S5 => gdK (dem v3) false (zO Try.prog false 3 v5) S5 (fun v6 S6 => gdK (dem v3) false ((zM Try.prog O) 57 [(dem v6), (Value.int IntKind.i64 0), (Value.int IntKind.i64 6)]) S6 (fun v7 S7 => gdK (dem v3) false (aUn Try.prog UnOp.not v7) S7 (fun v8 S8 => zA (wY (dem v3) (Value.bool true) v8 S8) (fun v9 S9 => gdK (dem v9) false (zo Try.prog 28 b 2) S9 (fun a0 a5 => gdK (dem v9) false (zO Try.prog false 3 a0) a5 (fun a1 a6 => gdK (dem v9) false ((zM Try.prog O) 57 [(dem a1), (Value.int IntKind.i64 0), (Value.int IntKind.i64 255)]) a6 (fun a2 a7 => gdK (dem v9) false (aUn Try.prog UnOp.not a2) a7 (fun a3 a8 => zA (wY (dem v9) (Value.bool true) a3 a8) (fun a4 a9 => some ([U,b,x2,X,V,v0,v1,R,v3,dem v3,v5,v6,v7,v8,v9,dem v9,a0,a1,a2,a3,a4,q,r,s,t,u,w,x,y,z,A,B,C,D,E,F,G,H,I,J,K,L,M,N,P,Q], a9)) ()) ()) ()) ()) ()) ()) ()) ()) ()) ()) ()) ()) ()) ()) := by
 refine sD Try.f39 1 0 (fun v0 W => ?_)
 refine sD Try.f39 1 1 (fun v1 S2 => ?_)
 refine sD Try.f39 1 2 (fun R S3 => ?_)
 refine sD Try.f39 1 3 (fun v3 S4 => ?_)
 refine sP Try.f39 1 4 (v := v3) ?_
 refine sG Try.f39 1 5 (j := 4) (fun v5 S5 => ?_)
 refine sG Try.f39 1 6 (j := 4) (fun v6 S6 => ?_)
 refine sG Try.f39 1 7 (j := 4) (fun v7 S7 => ?_)
 refine sG Try.f39 1 8 (j := 4) (fun v8 S8 => ?_)
 refine sD Try.f39 1 9 (fun v9 S9 => ?_)
 refine sP Try.f39 1 10 (v := v9) ?_
 refine sG Try.f39 1 11 (j := 10) (fun a0 a5 => ?_)
 refine sG Try.f39 1 12 (j := 10) (fun a1 a6 => ?_)
 refine sG Try.f39 1 13 (j := 10) (fun a2 a7 => ?_)
 refine sG Try.f39 1 14 (j := 10) (fun a3 a8 => ?_)
 refine sD Try.f39 1 15 (fun a4 a9 => ?_)
 kernel_rfl
theorem zF.r2  : jd Try.prog ⟨false, false, false⟩ (zM Try.prog O) (reg Try.f39 2) (reg Try.f39 2).toList ([U,b,x2,X,V,Y,Z,x7,x8,x9,c,d,f,g,i,k,l,m,n,o,p,q,r,s,t,u,w,x,y,z,A,B,C,D,E,F,G,H,I,J,K,L,M,N,P,Q]) S =
  ( some ([U,b,Value.bool false,X,V,Y,Z,x7,x8,x9,c,d,f,g,i,k,l,m,n,o,p,q,r,s,t,u,w,x,y,z,A,B,C,D,E,F,G,H,I,J,K,L,M,N,P,Q], S)) := by
 kernel_rfl
theorem zF.r3  : jd Try.prog ⟨false, false, false⟩ (zM Try.prog O) (reg Try.f39 3) (reg Try.f39 3).toList ([U,b,x2,X,V,Y,Z,x7,x8,x9,c,d,f,g,i,k,l,m,n,o,p,q,r,s,t,u,w,x,y,z,A,B,C,D,E,F,G,H,I,J,K,L,M,N,P,Q]) S =
  (zA (zo Try.prog 28 b 3 S) (fun v0 W => zA (zO Try.prog false 3 v0 W) (fun v1 S2 => zA (jZ Try.prog BinOp.neq 3 v1 (Value.int IntKind.i64 0) S2) (fun R S3 => gdK (dem R) true (zo Try.prog 28 b 3) S3 (fun v4 S4 => gdK (dem R) true (zO Try.prog false 3 v4) S4 (fun v5 S5 => gdK (dem R) true ((zM Try.prog O) 58 [(dem v5)]) S5 (fun v6 S6 => gdK (dem R) true (aUn Try.prog UnOp.not v6) S6 (fun v7 S7 => gdK (dem R) true (ret v7) S7 (fun v8 S8 => gdK (dem v8) false (zo Try.prog 28 b 3) S8 (fun v9 S9 => gdK (dem v8) false (zO Try.prog false 3 v9) S9 (fun b0 a5 => gdK (dem v8) false (jZ Try.prog BinOp.quo 3 b0 (Value.int IntKind.i64 65536)) a5 (fun a0 a6 => gdK (dem v8) false (zo Try.prog 28 b 0) a6 (fun a1 a7 => gdK (dem v8) false (zO Try.prog false 3 a1) a7 (fun a2 a8 => gdK (dem v8) false (jZ Try.prog BinOp.geq 3 a0 a2) a8 (fun a3 a9 => gdK (dem R) true (wY (dem v8) (Value.bool true) a3) a9 (fun a4 b1 => zA (wY (dem R) a4 (Value.bool false) b1) (fun b2 b3 => some ([U,b,x2,X,V,Y,Z,x7,x8,x9,c,d,f,g,i,k,l,m,n,o,p,v0,v1,R,dem R,v4,v5,v6,v7,dem v8,v9,b0,a0,a1,a2,a3,a4,b2,I,J,K,L,M,N,P,Q], b3)) ()) ()) ()) ()) ()) ()) ()) ()) ()) ()) ()) ()) ()) ()) ()) ()) := by
 refine sD Try.f39 3 0 (fun v0 W => ?_)
 refine sD Try.f39 3 1 (fun v1 S2 => ?_)
 refine sD Try.f39 3 2 (fun R S3 => ?_)
 refine sP Try.f39 3 3 (v := R) ?_
 refine sG Try.f39 3 4 (j := 3) (fun v4 S4 => ?_)
 refine sG Try.f39 3 5 (j := 3) (fun v5 S5 => ?_)
 refine sG Try.f39 3 6 (j := 3) (fun v6 S6 => ?_)
 refine sG Try.f39 3 7 (j := 3) (fun v7 S7 => ?_)
 refine sG Try.f39 3 8 (j := 3) (fun v8 S8 => ?_)
 refine sG Try.f39 3 9 (j := 8) (fun v9 S9 => ?_)
 refine sG Try.f39 3 10 (j := 8) (fun b0 a5 => ?_)
 refine sG Try.f39 3 11 (j := 8) (fun a0 a6 => ?_)
 refine sG Try.f39 3 12 (j := 8) (fun a1 a7 => ?_)
 refine sG Try.f39 3 13 (j := 8) (fun a2 a8 => ?_)
 refine sG Try.f39 3 14 (j := 8) (fun a3 a9 => ?_)
 refine sG Try.f39 3 15 (j := 3) (fun a4 b1 => ?_)
 refine sD Try.f39 3 16 (fun b2 b3 => ?_)
 kernel_rfl
theorem zF.r4  : jd Try.prog ⟨false, false, false⟩ (zM Try.prog O) (reg Try.f39 4) (reg Try.f39 4).toList ([U,b,x2,X,V,Y,Z,x7,x8,x9,c,d,f,g,i,k,l,m,n,o,p,q,r,s,t,u,w,x,y,z,A,B,C,D,E,F,G,H,I,J,K,L,M,N,P,Q]) S =
  ( some ([U,b,Value.bool false,X,V,Y,Z,x7,x8,x9,c,d,f,g,i,k,l,m,n,o,p,q,r,s,t,u,w,x,y,z,A,B,C,D,E,F,G,H,I,J,K,L,M,N,P,Q], S)) := by
 kernel_rfl
theorem zF.r5  : jd Try.prog ⟨false, false, false⟩ (zM Try.prog O) (reg Try.f39 5) (reg Try.f39 5).toList ([U,b,x2,X,V,Y,Z,x7,x8,x9,c,d,f,g,i,k,l,m,n,o,p,q,r,s,t,u,w,x,y,z,A,B,C,D,E,F,G,H,I,J,K,L,M,N,P,Q]) S =
  (zA (zo Try.prog 28 b 4 S) (fun v0 W => zA (zO Try.prog false 26 v0 W) (fun v1 S2 => zA ((zM Try.prog O) 56 [(dem v1)] S2) (fun R S3 => zA (zx R 0 S3) (fun v4 S4 => zA (zx (zH 0 R) 1 S4) (fun v5 S5 => some ([U,b,x2,v4,v5,Y,Z,x7,x8,x9,c,d,f,g,i,k,l,m,n,o,p,q,r,s,t,u,w,x,y,z,A,B,C,D,E,F,G,H,zH 1 (zH 0 R),v0,v1,dem R,dem v4,dem v5,P,Q], S5)) ()) ()) ()) ()) ()) := by
 kernel_rfl
theorem zF.r6  : jd Try.prog ⟨false, false, false⟩ (zM Try.prog O) (reg Try.f39 6) (reg Try.f39 6).toList ([U,b,x2,X,V,Y,Z,x7,x8,x9,c,d,f,g,i,k,l,m,n,o,p,q,r,s,t,u,w,x,y,z,A,B,C,D,E,F,G,H,I,J,K,L,M,N,P,Q]) S =
  (zA (jZ Try.prog BinOp.eql 31 (dem V) (Value.int IntKind.i64 0) S) (fun v1 W => some ([U,b,v1,X,V,Y,Z,x7,x8,x9,c,d,f,g,i,k,l,m,n,o,p,q,r,s,t,u,w,x,y,z,A,B,C,D,E,F,G,H,I,J,K,L,M,N,dem V,dem v1], W)) ()) := by
 kernel_rfl
theorem zF.rs : type_of% (And.intro @zF.r0 (And.intro @zF.r1 (And.intro @zF.r2 (And.intro @zF.r3 (And.intro @zF.r4 (And.intro @zF.r5 (@zF.r6))))))) := And.intro @zF.r0 (And.intro @zF.r1 (And.intro @zF.r2 (And.intro @zF.r3 (And.intro @zF.r4 (And.intro @zF.r5 (@zF.r6))))))
theorem zF.runs {U : Value} {S W : zh} {e : AEx} {T : List Value} (h : zu Try.prog O false zF.code ([U,undef,undef,undef,undef,undef,undef,undef,undef,undef,undef,undef,undef,undef,undef,undef,undef,undef,undef,undef,undef,undef,undef,undef,undef,undef,undef,undef,undef,undef,undef,undef,undef,undef,undef,undef,undef,undef,undef,undef,undef,undef,undef,undef,undef,undef]) zh.empty = some (e, T, W)) (he : e = .normal ∨ e = .ret) (hca : [U].all (jf 16) = true) (hcv : jf 16 (T.getD 2 undef) = true) : zM Try.prog O 39 [U] S = some (T.getD 2 undef, S) :=
 wR rfl rfl Try.func39 (by decide) zF.body (by exact h) he (yD (a := T.getD 2 undef) ((show zC Try.prog T W Try.f39.results.toList = zC Try.prog T W [(ResultVar.tmp 2)] from by kernel_rfl).trans (by simp only [zC])) (by kernel_rfl)) hca hcv
end Go.Proofs.Ytbgcphbbchndkaa
namespace Go.Proofs.Ytbgcphbbchndkaa
open Go.Abs
abbrev zS.id : FuncId := 57
noncomputable def zS.code : Code := (Code.seq (Code.region 0 (reg Try.f57 0) false) (Code.seq (Code.region 1 (reg Try.f57 1) false) Code.ret))
theorem zS.body : Try.f57.body = some zS.code := by kernel_rfl
variable (b c d o p q z s t u i k l m n : Value) (S : zh)
theorem zS.r0  : jd Try.prog ⟨false, false, false⟩ (zM Try.prog O) (reg Try.f57 0) (reg Try.f57 0).toList ([b,c,d,o,p,q,z,s,t,u,i,k,l,m,n]) S =
  ( some ([b,c,d,o,p,q,Value.bool false,s,t,u,i,k,l,m,n], S)) := by
 kernel_rfl
theorem zS.r1  : jd Try.prog ⟨false, false, false⟩ (zM Try.prog O) (reg Try.f57 1) (reg Try.f57 1).toList ([b,c,d,o,p,q,z,s,t,u,i,k,l,m,n]) S =
  (zA (jZ Try.prog BinOp.geq 3 (dem b) (dem c) S) (fun f g => gdK (dem f) true (ret b) g (fun w A => gdK (dem f) true (ret d) A (fun x B => gdK (dem f) true (jZ Try.prog BinOp.leq 3 (dem w) (dem x)) B (fun y C => zA (wY (dem f) y (Value.bool false) C) (fun r D => some ([b,c,d,o,p,q,r,dem b,dem c,f,dem f,dem w,dem x,y,dem r], D)) ()) ()) ()) ()) ()) := by
 refine sP Try.f57 1 0 (v := b) ?_
 refine sP Try.f57 1 1 (v := c) ?_
 refine sD Try.f57 1 2 (fun f g => ?_)
 refine sP Try.f57 1 3 (v := f) ?_
 refine sG Try.f57 1 4 (j := 3) (fun w A => ?_)
 refine sG Try.f57 1 5 (j := 3) (fun x B => ?_)
 refine sG Try.f57 1 6 (j := 3) (fun y C => ?_)
 refine sD Try.f57 1 7 (fun r D => ?_)
 refine sP Try.f57 1 8 (v := r) ?_
 kernel_rfl
theorem zS.rs : type_of% (And.intro @zS.r0 (@zS.r1)) := And.intro @zS.r0 (@zS.r1)
theorem zS.runs {b c d : Value} {S g : zh} {e : AEx} {T : List Value} (h : zu Try.prog O false zS.code ([b,c,d,undef,undef,undef,undef,undef,undef,undef,undef,undef,undef,undef,undef]) S = some (e, T, g)) (he : e = .normal ∨ e = .ret) : zM Try.prog O 57 [b, c, d] S = some (T.getD 6 undef, g) :=
 yX rfl rfl Try.func57 (by decide) zS.body (by exact h) he (yD (a := T.getD 6 undef) ((show zC Try.prog T g Try.f57.results.toList = zC Try.prog T g [(ResultVar.tmp 6)] from by kernel_rfl).trans (by simp only [zC])) (by kernel_rfl))
end Go.Proofs.Ytbgcphbbchndkaa
namespace Go.Proofs.Ytbgcphbbchndkaa
open Go.Abs
abbrev ji.id : FuncId := 58
noncomputable def ji.code : Code := (Code.seq (Code.region 0 (reg Try.f58 0) false) (Code.seq (Code.region 1 (reg Try.f58 1) false) Code.ret))
theorem ji.body : Try.f58.body = some ji.code := by kernel_rfl
variable (b g w k l m n o p q f : Value) (S : zh)
theorem ji.r0  : jd Try.prog ⟨false, false, false⟩ (zM Try.prog O) (reg Try.f58 0) (reg Try.f58 0).toList ([b,g,w,k,l,m,n,o,p,q,f]) S =
  ( some ([b,g,Value.bool false,k,l,m,n,o,p,q,f], S)) := by
 kernel_rfl
theorem ji.r1  : jd Try.prog ⟨false, false, false⟩ (zM Try.prog O) (reg Try.f58 1) (reg Try.f58 1).toList ([b,g,w,k,l,m,n,o,p,q,f]) S =
  (zA ((zM Try.prog O) 57 [(dem (dem b)), (Value.int IntKind.i64 65536), (Value.int IntKind.i64 268435455)] S) (fun c d => gdK (dem c) true (ret b) d (fun r x => gdK (dem c) true (jZ Try.prog BinOp.rem 3 (dem r) (Value.int IntKind.i64 65536)) x (fun s y => gdK (dem c) true (jZ Try.prog BinOp.quo 3 s (Value.int IntKind.i64 256)) y (fun t z => gdK (dem c) true (jZ Try.prog BinOp.lss 3 t (Value.int IntKind.i64 7)) z (fun u A => zA (wY (dem c) u (Value.bool false) A) (fun i B => some ([b,g,i,dem b,c,dem c,dem r,s,t,u,dem i], B)) ()) ()) ()) ()) ()) ()) := by
 refine sP Try.f58 1 0 (v := b) ?_
 refine sD Try.f58 1 1 (fun c d => ?_)
 refine sP Try.f58 1 2 (v := c) ?_
 refine sG Try.f58 1 3 (j := 2) (fun r x => ?_)
 refine sG Try.f58 1 4 (j := 2) (fun s y => ?_)
 refine sG Try.f58 1 5 (j := 2) (fun t z => ?_)
 refine sG Try.f58 1 6 (j := 2) (fun u A => ?_)
 refine sD Try.f58 1 7 (fun i B => ?_)
 refine sP Try.f58 1 8 (v := i) ?_
 kernel_rfl
theorem ji.rs : type_of% (And.intro @ji.r0 (@ji.r1)) := And.intro @ji.r0 (@ji.r1)
theorem ji.runs {b : Value} {S d : zh} {e : AEx} {T : List Value} (h : zu Try.prog O false ji.code ([b,undef,undef,undef,undef,undef,undef,undef,undef,undef,undef]) S = some (e, T, d)) (he : e = .normal ∨ e = .ret) : zM Try.prog O 58 [b] S = some (T.getD 2 undef, d) :=
 yX rfl rfl Try.func58 (by decide) ji.body (by exact h) he (yD (a := T.getD 2 undef) ((show zC Try.prog T d Try.f58.results.toList = zC Try.prog T d [(ResultVar.tmp 2)] from by kernel_rfl).trans (by simp only [zC])) (by kernel_rfl))
end Go.Proofs.Ytbgcphbbchndkaa
namespace Go.Proofs.Ytbgcphbbchndkaa
open Go.Abs
abbrev jw.id : FuncId := 59
noncomputable def jw.code : Code := (Code.seq (Code.region 0 (reg Try.f59 0) false) (Code.seq (Code.seq (Code.region 1 (reg Try.f59 1) false) (Code.cond (Operand.tmp 5) (Code.seq (Code.region 2 (reg Try.f59 2) false) Code.ret) Code.skip)) (Code.seq (Code.region 3 (reg Try.f59 3) false) Code.ret)))
theorem jw.body : Try.f59.body = some jw.code := by kernel_rfl
variable (b c l f g i j k : Value) (S : zh)
theorem jw.r0  : jd Try.prog ⟨false, false, false⟩ (zM Try.prog O) (reg Try.f59 0) (reg Try.f59 0).toList ([b,c,l,f,g,i,j,k]) S =
  ( some ([b,c,Value.int IntKind.i64 0,f,g,i,j,k], S)) := by
 kernel_rfl
theorem jw.r1  : jd Try.prog ⟨false, false, false⟩ (zM Try.prog O) (reg Try.f59 1) (reg Try.f59 1).toList ([b,c,l,f,g,i,j,k]) S =
  (zA ((zM Try.prog O) 58 [(dem (dem b))] S) (fun m d => zA (aUn Try.prog UnOp.not m d) (fun n o => some ([b,c,l,dem b,m,n,j,k], o)) ()) ()) := by
 kernel_rfl
theorem jw.r2  : jd Try.prog ⟨false, false, false⟩ (zM Try.prog O) (reg Try.f59 2) (reg Try.f59 2).toList ([b,c,l,f,g,i,j,k]) S =
  ( some ([b,c,Value.int IntKind.i64 0,f,g,i,j,k], S)) := by
 kernel_rfl
theorem jw.r3  : jd Try.prog ⟨false, false, false⟩ (zM Try.prog O) (reg Try.f59 3) (reg Try.f59 3).toList ([b,c,l,f,g,i,j,k]) S =
  (zA (jZ Try.prog BinOp.quo 3 (dem b) (Value.int IntKind.i64 65536) S) (fun m d => some ([b,c,m,f,g,i,dem b,dem m], d)) ()) := by
 kernel_rfl
theorem jw.rs : type_of% (And.intro @jw.r0 (And.intro @jw.r1 (And.intro @jw.r2 (@jw.r3)))) := And.intro @jw.r0 (And.intro @jw.r1 (And.intro @jw.r2 (@jw.r3)))
theorem jw.runs {b : Value} {S d : zh} {e : AEx} {T : List Value} (h : zu Try.prog O false jw.code ([b,undef,undef,undef,undef,undef,undef,undef]) S = some (e, T, d)) (he : e = .normal ∨ e = .ret) : zM Try.prog O 59 [b] S = some (T.getD 2 undef, d) :=
 yX rfl rfl Try.func59 (by decide) jw.body (by exact h) he (yD (a := T.getD 2 undef) ((show zC Try.prog T d Try.f59.results.toList = zC Try.prog T d [(ResultVar.tmp 2)] from by kernel_rfl).trans (by simp only [zC])) (by kernel_rfl))
end Go.Proofs.Ytbgcphbbchndkaa
namespace Go.Proofs.Ytbgcphbbchndkaa
open Go.Abs
def btw (n a b : Int) : Bool := decide (a ≤ n) && decide (n ≤ b)
theorem adP {n a b : Int} : btw n a b = true ↔ a ≤ n ∧ n ≤ b := by simp [btw]
def vW (n : Int) : Bool := btw n 65536 268435455 && decide (n % 65536 / 256 < 7)
theorem Zr {n : Int} : vW n = true ↔ 65536 ≤ n ∧ n ≤ 268435455 ∧ n % 65536 / 256 < 7 := by simp [vW, btw, and_assoc]
def Jl (n : Int) : Int := if vW n = true then n / 65536 else 0
theorem afr {n m : Int} (h : 0 ≤ n) : n.tmod m = n % m := Int.tmod_eq_emod_of_nonneg h
theorem Kw {n m : Int} (h : 0 ≤ n) : n.tdiv m = n / m := Int.tdiv_eq_ediv_of_nonneg h
theorem XI : (65536 : Int) ≠ 0 := by decide
theorem aji : (256 : Int) ≠ 0 := by decide
theorem zS.v (n a b : Int) (S : zh) : zM Try.prog O zS.id [.int .i64 n, .int .i64 a, .int .i64 b] S = some (.bool (btw n a b), S) := by
 obtain ⟨T, hTe⟩ : ∃ T, T = (.int .i64 n :: .int .i64 a :: .int .i64 b :: undef :: undef :: undef :: undef :: undef :: undef :: undef :: undef :: undef :: undef :: undef :: undef :: []) := ⟨_, rfl⟩
 have hr : zu Try.prog O false zS.code T S = zu Try.prog O false zS.code T S := rfl
 unfold btw
 by_cases h1 : a ≤ n
 ·
  conv at hr =>
   rhs
   rw [hTe]
   simp only [zS.code, zS.rs, zSs, reduceIte, Nat.reduceEqDiff, Int.reduceEq, Int.reduceLT, Int.reduceLE, decide_eq_true h1]
  rw [decide_eq_true h1, Bool.true_and]
  rw [hTe] at hr
  exact zS.runs hr (.inr rfl)
 ·
  conv at hr =>
   rhs
   rw [hTe]
   simp only [zS.code, zS.rs, zSs, reduceIte, Nat.reduceEqDiff, Int.reduceEq, Int.reduceLT, Int.reduceLE, decide_eq_false h1]
  rw [decide_eq_false h1, Bool.false_and]
  rw [hTe] at hr
  exact zS.runs hr (.inr rfl)
theorem ji.v (n : Int) (S : zh) : zM Try.prog O ji.id [.int .i64 n] S = some (.bool (vW n), S) := by
 obtain ⟨T, hTe⟩ : ∃ T, T = (.int .i64 n :: undef :: undef :: undef :: undef :: undef :: undef :: undef :: undef :: undef :: undef :: []) := ⟨_, rfl⟩
 have hr : zu Try.prog O false ji.code T S = zu Try.prog O false ji.code T S := rfl
 unfold vW
 cases h1 : btw n 65536 268435455
 ·
  conv at hr =>
   rhs
   rw [hTe]
   simp only [ji.code, ji.rs, zSs, reduceIte, Nat.reduceEqDiff, Int.reduceEq, Int.reduceLT, Int.reduceLE, zS.v, h1]
  rw [hTe] at hr
  exact ji.runs hr (.inr rfl)
 ·
  have hb := adP.mp h1
  have q1 : IntKind.i64.wrap ((n.tmod 65536).tdiv 256) = n % 65536 / 256 := by
   rw [afr (by omega), Kw (by omega), wrap_i64 (by omega) (by omega)]
  conv at hr =>
   rhs
   rw [hTe]
   simp only [ji.code, ji.rs, zSs, reduceIte, Nat.reduceEqDiff, Int.reduceEq, Int.reduceLT, Int.reduceLE, zS.v, h1, afn _ _ _ XI, JD _ _ _ aji, q1]
  rw [hTe] at hr
  rw [Bool.true_and]
  exact ji.runs hr (.inr rfl)
theorem jw.v (n : Int) (S : zh) : zM Try.prog O jw.id [.int .i64 n] S = some (.int .i64 (Jl n), S) := by
 obtain ⟨T, hTe⟩ : ∃ T, T = (.int .i64 n :: undef :: undef :: undef :: undef :: undef :: undef :: undef :: []) := ⟨_, rfl⟩
 have hr : zu Try.prog O false jw.code T S = zu Try.prog O false jw.code T S := rfl
 unfold Jl
 cases h1 : vW n
 ·
  conv at hr =>
   rhs
   rw [hTe]
   simp only [jw.code, jw.rs, zSs, reduceIte, Nat.reduceEqDiff, Int.reduceEq, Int.reduceLT, Int.reduceLE, ji.v, h1]
  rw [hTe] at hr
  exact jw.runs hr (.inr rfl)
 ·
  have hb := Zr.mp h1
  have q1 : IntKind.i64.wrap (n.tdiv 65536) = n / 65536 := by
   rw [Kw (by omega), wrap_i64 (by omega) (by omega)]
  conv at hr =>
   rhs
   rw [hTe]
   simp only [jw.code, jw.rs, zSs, reduceIte, Nat.reduceEqDiff, Int.reduceEq, Int.reduceLT, Int.reduceLE, ji.v, h1, JD _ _ _ XI, q1]
  rw [hTe] at hr
  exact jw.runs hr (.inr rfl)
end Go.Proofs.Ytbgcphbbchndkaa
namespace Go.Proofs.Ytbgcphbbchndkaa
open Go.Abs
abbrev zn.id : FuncId := 65
noncomputable def zn.jJ : Code := (Code.seq (Code.region 6 (reg Try.f65 6) false) (Code.seq (Code.cond (Operand.tmp 35) Code.skip (Code.exit 0)) (Code.seq (Code.block 1 (Code.seq (Code.region 7 (reg Try.f65 7) false) (Code.seq (Code.seq (Code.region 8 (reg Try.f65 8) false) (Code.cond (Operand.tmp 43) (Code.seq (Code.region 9 (reg Try.f65 9) false) Code.ret) Code.skip)) (Code.seq (Code.region 10 (reg Try.f65 10) false) (Code.region 11 (reg Try.f65 11) false))))) (Code.region 12 (reg Try.f65 12) false))))
noncomputable def zn.code : Code := (Code.seq (Code.region 0 (reg Try.f65 0) false) (Code.seq (Code.region 1 (reg Try.f65 1) false) (Code.seq (Code.seq (Code.region 2 (reg Try.f65 2) false) (Code.cond (Operand.tmp 30) (Code.seq (Code.region 3 (reg Try.f65 3) false) Code.ret) Code.skip)) (Code.seq (Code.region 4 (reg Try.f65 4) false) (Code.seq (Code.seq (Code.region 5 (reg Try.f65 5) false) (Code.block 0 (Code.loop zn.jJ))) (Code.seq (Code.seq (Code.region 13 (reg Try.f65 13) false) (Code.cond (Operand.tmp 57) (Code.seq (Code.region 14 (reg Try.f65 14) false) Code.ret) Code.skip)) (Code.seq (Code.region 15 (reg Try.f65 15) false) Code.ret)))))))
theorem zn.body : Try.f65.body = some zn.code := by kernel_rfl
theorem zn.eta {T : List Value} (h : T.length = 59) : T = [T.getD 0 undef,T.getD 1 undef,T.getD 2 undef,T.getD 3 undef,T.getD 4 undef,T.getD 5 undef,T.getD 6 undef,T.getD 7 undef,T.getD 8 undef,T.getD 9 undef,T.getD 10 undef,T.getD 11 undef,T.getD 12 undef,T.getD 13 undef,T.getD 14 undef,T.getD 15 undef,T.getD 16 undef,T.getD 17 undef,T.getD 18 undef,T.getD 19 undef,T.getD 20 undef,T.getD 21 undef,T.getD 22 undef,T.getD 23 undef,T.getD 24 undef,T.getD 25 undef,T.getD 26 undef,T.getD 27 undef,T.getD 28 undef,T.getD 29 undef,T.getD 30 undef,T.getD 31 undef,T.getD 32 undef,T.getD 33 undef,T.getD 34 undef,T.getD 35 undef,T.getD 36 undef,T.getD 37 undef,T.getD 38 undef,T.getD 39 undef,T.getD 40 undef,T.getD 41 undef,T.getD 42 undef,T.getD 43 undef,T.getD 44 undef,T.getD 45 undef,T.getD 46 undef,T.getD 47 undef,T.getD 48 undef,T.getD 49 undef,T.getD 50 undef,T.getD 51 undef,T.getD 52 undef,T.getD 53 undef,T.getD 54 undef,T.getD 55 undef,T.getD 56 undef,T.getD 57 undef,T.getD 58 undef] := (kE T 59 h).trans (by kernel_rfl)
variable (x0 x1 x2 x3 x4 x5 x6 x7 x8 x9 a d f g i k l m n o p q r s t u w x y z A B C b c D E F G H I J K L M N P Q R U V W X Y Z a0 a1 a2 a3 : Value) (S : zh)
theorem zn.r0  : jd Try.prog ⟨false, false, false⟩ (zM Try.prog O) (reg Try.f65 0) (reg Try.f65 0).toList ([x0,x1,x2,x3,x4,x5,x6,x7,x8,x9,a,d,f,g,i,k,l,m,n,o,p,q,r,s,t,u,w,x,y,z,A,B,C,b,c,D,E,F,G,H,I,J,K,L,M,N,P,Q,R,U,V,W,X,Y,Z,a0,a1,a2,a3]) S =
  ( some ([x0,x1,Value.slice none 0 0,Value.int IntKind.i64 0,x4,x5,x6,x7,x8,x9,a,d,f,g,i,k,l,m,n,o,p,q,r,s,t,u,w,x,y,z,A,B,C,b,c,D,E,F,G,H,I,J,K,L,M,N,P,Q,R,U,V,W,X,Y,Z,a0,a1,a2,a3], S)) := by
 kernel_rfl
theorem zn.r1  : jd Try.prog ⟨false, false, false⟩ (zM Try.prog O) (reg Try.f65 1) (reg Try.f65 1).toList ([x0,x1,x2,x3,x4,x5,x6,x7,x8,x9,a,d,f,g,i,k,l,m,n,o,p,q,r,s,t,u,w,x,y,z,A,B,C,b,c,D,E,F,G,H,I,J,K,L,M,N,P,Q,R,U,V,W,X,Y,Z,a0,a1,a2,a3]) S =
  (zA ((zM Try.prog O) 51 [(dem (dem x0)), (Value.int IntKind.i64 1)] S) (fun v1 S1 => zA (zx v1 0 S1) (fun v3 S2 => zA (zx (zH 0 v1) 1 S2) (fun v4 S3 => zA (zx (zH 1 (zH 0 v1)) 2 S3) (fun v5 S4 => some ([x0,x1,x2,x3,v3,v4,v5,x7,x8,x9,a,zH 2 (zH 1 (zH 0 v1)),dem x0,dem v1,dem v3,dem v4,dem v5,m,n,o,p,q,r,s,t,u,w,x,y,z,A,B,C,b,c,D,E,F,G,H,I,J,K,L,M,N,P,Q,R,U,V,W,X,Y,Z,a0,a1,a2,a3], S4)) ()) ()) ()) ()) := by
 kernel_rfl
theorem zn.r2  : jd Try.prog ⟨false, false, false⟩ (zM Try.prog O) (reg Try.f65 2) (reg Try.f65 2).toList ([x0,x1,x2,x3,x4,x5,x6,x7,x8,x9,a,d,f,g,i,k,l,m,n,o,p,q,r,s,t,u,w,x,y,z,A,B,C,b,c,D,E,F,G,H,I,J,K,L,M,N,P,Q,R,U,V,W,X,Y,Z,a0,a1,a2,a3]) S =
  (zA (jZ Try.prog BinOp.neq 31 (dem x6) (Value.int IntKind.i64 0) S) (fun v1 S1 => gdK (dem v1) false (ret x4) S1 (fun v3 S2 => gdK (dem v1) false (zW Try.prog 57 (dem v3) (Value.int IntKind.i64 0)) S2 (fun v4 S3 => gdK (dem v1) false (zO Try.prog false 3 v4) S3 (fun v5 S4 => gdK (dem v1) false (jZ Try.prog BinOp.lss 3 v5 (Value.int IntKind.i64 0)) S4 (fun v6 S5 => zA (wY (dem v1) (Value.bool true) v6 S5) (fun v7 S6 => gdK (dem v7) false (ret x4) S6 (fun v9 S7 => gdK (dem v7) false (zW Try.prog 57 (dem v9) (Value.int IntKind.i64 0)) S7 (fun a4 S8 => gdK (dem v7) false (zO Try.prog false 3 a4) S8 (fun a5 S9 => gdK (dem v7) false (jZ Try.prog BinOp.gtr 3 a5 (Value.int IntKind.i64 3)) S9 (fun a6 a7 => zA (wY (dem v7) (Value.bool true) a6 a7) (fun a8 a9 => some ([x0,x1,x2,x3,x4,x5,x6,x7,x8,x9,a,d,f,g,i,k,l,dem x6,v1,dem v1,dem v3,v4,v5,v6,v7,dem v7,dem v9,a4,a5,a6,a8,B,C,b,c,D,E,F,G,H,I,J,K,L,M,N,P,Q,R,U,V,W,X,Y,Z,a0,a1,a2,a3], a9)) ()) ()) ()) ()) ()) ()) ()) ()) ()) ()) ()) := by
 refine sP Try.f65 2 0 (v := x6) ?_
 refine sD Try.f65 2 1 (fun v1 S1 => ?_)
 refine sP Try.f65 2 2 (v := v1) ?_
 refine sG Try.f65 2 3 (j := 2) (fun v3 S2 => ?_)
 refine sG Try.f65 2 4 (j := 2) (fun v4 S3 => ?_)
 refine sG Try.f65 2 5 (j := 2) (fun v5 S4 => ?_)
 refine sG Try.f65 2 6 (j := 2) (fun v6 S5 => ?_)
 refine sD Try.f65 2 7 (fun v7 S6 => ?_)
 refine sP Try.f65 2 8 (v := v7) ?_
 refine sG Try.f65 2 9 (j := 8) (fun v9 S7 => ?_)
 refine sG Try.f65 2 10 (j := 8) (fun a4 S8 => ?_)
 refine sG Try.f65 2 11 (j := 8) (fun a5 S9 => ?_)
 refine sG Try.f65 2 12 (j := 8) (fun a6 a7 => ?_)
 refine sD Try.f65 2 13 (fun a8 a9 => ?_)
 kernel_rfl
theorem zn.r3  : jd Try.prog ⟨false, false, false⟩ (zM Try.prog O) (reg Try.f65 3) (reg Try.f65 3).toList ([x0,x1,x2,x3,x4,x5,x6,x7,x8,x9,a,d,f,g,i,k,l,m,n,o,p,q,r,s,t,u,w,x,y,z,A,B,C,b,c,D,E,F,G,H,I,J,K,L,M,N,P,Q,R,U,V,W,X,Y,Z,a0,a1,a2,a3]) S =
  ( some ([x0,x1,Value.slice none 0 0,Value.int IntKind.i64 61,x4,x5,x6,x7,x8,x9,a,d,f,g,i,k,l,m,n,o,p,q,r,s,t,u,w,x,y,z,A,B,C,b,c,D,E,F,G,H,I,J,K,L,M,N,P,Q,R,U,V,W,X,Y,Z,a0,a1,a2,a3], S)) := by
 kernel_rfl
theorem zn.r4  : jd Try.prog ⟨false, false, false⟩ (zM Try.prog O) (reg Try.f65 4) (reg Try.f65 4).toList ([x0,x1,x2,x3,x4,x5,x6,x7,x8,x9,a,d,f,g,i,k,l,m,n,o,p,q,r,s,t,u,w,x,y,z,A,B,C,b,c,D,E,F,G,H,I,J,K,L,M,N,P,Q,R,U,V,W,X,Y,Z,a0,a1,a2,a3]) S =
  ( some ([x0,x1,x2,x3,x4,x5,x6,Value.slice none 0 0,x8,x9,a,d,f,g,i,k,l,m,n,o,p,q,r,s,t,u,w,x,y,z,A,B,C,b,c,D,E,F,G,H,I,J,K,L,M,N,P,Q,R,U,V,W,X,Y,Z,a0,a1,a2,a3], S)) := by
 kernel_rfl
theorem zn.r5  : jd Try.prog ⟨false, false, false⟩ (zM Try.prog O) (reg Try.f65 5) (reg Try.f65 5).toList ([x0,x1,x2,x3,x4,x5,x6,x7,x8,x9,a,d,f,g,i,k,l,m,n,o,p,q,r,s,t,u,w,x,y,z,A,B,C,b,c,D,E,F,G,H,I,J,K,L,M,N,P,Q,R,U,V,W,X,Y,Z,a0,a1,a2,a3]) S =
  (zA (zW Try.prog 57 (dem x4) (Value.int IntKind.i64 0) S) (fun v1 S1 => zA (zO Try.prog false 3 v1 S1) (fun v2 S2 => some ([x0,x1,x2,x3,x4,x5,x6,x7,x8,x9,a,d,f,g,i,k,l,m,n,o,p,q,r,s,t,u,w,x,y,z,A,dem x4,v1,v2,Value.int IntKind.i64 0,D,E,F,G,H,I,J,K,L,M,N,P,Q,R,U,V,W,X,Y,Z,a0,a1,a2,a3], S2)) ()) ()) := by
 kernel_rfl
theorem zn.r6  : jd Try.prog ⟨false, false, false⟩ (zM Try.prog O) (reg Try.f65 6) (reg Try.f65 6).toList ([x0,x1,x2,x3,x4,x5,x6,x7,x8,x9,a,d,f,g,i,k,l,m,n,o,p,q,r,s,t,u,w,x,y,z,A,B,C,b,c,D,E,F,G,H,I,J,K,L,M,N,P,Q,R,U,V,W,X,Y,Z,a0,a1,a2,a3]) S =
  (zA (jZ Try.prog BinOp.lss 3 c b S) (fun v0 S1 => some ([x0,x1,x2,x3,x4,x5,x6,x7,x8,x9,a,d,f,g,i,k,l,m,n,o,p,q,r,s,t,u,w,x,y,z,A,B,C,b,c,v0,E,F,G,H,I,J,K,L,M,N,P,Q,R,U,V,W,X,Y,Z,a0,a1,a2,a3], S1)) ()) := by
 kernel_rfl
theorem zn.r7  : jd Try.prog ⟨false, false, false⟩ (zM Try.prog O) (reg Try.f65 7) (reg Try.f65 7).toList ([x0,x1,x2,x3,x4,x5,x6,x7,x8,x9,a,d,f,g,i,k,l,m,n,o,p,q,r,s,t,u,w,x,y,z,A,B,C,b,c,D,E,F,G,H,I,J,K,L,M,N,P,Q,R,U,V,W,X,Y,Z,a0,a1,a2,a3]) S =
  (zA ((zM Try.prog O) 64 [(dem (dem x5))] S) (fun v1 S1 => zA (zx v1 0 S1) (fun v3 S2 => zA (zx (zH 0 v1) 1 S2) (fun v4 S3 => zA (zx (zH 1 (zH 0 v1)) 2 S3) (fun v5 S4 => zA (wG Try.prog 25 S4) (fun v6 S5 => zA (jO Try.prog 25 v6 (dem v3) S5) (fun v7 S6 => some ([x0,x1,x2,x3,x4,x5,x6,x7,v6,v4,v5,d,f,g,i,k,l,m,n,o,p,q,r,s,t,u,w,x,y,z,A,B,C,b,c,D,zH 2 (zH 1 (zH 0 v1)),dem x5,dem v1,v3,dem v4,dem v5,K,L,M,N,P,Q,R,U,V,W,X,Y,Z,a0,a1,a2,a3], S6)) ()) ()) ()) ()) ()) ()) := by
 kernel_rfl
theorem zn.r8  : jd Try.prog ⟨false, false, false⟩ (zM Try.prog O) (reg Try.f65 8) (reg Try.f65 8).toList ([x0,x1,x2,x3,x4,x5,x6,x7,x8,x9,a,d,f,g,i,k,l,m,n,o,p,q,r,s,t,u,w,x,y,z,A,B,C,b,c,D,E,F,G,H,I,J,K,L,M,N,P,Q,R,U,V,W,X,Y,Z,a0,a1,a2,a3]) S =
  (zA (aUn Try.prog UnOp.not (dem a) S) (fun v1 S1 => some ([x0,x1,x2,x3,x4,x5,x6,x7,x8,x9,a,d,f,g,i,k,l,m,n,o,p,q,r,s,t,u,w,x,y,z,A,B,C,b,c,D,E,F,G,H,I,J,dem a,v1,M,N,P,Q,R,U,V,W,X,Y,Z,a0,a1,a2,a3], S1)) ()) := by
 kernel_rfl
theorem zn.r9  : jd Try.prog ⟨false, false, false⟩ (zM Try.prog O) (reg Try.f65 9) (reg Try.f65 9).toList ([x0,x1,x2,x3,x4,x5,x6,x7,x8,x9,a,d,f,g,i,k,l,m,n,o,p,q,r,s,t,u,w,x,y,z,A,B,C,b,c,D,E,F,G,H,I,J,K,L,M,N,P,Q,R,U,V,W,X,Y,Z,a0,a1,a2,a3]) S =
  ( some ([x0,x1,Value.slice none 0 0,Value.int IntKind.i64 61,x4,x5,x6,x7,x8,x9,a,d,f,g,i,k,l,m,n,o,p,q,r,s,t,u,w,x,y,z,A,B,C,b,c,D,E,F,G,H,I,J,K,L,M,N,P,Q,R,U,V,W,X,Y,Z,a0,a1,a2,a3], S)) := by
 kernel_rfl
theorem zn.r10  : jd Try.prog ⟨false, false, false⟩ (zM Try.prog O) (reg Try.f65 10) (reg Try.f65 10).toList ([x0,x1,x2,x3,x4,x5,x6,x7,x8,x9,a,d,f,g,i,k,l,m,n,o,p,q,r,s,t,u,w,x,y,z,A,B,C,b,c,D,E,F,G,H,I,J,K,L,M,N,P,Q,R,U,V,W,X,Y,Z,a0,a1,a2,a3]) S =
  (zA (zO Try.prog false 25 x8 S) (fun v1 S1 => zA (jB Try.prog 26 1 [(0, v1)] S1) (fun v2 S2 => zA (wB Try.prog 26 26 x7 v2 S2) (fun v3 S3 => some ([x0,x1,x2,x3,x4,x5,x6,v3,x8,x9,a,d,f,g,i,k,l,m,n,o,p,q,r,s,t,u,w,x,y,z,A,B,C,b,c,D,E,F,G,H,I,J,K,L,dem x7,v1,v2,dem v3,R,U,V,W,X,Y,Z,a0,a1,a2,a3], S3)) ()) ()) ()) := by
 kernel_rfl
theorem zn.r11  : jd Try.prog ⟨false, false, false⟩ (zM Try.prog O) (reg Try.f65 11) (reg Try.f65 11).toList ([x0,x1,x2,x3,x4,x5,x6,x7,x8,x9,a,d,f,g,i,k,l,m,n,o,p,q,r,s,t,u,w,x,y,z,A,B,C,b,c,D,E,F,G,H,I,J,K,L,M,N,P,Q,R,U,V,W,X,Y,Z,a0,a1,a2,a3]) S =
  ( some ([x0,x1,x2,x3,x4,x9,x6,x7,x8,dem x9,a,d,f,g,i,k,l,m,n,o,p,q,r,s,t,u,w,x,y,z,A,B,C,b,c,D,E,F,G,H,I,J,K,L,M,N,P,Q,dem x9,U,V,W,X,Y,Z,a0,a1,a2,a3], S)) := by
 kernel_rfl
theorem zn.r12  : jd Try.prog ⟨false, false, false⟩ (zM Try.prog O) (reg Try.f65 12) (reg Try.f65 12).toList ([x0,x1,x2,x3,x4,x5,x6,x7,x8,x9,a,d,f,g,i,k,l,m,n,o,p,q,r,s,t,u,w,x,y,z,A,B,C,b,c,D,E,F,G,H,I,J,K,L,M,N,P,Q,R,U,V,W,X,Y,Z,a0,a1,a2,a3]) S =
  (zA (jZ Try.prog BinOp.add 3 c (Value.int IntKind.i64 1) S) (fun v0 S1 => some ([x0,x1,x2,x3,x4,x5,x6,x7,x8,x9,a,d,f,g,i,k,l,m,n,o,p,q,r,s,t,u,w,x,y,z,A,B,C,b,dem v0,D,E,F,G,H,I,J,K,L,M,N,P,Q,R,v0,V,W,X,Y,Z,a0,a1,a2,a3], S1)) ()) := by
 kernel_rfl
theorem zn.r13  : jd Try.prog ⟨false, false, false⟩ (zM Try.prog O) (reg Try.f65 13) (reg Try.f65 13).toList ([x0,x1,x2,x3,x4,x5,x6,x7,x8,x9,a,d,f,g,i,k,l,m,n,o,p,q,r,s,t,u,w,x,y,z,A,B,C,b,c,D,E,F,G,H,I,J,K,L,M,N,P,Q,R,U,V,W,X,Y,Z,a0,a1,a2,a3]) S =
  (zA (Jc Try.prog 23 (dem x5) S) (fun v1 S1 => zA (jZ Try.prog BinOp.gtr 3 v1 (Value.int IntKind.i64 0) S1) (fun v2 S2 => gdK (dem v2) false (ret x7) S2 (fun v4 S3 => gdK (dem v2) false ((zM Try.prog O) 66 [(dem (dem v4))]) S3 (fun v5 S4 => gdK (dem v2) false (aUn Try.prog UnOp.not v5) S4 (fun v6 S5 => zA (wY (dem v2) (Value.bool true) v6 S5) (fun v7 S6 => some ([x0,x1,x2,x3,x4,x5,x6,x7,x8,x9,a,d,f,g,i,k,l,m,n,o,p,q,r,s,t,u,w,x,y,z,A,B,C,b,c,D,E,F,G,H,I,J,K,L,M,N,P,Q,R,U,dem x5,v1,v2,dem v2,dem v4,v5,v6,v7,a3], S6)) ()) ()) ()) ()) ()) ()) := by
 refine sP Try.f65 13 0 (v := x5) ?_
 refine sD Try.f65 13 1 (fun v1 S1 => ?_)
 refine sD Try.f65 13 2 (fun v2 S2 => ?_)
 refine sP Try.f65 13 3 (v := v2) ?_
 refine sG Try.f65 13 4 (j := 3) (fun v4 S3 => ?_)
 refine sG Try.f65 13 5 (j := 3) (fun v5 S4 => ?_)
 refine sG Try.f65 13 6 (j := 3) (fun v6 S5 => ?_)
 refine sD Try.f65 13 7 (fun v7 S6 => ?_)
 kernel_rfl
theorem zn.r14  : jd Try.prog ⟨false, false, false⟩ (zM Try.prog O) (reg Try.f65 14) (reg Try.f65 14).toList ([x0,x1,x2,x3,x4,x5,x6,x7,x8,x9,a,d,f,g,i,k,l,m,n,o,p,q,r,s,t,u,w,x,y,z,A,B,C,b,c,D,E,F,G,H,I,J,K,L,M,N,P,Q,R,U,V,W,X,Y,Z,a0,a1,a2,a3]) S =
  ( some ([x0,x1,Value.slice none 0 0,Value.int IntKind.i64 61,x4,x5,x6,x7,x8,x9,a,d,f,g,i,k,l,m,n,o,p,q,r,s,t,u,w,x,y,z,A,B,C,b,c,D,E,F,G,H,I,J,K,L,M,N,P,Q,R,U,V,W,X,Y,Z,a0,a1,a2,a3], S)) := by
 kernel_rfl
theorem zn.r15  : jd Try.prog ⟨false, false, false⟩ (zM Try.prog O) (reg Try.f65 15) (reg Try.f65 15).toList ([x0,x1,x2,x3,x4,x5,x6,x7,x8,x9,a,d,f,g,i,k,l,m,n,o,p,q,r,s,t,u,w,x,y,z,A,B,C,b,c,D,E,F,G,H,I,J,K,L,M,N,P,Q,R,U,V,W,X,Y,Z,a0,a1,a2,a3]) S =
  ( some ([x0,x1,x7,Value.int IntKind.i64 0,x4,x5,x6,dem x7,x8,x9,a,d,f,g,i,k,l,m,n,o,p,q,r,s,t,u,w,x,y,z,A,B,C,b,c,D,E,F,G,H,I,J,K,L,M,N,P,Q,R,U,V,W,X,Y,Z,a0,a1,a2,dem x7], S)) := by
 kernel_rfl
theorem zn.rs : type_of% (And.intro @zn.r0 (And.intro @zn.r1 (And.intro @zn.r2 (And.intro @zn.r3 (And.intro @zn.r4 (And.intro @zn.r5 (And.intro @zn.r6 (And.intro @zn.r7 (And.intro @zn.r8 (And.intro @zn.r9 (And.intro @zn.r10 (And.intro @zn.r11 (And.intro @zn.r12 (And.intro @zn.r13 (And.intro @zn.r14 (@zn.r15)))))))))))))))) := And.intro @zn.r0 (And.intro @zn.r1 (And.intro @zn.r2 (And.intro @zn.r3 (And.intro @zn.r4 (And.intro @zn.r5 (And.intro @zn.r6 (And.intro @zn.r7 (And.intro @zn.r8 (And.intro @zn.r9 (And.intro @zn.r10 (And.intro @zn.r11 (And.intro @zn.r12 (And.intro @zn.r13 (And.intro @zn.r14 (@zn.r15)))))))))))))))
theorem zn.runs {x0 : Value} {S S1 : zh} {e : AEx} {T : List Value} (h : zu Try.prog O false zn.code ([x0,undef,undef,undef,undef,undef,undef,undef,undef,undef,undef,undef,undef,undef,undef,undef,undef,undef,undef,undef,undef,undef,undef,undef,undef,undef,undef,undef,undef,undef,undef,undef,undef,undef,undef,undef,undef,undef,undef,undef,undef,undef,undef,undef,undef,undef,undef,undef,undef,undef,undef,undef,undef,undef,undef,undef,undef,undef,undef]) zh.empty = some (e, T, S1)) (he : e = .normal ∨ e = .ret)  (h0 : jD (T.getD 2 undef) = true) (h1 : jD (T.getD 3 undef) = true) (hca : [x0].all (jf 16) = true) (hcv : jf 16 (Value.tuple #[T.getD 2 undef, T.getD 3 undef]) = true) : zM Try.prog O 65 [x0] S = some (Value.tuple #[T.getD 2 undef, T.getD 3 undef], S) :=
 wR rfl rfl Try.func65 (by decide) zn.body (by exact h) he ((yT ((show zC Try.prog T S1 Try.f65.results.toList = zC Try.prog T S1 [(ResultVar.tmp 2), (ResultVar.tmp 3)] from by kernel_rfl).trans (by simp only [zC])) (by kernel_rfl) (by simp only [List.all_cons, List.all_nil, h0, h1, Bool.and_true])).trans rfl) hca hcv
end Go.Proofs.Ytbgcphbbchndkaa
namespace Go.Proofs.Ytbgcphbbchndkaa
open Go.Abs
abbrev slices_Equal.id : FuncId := 60
noncomputable def slices_Equal.jJ : Code := (Code.seq (Code.region 4 (reg Try.f60 4) false) (Code.seq (Code.cond (Operand.tmp 14) Code.skip (Code.exit 0)) (Code.seq (Code.block 1 (Code.seq (Code.region 5 (reg Try.f60 5) false) (Code.seq (Code.region 6 (reg Try.f60 6) true) (Code.cond (Operand.tmp 24) (Code.seq (Code.region 7 (reg Try.f60 7) false) Code.ret) Code.skip)))) (Code.region 8 (reg Try.f60 8) false))))
noncomputable def slices_Equal.code : Code := (Code.seq (Code.region 0 (reg Try.f60 0) false) (Code.seq (Code.seq (Code.region 1 (reg Try.f60 1) false) (Code.cond (Operand.tmp 10) (Code.seq (Code.region 2 (reg Try.f60 2) false) Code.ret) Code.skip)) (Code.seq (Code.seq (Code.region 3 (reg Try.f60 3) false) (Code.block 0 (Code.loop slices_Equal.jJ))) (Code.seq (Code.region 9 (reg Try.f60 9) false) Code.ret))))
theorem slices_Equal.body : Try.f60.body = some slices_Equal.code := by kernel_rfl
theorem slices_Equal.eta {T : List Value} (h : T.length = 26) : T = [T.getD 0 undef,T.getD 1 undef,T.getD 2 undef,T.getD 3 undef,T.getD 4 undef,T.getD 5 undef,T.getD 6 undef,T.getD 7 undef,T.getD 8 undef,T.getD 9 undef,T.getD 10 undef,T.getD 11 undef,T.getD 12 undef,T.getD 13 undef,T.getD 14 undef,T.getD 15 undef,T.getD 16 undef,T.getD 17 undef,T.getD 18 undef,T.getD 19 undef,T.getD 20 undef,T.getD 21 undef,T.getD 22 undef,T.getD 23 undef,T.getD 24 undef,T.getD 25 undef] := (kE T 26 h).trans (by kernel_rfl)
variable (d u x y D w z A B C f g c b i j k l m n o p q r s t : Value) (S : zh)
theorem slices_Equal.r0  : jd Try.prog ⟨false, false, false⟩ (zM Try.prog O) (reg Try.f60 0) (reg Try.f60 0).toList ([d,u,x,y,D,w,z,A,B,C,f,g,c,b,i,j,k,l,m,n,o,p,q,r,s,t]) S =
  ( some ([d,u,x,y,Value.bool false,w,z,A,B,C,f,g,c,b,i,j,k,l,m,n,o,p,q,r,s,t], S)) := by
 kernel_rfl
theorem slices_Equal.r1  : jd Try.prog ⟨false, false, false⟩ (zM Try.prog O) (reg Try.f60 1) (reg Try.f60 1).toList ([d,u,x,y,D,w,z,A,B,C,f,g,c,b,i,j,k,l,m,n,o,p,q,r,s,t]) S =
  (zA (Jc Try.prog 26 (dem d) S) (fun G E => zA (Jc Try.prog 26 (dem u) E) (fun F H => zA (jZ Try.prog BinOp.neq 3 G F H) (fun R I => some ([d,u,x,y,D,w,dem d,G,dem u,F,R,g,c,b,i,j,k,l,m,n,o,p,q,r,s,t], I)) ()) ()) ()) := by
 kernel_rfl
theorem slices_Equal.r2  : jd Try.prog ⟨false, false, false⟩ (zM Try.prog O) (reg Try.f60 2) (reg Try.f60 2).toList ([d,u,x,y,D,w,z,A,B,C,f,g,c,b,i,j,k,l,m,n,o,p,q,r,s,t]) S =
  ( some ([d,u,x,y,Value.bool false,w,z,A,B,C,f,g,c,b,i,j,k,l,m,n,o,p,q,r,s,t], S)) := by
 kernel_rfl
theorem slices_Equal.r3  : jd Try.prog ⟨false, false, false⟩ (zM Try.prog O) (reg Try.f60 3) (reg Try.f60 3).toList ([d,u,x,y,D,w,z,A,B,C,f,g,c,b,i,j,k,l,m,n,o,p,q,r,s,t]) S =
  (zA (Jc Try.prog 26 (dem d) S) (fun G E => some ([d,u,x,y,D,w,z,A,B,C,f,dem d,G,Value.int IntKind.i64 0,i,j,k,l,m,n,o,p,q,r,s,t], E)) ()) := by
 kernel_rfl
theorem slices_Equal.r4  : jd Try.prog ⟨false, false, false⟩ (zM Try.prog O) (reg Try.f60 4) (reg Try.f60 4).toList ([d,u,x,y,D,w,z,A,B,C,f,g,c,b,i,j,k,l,m,n,o,p,q,r,s,t]) S =
  (zA (jZ Try.prog BinOp.lss 3 b c S) (fun J E => some ([d,u,x,y,D,w,z,A,B,C,f,g,c,b,J,j,k,l,m,n,o,p,q,r,s,t], E)) ()) := by
 kernel_rfl
theorem slices_Equal.r5  : jd Try.prog ⟨false, false, false⟩ (zM Try.prog O) (reg Try.f60 5) (reg Try.f60 5).toList ([d,u,x,y,D,w,z,A,B,C,f,g,c,b,i,j,k,l,m,n,o,p,q,r,s,t]) S =
  ( some ([d,u,x,y,D,b,z,A,B,C,f,g,c,dem b,i,dem b,k,l,m,n,o,p,q,r,s,t], S)) := by
 kernel_rfl
theorem slices_Equal.d6 : ku Try.prog (reg Try.f60 6) = true := by kernel_rfl
theorem slices_Equal.ff6 : fixed Try.prog (reg Try.f60 6) = false := by kernel_rfl
theorem slices_Equal.k6 : checked Try.prog (reg Try.f60 6) = [] := by kernel_rfl
theorem slices_Equal.g6 : again Try.prog (reg Try.f60 6) = [] := by kernel_rfl
theorem slices_Equal.r6  : zu Try.prog O false (.region 6 (reg Try.f60 6) true) ([d,u,x,y,D,w,z,A,B,C,f,g,c,b,i,j,k,l,m,n,o,p,q,r,s,t]) S =
  WL (zA (zW Try.prog 26 (dem d) (dem w) S) (fun K E => zA (zO Try.prog false 25 K E) (fun F H => zA (zW Try.prog 26 (dem u) (dem w) H) (fun L I => zA (zO Try.prog false 25 L I) (fun M N => zA (jZ Try.prog BinOp.neq 25 F M N) (fun P Q => some ([d,u,x,y,D,w,z,A,B,C,f,g,c,b,i,j,dem d,dem w,K,F,dem u,dem w,L,M,P,t], Q)) ()) ()) ()) ()) ()) := by
 rw [yQ slices_Equal.d6 slices_Equal.ff6 slices_Equal.k6 slices_Equal.g6]
 refine congrArg WL ?_
 refine tP Try.f60 6 0 (v := d) ?_
 refine tP Try.f60 6 1 (v := w) ?_
 refine tD Try.f60 6 2 (fun K E => ?_)
 refine tD Try.f60 6 3 (fun F H => ?_)
 refine tP Try.f60 6 4 (v := u) ?_
 refine tP Try.f60 6 5 (v := w) ?_
 refine tD Try.f60 6 6 (fun L I => ?_)
 refine tD Try.f60 6 7 (fun M N => ?_)
 refine tD Try.f60 6 8 (fun P Q => ?_)
 kernel_rfl
theorem slices_Equal.r7  : jd Try.prog ⟨false, false, false⟩ (zM Try.prog O) (reg Try.f60 7) (reg Try.f60 7).toList ([d,u,x,y,D,w,z,A,B,C,f,g,c,b,i,j,k,l,m,n,o,p,q,r,s,t]) S =
  ( some ([d,u,x,y,Value.bool false,w,z,A,B,C,f,g,c,b,i,j,k,l,m,n,o,p,q,r,s,t], S)) := by
 kernel_rfl
theorem slices_Equal.r8  : jd Try.prog ⟨false, false, false⟩ (zM Try.prog O) (reg Try.f60 8) (reg Try.f60 8).toList ([d,u,x,y,D,w,z,A,B,C,f,g,c,b,i,j,k,l,m,n,o,p,q,r,s,t]) S =
  (zA (jZ Try.prog BinOp.add 3 b (Value.int IntKind.i64 1) S) (fun J E => some ([d,u,x,y,D,w,z,A,B,C,f,g,c,dem J,i,j,k,l,m,n,o,p,q,r,s,J], E)) ()) := by
 kernel_rfl
theorem slices_Equal.r9  : jd Try.prog ⟨false, false, false⟩ (zM Try.prog O) (reg Try.f60 9) (reg Try.f60 9).toList ([d,u,x,y,D,w,z,A,B,C,f,g,c,b,i,j,k,l,m,n,o,p,q,r,s,t]) S =
  ( some ([d,u,x,y,Value.bool true,w,z,A,B,C,f,g,c,b,i,j,k,l,m,n,o,p,q,r,s,t], S)) := by
 kernel_rfl
theorem slices_Equal.rs : type_of% (And.intro @slices_Equal.r0 (And.intro @slices_Equal.r1 (And.intro @slices_Equal.r2 (And.intro @slices_Equal.r3 (And.intro @slices_Equal.r4 (And.intro @slices_Equal.r5 (And.intro @slices_Equal.r6 (And.intro @slices_Equal.r7 (And.intro @slices_Equal.r8 (@slices_Equal.r9)))))))))) := And.intro @slices_Equal.r0 (And.intro @slices_Equal.r1 (And.intro @slices_Equal.r2 (And.intro @slices_Equal.r3 (And.intro @slices_Equal.r4 (And.intro @slices_Equal.r5 (And.intro @slices_Equal.r6 (And.intro @slices_Equal.r7 (And.intro @slices_Equal.r8 (@slices_Equal.r9)))))))))
theorem slices_Equal.runs {d u : Value} {S E : zh} {e : AEx} {T : List Value} (h : zu Try.prog O false slices_Equal.code ([d,u,undef,undef,undef,undef,undef,undef,undef,undef,undef,undef,undef,undef,undef,undef,undef,undef,undef,undef,undef,undef,undef,undef,undef,undef]) S = some (e, T, E)) (he : e = .normal ∨ e = .ret) : zM Try.prog O 60 [d, u] S = some (T.getD 4 undef, E) :=
 yX rfl rfl Try.func60 (by decide) slices_Equal.body (by exact h) he (yD (a := T.getD 4 undef) ((show zC Try.prog T E Try.f60.results.toList = zC Try.prog T E [(ResultVar.tmp 4)] from by kernel_rfl).trans (by simp only [zC])) (by kernel_rfl))
end Go.Proofs.Ytbgcphbbchndkaa
namespace Go.Proofs.Ytbgcphbbchndkaa
open Go.Abs
abbrev zK.id : FuncId := 66
noncomputable def zK.jJ : Code := (Code.seq (Code.region 3 (reg Try.f66 3) false) (Code.seq (Code.cond (Operand.tmp 10) Code.skip (Code.exit 0)) (Code.seq (Code.block 1 (Code.seq (Code.region 4 (reg Try.f66 4) false) (Code.seq (Code.seq (Code.region 5 (reg Try.f66 5) false) (Code.cond (Operand.tmp 16) (Code.seq (Code.region 6 (reg Try.f66 6) false) Code.ret) Code.skip)) (Code.region 7 (reg Try.f66 7) false)))) (Code.region 8 (reg Try.f66 8) false))))
noncomputable def zK.code : Code := (Code.seq (Code.region 0 (reg Try.f66 0) false) (Code.seq (Code.region 1 (reg Try.f66 1) false) (Code.seq (Code.seq (Code.region 2 (reg Try.f66 2) false) (Code.block 0 (Code.loop zK.jJ))) (Code.seq (Code.region 9 (reg Try.f66 9) false) Code.ret))))
theorem zK.body : Try.f66.body = some zK.code := by kernel_rfl
theorem zK.eta {T : List Value} (h : T.length = 24) : T = [T.getD 0 undef,T.getD 1 undef,T.getD 2 undef,T.getD 3 undef,T.getD 4 undef,T.getD 5 undef,T.getD 6 undef,T.getD 7 undef,T.getD 8 undef,T.getD 9 undef,T.getD 10 undef,T.getD 11 undef,T.getD 12 undef,T.getD 13 undef,T.getD 14 undef,T.getD 15 undef,T.getD 16 undef,T.getD 17 undef,T.getD 18 undef,T.getD 19 undef,T.getD 20 undef,T.getD 21 undef,T.getD 22 undef,T.getD 23 undef] := (kE T 24 h).trans (by kernel_rfl)
variable (r v B s w t z x y u b c d f g i j k l m n o p q : Value) (S : zh)
theorem zK.r0  : jd Try.prog ⟨false, false, false⟩ (zM Try.prog O) (reg Try.f66 0) (reg Try.f66 0).toList ([r,v,B,s,w,t,z,x,y,u,b,c,d,f,g,i,j,k,l,m,n,o,p,q]) S =
  ( some ([r,v,Value.bool false,s,w,t,z,x,y,u,b,c,d,f,g,i,j,k,l,m,n,o,p,q], S)) := by
 kernel_rfl
theorem zK.r1  : jd Try.prog ⟨false, false, false⟩ (zM Try.prog O) (reg Try.f66 1) (reg Try.f66 1).toList ([r,v,B,s,w,t,z,x,y,u,b,c,d,f,g,i,j,k,l,m,n,o,p,q]) S =
  (zA (kX Try.prog 100 none S) (fun E A => some ([r,v,B,E,w,t,dem E,x,y,u,b,c,d,f,g,i,j,k,l,m,n,o,p,q], A)) ()) := by
 kernel_rfl
theorem zK.r2  : jd Try.prog ⟨false, false, false⟩ (zM Try.prog O) (reg Try.f66 2) (reg Try.f66 2).toList ([r,v,B,s,w,t,z,x,y,u,b,c,d,f,g,i,j,k,l,m,n,o,p,q]) S =
  (zA (Jc Try.prog 26 (dem r) S) (fun C A => some ([r,v,B,s,w,t,z,dem r,C,Value.int IntKind.i64 0,b,c,d,f,g,i,j,k,l,m,n,o,p,q], A)) ()) := by
 kernel_rfl
theorem zK.r3  : jd Try.prog ⟨false, false, false⟩ (zM Try.prog O) (reg Try.f66 3) (reg Try.f66 3).toList ([r,v,B,s,w,t,z,x,y,u,b,c,d,f,g,i,j,k,l,m,n,o,p,q]) S =
  (zA (jZ Try.prog BinOp.lss 3 u y S) (fun E A => some ([r,v,B,s,w,t,z,x,y,u,E,c,d,f,g,i,j,k,l,m,n,o,p,q], A)) ()) := by
 kernel_rfl
theorem zK.r4  : jd Try.prog ⟨false, false, false⟩ (zM Try.prog O) (reg Try.f66 4) (reg Try.f66 4).toList ([r,v,B,s,w,t,z,x,y,u,b,c,d,f,g,i,j,k,l,m,n,o,p,q]) S =
  (zA (zW Try.prog 26 x u S) (fun E A => zA (zO Try.prog false 25 E A) (fun C F => zA (wG Try.prog 25 F) (fun D G => zA (jO Try.prog 25 D (dem C) G) (fun H I => some ([r,v,B,s,w,D,z,x,y,u,b,E,C,f,g,i,j,k,l,m,n,o,p,q], I)) ()) ()) ()) ()) := by
 kernel_rfl
theorem zK.r5  : jd Try.prog ⟨false, false, false⟩ (zM Try.prog O) (reg Try.f66 5) (reg Try.f66 5).toList ([r,v,B,s,w,t,z,x,y,u,b,c,d,f,g,i,j,k,l,m,n,o,p,q]) S =
  (zA (zo Try.prog 25 t 0 S) (fun C A => zA (zO Try.prog false 3 C A) (fun D F => zA (xQ Try.prog false 100 (dem s) D false F) (fun H G => some ([r,v,B,s,w,t,z,x,y,u,b,c,d,dem s,C,D,H,k,l,m,n,o,p,q], G)) ()) ()) ()) := by
 kernel_rfl
theorem zK.r6  : jd Try.prog ⟨false, false, false⟩ (zM Try.prog O) (reg Try.f66 6) (reg Try.f66 6).toList ([r,v,B,s,w,t,z,x,y,u,b,c,d,f,g,i,j,k,l,m,n,o,p,q]) S =
  ( some ([r,v,Value.bool false,s,w,t,z,x,y,u,b,c,d,f,g,i,j,k,l,m,n,o,p,q], S)) := by
 kernel_rfl
theorem zK.r7  : jd Try.prog ⟨false, false, false⟩ (zM Try.prog O) (reg Try.f66 7) (reg Try.f66 7).toList ([r,v,B,s,w,t,z,x,y,u,b,c,d,f,g,i,j,k,l,m,n,o,p,q]) S =
  (zA (zo Try.prog 25 t 0 S) (fun C A => zA (zO Try.prog false 3 C A) (fun D F => zA (wS Try.prog 100 (dem s) D (Value.bool true) F) (fun H G => some ([r,v,B,s,w,t,z,x,y,u,b,c,d,f,g,i,j,dem s,C,D,n,o,p,q], G)) ()) ()) ()) := by
 kernel_rfl
theorem zK.r8  : jd Try.prog ⟨false, false, false⟩ (zM Try.prog O) (reg Try.f66 8) (reg Try.f66 8).toList ([r,v,B,s,w,t,z,x,y,u,b,c,d,f,g,i,j,k,l,m,n,o,p,q]) S =
  (zA (jZ Try.prog BinOp.add 3 u (Value.int IntKind.i64 1) S) (fun E A => some ([r,v,B,s,w,t,z,x,y,dem E,b,c,d,f,g,i,j,k,l,m,E,o,p,q], A)) ()) := by
 kernel_rfl
theorem zK.r9  : jd Try.prog ⟨false, false, false⟩ (zM Try.prog O) (reg Try.f66 9) (reg Try.f66 9).toList ([r,v,B,s,w,t,z,x,y,u,b,c,d,f,g,i,j,k,l,m,n,o,p,q]) S =
  (zA (Jc Try.prog 26 (dem r) S) (fun C A => zA (jZ Try.prog BinOp.leq 3 C (Value.int IntKind.i64 3) A) (fun D F => some ([r,v,D,s,w,t,z,x,y,u,b,c,d,f,g,i,j,k,l,m,n,dem r,C,dem D], F)) ()) ()) := by
 kernel_rfl
theorem zK.rs : type_of% (And.intro @zK.r0 (And.intro @zK.r1 (And.intro @zK.r2 (And.intro @zK.r3 (And.intro @zK.r4 (And.intro @zK.r5 (And.intro @zK.r6 (And.intro @zK.r7 (And.intro @zK.r8 (@zK.r9)))))))))) := And.intro @zK.r0 (And.intro @zK.r1 (And.intro @zK.r2 (And.intro @zK.r3 (And.intro @zK.r4 (And.intro @zK.r5 (And.intro @zK.r6 (And.intro @zK.r7 (And.intro @zK.r8 (@zK.r9)))))))))
theorem zK.runs {r : Value} {S A : zh} {e : AEx} {T : List Value} (h : zu Try.prog O false zK.code ([r,undef,undef,undef,undef,undef,undef,undef,undef,undef,undef,undef,undef,undef,undef,undef,undef,undef,undef,undef,undef,undef,undef,undef]) zh.empty = some (e, T, A)) (he : e = .normal ∨ e = .ret) (hca : [r].all (jf 16) = true) (hcv : jf 16 (T.getD 2 undef) = true) : zM Try.prog O 66 [r] S = some (T.getD 2 undef, S) :=
 wR rfl rfl Try.func66 (by decide) zK.body (by exact h) he (yD (a := T.getD 2 undef) ((show zC Try.prog T A Try.f66.results.toList = zC Try.prog T A [(ResultVar.tmp 2)] from by kernel_rfl).trans (by simp only [zC])) (by kernel_rfl)) hca hcv
end Go.Proofs.Ytbgcphbbchndkaa
namespace Go.Proofs.Ytbgcphbbchndkaa
open Go.Abs
abbrev zT.id : FuncId := 56
noncomputable def zT.jJ : Code := (Code.seq (Code.region 5 (reg Try.f56 5) false) (Code.seq (Code.cond (Operand.tmp 23) Code.skip (Code.exit 0)) (Code.seq (Code.block 1 (Code.seq (Code.region 6 (reg Try.f56 6) false) (Code.seq (Code.region 7 (reg Try.f56 7) false) (Code.seq (Code.seq (Code.region 8 (reg Try.f56 8) false) (Code.cond (Operand.tmp 32) (Code.seq (Code.region 9 (reg Try.f56 9) false) Code.ret) Code.skip)) (Code.region 10 (reg Try.f56 10) false))))) (Code.region 11 (reg Try.f56 11) false))))
noncomputable def zT.code : Code := (Code.seq (Code.region 0 (reg Try.f56 0) false) (Code.seq (Code.seq (Code.region 1 (reg Try.f56 1) false) (Code.cond (Operand.tmp 12) (Code.seq (Code.region 2 (reg Try.f56 2) false) Code.ret) Code.skip)) (Code.seq (Code.region 3 (reg Try.f56 3) false) (Code.seq (Code.seq (Code.region 4 (reg Try.f56 4) false) (Code.block 0 (Code.loop zT.jJ))) (Code.seq (Code.region 12 (reg Try.f56 12) false) Code.ret)))))
theorem zT.body : Try.f56.body = some zT.code := by kernel_rfl
theorem zT.eta {T : List Value} (h : T.length = 39) : T = [T.getD 0 undef,T.getD 1 undef,T.getD 2 undef,T.getD 3 undef,T.getD 4 undef,T.getD 5 undef,T.getD 6 undef,T.getD 7 undef,T.getD 8 undef,T.getD 9 undef,T.getD 10 undef,T.getD 11 undef,T.getD 12 undef,T.getD 13 undef,T.getD 14 undef,T.getD 15 undef,T.getD 16 undef,T.getD 17 undef,T.getD 18 undef,T.getD 19 undef,T.getD 20 undef,T.getD 21 undef,T.getD 22 undef,T.getD 23 undef,T.getD 24 undef,T.getD 25 undef,T.getD 26 undef,T.getD 27 undef,T.getD 28 undef,T.getD 29 undef,T.getD 30 undef,T.getD 31 undef,T.getD 32 undef,T.getD 33 undef,T.getD 34 undef,T.getD 35 undef,T.getD 36 undef,T.getD 37 undef,T.getD 38 undef] := (kE T 39 h).trans (by kernel_rfl)
variable (F J N P H M K L I G d f g i j k l m n o b c a p q r s t u v w x y z A B C D E : Value) (S : zh)
theorem zT.r0  : jd Try.prog ⟨false, false, false⟩ (zM Try.prog O) (reg Try.f56 0) (reg Try.f56 0).toList ([F,J,N,P,H,M,K,L,I,G,d,f,g,i,j,k,l,m,n,o,b,c,a,p,q,r,s,t,u,v,w,x,y,z,A,B,C,D,E]) S =
  ( some ([F,J,Value.slice none 0 0,Value.int IntKind.i64 0,H,M,K,L,I,G,d,f,g,i,j,k,l,m,n,o,b,c,a,p,q,r,s,t,u,v,w,x,y,z,A,B,C,D,E], S)) := by
 kernel_rfl
theorem zT.r1  : jd Try.prog ⟨false, false, false⟩ (zM Try.prog O) (reg Try.f56 1) (reg Try.f56 1).toList ([F,J,N,P,H,M,K,L,I,G,d,f,g,i,j,k,l,m,n,o,b,c,a,p,q,r,s,t,u,v,w,x,y,z,A,B,C,D,E]) S =
  (zA ((zM Try.prog O) 66 [(dem (dem F))] S) (fun R Q => zA (aUn Try.prog UnOp.not R Q) (fun U X => some ([F,J,N,P,H,M,K,L,I,G,dem F,R,U,i,j,k,l,m,n,o,b,c,a,p,q,r,s,t,u,v,w,x,y,z,A,B,C,D,E], X)) ()) ()) := by
 kernel_rfl
theorem zT.r2  : jd Try.prog ⟨false, false, false⟩ (zM Try.prog O) (reg Try.f56 2) (reg Try.f56 2).toList ([F,J,N,P,H,M,K,L,I,G,d,f,g,i,j,k,l,m,n,o,b,c,a,p,q,r,s,t,u,v,w,x,y,z,A,B,C,D,E]) S =
  ( some ([F,J,Value.slice none 0 0,Value.int IntKind.i64 61,H,M,K,L,I,G,d,f,g,i,j,k,l,m,n,o,b,c,a,p,q,r,s,t,u,v,w,x,y,z,A,B,C,D,E], S)) := by
 kernel_rfl
theorem zT.r3  : jd Try.prog ⟨false, false, false⟩ (zM Try.prog O) (reg Try.f56 3) (reg Try.f56 3).toList ([F,J,N,P,H,M,K,L,I,G,d,f,g,i,j,k,l,m,n,o,b,c,a,p,q,r,s,t,u,v,w,x,y,z,A,B,C,D,E]) S =
  (zA (Jc Try.prog 26 (dem F) S) (fun R Q => zA (jB Try.prog 57 1 [(0, R)] Q) (fun U X => zA ((zM Try.prog O) 32 [(dem U)] X) (fun W Y => zA (zx W 0 Y) (fun v5 Z => zA (zx (zH 0 W) 1 Z) (fun v6 S5 => some ([F,J,N,P,v5,v6,K,L,I,G,d,f,g,zH 1 (zH 0 W),dem F,R,U,dem W,dem v5,dem v6,b,c,a,p,q,r,s,t,u,v,w,x,y,z,A,B,C,D,E], S5)) ()) ()) ()) ()) ()) := by
 kernel_rfl
theorem zT.r4  : jd Try.prog ⟨false, false, false⟩ (zM Try.prog O) (reg Try.f56 4) (reg Try.f56 4).toList ([F,J,N,P,H,M,K,L,I,G,d,f,g,i,j,k,l,m,n,o,b,c,a,p,q,r,s,t,u,v,w,x,y,z,A,B,C,D,E]) S =
  (zA (Jc Try.prog 26 (dem F) S) (fun R Q => some ([F,J,N,P,H,M,K,L,I,G,d,f,g,i,j,k,l,m,n,o,dem F,R,Value.int IntKind.i64 0,p,q,r,s,t,u,v,w,x,y,z,A,B,C,D,E], Q)) ()) := by
 kernel_rfl
theorem zT.r5  : jd Try.prog ⟨false, false, false⟩ (zM Try.prog O) (reg Try.f56 5) (reg Try.f56 5).toList ([F,J,N,P,H,M,K,L,I,G,d,f,g,i,j,k,l,m,n,o,b,c,a,p,q,r,s,t,u,v,w,x,y,z,A,B,C,D,E]) S =
  (zA (jZ Try.prog BinOp.lss 3 a c S) (fun V Q => some ([F,J,N,P,H,M,K,L,I,G,d,f,g,i,j,k,l,m,n,o,b,c,a,V,q,r,s,t,u,v,w,x,y,z,A,B,C,D,E], Q)) ()) := by
 kernel_rfl
theorem zT.r6  : jd Try.prog ⟨false, false, false⟩ (zM Try.prog O) (reg Try.f56 6) (reg Try.f56 6).toList ([F,J,N,P,H,M,K,L,I,G,d,f,g,i,j,k,l,m,n,o,b,c,a,p,q,r,s,t,u,v,w,x,y,z,A,B,C,D,E]) S =
  (zA (zW Try.prog 26 b a S) (fun V Q => zA (zO Try.prog false 25 V Q) (fun R X => zA (wG Try.prog 25 X) (fun U Y => zA (jO Try.prog 25 U (dem R) Y) (fun W Z => some ([F,J,N,P,H,M,K,U,I,G,d,f,g,i,j,k,l,m,n,o,b,c,a,p,V,R,s,t,u,v,w,x,y,z,A,B,C,D,E], Z)) ()) ()) ()) ()) := by
 kernel_rfl
theorem zT.r7  : jd Try.prog ⟨false, false, false⟩ (zM Try.prog O) (reg Try.f56 7) (reg Try.f56 7).toList ([F,J,N,P,H,M,K,L,I,G,d,f,g,i,j,k,l,m,n,o,b,c,a,p,q,r,s,t,u,v,w,x,y,z,A,B,C,D,E]) S =
  (zA (zO Try.prog false 25 L S) (fun V Q => zA ((zM Try.prog O) 33 [(dem V)] Q) (fun R X => zA (zx R 0 X) (fun W Y => zA (zx (zH 0 R) 1 Y) (fun v4 Z => some ([F,J,N,P,H,M,K,L,W,v4,d,f,g,i,j,k,l,m,n,o,b,c,a,p,q,r,zH 1 (zH 0 R),V,dem R,dem W,dem v4,x,y,z,A,B,C,D,E], Z)) ()) ()) ()) ()) := by
 kernel_rfl
theorem zT.r8  : jd Try.prog ⟨false, false, false⟩ (zM Try.prog O) (reg Try.f56 8) (reg Try.f56 8).toList ([F,J,N,P,H,M,K,L,I,G,d,f,g,i,j,k,l,m,n,o,b,c,a,p,q,r,s,t,u,v,w,x,y,z,A,B,C,D,E]) S =
  (zA (jZ Try.prog BinOp.neq 31 (dem G) (Value.int IntKind.i64 0) S) (fun R Q => some ([F,J,N,P,H,M,K,L,I,G,d,f,g,i,j,k,l,m,n,o,b,c,a,p,q,r,s,t,u,v,w,dem G,R,z,A,B,C,D,E], Q)) ()) := by
 kernel_rfl
theorem zT.r9  : jd Try.prog ⟨false, false, false⟩ (zM Try.prog O) (reg Try.f56 9) (reg Try.f56 9).toList ([F,J,N,P,H,M,K,L,I,G,d,f,g,i,j,k,l,m,n,o,b,c,a,p,q,r,s,t,u,v,w,x,y,z,A,B,C,D,E]) S =
  ( some ([F,J,Value.slice none 0 0,G,H,M,K,L,I,dem G,d,f,g,i,j,k,l,m,n,o,b,c,a,p,q,r,s,t,u,v,w,x,y,dem G,A,B,C,D,E], S)) := by
 kernel_rfl
theorem zT.r10  : jd Try.prog ⟨false, false, false⟩ (zM Try.prog O) (reg Try.f56 10) (reg Try.f56 10).toList ([F,J,N,P,H,M,K,L,I,G,d,f,g,i,j,k,l,m,n,o,b,c,a,p,q,r,s,t,u,v,w,x,y,z,A,B,C,D,E]) S =
  (zA (wB Try.prog 23 23 H (dem I) S) (fun U Q => some ([F,J,N,P,U,M,K,L,I,G,d,f,g,i,j,k,l,m,n,o,b,c,a,p,q,r,s,t,u,v,w,x,y,z,dem H,dem I,dem U,D,E], Q)) ()) := by
 kernel_rfl
theorem zT.r11  : jd Try.prog ⟨false, false, false⟩ (zM Try.prog O) (reg Try.f56 11) (reg Try.f56 11).toList ([F,J,N,P,H,M,K,L,I,G,d,f,g,i,j,k,l,m,n,o,b,c,a,p,q,r,s,t,u,v,w,x,y,z,A,B,C,D,E]) S =
  (zA (jZ Try.prog BinOp.add 3 a (Value.int IntKind.i64 1) S) (fun V Q => some ([F,J,N,P,H,M,K,L,I,G,d,f,g,i,j,k,l,m,n,o,b,c,dem V,p,q,r,s,t,u,v,w,x,y,z,A,B,C,V,E], Q)) ()) := by
 kernel_rfl
theorem zT.r12  : jd Try.prog ⟨false, false, false⟩ (zM Try.prog O) (reg Try.f56 12) (reg Try.f56 12).toList ([F,J,N,P,H,M,K,L,I,G,d,f,g,i,j,k,l,m,n,o,b,c,a,p,q,r,s,t,u,v,w,x,y,z,A,B,C,D,E]) S =
  ( some ([F,J,H,Value.int IntKind.i64 0,dem H,M,K,L,I,G,d,f,g,i,j,k,l,m,n,o,b,c,a,p,q,r,s,t,u,v,w,x,y,z,A,B,C,D,dem H], S)) := by
 kernel_rfl
theorem zT.rs : type_of% (And.intro @zT.r0 (And.intro @zT.r1 (And.intro @zT.r2 (And.intro @zT.r3 (And.intro @zT.r4 (And.intro @zT.r5 (And.intro @zT.r6 (And.intro @zT.r7 (And.intro @zT.r8 (And.intro @zT.r9 (And.intro @zT.r10 (And.intro @zT.r11 (@zT.r12))))))))))))) := And.intro @zT.r0 (And.intro @zT.r1 (And.intro @zT.r2 (And.intro @zT.r3 (And.intro @zT.r4 (And.intro @zT.r5 (And.intro @zT.r6 (And.intro @zT.r7 (And.intro @zT.r8 (And.intro @zT.r9 (And.intro @zT.r10 (And.intro @zT.r11 (@zT.r12))))))))))))
theorem zT.runs {F : Value} {S Q : zh} {e : AEx} {T : List Value} (h : zu Try.prog O false zT.code ([F,undef,undef,undef,undef,undef,undef,undef,undef,undef,undef,undef,undef,undef,undef,undef,undef,undef,undef,undef,undef,undef,undef,undef,undef,undef,undef,undef,undef,undef,undef,undef,undef,undef,undef,undef,undef,undef,undef]) zh.empty = some (e, T, Q)) (he : e = .normal ∨ e = .ret)  (h0 : jD (T.getD 2 undef) = true) (h1 : jD (T.getD 3 undef) = true) (hca : [F].all (jf 16) = true) (hcv : jf 16 (Value.tuple #[T.getD 2 undef, T.getD 3 undef]) = true) : zM Try.prog O 56 [F] S = some (Value.tuple #[T.getD 2 undef, T.getD 3 undef], S) :=
 wR rfl rfl Try.func56 (by decide) zT.body (by exact h) he ((yT ((show zC Try.prog T Q Try.f56.results.toList = zC Try.prog T Q [(ResultVar.tmp 2), (ResultVar.tmp 3)] from by kernel_rfl).trans (by simp only [zC])) (by kernel_rfl) (by simp only [List.all_cons, List.all_nil, h0, h1, Bool.and_true])).trans rfl) hca hcv
end Go.Proofs.Ytbgcphbbchndkaa
namespace Go.Proofs.Ytbgcphbbchndkaa
open Go.Abs
abbrev jV.id : FuncId := 33
noncomputable def jV.code : Code := (Code.seq (Code.region 0 (reg Try.f33 0) false) (Code.seq (Code.seq (Code.region 1 (reg Try.f33 1) false) (Code.cond (Operand.tmp 8) (Code.seq (Code.region 2 (reg Try.f33 2) false) Code.ret) Code.skip)) (Code.seq (Code.region 3 (reg Try.f33 3) false) (Code.seq (Code.region 4 (reg Try.f33 4) false) Code.ret))))
theorem jV.body : Try.f33.body = some jV.code := by kernel_rfl
variable (a m u v n o p q r s b c d f g i j k l : Value) (S : zh)
theorem jV.r0  : jd Try.prog ⟨false, false, false⟩ (zM Try.prog O) (reg Try.f33 0) (reg Try.f33 0).toList ([a,m,u,v,n,o,p,q,r,s,b,c,d,f,g,i,j,k,l]) S =
  (zA (J7 (dem a) S) (fun w t => some ([a,w,Value.slice none 0 0,Value.int IntKind.i64 0,n,o,p,q,r,s,b,c,d,f,g,i,j,k,l], t)) ()) := by
 kernel_rfl
theorem jV.r1  : jd Try.prog ⟨false, false, false⟩ (zM Try.prog O) (reg Try.f33 1) (reg Try.f33 1).toList ([a,m,u,v,n,o,p,q,r,s,b,c,d,f,g,i,j,k,l]) S =
  (zA (zO Try.prog false 25 m S) (fun w t => zA ((zM Try.prog O) 38 [(dem w)] t) (fun x A => zA (aUn Try.prog UnOp.not x A) (fun y B => some ([a,m,u,v,n,o,w,x,y,s,b,c,d,f,g,i,j,k,l], B)) ()) ()) ()) := by
 kernel_rfl
theorem jV.r2  : jd Try.prog ⟨false, false, false⟩ (zM Try.prog O) (reg Try.f33 2) (reg Try.f33 2).toList ([a,m,u,v,n,o,p,q,r,s,b,c,d,f,g,i,j,k,l]) S =
  ( some ([a,m,Value.slice none 0 0,Value.int IntKind.i64 61,n,o,p,q,r,s,b,c,d,f,g,i,j,k,l], S)) := by
 kernel_rfl
theorem jV.r3  : jd Try.prog ⟨false, false, false⟩ (zM Try.prog O) (reg Try.f33 3) (reg Try.f33 3).toList ([a,m,u,v,n,o,p,q,r,s,b,c,d,f,g,i,j,k,l]) S =
  (zA (zo Try.prog 25 m 0 S) (fun w t => zA (zO Try.prog false 3 w t) (fun x A => zA (zo Try.prog 25 m 1 A) (fun y B => zA (zO Try.prog false 3 y B) (fun C G => zA (jB Try.prog 57 2 [(0, x), (1, C)] G) (fun D H => zA ((zM Try.prog O) 32 [(dem D)] H) (fun z I => zA (zx z 0 I) (fun E J => zA (zx (zH 0 z) 1 J) (fun F K => some ([a,m,u,v,E,F,p,q,r,zH 1 (zH 0 z),w,x,y,C,D,dem z,dem E,dem F,l], K)) ()) ()) ()) ()) ()) ()) ()) ()) := by
 kernel_rfl
theorem jV.r4  : jd Try.prog ⟨false, false, false⟩ (zM Try.prog O) (reg Try.f33 4) (reg Try.f33 4).toList ([a,m,u,v,n,o,p,q,r,s,b,c,d,f,g,i,j,k,l]) S =
  ( some ([a,m,n,Value.int IntKind.i64 0,dem n,o,p,q,r,s,b,c,d,f,g,i,j,k,dem n], S)) := by
 kernel_rfl
theorem jV.rs : type_of% (And.intro @jV.r0 (And.intro @jV.r1 (And.intro @jV.r2 (And.intro @jV.r3 (@jV.r4))))) := And.intro @jV.r0 (And.intro @jV.r1 (And.intro @jV.r2 (And.intro @jV.r3 (@jV.r4))))
theorem jV.runs {a : Value} {S t : zh} {e : AEx} {T : List Value} (h : zu Try.prog O false jV.code ([a,undef,undef,undef,undef,undef,undef,undef,undef,undef,undef,undef,undef,undef,undef,undef,undef,undef,undef]) zh.empty = some (e, T, t)) (he : e = .normal ∨ e = .ret)  (h0 : jD (T.getD 2 undef) = true) (h1 : jD (T.getD 3 undef) = true) (hca : [a].all (jf 16) = true) (hcv : jf 16 (Value.tuple #[T.getD 2 undef, T.getD 3 undef]) = true) : zM Try.prog O 33 [a] S = some (Value.tuple #[T.getD 2 undef, T.getD 3 undef], S) :=
 wR rfl rfl Try.func33 (by decide) jV.body (by exact h) he ((yT ((show zC Try.prog T t Try.f33.results.toList = zC Try.prog T t [(ResultVar.tmp 2), (ResultVar.tmp 3)] from by kernel_rfl).trans (by simp only [zC])) (by kernel_rfl) (by simp only [List.all_cons, List.all_nil, h0, h1, Bool.and_true])).trans rfl) hca hcv
end Go.Proofs.Ytbgcphbbchndkaa
namespace Go.Proofs.Ytbgcphbbchndkaa
open Go.Abs
abbrev jy.id : FuncId := 64
noncomputable def jy.code : Code := (Code.seq (Code.region 0 (reg Try.f64 0) false) (Code.seq (Code.region 1 (reg Try.f64 1) false) (Code.seq (Code.seq (Code.region 2 (reg Try.f64 2) false) (Code.cond (Operand.tmp 16) (Code.seq (Code.region 3 (reg Try.f64 3) false) Code.ret) Code.skip)) (Code.seq (Code.region 4 (reg Try.f64 4) true) (Code.seq (Code.region 5 (reg Try.f64 5) true) Code.ret)))))
theorem jy.body : Try.f64.body = some jy.code := by kernel_rfl
variable (c E C H I b z D A F d f g i j k l m n o p q r s t u w x y : Value) (S : zh)
theorem jy.r0  : jd Try.prog ⟨false, false, false⟩ (zM Try.prog O) (reg Try.f64 0) (reg Try.f64 0).toList ([c,E,C,H,I,b,z,D,A,F,d,f,g,i,j,k,l,m,n,o,p,q,r,s,t,u,w,x,y]) S =
  (zA (wG Try.prog 25 S) (fun J a => some ([c,E,J,Value.slice none 0 0,Value.bool false,b,z,D,A,F,d,f,g,i,j,k,l,m,n,o,p,q,r,s,t,u,w,x,y], a)) ()) := by
 kernel_rfl
theorem jy.r1  : jd Try.prog ⟨false, false, false⟩ (zM Try.prog O) (reg Try.f64 1) (reg Try.f64 1).toList ([c,E,C,H,I,b,z,D,A,F,d,f,g,i,j,k,l,m,n,o,p,q,r,s,t,u,w,x,y]) S =
  (zA ((zM Try.prog O) 51 [(dem (dem c)), (Value.int IntKind.i64 2)] S) (fun B a => zA (zx B 0 a) (fun N K => zA (zx (zH 0 B) 1 K) (fun G L => zA (zx (zH 1 (zH 0 B)) 2 L) (fun P Q => some ([c,E,C,H,I,N,G,P,A,zH 2 (zH 1 (zH 0 B)),dem c,dem B,dem N,dem G,dem P,k,l,m,n,o,p,q,r,s,t,u,w,x,y], Q)) ()) ()) ()) ()) := by
 kernel_rfl
theorem jy.r2  : jd Try.prog ⟨false, false, false⟩ (zM Try.prog O) (reg Try.f64 2) (reg Try.f64 2).toList ([c,E,C,H,I,b,z,D,A,F,d,f,g,i,j,k,l,m,n,o,p,q,r,s,t,u,w,x,y]) S =
  (zA (jZ Try.prog BinOp.neq 31 (dem D) (Value.int IntKind.i64 0) S) (fun B a => some ([c,E,C,H,I,b,z,D,A,F,d,f,g,i,j,dem D,B,m,n,o,p,q,r,s,t,u,w,x,y], a)) ()) := by
 kernel_rfl
theorem jy.r3  : jd Try.prog ⟨false, false, false⟩ (zM Try.prog O) (reg Try.f64 3) (reg Try.f64 3).toList ([c,E,C,H,I,b,z,D,A,F,d,f,g,i,j,k,l,m,n,o,p,q,r,s,t,u,w,x,y]) S =
  (zA (yg Try.prog 25 [] S) (fun J a => zA (jO Try.prog 25 C (dem J) a) (fun B K => some ([c,E,C,Value.slice none 0 0,Value.bool false,b,z,D,A,F,d,f,g,i,j,k,l,J,n,o,p,q,r,s,t,u,w,x,y], K)) ()) ()) := by
 kernel_rfl
theorem jy.d4 : ku Try.prog (reg Try.f64 4) = true := by kernel_rfl
theorem jy.ff4 : fixed Try.prog (reg Try.f64 4) = false := by kernel_rfl
theorem jy.k4 : checked Try.prog (reg Try.f64 4) = [0, 1, 2, 3, 4, 5, 6] := by kernel_rfl
theorem jy.g4 : again Try.prog (reg Try.f64 4) = [(2, 7), (5, 7)] := by kernel_rfl
theorem jy.r4  : zu Try.prog O false (.region 4 (reg Try.f64 4) true) ([c,E,C,H,I,b,z,D,A,F,d,f,g,i,j,k,l,m,n,o,p,q,r,s,t,u,w,x,y]) S =
  WL (okK b ( zA (zW Try.prog 57 (dem b) (Value.int IntKind.i64 0) S) (fun B a => okK B ( zA (zO Try.prog false 3 B a) (fun M K => okK M ( okK b ( zA (zW Try.prog 57 (dem b) (Value.int IntKind.i64 1) K) (fun G L => okK G ( zA (zO Try.prog false 3 G L) (fun P Q => okK P ( zA (yg Try.prog 25 [(0, (dem M)), (1, (dem P))] Q) (fun R W => okK R ( zA (wG Try.prog 25 W) (fun V U => zA (jO Try.prog 25 V (dem R) U) (fun Y X => ckK (qm B a U && (qm G L U && (true))) (some ([c,E,C,H,I,b,z,D,V,F,d,f,g,i,j,k,l,m,dem b,B,M,dem b,G,P,R,u,w,x,y], X)) ()) ()) ()) ()) ()) ()) ()) ()) ()) ()) ()) ()) ()) ()) ()) := by
 rw [yQ jy.d4 jy.ff4 jy.k4 jy.g4]
 refine congrArg WL ?_
 refine uPC Try.f64 4 0 (v := b) (pe := undef) ?_
 refine uDC Try.f64 4 1 (pe := undef) (fun B a => ?_)
 refine uDC Try.f64 4 2 (pe := B) (fun M K => ?_)
 refine uPC Try.f64 4 3 (v := b) (pe := undef) ?_
 refine uDC Try.f64 4 4 (pe := undef) (fun G L => ?_)
 refine uDC Try.f64 4 5 (pe := G) (fun P Q => ?_)
 refine uDC Try.f64 4 6 (pe := undef) (fun R W => ?_)
 refine uD Try.f64 4 7 (pe := undef) (fun V U => ?_)
 refine uD Try.f64 4 8 (pe := undef) (fun Y X => ?_)
 kernel_rfl
theorem jy.d5 : ku Try.prog (reg Try.f64 5) = true := by kernel_rfl
theorem jy.ff5 : fixed Try.prog (reg Try.f64 5) = false := by kernel_rfl
theorem jy.k5 : checked Try.prog (reg Try.f64 5) = [0, 1, 1] := by kernel_rfl
theorem jy.g5 : again Try.prog (reg Try.f64 5) = [(0, 3)] := by kernel_rfl
theorem jy.r5  : zu Try.prog O false (.region 5 (reg Try.f64 5) true) ([c,E,C,H,I,b,z,D,A,F,d,f,g,i,j,k,l,m,n,o,p,q,r,s,t,u,w,x,y]) S =
  WL (zA (zO Try.prog false 25 A S) (fun J a => okK J ( okK z ( zA (zO Try.prog false 25 A a) (fun M K => zA ((zM Try.prog O) 38 [(dem M)] K) (fun N L => zA (jO Try.prog 25 C (dem J) L) (fun G Q => ckK (qm A S L && (true)) (some ([c,E,C,z,N,b,dem z,D,A,F,d,f,g,i,j,k,l,m,n,o,p,q,r,s,t,J,dem z,M,dem N], Q)) ()) ()) ()) ()) ()) ()) ()) := by
 rw [yQ jy.d5 jy.ff5 jy.k5 jy.g5]
 refine congrArg WL ?_
 refine uDC Try.f64 5 0 (pe := A) (fun J a => ?_)
 refine uPC Try.f64 5 1 (v := z) (pe := undef) ?_
 refine uD Try.f64 5 2 (pe := A) (fun M K => ?_)
 refine uD Try.f64 5 3 (pe := undef) (fun N L => ?_)
 refine uD Try.f64 5 4 (pe := undef) (fun G Q => ?_)
 refine uP Try.f64 5 5 (v := z) (pe := undef) ?_
 refine uP Try.f64 5 6 (v := N) (pe := undef) ?_
 kernel_rfl
theorem jy.rs : type_of% (And.intro @jy.r0 (And.intro @jy.r1 (And.intro @jy.r2 (And.intro @jy.r3 (And.intro @jy.r4 (@jy.r5)))))) := And.intro @jy.r0 (And.intro @jy.r1 (And.intro @jy.r2 (And.intro @jy.r3 (And.intro @jy.r4 (@jy.r5)))))
theorem jy.runs {c : Value} {S a : zh} {e : AEx} {T : List Value} (h : zu Try.prog O false jy.code ([c,undef,undef,undef,undef,undef,undef,undef,undef,undef,undef,undef,undef,undef,undef,undef,undef,undef,undef,undef,undef,undef,undef,undef,undef,undef,undef,undef,undef]) zh.empty = some (e, T, a)) (he : e = .normal ∨ e = .ret) {w0 : Value} (c0 : zO Try.prog false 25 (T.getD 2 undef) a = some (w0, a)) (h0 : jD (w0) = true) (h1 : jD (T.getD 3 undef) = true) (h2 : jD (T.getD 4 undef) = true) (hca : [c].all (jf 16) = true) (hcv : jf 16 (Value.tuple #[w0, T.getD 3 undef, T.getD 4 undef]) = true) : zM Try.prog O 64 [c] S = some (Value.tuple #[w0, T.getD 3 undef, T.getD 4 undef], S) :=
 wR rfl rfl Try.func64 (by decide) jy.body (by exact h) he ((yT ((show zC Try.prog T a Try.f64.results.toList = zC Try.prog T a [(ResultVar.cell 2 25), (ResultVar.tmp 3), (ResultVar.tmp 4)] from by kernel_rfl).trans (by simp only [zC, c0])) (by kernel_rfl) (by simp only [List.all_cons, List.all_nil, h0, h1, h2, Bool.and_true])).trans rfl) hca hcv
end Go.Proofs.Ytbgcphbbchndkaa
namespace Go.Proofs.Ytbgcphbbchndkaa
open Go.Abs
abbrev jY.id : FuncId := 52
noncomputable def jY.code : Code := (Code.seq (Code.region 0 (reg Try.f52 0) false) (Code.seq (Code.region 1 (reg Try.f52 1) false) (Code.seq (Code.seq (Code.region 2 (reg Try.f52 2) false) (Code.cond (Operand.tmp 19) (Code.seq (Code.region 3 (reg Try.f52 3) false) Code.ret) Code.skip)) (Code.seq (Code.region 4 (reg Try.f52 4) false) Code.ret))))
theorem jY.body : Try.f52.body = some jY.code := by kernel_rfl
variable (a u t C w x s y z A d f g i k l m n o p q r : Value) (S : zh)
theorem jY.r0  : jd Try.prog ⟨false, false, false⟩ (zM Try.prog O) (reg Try.f52 0) (reg Try.f52 0).toList ([a,u,t,C,w,x,s,y,z,A,d,f,g,i,k,l,m,n,o,p,q,r]) S =
  (zA (wG Try.prog 25 S) (fun D b => some ([a,u,D,Value.int IntKind.i64 0,w,x,s,y,z,A,d,f,g,i,k,l,m,n,o,p,q,r], b)) ()) := by
 kernel_rfl
theorem jY.r1  : jd Try.prog ⟨false, false, false⟩ (zM Try.prog O) (reg Try.f52 1) (reg Try.f52 1).toList ([a,u,t,C,w,x,s,y,z,A,d,f,g,i,k,l,m,n,o,p,q,r]) S =
  (zA ((zM Try.prog O) 64 [(dem (dem a))] S) (fun c b => zA (zx c 0 b) (fun E B => zA (zx (zH 0 c) 1 B) (fun F I => zA (zx (zH 1 (zH 0 c)) 2 I) (fun G J => zA (wG Try.prog 25 J) (fun H K => zA (jO Try.prog 25 H (dem E) K) (fun M L => some ([a,u,t,C,H,F,G,zH 2 (zH 1 (zH 0 c)),dem a,dem c,E,dem F,dem G,i,k,l,m,n,o,p,q,r], L)) ()) ()) ()) ()) ()) ()) := by
 kernel_rfl
theorem jY.r2  : jd Try.prog ⟨false, false, false⟩ (zM Try.prog O) (reg Try.f52 2) (reg Try.f52 2).toList ([a,u,t,C,w,x,s,y,z,A,d,f,g,i,k,l,m,n,o,p,q,r]) S =
  (zA (aUn Try.prog UnOp.not (dem s) S) (fun c b => gdK (dem c) false (ret x) b (fun E B => gdK (dem c) false (Jc Try.prog 23 (dem E)) B (fun F I => gdK (dem c) false (jZ Try.prog BinOp.gtr 3 F (Value.int IntKind.i64 0)) I (fun G J => zA (wY (dem c) (Value.bool true) G J) (fun H K => some ([a,u,t,C,w,x,s,y,z,A,d,f,g,dem s,c,dem c,dem E,F,G,H,q,r], K)) ()) ()) ()) ()) ()) := by
 refine sP Try.f52 2 0 (v := s) ?_
 refine sD Try.f52 2 1 (fun c b => ?_)
 refine sP Try.f52 2 2 (v := c) ?_
 refine sG Try.f52 2 3 (j := 2) (fun E B => ?_)
 refine sG Try.f52 2 4 (j := 2) (fun F I => ?_)
 refine sG Try.f52 2 5 (j := 2) (fun G J => ?_)
 refine sD Try.f52 2 6 (fun H K => ?_)
 kernel_rfl
theorem jY.r3  : jd Try.prog ⟨false, false, false⟩ (zM Try.prog O) (reg Try.f52 3) (reg Try.f52 3).toList ([a,u,t,C,w,x,s,y,z,A,d,f,g,i,k,l,m,n,o,p,q,r]) S =
  (zA (yg Try.prog 25 [] S) (fun D b => zA (jO Try.prog 25 t (dem D) b) (fun c B => some ([a,u,t,Value.int IntKind.i64 61,w,x,s,y,z,A,d,f,g,i,k,l,m,n,o,p,D,r], B)) ()) ()) := by
 kernel_rfl
theorem jY.r4  : jd Try.prog ⟨false, false, false⟩ (zM Try.prog O) (reg Try.f52 4) (reg Try.f52 4).toList ([a,u,t,C,w,x,s,y,z,A,d,f,g,i,k,l,m,n,o,p,q,r]) S =
  (zA (zO Try.prog false 25 w S) (fun D b => zA (jO Try.prog 25 t (dem D) b) (fun c B => some ([a,u,t,Value.int IntKind.i64 0,w,x,s,y,z,A,d,f,g,i,k,l,m,n,o,p,q,D], B)) ()) ()) := by
 kernel_rfl
theorem jY.rs : type_of% (And.intro @jY.r0 (And.intro @jY.r1 (And.intro @jY.r2 (And.intro @jY.r3 (@jY.r4))))) := And.intro @jY.r0 (And.intro @jY.r1 (And.intro @jY.r2 (And.intro @jY.r3 (@jY.r4))))
theorem jY.runs {a : Value} {S b : zh} {e : AEx} {T : List Value} (h : zu Try.prog O false jY.code ([a,undef,undef,undef,undef,undef,undef,undef,undef,undef,undef,undef,undef,undef,undef,undef,undef,undef,undef,undef,undef,undef]) zh.empty = some (e, T, b)) (he : e = .normal ∨ e = .ret) {w0 : Value} (c0 : zO Try.prog false 25 (T.getD 2 undef) b = some (w0, b)) (h0 : jD (w0) = true) (h1 : jD (T.getD 3 undef) = true) (hca : [a].all (jf 16) = true) (hcv : jf 16 (Value.tuple #[w0, T.getD 3 undef]) = true) : zM Try.prog O 52 [a] S = some (Value.tuple #[w0, T.getD 3 undef], S) :=
 wR rfl rfl Try.func52 (by decide) jY.body (by exact h) he ((yT ((show zC Try.prog T b Try.f52.results.toList = zC Try.prog T b [(ResultVar.cell 2 25), (ResultVar.tmp 3)] from by kernel_rfl).trans (by simp only [zC, c0])) (by kernel_rfl) (by simp only [List.all_cons, List.all_nil, h0, h1, Bool.and_true])).trans rfl) hca hcv
end Go.Proofs.Ytbgcphbbchndkaa
namespace Go.Proofs.Ytbgcphbbchndkaa
open Go.Abs
abbrev wK.id : FuncId := 38
noncomputable def wK.code : Code := (Code.seq (Code.region 0 (reg Try.f38 0) false) (Code.seq (Code.region 1 (reg Try.f38 1) false) Code.ret))
theorem wK.body : Try.f38.body = some wK.code := by kernel_rfl
variable (c i Y J K L M N P Q l m n o p q r s t u w : Value) (S : zh)
theorem wK.r0  : jd Try.prog ⟨false, false, false⟩ (zM Try.prog O) (reg Try.f38 0) (reg Try.f38 0).toList ([c,i,Y,J,K,L,M,N,P,Q,l,m,n,o,p,q,r,s,t,u,w]) S =
  (zA (J7 (dem c) S) (fun x d => some ([c,x,Value.bool false,J,K,L,M,N,P,Q,l,m,n,o,p,q,r,s,t,u,w], d)) ()) := by
 kernel_rfl
theorem wK.r1  : jd Try.prog ⟨false, false, false⟩ (zM Try.prog O) (reg Try.f38 1) (reg Try.f38 1).toList ([c,i,Y,J,K,L,M,N,P,Q,l,m,n,o,p,q,r,s,t,u,w]) S =
  (zA (zo Try.prog 25 i 0 S) (fun x d => zA (zO Try.prog false 3 x d) (fun R Z => zA (jZ Try.prog BinOp.geq 3 R (Value.int IntKind.i64 1) Z) (fun f S3 => gdK (dem f) true (zo Try.prog 25 i 0) S3 (fun U S4 => gdK (dem f) true (zO Try.prog false 3 U) S4 (fun V S5 => gdK (dem f) true (jZ Try.prog BinOp.leq 3 V (Value.int IntKind.i64 1000000)) S5 (fun W S6 => zA (wY (dem f) W (Value.bool false) S6) (fun g S7 => gdK (dem g) true (zo Try.prog 25 i 1) S7 (fun X S8 => gdK (dem g) true (zO Try.prog false 3 X) S8 (fun y S9 => gdK (dem g) true (jZ Try.prog BinOp.geq 3 y (Value.int IntKind.i64 0)) S9 (fun z D => zA (wY (dem g) z (Value.bool false) D) (fun b E => gdK (dem b) true (zo Try.prog 25 i 1) E (fun A F => gdK (dem b) true (zO Try.prog false 3 A) F (fun B G => gdK (dem b) true (jZ Try.prog BinOp.leq 3 B (Value.int IntKind.i64 1000)) G (fun C H => zA (wY (dem b) C (Value.bool false) H) (fun k I => some ([c,i,k,x,R,f,dem f,U,V,W,g,dem g,X,y,z,b,dem b,A,B,C,dem k], I)) ()) ()) ()) ()) ()) ()) ()) ()) ()) ()) ()) ()) ()) ()) ()) := by
 refine sD Try.f38 1 0 (fun x d => ?_)
 refine sD Try.f38 1 1 (fun R Z => ?_)
 refine sD Try.f38 1 2 (fun f S3 => ?_)
 refine sP Try.f38 1 3 (v := f) ?_
 refine sG Try.f38 1 4 (j := 3) (fun U S4 => ?_)
 refine sG Try.f38 1 5 (j := 3) (fun V S5 => ?_)
 refine sG Try.f38 1 6 (j := 3) (fun W S6 => ?_)
 refine sD Try.f38 1 7 (fun g S7 => ?_)
 refine sP Try.f38 1 8 (v := g) ?_
 refine sG Try.f38 1 9 (j := 8) (fun X S8 => ?_)
 refine sG Try.f38 1 10 (j := 8) (fun y S9 => ?_)
 refine sG Try.f38 1 11 (j := 8) (fun z D => ?_)
 refine sD Try.f38 1 12 (fun b E => ?_)
 refine sP Try.f38 1 13 (v := b) ?_
 refine sG Try.f38 1 14 (j := 13) (fun A F => ?_)
 refine sG Try.f38 1 15 (j := 13) (fun B G => ?_)
 refine sG Try.f38 1 16 (j := 13) (fun C H => ?_)
 refine sD Try.f38 1 17 (fun k I => ?_)
 refine sP Try.f38 1 18 (v := k) ?_
 kernel_rfl
theorem wK.rs : type_of% (And.intro @wK.r0 (@wK.r1)) := And.intro @wK.r0 (@wK.r1)
theorem wK.runs {c : Value} {S d : zh} {e : AEx} {T : List Value} (h : zu Try.prog O false wK.code ([c,undef,undef,undef,undef,undef,undef,undef,undef,undef,undef,undef,undef,undef,undef,undef,undef,undef,undef,undef,undef]) zh.empty = some (e, T, d)) (he : e = .normal ∨ e = .ret) (hca : [c].all (jf 16) = true) (hcv : jf 16 (T.getD 2 undef) = true) : zM Try.prog O 38 [c] S = some (T.getD 2 undef, S) :=
 wR rfl rfl Try.func38 (by decide) wK.body (by exact h) he (yD (a := T.getD 2 undef) ((show zC Try.prog T d Try.f38.results.toList = zC Try.prog T d [(ResultVar.tmp 2)] from by kernel_rfl).trans (by simp only [zC])) (by kernel_rfl)) hca hcv
end Go.Proofs.Ytbgcphbbchndkaa
namespace Go.Proofs.Ytbgcphbbchndkaa
open Go.Abs
theorem af8 {t : TypeId} {a b : List UInt8} {S : zh} : vO Try.prog .eql t (.string ⟨a.toArray⟩) (.string ⟨b.toArray⟩) S = some (.bool (decide (a = b)), S) := by rw [abo]
theorem aan {a b : Bool} {S : zh} : vO Try.prog .neq 4 (.bool a) (.bool b) S = some (.bool (a != b), S) := by cases a <;> cases b <;> kernel_rfl
end Go.Proofs.Ytbgcphbbchndkaa
namespace Go.Proofs.Ytbgcphbbchndkaa
open Go.Abs
structure TxV where
 id : Int
 fee : Int
 deriving DecidableEq
def fT (t : TxV) : List Value := [.int .i64 t.id, .int .i64 t.fee]
abbrev tv (t : TxV) : Value := .agg [Value.int .i64 t.id, .int .i64 t.fee].toArray
structure TxV.Ok (t : TxV) : Prop where
 id : -9223372036854775808 ≤ t.id ∧ t.id < 9223372036854775808
 fee : -9223372036854775808 ≤ t.fee ∧ t.fee < 9223372036854775808
abbrev tTx : Ty := .pair (.int .i64) (.pair (.int .i64) .unit)
def yw (t : TxV) : Bool := decide (1 ≤ t.id) && decide (t.id ≤ 1000000) && decide (0 ≤ t.fee) && decide (t.fee ≤ 1000)
theorem qG {t : TxV} : yw t = true ↔ 1 ≤ t.id ∧ t.id ≤ 1000000 ∧ 0 ≤ t.fee ∧ t.fee ≤ 1000 := by
 simp [yw, and_assoc]
abbrev mem1 (t : TxV) : zh := zh.empty.push (.cells [Value.int .i64 t.id, .int .i64 t.fee] (.own []) 0)
theorem box1 (t : TxV) : J7 (tv t) zh.empty = some (.pointer (some ⟨0, 0, none⟩), mem1 t) := rfl
theorem Jz (t : TxV) : (mem1 t).get 0 = some (.cells [Value.int .i64 t.id, .int .i64 t.fee] (.own []) 0) := rfl
theorem wK.v (t : TxV) (S : zh) : zM Try.prog O wK.id [tv t] S = some (.bool (yw t), S) := by
 obtain ⟨T, hTe⟩ : ∃ T, T = (tv t :: undef :: undef :: undef :: undef :: undef :: undef :: undef :: undef :: undef :: undef :: undef :: undef :: undef :: undef :: undef :: undef :: undef :: undef :: undef :: undef :: []) := ⟨_, rfl⟩
 have hr : zu Try.prog O false wK.code T zh.empty = zu Try.prog O false wK.code T zh.empty := rfl
 have l0 := yZ (t := 3) (o := 0 + 0) (Jz t) ZN rfl
 have l1 := yZ (t := 3) (o := 0 + 1) (Jz t) ZN rfl
 by_cases h1 : 1 ≤ t.id <;> by_cases h2 : t.id ≤ 1000000 <;> by_cases h3 : 0 ≤ t.fee <;> by_cases h4 : t.fee ≤ 1000
 all_goals
  conv at hr =>
   rhs
   rw [hTe]
   simp only [wK.code, wK.rs, zSs, reduceIte, Nat.reduceEqDiff, Int.reduceEq, Int.reduceLT, Int.reduceLE, box1, vP, Yn, l0, l1, h1, h2, h3, h4]
  rw [hTe] at hr
  simp only [yw, h1, h2, h3, h4, decide_true, decide_false, Bool.and_true, Bool.and_false, Bool.false_and]
  exact wK.runs hr (.inr rfl) rfl rfl
theorem aiy (x : tTx.Val) (hg : tTx.Good x) : ∃ t : TxV, tTx.JL x = fT t ∧ t.Ok := by
 obtain ⟨a, b, u⟩ := x
 obtain ⟨h1, h2, _⟩ := hg
 exact ⟨⟨a, b⟩, rfl, JR h1, JR h2⟩
end Go.Proofs.Ytbgcphbbchndkaa
namespace Go.Proofs.Ytbgcphbbchndkaa
open Go.Abs
def txB (t : TxV) : List UInt8 := encs [t.id, t.fee]
def ahZ (t : TxV) : Value := if yw t then .tuple #[by_ 2 (txB t), .int .i64 0] else .tuple #[.slice none 0 0, .int .i64 61]
theorem VD {t : TxV} (h : yw t = true) : (txB t).length ≤ 20 := by
 obtain ⟨h1, h2, h3, h4⟩ := qG.mp h
 have := vS (l := [t.id, t.fee]) (by intro n hn; simp at hn; rcases hn with rfl | rfl <;> omega)
 exact this
theorem ahB (x y : Int) : sv 2 1 2 [.int .i64 x, .int .i64 y] = iz 2 [x, y] := rfl
theorem jV.v (t : TxV) (S : zh) : zM Try.prog O jV.id [tv t] S = some (ahZ t, S) := by
 obtain ⟨T, hTe⟩ : ∃ T, T = (tv t :: undef :: undef :: undef :: undef :: undef :: undef :: undef :: undef :: undef :: undef :: undef :: undef :: undef :: undef :: undef :: undef :: undef :: undef :: []) := ⟨_, rfl⟩
 have hr : zu Try.prog O false jV.code T zh.empty = zu Try.prog O false jV.code T zh.empty := rfl
 have l0 := yZ (t := 3) (o := 0 + 0) (Jz t) ZN rfl
 have l1 := yZ (t := 3) (o := 0 + 1) (Jz t) ZN rfl
 have lt := KZ (Jz t)
 unfold ahZ
 by_cases h : yw t = true
 ·
  have hh := qG.mp h
  have c1 := fun S => zG.v (l := [t.id, t.fee]) Okl.read (by decide) (by simp; omega) S
  conv at hr =>
   rhs
   rw [hTe]
   simp only [jV.code, jV.rs, zSs, reduceIte, Nat.reduceEqDiff, Int.reduceEq, Int.reduceLT, Int.reduceLE, box1, lt, kV, wK.v, h, vP, Yn, l0, l1, aaR, ahB, c1, WO (l := [t.id, t.fee]) (by simp) (by simp; omega) (by simp)]
  rw [hTe] at hr
  rw [if_pos h]
  exact jV.runs hr (.inr rfl) (by simp only [List.getD_cons_succ, List.getD_cons_zero, jL, jF, jh, jv, jG]) rfl rfl (wU (all2 (y7 (k := 2) (Nat.le_refl 2)) rfl))
 ·
  rw [Bool.not_eq_true] at h
  conv at hr =>
   rhs
   rw [hTe]
   simp only [jV.code, jV.rs, zSs, reduceIte, Nat.reduceEqDiff, Int.reduceEq, Int.reduceLT, Int.reduceLE, box1, lt, kV, wK.v, h]
  rw [hTe] at hr
  rw [if_neg (by rw [h]; decide)]
  exact jV.runs hr (.inr rfl) rfl rfl rfl rfl
theorem Jq (S : zh) : wG Try.prog 25 S = some (.pointer (some ⟨S.next, 0, none⟩), S.push (.cells (fT ⟨0, 0⟩) (.own []) 0)) := by kernel_rfl
theorem Xv (S : zh) (t : TxV) : ∃ S2, jO Try.prog 25 (.pointer (some ⟨S.next, 0, none⟩)) (tv t) (S.push (.cells (fT ⟨0, 0⟩) (.own []) 0)) = some (undef, S2) ∧ S2.get S.next = some (.cells (fT t) (.own []) 0) ∧ Ext S S2 ∧ S.next < S2.next :=
 YK S (by rw [yU, List.toList_toArray]; rfl) xK rfl rfl
theorem aa6 {S S0 : zh} {q : Nat} {u : TxV} (t : TxV) (hg : S.get q = some (.cells (fT u) (.own []) 0)) (hE : Ext S0 S) (hq : S0.next ≤ q) : ∃ S2, jO Try.prog 25 (.pointer (some ⟨q, 0, none⟩)) (tv t) S = some (undef, S2) ∧ S2.get q = some (.cells (fT t) (.own []) 0) ∧ Ext S0 S2 ∧ S2.next = S.next ∧ ∀ k, k ≠ q → S2.get k = S.get k :=
 Xg hg xK rfl rfl (by simp [fT]) hE hq
theorem air {R : Type} {a b : Int} (r : Option R) (p : Jb r) : okK (.agg [Value.int .i64 a, .int .i64 b].toArray) r p = r := Wq rfl r p
theorem YO {S : zh} {q : Nat} {t : TxV} (h : S.get q = some (.cells (fT t) (.own []) 0)) : zO Try.prog false 25 (.pointer (some ⟨q, 0, none⟩)) S = some (tv t, S) := KZ h
theorem agA {S : zh} {q : Nat} {t : TxV} (h : S.get q = some (.cells (fT t) (.own []) 0)) : zO Try.prog false 3 (.pointer (some ⟨q, 0 + 0, none⟩)) S = some (.int .i64 t.id, S) := yZ (t := 3) (o := 0 + 0) h ZN rfl
theorem ajg (k : Nat) (hk : k ≤ 2) (a b : Int) (h : k ≠ 0) (S : zh) : zW Try.prog 57 (iz k [a, b]) (.int .i64 0) S = some (EP [.int .i64 a], S) := acB ⟨hk, fun h0 => absurd h0 h⟩ (by decide) (by simp)
theorem ai9 (k : Nat) (hk : k ≤ 2) (a b : Int) (h : k ≠ 0) (S : zh) : zW Try.prog 57 (iz k [a, b]) (.int .i64 1) S = some (EP [.int .i64 b], S) := acB ⟨hk, fun h0 => absurd h0 h⟩ (by decide) (by simp)
def aeN (l : List UInt8) : Value := match wJ 2 l with
 | some ([a, b], r) => .tuple #[tv ⟨a, b⟩, by_ 2 r, .bool (yw ⟨a, b⟩)]
 | _ => .tuple #[tv ⟨0, 0⟩, .slice none 0 0, .bool false]
theorem KE (l : List UInt8) : wJ 2 l = none ∨ ∃ a b r, wJ 2 l = some ([a, b], r) ∧ r.length ≤ l.length := by
 cases h : wJ 2 l with
 | none => exact .inl rfl
 | some ar =>
  obtain ⟨a, r⟩ := ar
  obtain ⟨h1, h2⟩ := ZA h
  match a, h1 with
  | [x, y], _ => exact .inr ⟨x, y, r, rfl, h2⟩
theorem jy.v {k : Nat} {l : List UInt8} (hk : Okl k l) (k2 : k ≠ 2) (hl : l.length ≤ 140737488355328) (S : zh) : zM Try.prog O jy.id [by_ k l] S = some (aeN l, S) := by
 obtain ⟨T, hTe⟩ : ∃ T, T = (by_ k l :: undef :: undef :: undef :: undef :: undef :: undef :: undef :: undef :: undef :: undef :: undef :: undef :: undef :: undef :: undef :: undef :: undef :: undef :: undef :: undef :: undef :: undef :: undef :: undef :: undef :: undef :: undef :: undef :: []) := ⟨_, rfl⟩
 have hr : zu Try.prog O false jy.code T zh.empty = zu Try.prog O false jy.code T zh.empty := rfl
 have c1 := fun S => zk.v (many := 2) hk k2 hl S
 have a1 := Jq zh.empty
 have g1 : (zh.empty.push (.cells (fT ⟨0, 0⟩) (.own []) 0)).get 0 = some (.cells (fT ⟨0, 0⟩) (.own []) 0) := by kernel_rfl
 have n1 : (zh.empty.push (.cells (fT ⟨0, 0⟩) (.own []) 0)).next = 1 := by kernel_rfl
 rw [show zh.empty.next = 0 from rfl] at a1
 have r1 : Zw 0 (if k = 0 then 0 else 2) 2 l = _ := vI (m := 2) (by decide) (by decide)
 rw [r1] at c1
 unfold aeN
 generalize hS1 : zh.empty.push (.cells (fT ⟨0, 0⟩) (.own []) 0) = S1 at a1 g1 n1
 rcases KE l with h | ⟨a, b, r, h, hlr⟩
 ·
  rw [h] at c1 ⊢
  obtain ⟨S2, p1, p2, p3, p4⟩ := aa6 ⟨0, 0⟩ g1 (Ext.refl zh.empty |>.trans (hS1 ▸ Ext.push _ _)) (Nat.zero_le _)
  conv at hr =>
   rhs
   rw [hTe]
   simp only [jy.code, jy.rs, zSs, reduceIte, Nat.reduceEqDiff, Int.reduceEq, Int.reduceLT, Int.reduceLE, if_neg k2, a1, c1, Jr, p1]
  rw [hTe] at hr
  exact jy.runs hr (.inr rfl) (YO p2) rfl rfl rfl (all1 (y7 (k := k) hk.le)) rfl
 ·
  rw [h] at c1 ⊢
  have e0 := ajg 1 (by decide) a b (by decide)
  have e1 := ai9 1 (by decide) a b (by decide)
  have c2 : ∀ S, zM Try.prog O 38 [.agg [Value.int .i64 a, .int .i64 b].toArray] S = some (.bool (yw ⟨a, b⟩), S) := fun S => wK.v ⟨a, b⟩ S
  obtain ⟨S2, p1, p2, p3, p4⟩ := Xv S1 ⟨a, b⟩
  have g2 : S2.get 0 = some (.cells (fT ⟨0, 0⟩) (.own []) 0) := by rw [p3.get 0 (by omega), g1]
  obtain ⟨S3, q1, q2, q3, q4, q5⟩ := aa6 ⟨a, b⟩ g2 (Ext.trans (hS1 ▸ Ext.push _ _ : Ext zh.empty S1) p3) (Nat.zero_le _)
  conv at hr =>
   rhs
   rw [hTe]
   simp only [jy.code, jy.rs, zSs, reduceIte, Nat.reduceEqDiff, Int.reduceEq, Int.reduceLT, Int.reduceLE, if_neg k2, a1, c1, e0, e1, qY, Kv (qg) (qg), Jq, p1, YO p2, q1, c2, wM p2, air]
  rw [hTe] at hr
  exact jy.runs hr (.inr rfl) (YO q2) rfl (by simp only [List.getD_cons_succ, List.getD_cons_zero, jL, jF, jh, jv, jG]) rfl (all1 (y7 (k := k) hk.le)) (wU (aje rfl (y7 (k := 2) (Nat.le_refl 2)) rfl))
noncomputable def acd (l : List UInt8) : Option TxV := rd (fun t => yw t = true) txB l
theorem adB {a b : TxV} {r s : List UInt8} (ha : yw a = true) (hb : yw b = true) (h : txB a ++ r = txB b ++ s) : a = b ∧ r = s := by
 obtain ⟨a1, a2, a3, a4⟩ := qG.mp ha
 obtain ⟨b1, b2, b3, b4⟩ := qG.mp hb
 obtain ⟨h1, h2⟩ := ZF (a := [a.id, a.fee]) (c := [b.id, b.fee]) rfl (by simp [Few]; omega) (by simp [Few]; omega) h
 refine ⟨?_, h2⟩
 cases a; cases b
 simp at h1
 rw [h1.1, h1.2]
theorem JQ (l : List UInt8) (t : TxV) : acd l = some t ↔ yw t = true ∧ l = txB t :=
 adh (fun x y hx hy h => (adB (r := []) (s := []) hx hy (by simpa using h)).1) l t
theorem XW {l : List UInt8} (h : ∀ t, ¬ (yw t = true ∧ l = txB t)) : acd l = none := by
 cases hr : acd l with
 | none => rfl
 | some t => exact absurd ((JQ l t).mp hr) (h t)
noncomputable def aeS (l : List UInt8) : Value := match acd l with
 | some t => .tuple #[tv t, .int .i64 0]
 | none => .tuple #[tv ⟨0, 0⟩, .int .i64 61]
theorem agV {l r : List UInt8} {a b : Int} (h : wJ 2 l = some ([a, b], r)) : acd l = if yw ⟨a, b⟩ = true ∧ r = [] then some ⟨a, b⟩ else none := by
 obtain ⟨_, h2, h3⟩ := (wE _ _ _ _).mp h
 split
 ·
  rename_i hc
  exact (JQ _ _).mpr ⟨hc.1, by rw [h2, hc.2, List.append_nil]; rfl⟩
 ·
  rename_i hc
  refine XW fun t ht => hc ?_
  obtain ⟨b1, b2, b3, b4⟩ := qG.mp ht.1
  have h4 : encs [t.id, t.fee] ++ [] = encs [a, b] ++ r := by rw [List.append_nil, ← h2]; exact ht.2.symm
  obtain ⟨h5, h6⟩ := ZF (a := [t.id, t.fee]) (c := [a, b]) rfl (by simp [Few]; omega) h3 h4
  simp at h5
  rw [← h5.1, ← h5.2]
  exact ⟨ht.1, h6.symm⟩
theorem XQ {l : List UInt8} (h : wJ 2 l = none) : acd l = none := by
 refine XW fun t ht => ?_
 obtain ⟨b1, b2, b3, b4⟩ := qG.mp ht.1
 have := (wE 2 l [t.id, t.fee] []).mpr ⟨rfl, by rw [List.append_nil]; exact ht.2, by simp [Few]; omega⟩
 rw [h] at this
 cases this
theorem jY.v {k : Nat} {l : List UInt8} (hk : Okl k l) (k2 : k ≠ 2) (hl : l.length ≤ 140737488355328) (S : zh) : zM Try.prog O jY.id [by_ k l] S = some (aeS l, S) := by
 obtain ⟨T, hTe⟩ : ∃ T, T = (by_ k l :: undef :: undef :: undef :: undef :: undef :: undef :: undef :: undef :: undef :: undef :: undef :: undef :: undef :: undef :: undef :: undef :: undef :: undef :: undef :: undef :: undef :: []) := ⟨_, rfl⟩
 have hr : zu Try.prog O false jY.code T zh.empty = zu Try.prog O false jY.code T zh.empty := rfl
 have c1 := fun S => jy.v hk k2 hl S
 have a1 := Jq zh.empty
 have g1 : (zh.empty.push (.cells (fT ⟨0, 0⟩) (.own []) 0)).get 0 = some (.cells (fT ⟨0, 0⟩) (.own []) 0) := by kernel_rfl
 have n1 : (zh.empty.push (.cells (fT ⟨0, 0⟩) (.own []) 0)).next = 1 := by kernel_rfl
 rw [show zh.empty.next = 0 from rfl] at a1
 have hE1 : Ext zh.empty (zh.empty.push (.cells (fT ⟨0, 0⟩) (.own []) 0)) := Ext.push _ _
 generalize zh.empty.push (.cells (fT ⟨0, 0⟩) (.own []) 0) = S1 at a1 g1 n1 hE1
 unfold aeN at c1
 unfold aeS
 rcases KE l with h | ⟨a, b, r, h, hlr⟩
 ·
  rw [h] at c1
  rw [XQ h]
  obtain ⟨S2, p1, p2, p3, p4⟩ := Xv S1 ⟨0, 0⟩
  have g2 : S2.get 0 = some (.cells (fT ⟨0, 0⟩) (.own []) 0) := by rw [p3.get 0 (by omega), g1]
  obtain ⟨S3, q1, q2, q3, q4, q5⟩ := aa6 ⟨0, 0⟩ g2 (Ext.trans hE1 p3) (Nat.zero_le _)
  conv at hr =>
   rhs
   rw [hTe]
   simp only [jY.code, jY.rs, zSs, reduceIte, Nat.reduceEqDiff, Int.reduceEq, Int.reduceLT, Int.reduceLE, if_neg k2, a1, c1, Jq, p1, Jr, q1]
  rw [hTe] at hr
  exact jY.runs hr (.inr rfl) (YO q2) rfl rfl (all1 (y7 (k := k) hk.le)) rfl
 ·
  rw [h] at c1
  rw [agV h]
  by_cases hok : yw ⟨a, b⟩ = true
  ·
   obtain ⟨S2, p1, p2, p3, p4⟩ := Xv S1 ⟨a, b⟩
   have g2 : S2.get 0 = some (.cells (fT ⟨0, 0⟩) (.own []) 0) := by rw [p3.get 0 (by omega), g1]
   by_cases h0 : r = []
   ·
    subst h0
    obtain ⟨S3, q1, q2, q3, q4, q5⟩ := aa6 ⟨a, b⟩ g2 (Ext.trans hE1 p3) (Nat.zero_le _)
    conv at hr =>
     rhs
     rw [hTe]
     simp only [jY.code, jY.rs, zSs, reduceIte, Nat.reduceEqDiff, Int.reduceEq, Int.reduceLT, Int.reduceLE, if_neg k2, a1, c1, Jq, p1, hok, Wy Okl.read, goInt, List.length_nil, Int.ofNat_zero, Int.natCast_zero, Int.lt_irrefl, YO p2, q1]
    rw [if_pos ⟨hok, rfl⟩]
    rw [hTe] at hr
    exact jY.runs hr (.inr rfl) (YO q2) rfl rfl (all1 (y7 (k := k) hk.le)) rfl
   ·
    have hp : (0 : Int) < (r.length : Int) := by have := List.length_pos_iff.mpr h0; omega
    obtain ⟨S3, q1, q2, q3, q4, q5⟩ := aa6 ⟨0, 0⟩ g2 (Ext.trans hE1 p3) (Nat.zero_le _)
    conv at hr =>
     rhs
     rw [hTe]
     simp only [jY.code, jY.rs, zSs, reduceIte, Nat.reduceEqDiff, Int.reduceEq, Int.reduceLT, Int.reduceLE, if_neg k2, a1, c1, Jq, p1, hok, Wy Okl.read, goInt, decide_eq_true hp, Jr, q1]
    rw [if_neg (fun h => h0 h.2)]
    rw [hTe] at hr
    exact jY.runs hr (.inr rfl) (YO q2) rfl rfl (all1 (y7 (k := k) hk.le)) rfl
  ·
   rw [if_neg (fun h => hok h.1)]
   rw [Bool.not_eq_true] at hok
   obtain ⟨S2, p1, p2, p3, p4⟩ := Xv S1 ⟨a, b⟩
   have g2 : S2.get 0 = some (.cells (fT ⟨0, 0⟩) (.own []) 0) := by rw [p3.get 0 (by omega), g1]
   obtain ⟨S3, q1, q2, q3, q4, q5⟩ := aa6 ⟨0, 0⟩ g2 (Ext.trans hE1 p3) (Nat.zero_le _)
   conv at hr =>
    rhs
    rw [hTe]
    simp only [jY.code, jY.rs, zSs, reduceIte, Nat.reduceEqDiff, Int.reduceEq, Int.reduceLT, Int.reduceLE, if_neg k2, a1, c1, Jq, p1, hok, Jr, q1]
   rw [hTe] at hr
   exact jY.runs hr (.inr rfl) (YO q2) rfl rfl (all1 (y7 (k := k) hk.le)) rfl
end Go.Proofs.Ytbgcphbbchndkaa
namespace Go.Abs
variable {K : Type}
def MapAt (enc : K → Value) (S : zh) (q : Nat) (m : List (K × Value)) : Prop :=
 ∃ es c, S.get q = some (.map es c) ∧ es.map (fun e => (e.key, e.val)) = m.map fun p => (enc p.1, p.2)
theorem ahr {P : Program} {t : TypeId} (enc : K → Value) (S : zh) : ∃ S2, kX P t none S = some (.map (some S.next), S2) ∧ MapAt enc S2 S.next [] ∧ S2.next = S.next + 1 ∧ (∀ j, j < S.next → S2.get j = S.get j) ∧ Ext S S2 :=
 ⟨_, rfl, ⟨[], 0, by rw [zh.jX, if_pos rfl], rfl⟩, by simp, fun j hj => by rw [zh.jX, if_neg (by omega)], Ext.push _ _⟩
theorem MapAt.keep {enc : K → Value} {S : zh} {q : Nat} {m : List (K × Value)} {S2 : zh} (h : MapAt enc S q m) (hg : S2.get q = S.get q) : MapAt enc S2 q m := by
 obtain ⟨es, c, h1, h2⟩ := h
 exact ⟨es, c, hg.trans h1, h2⟩
variable [DecidableEq K]
def abb : List (K × Value) → K → Option Value
 | [], _ => none
 | (a, v) :: m, k => if a = k then some v else abb m k
def midx : List (K × Value) → K → Nat
 | [], _ => 0
 | (a, _) :: m, k => if a = k then 0 else midx m k + 1
def ahP : List (K × Value) → K → Value → List (K × Value)
 | [], k, x => [(k, x)]
 | (a, v) :: m, k, x => if a = k then (k, x) :: m else (a, v) :: ahP m k x
theorem aac {m : List (K × Value)} {k : K} {x : Value} (h : abb m k = none) : ahP m k x = m ++ [(k, x)] := by
 induction m with
 | nil => rfl
 | cons p m ih =>
  obtain ⟨a, v⟩ := p
  unfold abb at h
  split at h
  ·
   cases h
  ·
   rename_i hn
   simp only [ahP, if_neg hn, ih h, List.cons_append]
structure afb (enc : K → Value) (kd : TypeDesc) : Prop where
 kind : ∀ k, Z4 kd (enc k) = true
 same : ∀ a b, Instr.sameNow kd (enc a) (enc b) = some (decide (a = b))
theorem ac5 : afb (fun n : Int => Value.int .i64 n) (.int .i64) := ⟨fun _ => rfl, fun a b => by
 show (if IntKind.i64 = IntKind.i64 then some (a == b) else none) = _
 rw [if_pos rfl]; by_cases h : a = b <;> simp [h]⟩
theorem WV {enc : K → Value} {kd : TypeDesc} (hK : afb enc kd) (k : K) : ∀ (es : List MapEntry) (m : List (K × Value)) (i : Nat), es.map (fun e => (e.key, e.val)) = m.map (fun p => (enc p.1, p.2)) →
  Instr.findNow kd (enc k) es i = some ((abb m k).map fun v => (i + midx m k, v)) := by
 intro es
 induction es with
 | nil =>
  intro m i h
  cases m with
  | nil => rfl
  | cons p m => simp at h
 | cons e es ih =>
  intro m i h
  cases m with
  | nil => simp at h
  | cons p m =>
   obtain ⟨a, v⟩ := p
   simp only [List.map_cons, List.cons.injEq, Prod.mk.injEq] at h
   obtain ⟨⟨h1, h2⟩, h3⟩ := h
   simp only [Instr.findNow, h1, hK.same, abb, midx]
   by_cases hk : k = a
   ·
    simp [hk, h2]
   ·
    rw [decide_eq_false hk, if_neg (fun h => hk h.symm), if_neg (fun h => hk h.symm)]
    simp only []
    rw [ih m (i + 1) h3]
    congr 2
    funext x
    congr 1
    omega
theorem adZ {enc : K → Value} {k : K} {x : Value} : ∀ (es : List MapEntry) (m : List (K × Value)), es.map (fun e => (e.key, e.val)) = m.map (fun p => (enc p.1, p.2)) → abb m k ≠ none →
  (es.modify (midx m k) fun e => { e with key := enc k, val := x }).map (fun e => (e.key, e.val)) = (ahP m k x).map fun p => (enc p.1, p.2) := by
 intro es
 induction es with
 | nil =>
  intro m h hn
  cases m with
  | nil => exact absurd rfl hn
  | cons p m => simp at h
 | cons e es ih =>
  intro m h hn
  cases m with
  | nil => simp at h
  | cons p m =>
   obtain ⟨a, v⟩ := p
   simp only [List.map_cons, List.cons.injEq, Prod.mk.injEq] at h
   obtain ⟨⟨h1, h2⟩, h3⟩ := h
   simp only [midx, ahP]
   by_cases hk : a = k
   ·
    simp [hk, h3]
   ·
    rw [if_neg hk, if_neg hk, List.modify_succ_cons]
    have hn' : abb m k ≠ none := by unfold abb at hn; rwa [if_neg hk] at hn
    simp only [List.map_cons, ih m h3 hn', h1, h2]
variable {P : Program} {t kt et : TypeId} {kd : TypeDesc} {z : Value} {enc : K → Value} {S S0 : zh} {q : Nat} {m : List (K × Value)}
theorem agW (hK : afb enc kd) (hm : MapAt enc S q m) (ht : P.underlying t = some (.map kt et)) (hk : P.underlying kt = some kd) (hz : zeroOf P et = some z) (hg : ground z = true) (k : K) :
  xQ P false t (.map (some q)) (enc k) false S = some ((abb m k).getD z, S) := by
 obtain ⟨es, c, h1, h2⟩ := hm
 unfold xQ wW
 simp only [Bool.false_eq_true, if_false, ht, hk, hK.kind, if_true, h1, WV hK k es m 0 h2]
 cases abb m k with
 | none => simp [hz, hg]
 | some v => simp
theorem agS (hK : afb enc kd) (hm : MapAt enc S q m) (ht : P.underlying t = some (.map kt et)) (hk : P.underlying kt = some kd) (k : K) (x : Value) :
  ∃ S2, wS P t (.map (some q)) (enc k) x S = some (undef, S2) ∧ MapAt enc S2 q (ahP m k x) ∧ S2.next = S.next ∧ (∀ j, j ≠ q → S2.get j = S.get j) ∧ (∀ S0, Ext S0 S → S0.next ≤ q → Ext S0 S2) := by
 obtain ⟨es, c, h1, h2⟩ := hm
 unfold wS
 simp only [ht, hk, hK.kind, if_true, h1, WV hK k es m 0 h2]
 cases hg : abb m k with
 | none =>
  refine ⟨_, rfl, ⟨es ++ [{ key := enc k, val := x, born := c }], c + 1, by rw [zh.wH, if_pos rfl], ?_⟩, by simp, fun j hj => by rw [zh.wH, if_neg hj], fun S0 hE hq => hE.set hq _⟩
  rw [aac hg]
  simp [h2]
 | some v =>
  refine ⟨_, rfl, ⟨_, c, by simp only [Option.map_some, Nat.zero_add, zh.wH, if_true], adZ es m h2 (by rw [hg]; simp)⟩, by simp, fun j hj => by rw [zh.wH, if_neg hj], fun S0 hE hq => hE.set hq _⟩
end Go.Abs
namespace Go.Proofs.Ytbgcphbbchndkaa
open Go.Abs
abbrev tl (k : Nat) (l : List TxV) : Value := vs fT 2 k l
theorem adE (t : TxV) : (fT t).length = 2 := rfl
theorem ahX (t : TxV) : (fT t).all (·.oneCell') = true := rfl
theorem YA {k : Nat} {l : List TxV} {S : zh} (h : Okl k l) : Jc Try.prog 26 (tl k l) S = some (.int .i64 l.length, S) := ada ZK h
theorem aav {k : Nat} {l pre suf : List TxV} {t : TxV} {S : zh} (h : Okl k l) (hl : l = pre ++ t :: suf) : zW Try.prog 26 (tl k l) (.int .i64 pre.length) S = some (EP [.int .i64 t.id, .int .i64 t.fee], S) := by
 have h1 : (pre.length : Int) < (l.length : Int) := by rw [hl]; simp; omega
 rw [agT ZK xK adE h (by omega) h1, adM hl]; rfl
theorem ahA {k : Nat} {l : List TxV} {t : TxV} {S : zh} (h : Okl k l) (hk : k ≠ 1) (hl : l.length ≤ 8796093022000) : wB Try.prog 26 26 (tl k l) (tl 2 [t]) S = some (tl 2 (l ++ [t]), S) := by
 rw [YG ZK xK ae3 rfl aee (by omega) ZK adE ahX h hk Okl.own (by simp; omega) (by simp; omega), if_neg (fun h => by have := h.2; simp at this)]
theorem aaA {α : Type} (g : α → Int) (v : Value) (l : List α) (k : Int) : abb (l.map fun t => (g t, v)) k = if k ∈ l.map g then some v else none := by
 induction l with
 | nil => rfl
 | cons t l ih =>
  simp only [List.map_cons, abb, ih, List.mem_cons]
  by_cases h : g t = k
  ·
   simp [h]
  ·
   have h' : ¬ k = g t := fun e => h e.symm
   simp [h, h']
abbrev kI : Int → Value := fun n => .int .i64 n
def unl (l : List TxV) : Bool := decide ((l.map TxV.id).Nodup) && decide (l.length ≤ 3)
theorem zK.round {k : Nat} {l : List TxV} (hk : Okl k l) (hl : l.length ≤ 8796093022208) {q : Nat} : ∀ (suf pre : List TxV) {T : List Value} {S : zh} {r : St}, qJ (zu Try.prog O false zK.jJ) T S = r → T.length = 24 →
  T.getD 0 undef = tl k l → T.getD 3 undef = .map (some q) → T.getD 7 undef = tl k l → T.getD 8 undef = .int .i64 l.length → T.getD 9 undef = .int .i64 pre.length → l = pre ++ suf →
  MapAt kI S q (pre.map fun t => (t.id, .bool true)) → q < S.next → (pre.map TxV.id).Nodup →
  ∃ e T' S', r = some (e, T', S') ∧ if (l.map TxV.id).Nodup then e = .exit 0 ∧ T'.length = 24 ∧ T'.getD 0 undef = tl k l else e = .ret ∧ T'.getD 2 undef = .bool false := by
 intro suf
 induction suf with
 | nil =>
  intro pre T S r hL hT h0 h3 h7 h8 h9 hpre hm hq hn
  have hTe := zK.eta hT
  rw [h0, h3, h7, h8, h9] at hTe
  have hr : zu Try.prog O false zK.jJ T S = zu Try.prog O false zK.jJ T S := rfl
  have d1 : ¬ (pre.length : Int) < (l.length : Int) := by rw [hpre]; simp
  conv at hr =>
   rhs
   rw [hTe]
   simp only [zK.jJ, zK.code, zK.rs, zSs, reduceIte, Nat.reduceEqDiff, Int.reduceEq, Int.reduceLT, Int.reduceLE, d1]
  refine ⟨_, _, _, hL.symm.trans (wo hr (by simp)), ?_⟩
  rw [if_pos (by rw [hpre, List.append_nil]; exact hn)]
  exact ⟨rfl, rfl, rfl⟩
 | cons t suf ih =>
  intro pre T S r hL hT h0 h3 h7 h8 h9 hpre hm hq hn
  have hTe := zK.eta hT
  rw [h0, h3, h7, h8, h9] at hTe
  have hr : zu Try.prog O false zK.jJ T S = zu Try.prog O false zK.jJ T S := rfl
  have d1 : (pre.length : Int) < (l.length : Int) := by rw [hpre]; simp; omega
  have e1 := fun S => aav (S := S) hk hpre
  have wi : IntKind.i64.wrap ((pre.length : Int) + 1) = ((pre ++ [t]).length : Int) := by rw [wrap_i64 (by omega) (by omega)]; simp
  obtain ⟨S2, p1, p2, p3, p4⟩ := Xv S t
  have hm2 : MapAt kI S2 q (pre.map fun t => (t.id, .bool true)) := hm.keep (p3.get q hq)
  have m1 : xQ Try.prog false 100 (.map (some q)) (.int .i64 t.id) false S2 = _ := agW ac5 hm2 Wv aeh aiv rfl t.id
  rw [aaA] at m1
  by_cases ht : t.id ∈ pre.map TxV.id
  ·
   rw [if_pos ht] at m1
   conv at hr =>
    rhs
    rw [hTe]
    simp only [zK.jJ, zK.code, zK.rs, zSs, reduceIte, Nat.reduceEqDiff, Int.reduceEq, Int.reduceLT, Int.reduceLE, d1, e1, xY, Jq, p1, vP, agA p2, m1, Option.getD_some]
   refine ⟨_, _, _, hL.symm.trans (wo hr (by simp)), ?_⟩
   rw [if_neg (by rw [hpre]; simp only [List.map_append, List.map_cons, List.nodup_append]; intro h; exact h.2.2 _ ht _ (by simp) rfl)]
   exact ⟨rfl, rfl⟩
  ·
   rw [if_neg ht] at m1
   obtain ⟨S3, u1, u2, u3, u4, u5⟩ := agS ac5 hm2 Wv aeh t.id (.bool true)
   have u1' : wS Try.prog 100 (.map (some q)) (.int .i64 t.id) (.bool true) S2 = some (undef, S3) := u1
   rw [aac (by rw [aaA, if_neg ht])] at u2
   conv at hr =>
    rhs
    rw [hTe]
    simp only [zK.jJ, zK.code, zK.rs, zSs, reduceIte, Nat.reduceEqDiff, Int.reduceEq, Int.reduceLT, Int.reduceLE, d1, e1, xY, Jq, p1, vP, agA p2, m1, Option.getD_none, u1', wi]
   refine ih (pre ++ [t]) ((yV hr).symm.trans hL) rfl rfl rfl rfl rfl rfl (by simp [hpre]) (by simpa using u2) (by omega) ?_
   simp only [List.map_append, List.map_cons, List.map_nil, List.nodup_append]
   exact ⟨hn, by simp, fun a ha b hb => by simp at hb; subst hb; exact fun h => ht (h ▸ ha)⟩
theorem zK.v {k : Nat} {l : List TxV} (hk : Okl k l) (k2 : k ≠ 2) (hl : l.length ≤ 8796093022208) (S : zh) : zM Try.prog O zK.id [tl k l] S = some (.bool (unl l), S) := by
 obtain ⟨T, hTe⟩ : ∃ T, T = (tl k l :: undef :: undef :: undef :: undef :: undef :: undef :: undef :: undef :: undef :: undef :: undef :: undef :: undef :: undef :: undef :: undef :: undef :: undef :: undef :: undef :: undef :: undef :: undef :: []) := ⟨_, rfl⟩
 have hr : zu Try.prog O false zK.code T zh.empty = zu Try.prog O false zK.code T zh.empty := rfl
 obtain ⟨S1, m1, m2, m3, m4, m5⟩ := ahr (P := Try.prog) (t := 100) kI zh.empty
 conv at hr =>
  rhs
  rw [hTe]
  simp only [zK.code, zK.rs, zSs, reduceIte, Nat.reduceEqDiff, Int.reduceEq, Int.reduceLT, Int.reduceLE, m1, if_neg k2, YA hk]
 generalize hL : qJ (zu Try.prog O false zK.jJ) _ _ = r at hr
 obtain ⟨e, T', S', rfl, g⟩ := zK.round hk hl l [] hL rfl rfl rfl rfl rfl rfl rfl m2 (by omega) List.nodup_nil
 unfold unl
 by_cases h : (l.map TxV.id).Nodup
 ·
  rw [if_pos h] at g
  obtain ⟨rfl, g2, g3⟩ := g
  have hTe' := zK.eta g2
  rw [g3] at hTe'
  have d3 : decide ((l.length : Int) ≤ 3) = decide (l.length ≤ 3) := decide_eq_decide.mpr (by omega)
  conv at hr =>
   rhs
   rw [hTe']
   simp only [zK.code, zK.rs, zSs, reduceIte, Nat.reduceEqDiff, Int.reduceEq, Int.reduceLT, Int.reduceLE, if_neg k2, YA hk, d3]
  rw [hTe] at hr
  rw [decide_eq_true h, Bool.true_and]
  exact zK.runs hr (.inr rfl) (all1 (vT hk.le fun _ _ => rfl)) rfl
 ·
  rw [if_neg h] at g
  obtain ⟨rfl, g2⟩ := g
  conv at hr =>
   rhs
   simp only [zSs, reduceIte, Nat.reduceEqDiff, Int.reduceEq, Int.reduceLT, Int.reduceLE]
  rw [hTe] at hr
  rw [decide_eq_false h, Bool.false_and]
  have hrun := zK.runs (S := S) hr (.inr rfl) (all1 (vT hk.le fun _ _ => rfl)) (by rw [g2]; rfl)
  rw [g2] at hrun
  exact hrun
def xG (l : List TxV) : Bool := unl l && l.all yw
def flat (l : List TxV) : List Int := l.flatMap fun t => [t.id, t.fee]
def aap (l : List TxV) : List UInt8 := encs ((l.length : Int) :: flat l)
def aiK (l : List TxV) : Value := if xG l then .tuple #[by_ 2 (aap l), .int .i64 0] else .tuple #[.slice none 0 0, .int .i64 61]
theorem Vb (a b : List TxV) : flat (a ++ b) = flat a ++ flat b := by simp [flat]
theorem KD (l : List TxV) : (flat l).length = 2 * l.length := by
 induction l with
 | nil => rfl
 | cons t l ih => rw [show flat (t :: l) = [t.id, t.fee] ++ flat l from rfl, List.length_append, ih]; simp; omega
theorem aaq {l : List TxV} (h : ∀ t ∈ l, yw t = true) : ∀ n ∈ flat l, 0 ≤ n ∧ n ≤ 1000000 := by
 intro n hn
 simp only [flat, List.mem_flatMap] at hn
 obtain ⟨t, h1, h2⟩ := hn
 obtain ⟨b1, b2, b3, b4⟩ := qG.mp (h t h1)
 simp at h2
 omega
theorem kJ (l : List TxV) : aap l = encs [(l.length : Int)] ++ encs (flat l) := xA [(l.length : Int)] (flat l)
theorem Ji {l : List TxV} (h : ∀ t ∈ l, yw t = true) : (encs (flat l)).length ≤ 20 * l.length := by
 have h1 := vS (l := flat l) (fun n hn => by have := aaq h n hn; omega)
 rw [KD] at h1
 omega
theorem zT.round {k : Nat} {l : List TxV} (hk : Okl k l) (hl : l.length ≤ 3) {A : List UInt8} (hA : A.length ≤ 100) : ∀ (suf pre : List TxV) {T : List Value} {S : zh} {r : St}, qJ (zu Try.prog O false zT.jJ) T S = r → T.length = 39 →
  T.getD 4 undef = by_ 2 (A ++ encs (flat pre)) → T.getD 20 undef = tl k l → T.getD 21 undef = .int .i64 l.length → T.getD 22 undef = .int .i64 pre.length → l = pre ++ suf → (∀ t ∈ pre, yw t = true) →
  ∃ e T' S', r = some (e, T', S') ∧ if l.all yw = true then e = .exit 0 ∧ T'.length = 39 ∧ T'.getD 4 undef = by_ 2 (A ++ encs (flat l)) else e = .ret ∧ T'.getD 2 undef = .slice none 0 0 ∧ T'.getD 3 undef = .int .i64 61 := by
 intro suf
 induction suf with
 | nil =>
  intro pre T S r hL hT h4 h20 h21 h22 hpre hp
  have hTe := zT.eta hT
  rw [h4, h20, h21, h22] at hTe
  have hr : zu Try.prog O false zT.jJ T S = zu Try.prog O false zT.jJ T S := rfl
  have d1 : ¬ (pre.length : Int) < (l.length : Int) := by rw [hpre]; simp
  conv at hr =>
   rhs
   rw [hTe]
   simp only [zT.jJ, zT.code, zT.rs, zSs, reduceIte, Nat.reduceEqDiff, Int.reduceEq, Int.reduceLT, Int.reduceLE, d1]
  refine ⟨_, _, _, hL.symm.trans (wo hr (by simp)), ?_⟩
  rw [List.append_nil] at hpre
  rw [hpre, if_pos (List.all_eq_true.mpr hp)]
  exact ⟨rfl, rfl, rfl⟩
 | cons t suf ih =>
  intro pre T S r hL hT h4 h20 h21 h22 hpre hp
  have hTe := zT.eta hT
  rw [h4, h20, h21, h22] at hTe
  have hr : zu Try.prog O false zT.jJ T S = zu Try.prog O false zT.jJ T S := rfl
  have d1 : (pre.length : Int) < (l.length : Int) := by rw [hpre]; simp; omega
  have e1 := fun S => aav (S := S) hk hpre
  have wi : IntKind.i64.wrap ((pre.length : Int) + 1) = ((pre ++ [t]).length : Int) := by rw [wrap_i64 (by omega) (by omega)]; simp
  obtain ⟨S2, p1, p2, p3, p4⟩ := Xv S t
  have c1 : ∀ S, zM Try.prog O 33 [.agg [Value.int .i64 t.id, .int .i64 t.fee].toArray] S = some (ahZ t, S) := fun S => jV.v t S
  unfold ahZ at c1
  by_cases ht : yw t = true
  ·
   rw [if_pos ht] at c1
   have hb := VD ht
   have hf := Ji hp
   have hpl : pre.length ≤ 3 := by omega
   have ap : ∀ S, wB Try.prog 23 23 (by_ 2 (A ++ encs (flat pre))) (by_ 1 (txB t)) S = some (by_ 2 (A ++ encs (flat (pre ++ [t]))), S) := fun S => by
    rw [qX Okl.own (by decide) Okl.read (by simp; omega), Vb, xA, ← List.append_assoc]; rfl
   conv at hr =>
    rhs
    rw [hTe]
    simp only [zT.jJ, zT.code, zT.rs, zSs, reduceIte, Nat.reduceEqDiff, Int.reduceEq, Int.reduceLT, Int.reduceLE, d1, e1, xY, Jq, p1, YO p2, c1, ap, wi]
   exact ih (pre ++ [t]) ((yV hr).symm.trans hL) rfl rfl rfl rfl rfl (by simp [hpre]) (fun x hx => by rcases List.mem_append.1 hx with h | h; { exact hp x h }; { simp at h; rw [h]; exact ht })
  ·
   rw [if_neg ht] at c1
   conv at hr =>
    rhs
    rw [hTe]
    simp only [zT.jJ, zT.code, zT.rs, zSs, reduceIte, Nat.reduceEqDiff, Int.reduceEq, Int.reduceLT, Int.reduceLE, d1, e1, xY, Jq, p1, YO p2, c1]
   refine ⟨_, _, _, hL.symm.trans (wo hr (by simp)), ?_⟩
   rw [if_neg (by rw [hpre]; simp [ht])]
   exact ⟨rfl, rfl, rfl⟩
theorem zT.v {k : Nat} {l : List TxV} (hk : Okl k l) (k2 : k ≠ 2) (hl : l.length ≤ 8796093022208) (S : zh) : zM Try.prog O zT.id [tl k l] S = some (aiK l, S) := by
 obtain ⟨T, hTe⟩ : ∃ T, T = (tl k l :: undef :: undef :: undef :: undef :: undef :: undef :: undef :: undef :: undef :: undef :: undef :: undef :: undef :: undef :: undef :: undef :: undef :: undef :: undef :: undef :: undef :: undef :: undef :: undef :: undef :: undef :: undef :: undef :: undef :: undef :: undef :: undef :: undef :: undef :: undef :: undef :: undef :: undef :: []) := ⟨_, rfl⟩
 have hr : zu Try.prog O false zT.code T zh.empty = zu Try.prog O false zT.code T zh.empty := rfl
 have c1 := fun S => zK.v hk k2 hl S
 have cl : jf 16 (tl k l) = true := vT hk.le fun _ _ => rfl
 unfold aiK xG
 by_cases hu : unl l = true
 ·
  have h3 : l.length ≤ 3 := by unfold unl at hu; simp at hu; exact hu.2
  have c2 := fun S => zG.v (l := [(l.length : Int)]) Okl.read (by decide) (by simp; omega) S
  have hA : (encs [(l.length : Int)]).length ≤ 100 := by
   have := vS (l := [(l.length : Int)]) (by simp; omega)
   simp at this; omega
  conv at hr =>
   rhs
   rw [hTe]
   simp only [zT.code, zT.rs, zSs, reduceIte, Nat.reduceEqDiff, Int.reduceEq, Int.reduceLT, Int.reduceLE, if_neg k2, c1, hu, YA hk, Y2, aii, c2, WO (l := [(l.length : Int)]) (by simp) (by intro n hn; simp at hn; omega) (by simp)]
  generalize hL : qJ (zu Try.prog O false zT.jJ) _ _ = r at hr
  obtain ⟨e, T', S', rfl, g⟩ := zT.round hk h3 hA l [] hL rfl (by rw [show flat [] = [] from rfl, show encs [] = [] from rfl, List.append_nil]; rfl) rfl rfl rfl rfl (fun t h => by cases h)
  by_cases ha : l.all yw = true
  ·
   rw [if_pos ha] at g
   obtain ⟨rfl, g2, g3⟩ := g
   have hTe' := zT.eta g2
   rw [g3] at hTe'
   conv at hr =>
    rhs
    rw [hTe']
    simp only [zT.code, zT.rs, zSs, reduceIte, Nat.reduceEqDiff, Int.reduceEq, Int.reduceLT, Int.reduceLE]
   rw [hTe] at hr
   rw [if_pos (by rw [hu, ha]; rfl), kJ]
   exact zT.runs hr (.inr rfl) (by simp only [List.getD_cons_succ, List.getD_cons_zero, jL, jF, jh, jv, jG]) rfl (all1 cl) (wU (all2 (y7 (k := 2) (Nat.le_refl 2)) rfl))
  ·
   rw [if_neg ha] at g
   obtain ⟨rfl, g2, g3⟩ := g
   conv at hr =>
    rhs
    simp only [zSs, reduceIte, Nat.reduceEqDiff, Int.reduceEq, Int.reduceLT, Int.reduceLE]
   rw [hTe] at hr
   rw [if_neg (by rw [hu, Bool.true_and]; exact ha)]
   have hrun := zT.runs (S := S) hr (.inr rfl) (by rw [g2]; rfl) (by rw [g3]; rfl) (all1 cl) (by rw [g2, g3]; rfl)
   rw [g2, g3] at hrun
   exact hrun
 ·
  rw [Bool.not_eq_true] at hu
  conv at hr =>
   rhs
   rw [hTe]
   simp only [zT.code, zT.rs, zSs, reduceIte, Nat.reduceEqDiff, Int.reduceEq, Int.reduceLT, Int.reduceLE, if_neg k2, c1, hu]
  rw [hTe] at hr
  rw [if_neg (by rw [hu]; simp)]
  exact zT.runs hr (.inr rfl) rfl rfl (all1 cl) rfl
def good (l : List TxV) : Prop := (l.map TxV.id).Nodup ∧ ∀ t ∈ l, yw t = true
theorem vG {l : List TxV} : xG l = true ↔ good l ∧ l.length ≤ 3 := by
 unfold xG unl good
 simp [and_assoc, and_comm, and_left_comm]
end Go.Proofs.Ytbgcphbbchndkaa
namespace Go.Abs
variable {P : Program} {t : TypeId} {xs ys : Array Value} {d : Nat}
theorem JY (P : Program) : yh P program = some P := rfl
def FEq (P : Program) (d : Nat) (xs ys : Array Value) : List Field → List Bool → Prop
 | [], [] => True
 | f :: fs, b :: bs => (f.name ≠ "_" ∧ ∃ v w, yh P (part f.type xs f.offset) = some v ∧ yh P (part f.type ys f.offset) = some w ∧ yh P (Op.equalIn d f.type v w) = some b) ∧ FEq P d xs ys fs bs
 | _, _ => False
theorem adx {fs : List Field} (hu : P.underlying t = some (.struct fs.toArray)) (hs : P.stoodInHeld t = false) {bs : List Bool} (h : FEq P d xs ys fs bs) : yh P (Op.equalIn (d + 1) t (.agg xs) (.agg ys)) = some (bs.all id) := by
 rw [Op.equalIn]
 simp only [yc, qW hu, Option.bind_some, JY, hs, Bool.false_eq_true, if_false, List.forIn_toArray]
 clear hu hs
 induction fs generalizing bs with
 | nil =>
  cases bs with
  | nil => rfl
  | cons b bs => exact absurd h id
 | cons f fs ih =>
  cases bs with
  | nil => exact absurd h id
  | cons b bs =>
   obtain ⟨⟨h1, v, w, h2, h3, h4⟩, h5⟩ := h
   rw [List.forIn_cons]
   simp only [yc, if_pos h1, h2, h3, h4, Option.bind_some]
   cases b with
   | true =>
    simp only [Bool.not_true, Bool.false_eq_true, if_false, jH, Option.bind_some, List.all_cons, id, Bool.true_and]
    exact ih h5
   | false =>
    simp only [Bool.not_false, if_true, jH, Option.bind_some, List.all_cons, id, Bool.false_and]
theorem aa4 {fs : List Field} {S : zh} (hu : P.underlying t = some (.struct fs.toArray)) (hs : P.stoodInHeld t = false) (hg : P.eqGuardType P.depth t = false) {bs : List Bool} (h : FEq P 9999 xs ys fs bs)
  (gx : ground (.agg xs) = true) (gy : ground (.agg ys) = true) : jZ P .eql t (.agg xs) (.agg ys) S = some (.bool (bs.all id), S) ∧ jZ P .neq t (.agg xs) (.agg ys) S = some (.bool (!bs.all id), S) := by
 rw [aaf, aaf]
 have e : yh P (Op.equal t (.agg xs) (.agg ys)) = some (bs.all id) := adx hu hs h
 have g : yh P (eqGuard .eql t (.tmp 0) (.tmp 0) (.agg xs) (.agg ys)) = some () := by
  unfold eqGuard
  simp only [Bool.not_true, Bool.false_eq_true, if_false, yc, JY, Option.bind_some, hg, Bool.not_false, if_true]
  rfl
 have g' : yh P (eqGuard .neq t (.tmp 0) (.tmp 0) (.agg xs) (.agg ys)) = some () := by
  unfold eqGuard
  simp only [Bool.not_true, Bool.false_eq_true, if_false, yc, JY, Option.bind_some, hg, Bool.not_false, if_true]
  rfl
 have ha : [Value.agg xs, .agg ys].all ground = true := by simp [gx, gy]
 constructor
 ·
  unfold vO qK
  simp only [hu]
  show wQ P [Value.agg xs, .agg ys] _ S = _
  refine jK ha ?_ rfl
  simp only [yc, g, Option.bind_some]
  unfold binOp
  simp only [yc, e, Option.bind_some, jH]
 ·
  unfold vO qK
  simp only [hu]
  show wQ P [Value.agg xs, .agg ys] _ S = _
  refine jK ha ?_ rfl
  simp only [yc, g', Option.bind_some]
  unfold binOp
  simp only [yc, e, Option.bind_some, jH]
end Go.Abs
namespace Go.Proofs.Ytbgcphbbchndkaa
open Go.Abs
theorem TxV.ext_iff' {t u : TxV} : t = u ↔ t.id = u.id ∧ t.fee = u.fee := by cases t; cases u; simp
theorem ah1 (t u : TxV) (S : zh) : jZ Try.prog .eql 25 (tv t) (tv u) S = some (.bool (decide (t = u)), S) ∧ jZ Try.prog .neq 25 (tv t) (tv u) S = some (.bool (!decide (t = u)), S) := by
 have h := aa4 (S := S) (xs := #[Value.int .i64 t.id, .int .i64 t.fee]) (ys := #[Value.int .i64 u.id, .int .i64 u.fee]) (bs := [t.id == u.id, t.fee == u.fee]) aeV (by kernel_rfl) (by kernel_rfl)
  ⟨⟨by decide, .int .i64 t.id, .int .i64 u.id, by kernel_rfl, by kernel_rfl, by kernel_rfl⟩, ⟨by decide, .int .i64 t.fee, .int .i64 u.fee, by kernel_rfl, by kernel_rfl, by kernel_rfl⟩, trivial⟩ rfl rfl
 have e : [t.id == u.id, t.fee == u.fee].all id = decide (t = u) := by
  rw [Bool.eq_iff_iff]
  simp [TxV.ext_iff']
 rw [e] at h
 exact h
theorem slices_Equal.round {k j : Nat} {a b : List TxV} (hk : Okl k a) (hj : Okl j b) (k2 : k ≠ 2) (j2 : j ≠ 2) (hab : a.length = b.length) (hlen : a.length ≤ 17592186044416) {S : zh} : ∀ (sa sb pa pb : List TxV) {T : List Value} {r : St}, qJ (zu Try.prog O false slices_Equal.jJ) T S = r → T.length = 26 →
  T.getD 0 undef = tl k a → T.getD 1 undef = tl j b → T.getD 12 undef = .int .i64 a.length → T.getD 13 undef = .int .i64 pa.length → a = pa ++ sa → b = pb ++ sb → pa.length = pb.length → pa = pb →
  ∃ e T', r = some (e, T', S) ∧ if a = b then e = .exit 0 ∧ T'.length = 26 else e = .ret ∧ T'.getD 4 undef = .bool false := by
 intro sa
 induction sa with
 | nil =>
  intro sb pa pb T r hL hT h0 h1 h12 h13 ha hb hp hpp
  have hTe := slices_Equal.eta hT
  rw [h0, h1, h12, h13] at hTe
  have hr : zu Try.prog O false slices_Equal.jJ T S = zu Try.prog O false slices_Equal.jJ T S := rfl
  have hd : ¬ (pa.length : Int) < (a.length : Int) := by rw [ha]; simp
  conv at hr =>
   rhs
   rw [hTe]
   simp only [slices_Equal.jJ, slices_Equal.code, slices_Equal.rs, zSs, reduceIte, Nat.reduceEqDiff, Int.reduceEq, Int.reduceLT, Int.reduceLE, hd]
  have hsb : sb = [] := by rw [ha, hb] at hab; simp [hp] at hab; exact hab
  refine ⟨_, _, hL.symm.trans (wo hr (by simp)), ?_⟩
  rw [if_pos (by rw [ha, hb, hsb, hpp])]
  exact ⟨rfl, rfl⟩
 | cons x sa ih =>
  intro sb pa pb T r hL hT h0 h1 h12 h13 ha hb hp hpp
  have hTe := slices_Equal.eta hT
  rw [h0, h1, h12, h13] at hTe
  have hr : zu Try.prog O false slices_Equal.jJ T S = zu Try.prog O false slices_Equal.jJ T S := rfl
  have hd : (pa.length : Int) < (a.length : Int) := by rw [ha]; simp; omega
  cases sb with
  | nil => rw [ha, hb] at hab; simp [hp] at hab
  | cons y sb =>
   have e1 := fun S => aav (S := S) hk ha
   have e2 : ∀ S, zW Try.prog 26 (tl j b) (.int .i64 pa.length) S = some (EP [.int .i64 y.id, .int .i64 y.fee], S) := fun S => by rw [hp]; exact aav hj hb
   have wi : IntKind.i64.wrap ((pa.length : Int) + 1) = ((pa ++ [x]).length : Int) := by rw [wrap_i64 (by omega) (by omega)]; simp
   have q : ∀ S, jZ Try.prog .neq 25 (.agg [Value.int .i64 x.id, .int .i64 x.fee].toArray) (.agg [Value.int .i64 y.id, .int .i64 y.fee].toArray) S = some (.bool (!decide (x = y)), S) := fun S => (ah1 x y S).2
   by_cases hxy : x = y
   ·
    conv at hr =>
     rhs
     rw [hTe]
     simp only [slices_Equal.jJ, slices_Equal.code, slices_Equal.rs, zSs, reduceIte, Nat.reduceEqDiff, Int.reduceEq, Int.reduceLT, Int.reduceLE, hd, if_neg k2, if_neg j2, e1, e2, xY, q, decide_eq_true hxy, wi]
    subst hxy
    exact ih sb (pa ++ [x]) (pb ++ [x]) ((yV hr).symm.trans hL) rfl rfl rfl rfl rfl (by simp [ha]) (by simp [hb]) (by simp [hp]) (by rw [hpp])
   ·
    conv at hr =>
     rhs
     rw [hTe]
     simp only [slices_Equal.jJ, slices_Equal.code, slices_Equal.rs, zSs, reduceIte, Nat.reduceEqDiff, Int.reduceEq, Int.reduceLT, Int.reduceLE, hd, if_neg k2, if_neg j2, e1, e2, xY, q, decide_eq_false hxy]
    refine ⟨_, _, hL.symm.trans (wo hr (by simp)), ?_⟩
    rw [if_neg (by rw [ha, hb, hpp]; simp [hxy])]
    exact ⟨rfl, rfl⟩
theorem slices_Equal.v {k j : Nat} {a b : List TxV} (hk : Okl k a) (hj : Okl j b) (k2 : k ≠ 2) (j2 : j ≠ 2) (hlen : a.length ≤ 17592186044416) (S : zh) : zM Try.prog O slices_Equal.id [tl k a, tl j b] S = some (.bool (decide (a = b)), S) := by
 obtain ⟨T, hTe⟩ : ∃ T, T = (tl k a :: tl j b :: undef :: undef :: undef :: undef :: undef :: undef :: undef :: undef :: undef :: undef :: undef :: undef :: undef :: undef :: undef :: undef :: undef :: undef :: undef :: undef :: undef :: undef :: undef :: undef :: []) := ⟨_, rfl⟩
 have hr : zu Try.prog O false slices_Equal.code T S = zu Try.prog O false slices_Equal.code T S := rfl
 by_cases hab : a.length = b.length
 ·
  have d1 : ¬ (a.length : Int) ≠ (b.length : Int) := by omega
  conv at hr =>
   rhs
   rw [hTe]
   simp only [slices_Equal.code, slices_Equal.rs, zSs, reduceIte, Nat.reduceEqDiff, Int.reduceEq, Int.reduceLT, Int.reduceLE, if_neg k2, if_neg j2, YA hk, YA hj, hab]
  rw [← hab] at hr
  generalize hL : qJ (zu Try.prog O false slices_Equal.jJ) _ _ = r at hr
  obtain ⟨e, T', rfl, g⟩ := slices_Equal.round hk hj k2 j2 hab hlen a b [] [] hL rfl rfl rfl rfl rfl rfl rfl rfl rfl
  by_cases h : a = b
  ·
   rw [if_pos h] at g
   obtain ⟨rfl, g2⟩ := g
   have hTe' := slices_Equal.eta g2
   conv at hr =>
    rhs
    rw [hTe']
    simp only [slices_Equal.code, slices_Equal.rs, zSs, reduceIte, Nat.reduceEqDiff, Int.reduceEq, Int.reduceLT, Int.reduceLE]
   rw [hTe] at hr
   rw [decide_eq_true h]
   exact slices_Equal.runs hr (.inr rfl)
  ·
   rw [if_neg h] at g
   obtain ⟨rfl, g2⟩ := g
   conv at hr =>
    rhs
    simp only [zSs, reduceIte, Nat.reduceEqDiff, Int.reduceEq, Int.reduceLT, Int.reduceLE]
   rw [hTe] at hr
   have hrun := slices_Equal.runs hr (.inr rfl)
   rw [g2] at hrun
   rw [decide_eq_false h]
   exact hrun
 ·
  have d1 : ¬ (a.length : Int) = (b.length : Int) := by omega
  conv at hr =>
   rhs
   rw [hTe]
   simp only [slices_Equal.code, slices_Equal.rs, zSs, reduceIte, Nat.reduceEqDiff, Int.reduceEq, Int.reduceLT, Int.reduceLE, if_neg k2, if_neg j2, YA hk, YA hj, d1]
  rw [hTe] at hr
  rw [decide_eq_false (fun h : a = b => hab (by rw [h]))]
  exact slices_Equal.runs hr (.inr rfl)
theorem ae4 : ∀ {a b : List TxV}, flat a = flat b → a = b := by
 intro a
 induction a with
 | nil => intro b h; cases b with
  | nil => rfl
  | cons u b => simp [flat] at h
 | cons t a ih =>
  intro b h
  cases b with
  | nil => simp [flat] at h
  | cons u b =>
   have h' : [t.id, t.fee] ++ flat a = [u.id, u.fee] ++ flat b := h
   simp at h'
   rw [ih h'.2.2, TxV.ext_iff'.mpr ⟨h'.1, h'.2.1⟩]
theorem afS {l : List TxV} (h : ∀ t ∈ l, yw t = true) : ∀ n ∈ flat l, Few n := fun n hn => by have := aaq h n hn; unfold Few; omega
theorem ac3 {a b : List TxV} {r s : List UInt8} (la : a.length ≤ 1000) (lb : b.length ≤ 1000) (ha : ∀ t ∈ a, yw t = true) (hb : ∀ t ∈ b, yw t = true) (h : aap a ++ r = aap b ++ s) : a = b ∧ r = s := by
 rw [kJ, kJ, List.append_assoc, List.append_assoc] at h
 obtain ⟨h1, h2⟩ := ZF (a := [(a.length : Int)]) (c := [(b.length : Int)]) rfl (by simp [Few]; omega) (by simp [Few]; omega) h
 simp at h1
 obtain ⟨h3, h4⟩ := ZF (by rw [KD, KD]; omega) (afS ha) (afS hb) h2
 exact ⟨ae4 h3, h4⟩
theorem aal {a b : List TxV} {r s : List UInt8} (ha : xG a = true) (hb : xG b = true) (h : aap a ++ r = aap b ++ s) : a = b ∧ r = s := by
 obtain ⟨h1, h2⟩ := vG.mp ha
 obtain ⟨h3, h4⟩ := vG.mp hb
 exact ac3 (by omega) (by omega) h1.2 h3.2 h
noncomputable def xH (l : List UInt8) : Option (List TxV) := rd (fun t => xG t = true) aap l
theorem xX (l : List UInt8) (t : List TxV) : xH l = some t ↔ xG t = true ∧ l = aap t :=
 adh (fun x y hx hy h => (aal (r := []) (s := []) hx hy (by simpa using h)).1) l t
theorem abH {l : List UInt8} (h : ∀ t, ¬ (xG t = true ∧ l = aap t)) : xH l = none := by
 cases hr : xH l with
 | none => rfl
 | some t => exact absurd ((xX l t).mp hr) (h t)
noncomputable def aau (k : Nat) (l : List UInt8) : Value := match xH l with
 | some t => .tuple #[tl (if t = [] then k else 2) t, .int .i64 0]
 | none => .tuple #[.slice none 0 0, .int .i64 61]
def ZX : Nat → List UInt8 → Option (List TxV × List UInt8)
 | 0, l => some ([], l)
 | m + 1, l => match wJ 2 l with
  | some ([a, b], r) => if yw ⟨a, b⟩ then (match ZX m r with
   | some (x, y) => some (⟨a, b⟩ :: x, y)
   | none => none) else none
  | _ => none
theorem Y3 : ∀ (m : Nat) (l : List UInt8) (a : List TxV) (b : List UInt8), ZX m l = some (a, b) ↔ a.length = m ∧ (∀ t ∈ a, yw t = true) ∧ l = encs (flat a) ++ b := by
 intro m
 induction m with
 | zero =>
  intro l a b
  constructor
  ·
   intro h; cases h; exact ⟨rfl, (fun t h => by cases h), rfl⟩
  ·
   rintro ⟨h1, h2, h3⟩
   have : a = [] := List.length_eq_zero_iff.mp h1
   subst this
   rw [h3]; rfl
 | succ m ih =>
  intro l a b
  rw [ZX]
  constructor
  ·
   intro h
   rcases KE l with hn | ⟨x, y, r, hn, hlr⟩
   ·
    rw [hn] at h; cases h
   ·
    rw [hn] at h
    dsimp only at h
    split at h
    ·
     rename_i hok
     cases hr : ZX m r with
     | none => rw [hr] at h; cases h
     | some ab =>
      obtain ⟨a', b'⟩ := ab
      rw [hr] at h
      obtain ⟨h1, h2, h3⟩ := (ih r a' b').mp hr
      cases h
      obtain ⟨f1, f2, f3⟩ := (wE _ _ _ _).mp hn
      refine ⟨by simp [h1], fun t ht => ?_, ?_⟩
      ·
       rcases List.mem_cons.1 ht with rfl | ht
       ·
        exact hok
       ·
        exact h2 t ht
      ·
       rw [f2, h3, show flat (⟨x, y⟩ :: a') = [x, y] ++ flat a' from rfl, xA, List.append_assoc]
    ·
     cases h
  ·
   rintro ⟨h1, h2, h3⟩
   cases a with
   | nil => simp at h1
   | cons t a =>
    have ht := h2 t (by simp)
    obtain ⟨b1, b2, b3, b4⟩ := qG.mp ht
    have hn := (wE 2 l [t.id, t.fee] (encs (flat a) ++ b)).mpr ⟨rfl, by rw [h3, show flat (t :: a) = [t.id, t.fee] ++ flat a from rfl, xA, List.append_assoc], by simp [Few]; omega⟩
    rw [hn]
    dsimp only
    rw [if_pos ht, (ih (encs (flat a) ++ b) a b).mpr ⟨by simpa using h1, fun u hu => h2 u (by simp [hu]), rfl⟩]
theorem ahh (l : List UInt8) : wJ 1 l = none ∨ ∃ a r, wJ 1 l = some ([a], r) ∧ r.length ≤ l.length := by
 cases h : wJ 1 l with
 | none => exact .inl rfl
 | some ar =>
  obtain ⟨a, r⟩ := ar
  obtain ⟨h1, h2⟩ := ZA h
  match a, h1 with
  | [x], _ => exact .inr ⟨x, r, rfl, h2⟩
theorem ZE {l r : List UInt8} {n : Int} (h : wJ 1 l = some ([n], r)) (t : List TxV) : xH l = some t ↔ 0 ≤ n ∧ n ≤ 3 ∧ ZX n.toNat r = some (t, []) ∧ unl t = true := by
 obtain ⟨_, h2, h3⟩ := (wE _ _ _ _).mp h
 rw [xX, Y3]
 constructor
 ·
  rintro ⟨g1, g2⟩
  obtain ⟨h5, h6⟩ := vG.mp g1
  rw [kJ, h2] at g2
  obtain ⟨h7, h8⟩ := ZF (a := [n]) (c := [(t.length : Int)]) rfl h3 (by simp [Few]; omega) g2
  simp at h7
  refine ⟨by omega, by omega, ⟨by omega, h5.2, by simpa using h8⟩, ?_⟩
  unfold xG at g1
  simp at g1
  exact g1.1
 ·
  rintro ⟨g1, g2, ⟨g3, g4, g5⟩, g6⟩
  refine ⟨?_, ?_⟩
  ·
   unfold xG
   rw [g6, Bool.true_and, List.all_eq_true]
   exact g4
  ·
   have : n = (t.length : Int) := by omega
   rw [h2, g5, List.append_nil, kJ, this]
theorem Q5 {l : List UInt8} (h : wJ 1 l = none) : xH l = none := by
 refine abH fun t ht => ?_
 obtain ⟨h5, h6⟩ := vG.mp ht.1
 have := (wE 1 l [(t.length : Int)] (encs (flat t))).mpr ⟨rfl, by rw [ht.2, kJ], by simp [Few]; omega⟩
 rw [h] at this
 cases this
end Go.Proofs.Ytbgcphbbchndkaa
namespace Go.Proofs.Ytbgcphbbchndkaa
open Go.Abs
theorem ah2 (t : TxV) (S : zh) : jB Try.prog 26 1 [(0, tv t)] S = some (tl 2 [t], S) := by kernel_rfl
theorem ajb (k : Nat) (hk : k ≤ 2) (a : Int) (h : k ≠ 0) (S : zh) : zW Try.prog 57 (iz k [a]) (.int .i64 0) S = some (EP [.int .i64 a], S) := acB ⟨hk, fun h0 => absurd h0 h⟩ (by decide) (by simp)
theorem ab5 {k : Nat} (hk : k ≤ 2) (l : List TxV) : Okl (if l = [] then k else 2) l := ⟨by split <;> omega, fun h => by split at h <;> first | assumption | omega⟩
theorem zn.round {n : Int} (hn : n ≤ 3) : ∀ (m : Nat) (i : Int) (rest : List UInt8) (out : List TxV) {T : List Value} {S : zh} {r : St}, qJ (zu Try.prog O false zn.jJ) T S = r → T.length = 59 →
  T.getD 5 undef = by_ 2 rest → T.getD 7 undef = tl (if out = [] then 0 else 2) out → T.getD 33 undef = .int .i64 n → T.getD 34 undef = .int .i64 i → 0 ≤ i → n = i + m → out.length ≤ 3 - m → rest.length ≤ 140737488355328 →
  ∃ e T' S', r = some (e, T', S') ∧ match ZX m rest with
   | some (ts, r') => e = .exit 0 ∧ T'.length = 59 ∧ T'.getD 5 undef = by_ 2 r' ∧ T'.getD 7 undef = tl (if out ++ ts = [] then 0 else 2) (out ++ ts)
   | none => e = .ret ∧ T'.getD 2 undef = .slice none 0 0 ∧ T'.getD 3 undef = .int .i64 61 := by
 intro m
 induction m with
 | zero =>
  intro i rest out T S r hL hT h5 h7 h33 h34 hi hm ho hl
  have hTe := zn.eta hT
  rw [h5, h7, h33, h34] at hTe
  have hr : zu Try.prog O false zn.jJ T S = zu Try.prog O false zn.jJ T S := rfl
  have d1 : ¬ i < n := by omega
  conv at hr =>
   rhs
   rw [hTe]
   simp only [zn.jJ, zn.code, zn.rs, zSs, reduceIte, Nat.reduceEqDiff, Int.reduceEq, Int.reduceLT, Int.reduceLE, d1]
  refine ⟨_, _, _, hL.symm.trans (wo hr (by simp)), ?_⟩
  rw [ZX]
  exact ⟨rfl, rfl, rfl, by rw [List.append_nil]; rfl⟩
 | succ m ih =>
  intro i rest out T S r hL hT h5 h7 h33 h34 hi hm ho hl
  have hTe := zn.eta hT
  rw [h5, h7, h33, h34] at hTe
  have hr : zu Try.prog O false zn.jJ T S = zu Try.prog O false zn.jJ T S := rfl
  have d1 : i < n := by omega
  have c1 := fun S => jy.v (k := 1) (l := rest) Okl.read (by decide) hl S
  unfold aeN at c1
  rw [ZX]
  rcases KE rest with h | ⟨a, b, q, h, hlr⟩
  ·
   rw [h] at c1
   rw [h]
   obtain ⟨S2, p1, p2, p3, p4⟩ := Xv S ⟨0, 0⟩
   conv at hr =>
    rhs
    rw [hTe]
    simp only [zn.jJ, zn.code, zn.rs, zSs, reduceIte, Nat.reduceEqDiff, Int.reduceEq, Int.reduceLT, Int.reduceLE, d1, c1, Jq, p1]
   exact ⟨_, _, _, hL.symm.trans (wo hr (by simp)), rfl, rfl, rfl⟩
  ·
   rw [h] at c1
   rw [h]
   obtain ⟨S2, p1, p2, p3, p4⟩ := Xv S ⟨a, b⟩
   by_cases hok : yw ⟨a, b⟩ = true
   ·
    have wi : IntKind.i64.wrap (i + 1) = i + 1 := wrap_i64 (by omega) (by omega)
    have ap : ∀ S, wB Try.prog 26 26 (tl (if out = [] then 0 else 2) out) (tl 2 [⟨a, b⟩]) S = some (tl 2 (out ++ [⟨a, b⟩]), S) := fun S => ahA ⟨by split <;> omega, fun h => by split at h <;> first | assumption | omega⟩ (by split <;> omega) (by omega)
    have c2 : ∀ S, jB Try.prog 26 1 [(0, .agg [Value.int .i64 a, .int .i64 b].toArray)] S = some (tl 2 [⟨a, b⟩], S) := fun S => ah2 ⟨a, b⟩ S
    have c3 : zO Try.prog false 25 (.pointer (some ⟨S.next, 0, none⟩)) S2 = some (.agg [Value.int .i64 a, .int .i64 b].toArray, S2) := YO p2
    conv at hr =>
     rhs
     rw [hTe]
     simp only [zn.jJ, zn.code, zn.rs, zSs, reduceIte, Nat.reduceEqDiff, Int.reduceEq, Int.reduceLT, Int.reduceLE, d1, c1, Jq, p1, hok, c3, c2, ap, wi]
    obtain ⟨e, T', S', j1, j2⟩ := ih (i + 1) q (out ++ [⟨a, b⟩]) ((yV hr).symm.trans hL) rfl rfl (by rw [show (if out ++ [TxV.mk a b] = [] then 0 else 2) = 2 from if_neg (by simp)]; rfl) rfl rfl (by omega) (by omega) (by simp; omega) (by omega)
    refine ⟨e, T', S', j1, ?_⟩
    dsimp only
    rw [if_pos hok]
    cases hq : ZX m q with
    | none => rw [hq] at j2; exact j2
    | some tr =>
     obtain ⟨ts, r'⟩ := tr
     rw [hq] at j2
     dsimp only at j2 ⊢
     rw [List.append_assoc] at j2
     exact j2
   ·
    dsimp only
    rw [if_neg hok]
    rw [Bool.not_eq_true] at hok
    conv at hr =>
     rhs
     rw [hTe]
     simp only [zn.jJ, zn.code, zn.rs, zSs, reduceIte, Nat.reduceEqDiff, Int.reduceEq, Int.reduceLT, Int.reduceLE, d1, c1, Jq, p1, hok]
    exact ⟨_, _, _, hL.symm.trans (wo hr (by simp)), rfl, rfl, rfl⟩
theorem zn.v {k : Nat} {l : List UInt8} (hk : Okl k l) (k2 : k ≠ 2) (hl : l.length ≤ 140737488355328) (S : zh) : zM Try.prog O zn.id [by_ k l] S = some (aau 0 l, S) := by
 obtain ⟨T, hTe⟩ : ∃ T, T = (by_ k l :: undef :: undef :: undef :: undef :: undef :: undef :: undef :: undef :: undef :: undef :: undef :: undef :: undef :: undef :: undef :: undef :: undef :: undef :: undef :: undef :: undef :: undef :: undef :: undef :: undef :: undef :: undef :: undef :: undef :: undef :: undef :: undef :: undef :: undef :: undef :: undef :: undef :: undef :: undef :: undef :: undef :: undef :: undef :: undef :: undef :: undef :: undef :: undef :: undef :: undef :: undef :: undef :: undef :: undef :: undef :: undef :: undef :: undef :: []) := ⟨_, rfl⟩
 have hr : zu Try.prog O false zn.code T zh.empty = zu Try.prog O false zn.code T zh.empty := rfl
 have c1 := fun S => zk.v (many := 1) hk k2 hl S
 have r1 : Zw 0 (if k = 0 then 0 else 2) 1 l = _ := vI (m := 1) (by decide) (by decide)
 rw [r1] at c1
 have cl : [by_ k l].all (jf 16) = true := all1 (y7 (k := k) hk.le)
 unfold aau
 rcases ahh l with h | ⟨n, rest, h, hlr⟩
 ·
  rw [h] at c1
  rw [Q5 h]
  conv at hr =>
   rhs
   rw [hTe]
   simp only [zn.code, zn.rs, zSs, reduceIte, Nat.reduceEqDiff, Int.reduceEq, Int.reduceLT, Int.reduceLE, if_neg k2, c1]
  rw [hTe] at hr
  exact zn.runs hr (.inr rfl) rfl rfl cl rfl
 ·
  rw [h] at c1
  have e0 := ajb 1 (by decide) n (by decide)
  by_cases h0 : n < 0
  ·
   have hno : xH l = none := by
    cases hx : xH l with
    | none => rfl
    | some t => have := (ZE h t).mp hx; omega
   rw [hno]
   conv at hr =>
    rhs
    rw [hTe]
    simp only [zn.code, zn.rs, zSs, reduceIte, Nat.reduceEqDiff, Int.reduceEq, Int.reduceLT, Int.reduceLE, if_neg k2, c1, e0, qY, h0]
   rw [hTe] at hr
   exact zn.runs hr (.inr rfl) rfl rfl cl rfl
  ·
   by_cases h3 : 3 < n
   ·
    have hno : xH l = none := by
     cases hx : xH l with
     | none => rfl
     | some t => have := (ZE h t).mp hx; omega
    rw [hno]
    conv at hr =>
     rhs
     rw [hTe]
     simp only [zn.code, zn.rs, zSs, reduceIte, Nat.reduceEqDiff, Int.reduceEq, Int.reduceLT, Int.reduceLE, if_neg k2, c1, e0, qY, h0, h3]
    rw [hTe] at hr
    exact zn.runs hr (.inr rfl) rfl rfl cl rfl
   ·
    conv at hr =>
     rhs
     rw [hTe]
     simp only [zn.code, zn.rs, zSs, reduceIte, Nat.reduceEqDiff, Int.reduceEq, Int.reduceLT, Int.reduceLE, if_neg k2, c1, e0, qY, h0, h3]
    generalize hL : qJ (zu Try.prog O false zn.jJ) _ _ = r at hr
    obtain ⟨e, T', S', rfl, g⟩ := zn.round (n := n) (by omega) n.toNat 0 rest [] hL rfl rfl rfl rfl rfl (by omega) (by omega) (by simp) (by omega)
    cases hts : ZX n.toNat rest with
    | none =>
     rw [hts] at g
     obtain ⟨rfl, g2, g3⟩ := g
     have hno : xH l = none := by
      cases hx : xH l with
      | none => rfl
      | some t => have := (ZE h t).mp hx; rw [hts] at this; simp at this
     rw [hno]
     conv at hr =>
      rhs
      simp only [zSs, reduceIte, Nat.reduceEqDiff, Int.reduceEq, Int.reduceLT, Int.reduceLE]
     rw [hTe] at hr
     have hrun := zn.runs (S := S) hr (.inr rfl) (by rw [g2]; rfl) (by rw [g3]; rfl) cl (by rw [g2, g3]; rfl)
     rw [g2, g3] at hrun
     exact hrun
    | some tr =>
     obtain ⟨ts, r'⟩ := tr
     rw [hts] at g
     obtain ⟨rfl, g2, g3, g4⟩ := g
     rw [List.nil_append] at g4
     have hTe' := zn.eta g2
     rw [g3, g4] at hTe'
     by_cases hr0 : r' = []
     ·
      subst hr0
      have hts3 : ts.length ≤ 3 := by have := (Y3 _ _ _ _).mp hts; omega
      have c3 := fun S => zK.v (ab5 (by decide) ts).dem (KP (if ts = [] then 0 else 2)) (by omega) S
      by_cases hu : unl ts = true
      ·
       have hyes : xH l = some ts := (ZE h ts).mpr ⟨by omega, by omega, hts, hu⟩
       rw [hyes]
       conv at hr =>
        rhs
        rw [hTe']
        simp only [zn.code, zn.rs, zSs, reduceIte, Nat.reduceEqDiff, Int.reduceEq, Int.reduceLT, Int.reduceLE, Wy Okl.read, goInt, List.length_nil, Int.natCast_zero, Int.lt_irrefl, afT, c3, hu]
       rw [hTe] at hr
       exact zn.runs hr (.inr rfl) (by simp only [List.getD_cons_succ, List.getD_cons_zero, jL, jF, jh, jv, jG]) rfl cl (wU (all2 (vT (ab5 (by decide) ts).le fun _ _ => rfl) rfl))
      ·
       have hno : xH l = none := by
        cases hx : xH l with
        | none => rfl
        | some t => have := (ZE h t).mp hx; rw [hts] at this; simp at this; rw [this.2.2.1] at hu; exact absurd this.2.2.2 hu
       rw [hno]
       rw [Bool.not_eq_true] at hu
       conv at hr =>
        rhs
        rw [hTe']
        simp only [zn.code, zn.rs, zSs, reduceIte, Nat.reduceEqDiff, Int.reduceEq, Int.reduceLT, Int.reduceLE, Wy Okl.read, goInt, List.length_nil, Int.natCast_zero, Int.lt_irrefl, afT, c3, hu]
       rw [hTe] at hr
       exact zn.runs hr (.inr rfl) rfl rfl cl rfl
     ·
      have hp : (0 : Int) < (r'.length : Int) := by have := List.length_pos_iff.mpr hr0; omega
      have hno : xH l = none := by
       cases hx : xH l with
       | none => rfl
       | some t => have := (ZE h t).mp hx; rw [hts] at this; simp at this; exact absurd this.2.2.1.2 hr0
      rw [hno]
      conv at hr =>
       rhs
       rw [hTe']
       simp only [zn.code, zn.rs, zSs, reduceIte, Nat.reduceEqDiff, Int.reduceEq, Int.reduceLT, Int.reduceLE, Wy Okl.read, goInt, decide_eq_true hp]
      rw [hTe] at hr
      exact zn.runs hr (.inr rfl) rfl rfl cl rfl
end Go.Proofs.Ytbgcphbbchndkaa
namespace Go.Proofs.Ytbgcphbbchndkaa
open Go.Abs
theorem ZT {k : Nat} {l : List Int} {i : Int} {x : Int} {m : Nat} (h : Okl k l) (hi : i = (m : Int)) (hx : l[m]? = some x) (S : zh) : zW Try.prog 57 (iz k l) (.int .i64 i) S = some (EP [.int .i64 x], S) := by
 obtain ⟨h1, h2⟩ := List.getElem?_eq_some_iff.mp hx
 subst hi
 rw [acB h (by omega) (by omega)]
 simp [← h2]
end Go.Proofs.Ytbgcphbbchndkaa
namespace Go.Proofs.Ytbgcphbbchndkaa
open Go.Abs
theorem V9 {l : List TxV} (h : xG l = true) : (aap l).length ≤ 100 := by
 obtain ⟨h1, h2⟩ := vG.mp h
 have h3 := Ji h1.2
 have h4 := vS (l := [(l.length : Int)]) (by simp; omega)
 rw [kJ, List.length_append]
 simp at h4
 omega
theorem aaM (l : List UInt8) : ∃ t e, aeS l = .tuple #[tv t, .int .i64 e] ∧ ((e = 0 ∧ acd l = some t) ∨ (e = 61 ∧ acd l = none ∧ t = ⟨0, 0⟩)) := by
 unfold aeS
 cases h : acd l with
 | none => exact ⟨⟨0, 0⟩, 61, rfl, .inr ⟨rfl, rfl, rfl⟩⟩
 | some t => exact ⟨t, 0, rfl, .inl ⟨rfl, rfl⟩⟩
theorem V3 {j : Nat} (hj : j ≤ 2) (l : List UInt8) : ∃ k t e, Okl k t ∧ List.length t ≤ 3 ∧ aau j l = .tuple #[tl k t, .int .i64 e] ∧ ((e = 0 ∧ xH l = some t) ∨ (e = 61 ∧ xH l = none ∧ t = [])) := by
 unfold aau
 cases h : xH l with
 | none => exact ⟨0, [], 61, Okl.none, by simp, rfl, .inr ⟨rfl, rfl, rfl⟩⟩
 | some t => exact ⟨_, t, 0, ab5 hj t, (vG.mp ((xX l t).mp h).1).2, rfl, .inl ⟨rfl, rfl⟩⟩
theorem ah6 (x : (Ty.slc 16 tTx).Val) (hg : (Ty.slc 16 tTx).Good x) : ∃ k l, Okl k l ∧ k ≠ 2 ∧ (Ty.slc 16 tTx).JL x = [tl k l] ∧ l.length * 16 ≤ 140737488351232 ∧ ∀ t ∈ l, t.Ok :=
 aiB (b := 16) fT TxV.Ok aiy adE x hg
end Go.Proofs.Ytbgcphbbchndkaa
