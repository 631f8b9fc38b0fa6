/-
The law GateMarks returns true for every input, and leaves it as it was; no condition. Part 7 of 7 of the texts (put together by a program: own names are short, what isn't needed is left out).
-/
import Derived.Test.YtfjogganfjkckaaZGateMarks6
import Derived.Test.YtfjogganfjkckaaRows
import Derived.WalkKit
import Derived.ProofKit
import Derived.OpenShut
import Derived.ShutString
import Derived.ChangeOld
import Derived.Below
import Derived.SizedLaws
import Derived.Carry
set_option linter.unusedVariables false
set_option linter.unusedSimpArgs false
set_option maxRecDepth 100000
open Go renaming undef → zh
open Go.Proofs.Try renaming prog → zi
open Nat renaming reduceEqDiff → zk
open Int renaming reduceEq → zn
open Int renaming reduceLT → zo
open Int renaming reduceLE → zq
namespace Go.Proofs.Ytfjogganfjkckaa
open Go.Abs
namespace gateMarks
def codes:List (Bool×Ty):=[(false,.slc 8 (.int .i64)),(true,tM),(true,.pair (.int .i64) (.pair (.int .i64) .unit))]
theorem coded:Vk zi 9 [24,48,56]=some codes:=by kernel_rfl
theorem run {k:Nat} {l:List Int} {m:wY} {y0 y1:Int} (hk:Okl k l) (k2:k≠2) (hl:l.length≤17592186044416) (hm:m.Ok) (S:zx):∃ S',jd zi O 7 [iz k l,mv m,.agg [Value.int .i64 y0,.int .i64 y1].toArray] S=some (.bool true,S'):=by
 obtain ⟨T,hTe⟩:∃ T,T=(iz k l::mv m::.agg [Value.int .i64 y0,.int .i64 y1].toArray::zh::zh::zh::zh::zh::zh::zh::zh::zh::zh::zh::zh::zh::zh::zh::zh::zh::zh::zh::zh::zh::zh::zh::zh::zh::zh::zh::zh::zh::zh::zh::zh::zh::zh::zh::zh::zh::zh::zh::zh::zh::zh::zh::zh::zh::zh::zh::zh::zh::zh::zh::zh::zh::zh::zh::zh::zh::zh::zh::zh::zh::zh::zh::zh::zh::zh::zh::zh::zh::zh::zh::zh::zh::zh::zh::zh::zh::zh::zh::zh::zh::zh::zh::zh::zh::zh::zh::zh::zh::zh::zh::zh::zh::zh::zh::[]):=⟨_,rfl⟩
 have hr:zL zi O true zD.code T S=zL zi O true zD.code T S:=rfl
 obtain ⟨S1,b1,b2,b3,b4⟩:=aj3 m S
 obtain ⟨S2,d1,d2,d3,d4⟩:=adv (.agg [Value.int .i64 y0,.int .i64 y1].toArray) S1
 have d2:S2.get S1.next=some (.cells [Value.int .i64 y0,.int .i64 y1] (.own []) 0):=d2
 have gm:S2.get S.next=some (.cells (fM m) (.own []) 0):=(d3.get _ b4).trans b2
 have al:∀ S,ZB (jd zi O) 9 [] S=some (.bool true,S):=fun S=>ajn (jf.v S) rfl
 have nh:∀ m:wY,[mv m].all (fun x=>!QO x)=true:=fun m=>by simp only [List.all_cons,List.all_nil,alB];rfl
 have c1:∀ S,ZB (jd zi O) 19 [mv m] S=some (QS m,S):=fun S=>ajn (zS.v hm S) (nh m)
 have ld0:=xk gm hm.b.ne
 have done:∀ T2 S6,zL zi O true zD.code T S=some (.ret,T2,S6)→T2.getD 6 zh=.bool true→∃ S',jd zi O 7 [iz k l,mv m,.agg [Value.int .i64 y0,.int .i64 y1].toArray] S=some (.bool true,S'):=by
  intro T2 S6 hc q1
  rw [hTe] at hc
  have:=zD.runs hc (.inr rfl)
  rw [q1] at this
  exact ⟨S6,this⟩
 cases hR:qo m with
 | false =>
  have v1:QS m=.tuple #[.slice none 0 0,.int .i64 121]:=by rw [QS,hR];rfl
  rw [v1] at c1
  conv at hr =>
   rhs
   rw [hTe]
   simp only [zD.code,zD.rs,zSs,reduceIte,zk,zn,zo,zq,if_neg k2,b1,d1,al,ld0,c1]
  exact done _ _ hr rfl
 | true =>
  have v1:QS m=.tuple #[by_ 2 (JZ m),.int .i64 0]:=by rw [QS,hR];rfl
  rw [v1] at c1
  have hlm:=V6 hR
  generalize hD:JZ m=D at c1 hlm
  have ln:=fun S=>Vq (S:=S) hk
  have ln2:=fun S=>Zv (k:=1) (l:=D) (S:=S) Okl.read
  by_cases h20:(l.length:Int) > 20
  ·
   conv at hr =>
    rhs
    rw [hTe]
    simp only [zD.code,zD.rs,zSs,reduceIte,zk,zn,zo,zq,if_neg k2,b1,d1,al,ld0,c1,Vg,ln,goInt,h20]
   exact done _ _ hr rfl
  have ix:∀ (n:Int) S,0≤n→n < 2→jr zi 56 (.pointer (some ⟨S1.next,0,none⟩)) (.int .i64 n) S=some (.pointer (some ⟨S1.next,0+n.toNat * 1,none⟩),S):=fun n S h0 h2=>ajU ahj abx h0 h2
  have ix0:∀ S,jr zi 56 (.pointer (some ⟨S1.next,0,none⟩)) (.int .i64 0) S=some (.pointer (some ⟨S1.next,0,none⟩),S):=fun S=>ix 0 S (by decide) (by decide)
  have ix1:∀ S,jr zi 56 (.pointer (some ⟨S1.next,0,none⟩)) (.int .i64 1) S=some (.pointer (some ⟨S1.next,1,none⟩),S):=fun S=>ix 1 S (by decide) (by decide)
  have ly0:∀ {S:zx},S.get S1.next=some (.cells [Value.int .i64 y0,.int .i64 y1] (.own []) 0)→jl zi false 3 (.pointer (some ⟨S1.next,0,none⟩)) S=some (.int .i64 y0,S):=fun h=>qK (t:=3) (o:=0) h ZW rfl
  have ly1:∀ {S:zx},S.get S1.next=some (.cells [Value.int .i64 y0,.int .i64 y1] (.own []) 0)→jl zi false 3 (.pointer (some ⟨S1.next,1,none⟩)) S=some (.int .i64 y1,S):=fun h=>qK (t:=3) (o:=1) h ZW rfl
  by_cases h0:y0 < 0
  ·
   conv at hr =>
    rhs
    rw [hTe]
    simp only [zD.code,zD.rs,zSs,reduceIte,zk,zn,zo,zq,if_neg k2,b1,d1,al,ld0,c1,Vg,ln,goInt,h20,ix0,ly0 d2,h0]
   exact done _ _ hr rfl
  by_cases hy:y0 ≥ (D.length:Int)
  ·
   conv at hr =>
    rhs
    rw [hTe]
    simp only [zD.code,zD.rs,zSs,reduceIte,zk,zn,zo,zq,if_neg k2,b1,d1,al,ld0,c1,Vg,ln,ln2,goInt,h20,ix0,ly0 d2,h0,hy]
   exact done _ _ hr rfl
  obtain ⟨b,wb⟩:=alq y1
  have ha:=fun S=>agL (k:=1) (l:=D) (S:=S) (ki:=.i64) (i:=y0) Okl.read (by omega) (by omega)
  have hlt:y0.toNat < D.length:=by omega
  have hsplit:D=D.take y0.toNat++D[y0.toNat]::D.drop (y0.toNat+1):=by
   rw [← List.drop_eq_getElem_cons hlt,List.take_append_drop]
  generalize hc:D[y0.toNat]=c at ha hsplit
  have ic:∀ S,wH zi .eql 5 (.int .u8 b.toNat) (.int .u8 c.toNat) S=some (.bool (decide ((b.toNat:Int)=(c.toNat:Int))),S):=fun S=>rfl
  by_cases hbc:b=c
  ·
   have e1:decide ((b.toNat:Int)=(c.toNat:Int))=true:=decide_eq_true (by rw [hbc])
   conv at hr =>
    rhs
    rw [hTe]
    simp only [zD.code,zD.rs,zSs,reduceIte,zk,zn,zo,zq,if_neg k2,b1,d1,al,ld0,c1,Vg,ln,ln2,goInt,h20,ix0,ix1,ly0 d2,ly1 d2,h0,hy,WE,wb,ha,Wv,ic,e1]
   exact done _ _ hr rfl
  have e1:decide ((b.toNat:Int)=(c.toNat:Int))=false:=decide_eq_false fun h=>hbc (UInt8.toNat_inj.1 (by omega))
  obtain ⟨ya,A0,ra,A1,a1,a2,a3,a4,a5⟩:=air hk hl S2
  have xA:Ext S2 (A1.set ra .dead):=a4.set a5 _
  obtain ⟨q,A3,n1,G3,n3,n4⟩:=qP.v (k:=1) (l:=l) Okl.read (by decide) hl (A1.set ra .dead)
  have nw:ZB (jd zi O) 8 [ms ra l.length] A1=some (.pointer (some ⟨q,0,none⟩),A3):=by
   unfold ZB
   rw [abO (YG (f:=ci) (e:=1) (fun _=>rfl) a3) rfl]
   dsimp only
   rw [n1]
   rfl
  have x3:Ext S2 A3:=xA.trans n3
  have hlD:D.length≤140737488351232:=by omega
  obtain ⟨yb,B0,rb,B1,p1,p2,p3,p4,p5,p6⟩:=aam (k:=1) (D:=D) Okl.read hlD A3
  obtain ⟨m1,f1,B3,hR1,s1,GB,stB⟩:=akl G3 p4 p5 p3 hlD
  obtain ⟨yc,C0,rc,C1,q1,q2,q3,q4,q5,q6⟩:=aam (k:=1) (D:=D) Okl.read hlD B3
  have y2:C1.get S1.next=some (.cells [Value.int .i64 y0,.int .i64 y1] (.own []) 0):=by
   have h3:A3.get S1.next=_:=(x3.get _ d4).trans d2
   have h4:B3.get S1.next=_:=(stB.2 _ _ _ _ (Nat.lt_of_lt_of_le d4 x3.next) h3).trans h3
   exact (q4.get _ (Nat.lt_of_lt_of_le (Nat.lt_of_lt_of_le d4 x3.next) stB.1)).trans h4
  have hD':(D.take y0.toNat++b::D.drop (y0.toNat+1)).length=D.length:=by
   have:=congrArg List.length hsplit
   simp only [List.length_append,List.length_cons] at this ⊢
   omega
  have hne:(D.take y0.toNat++b::D.drop (y0.toNat+1))≠D:=fun h=>by
   have h2:=List.append_cancel_left (h.trans hsplit)
   injection h2 with h2
   exact hbc h2
  have ixc:∀ S,jr zi 33 (ms rc D.length) (.int .i64 y0) S=some (.pointer (some ⟨rc,0+y0.toNat * 1,none⟩),S):=fun S=>ajR xZ Qo (by omega) (by omega)
  obtain ⟨C2,t1,t2,t3,t4,t5⟩:=Xx (P:=zi) (t:=5) (x:=.int .u8 b.toNat) (o:=0+y0.toNat * 1) (n:=1) (S0:=B3) q3 Qo rfl rfl (by rw [List.append_nil,akV];omega) q4 q5
  have t2:C2.get rc=some (.cells ((D.take y0.toNat++b::D.drop (y0.toNat+1)).flatMap cb++[]) (.own []) 1):=by
   rw [t2]
   have e2:splice (D.flatMap cb++[]) (0+y0.toNat * 1) (Value.int IntKind.u8 b.toNat).cells.toList=(D.take y0.toNat++b::D.drop (y0.toNat+1)).flatMap cb++[]:=by
    conv=>lhs;rw [hsplit]
    rw [List.append_nil,List.append_nil,List.flatMap_append,List.flatMap_cons,List.flatMap_append,List.flatMap_cons]
    exact aev (by rw [akV];simp;omega)
   rw [e2]
  generalize hE:D.take y0.toNat++b::D.drop (y0.toNat+1)=E at hD' hne t2
  have hlE:E.length≤140737488351232:=by omega
  have GC:=GB.ext t3
  obtain ⟨w,e,hR2,r2⟩:=ahm (D:=E) hlE (r:=rc)
  have r3:=r2 C2 t2
  obtain ⟨C3,u1,u2,u3,u4⟩:=acF w C2
  have G4:=GC.ext u3
  have rcn:rc < C2.next:=by rw [t4];exact q6
  have tc:C3.get rc=some (.cells (E.flatMap cb++[]) (.own []) 1):=(u3.get _ rcn).trans t2
  obtain ⟨yd,D0,rd,D1,v1,v2,v3,v4,v5,v6⟩:=ahw tc (Nat.lt_of_lt_of_le rcn u3.next) hlE
  obtain ⟨w2,e2,D3,hR3,z1,GD,stD⟩:=adk G4 v4 v5 v3 hlE
  obtain ⟨ye,E0,re,E1,i1,i2,i3,i4,i5,i6⟩:=aam (k:=1) (D:=D) Okl.read hlD D3
  obtain ⟨w4,e4,E3,hR4,j1,GE,stE⟩:=adk GD i4 i5 i3 hlD
  have lw:E3.get C2.next=some (.cells (fM w) (.own []) 0):=by
   have h4:D3.get C2.next=_:=(stD.2 _ _ _ _ u4 u2).trans u2
   exact (stE.2 _ _ _ _ (Nat.lt_of_lt_of_le u4 stD.1) h4).trans h4
  have lw1:=yJ lw
  have cb1:ZB (jd zi O) 11 [.pointer (some ⟨q,0,none⟩),.int .i64 w.frm] E3=some (.bool (isBad l w.frm),E3):=ajn (wM.v GE w.frm) rfl
  obtain ⟨sm,rfl⟩:=aex hR2 hR3
  have hs1:ai7 [] D=[D]:=by simp [ai7]
  rw [hs1] at z1 j1
  have e4z:e4=0:=by
   rw [← hD] at hR4
   exact (YB hR hR4).1
  have pj:(xQ l [D] (xQ l [D] (ade [] m1 f1) E w2 e).2 D w4 e4).1=true:=by
   rw [xQ,if_pos e4z,if_pos (by simp)]
  rw [pj] at j1
  have pz:(xQ l [D] (ade [] m1 f1) E w2 e).1=true→e=0∧isBad l w.frm=true:=by
   intro hp
   by_cases he:e=0
   ·
    refine ⟨he,?_⟩
    rw [xQ,if_pos he,if_neg (by simpa using hne)] at hp
    rw [(vO.1 sm).2.1]
    by_cases hb:isBad l w2.frm=true
    ·
     exact hb
    ·
     rw [if_neg hb] at hp;cases hp
   ·
    rw [xQ,if_neg he] at hp;cases hp
  rw [hD'] at r3 v2 z1
  cases hp:(xQ l [D] (ade [] m1 f1) E w2 e).1 with
  | false =>
   rw [hp] at z1
   conv at hr =>
    rhs
    rw [hTe]
    simp only [zD.code,zD.rs,zSs,reduceIte,zk,zn,zo,zq,if_neg k2,b1,d1,al,ld0,c1,Vg,ln,ln2,goInt,h20,ix0,ix1,ly0 d2,ly1 d2,h0,hy,WE,wb,ha,Wv,ic,e1,a1,a2,nw,p1,p2,s1,q1,q2,ly0 y2,ly1 y2,ixc,t1,r3,Xr,u1,v1,v2,z1,i1,i2,j1]
   exact done _ _ hr rfl
  | true =>
   rw [hp] at z1
   obtain ⟨rfl,hb⟩:=pz hp
   rw [hb] at cb1
   conv at hr =>
    rhs
    rw [hTe]
    simp only [zD.code,zD.rs,zSs,reduceIte,zk,zn,zo,zq,if_neg k2,b1,d1,al,ld0,c1,Vg,ln,ln2,goInt,h20,ix0,ix1,ly0 d2,ly1 d2,h0,hy,WE,wb,ha,Wv,ic,e1,a1,a2,nw,p1,p2,s1,q1,q2,ly0 y2,ly1 y2,ixc,t1,r3,Xr,u1,v1,v2,z1,i1,i2,j1,jc,lw1,cb1]
   exact done _ _ hr rfl
theorem law (x:Args codes) (h:Args.Good codes x):∃ k,(JE zi k 7 (Args.place codes x zx.empty).1 (Args.place codes x zx.empty).2).map (·.1)=some (.bool true):=by
 obtain ⟨a,b,⟨c,d,u2⟩,u⟩:=x
 obtain ⟨h1,h2,h3,_⟩:=h
 obtain ⟨k,l,p1,p2,p3,p4,_⟩:=ajD a h1
 obtain ⟨m,m1,hm⟩:=alP b h2
 obtain ⟨S',e⟩:=run (y0:=c) (y1:=d) p1 p2 (by omega) hm zx.empty
 refine acY akK (S':=S') ?_
 have e2:Args.Y2 codes (a,b,(c,d,u2),u)=[iz k l,mv m,.agg [Value.int .i64 c,.int .i64 d].toArray]:=by
  show [Wh false ((Ty.slc 8 (.int .i64)).Y2 a),Wh true (tM.Y2 b),Wh true [Value.int .i64 c,Value.int .i64 d]]=_
  rw [p3,m1];rfl
 rw [e2]
 exact e
end gateMarks
end Go.Proofs.Ytfjogganfjkckaa
namespace Go.Proofs.Ytfjogganfjkckaa.gateMarks
open Go.ChangeShapes Go.WideShapes Go.ChangeAt Go.RowKit Go.Abs
theorem own:ownKnob zi.godebug=none:=by kernel_rfl
theorem laidOut:laidOutB zi=true:=by kernel_rfl
theorem mixes:zi.follows .mixedOrders=true:=by kernel_rfl
set_option maxRecDepth 100000 in
theorem lifted (os:Os) (started:os.Started) (H:Type) (enc:TypeId×Value→H) :
  ReturnsInHanded {} Try.checked os 7 .any (Rows.gateMarksSpec.pre6 enc zi Try.f7 Rows.gateMarksRow.domain false) (Rows.gateMarksSpec.post enc zi Try.f7 false true false false):=by
 refine returnsInHanded_of_change_sized (C:=Try.checked) own started (by kernel_rfl) Try.func7
  (ChangeSpec.witness6 (enc:=enc) (C:=Try.checked) false ⟨#[],#[.slice none 0 0,.agg #[.int .i64 0,.int .i64 0,.int .i64 0,.int .i64 0,.int .i64 0,.int .i64 0,.int .i64 0,.int .i64 0,.int .i64 0,.int .i64 0,.int .i64 0,.int .i64 0,.slice none 0 0],.agg #[.int .i64 0,.int .i64 0]],[]⟩ 8 (by kernel_rfl) (by kernel_rfl) (by kernel_rfl) (by kernel_rfl)) ?_
 intro W base args ds gs before hval0 hW hcnd hsz0 _
 have hW':=hW
 obtain ⟨p,q,hA0,hV,rfl,hfz,hnd⟩:=hW
 obtain ⟨rfl,rfl⟩:=trodVars_none hV
 have hsz1:(DataW.weightsEach zi (Try.f7.params.toList++Rows.gateMarksSpec.plain.varTypes zi) (ds++[])).all (·≤reachBytes)=true:=hsz0
 have hval:∀ (j:Nat) t v,Try.f7.params[j]?=some t→args[j]?=some v→Value.okWide zi W .any base t v:=hval0
 have hA1:DataW.TrodAll enc zi W 0 (fun _=>true) true Try.f7.params.toList args.toList ds p:=hA0
 rw [Try.params7] at hA1 hsz1 hval
 have hA:DataW.TrodAll enc zi W 0 (fun _=>true) true [24,48,56] args.toList ds p:=hA1
 have hsz:(DataW.weightsEach zi [24,48,56] ds).all (·≤reachBytes)=true:=by rw [List.append_nil ds] at hsz1;exact hsz1
 clear hA0 hA1 hval0 hsz0 hsz1
 have r:=hA
 obtain ⟨v0,vs0,d0,ds0,p0,q0,hargs0,rfl,hp0,h0,r0⟩:=trodAll_cons r
 obtain ⟨v1,vs1,d1,ds1,p1,q1,hargs1,rfl,hp1,h1,r1⟩:=trodAll_cons r0
 obtain ⟨v2,vs2,d2,ds2,p2,q2,hargs2,rfl,hp2,h2,r2⟩:=trodAll_cons r1
 obtain ⟨_,rfl,_⟩:=trodAll_nil r2
 refine (agT mixes coded law hA (fun j t v h1 h2=>hval j t v (by rw [List.getElem?_toArray];exact h1) h2) hsz).mono fun e W' ⟨he,bel⟩=>?_
 subst he
 exact ⟨_,rfl,_,_,_,[],_,[],hW',trodAll_mk1 (shut_bool (by kernel_rfl) _),ahZ laidOut bel _ _ _ _ (by kernel_rfl) hA,rfl,bel.frame _,fun h=>by cases h⟩
theorem over:Rows.gateMarksRow.holds Try.pinned (OpenSpec.ofChange Rows.gateMarksSpec) :=
 OpenClaim.holds_of_wide 7 Try.f7 rfl rfl rfl rfl rfl rfl rfl ⟨rfl,rfl,rfl,rfl,rfl⟩ rfl rfl rfl rfl rfl (by kernel_rfl) Try.func7 (by kernel_rfl)
  (of_decide_eq_true (by kernel_rfl)) (by unfold Func.isWrapper;first | (rw [if_pos (by decide +kernel)];kernel_rfl) | (rw [if_neg (by decide +kernel)];exact ⟨rfl,rfl⟩))
  (fun os started H enc _=>lifted os started H enc)
theorem proved:Rows.GateMarksSaid:=over
end Go.Proofs.Ytfjogganfjkckaa.gateMarks
namespace Go.Proofs.Ytfjogganfjkckaa
theorem gateMarks_holds:Rows.GateMarksSaid:=gateMarks.proved
#print axioms gateMarks_holds
end Go.Proofs.Ytfjogganfjkckaa
