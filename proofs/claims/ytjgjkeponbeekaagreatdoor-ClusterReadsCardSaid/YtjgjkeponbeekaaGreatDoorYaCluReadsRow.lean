import Derived.Test.YtjgjkeponbeekaaGreatDoorKa34
import Derived.Test.YtjgjkeponbeekaaGreatDoorYaLaidRow7
set_option linter.all false
namespace Go.Proofs.YtjgjkeponbeekaaGreatDoor.bB
open Go.ar Go.ChangeShapes Go.WideShapes Go.ChangeAt Go.RowKit
def own:ownKnob Tryz.prog.godebug=none:=kR
set_option maxRecDepth 100000 in
theorem lifted(e:Os)(b:e.Started)(x:Type)(c:TypeId×Value->x):
  ReturnsInHanded {} Tryz.checked e 4 .any (λd a=>(Rows.clusterReadsSpec.pre c XP Tryz.f4 [] false d a/\laidMetH XP Hi d)/\sizedMet c XP Tryz.f4 (OpenSpec.ofChange Rows.clusterReadsSpec) false d a)
   (Rows.clusterReadsSpec.post c XP Tryz.f4 false true false false):=by
 refine returnsInHanded_of_change_and (C:=Tryz.checked) (X:=λd _=>laidMetH XP Hi d) (λ_ _ _ y f=>f.of_heap y) own b kR Tryz.func4
  (ChangeSpec.witness_shaped (enc:=c) (C:=Tryz.checked) (os:=e) (X:=λd _=>laidMetH XP Hi d) false (World.doorLaid XP 400 e) #[.agg #[XH 0,XH 0,XH 0,XH 0,XH 0,XH 0,XH 0,XH 0,.slice none 0 0,.slice none 0 0,.slice none 0 0],XH 0,XH 0,XH 0] 8 rfl (World.shaped_of_RefB kR kR) kR kR kR (UO e _)) ?_
 intro n g a o z i A p a4 B k _;obtain⟨k,C⟩:=Pa k;have h:∀(j:Nat) q l,Tryz.f4.params[j]? =some q->a[j]? =some l->Value.okWide XP n .any g q l:=A;have r:(DataW.weightsEach XP (Tryz.f4.params.toList++Rows.clusterReadsSpec.plain.varTypes XP) (o++z)).all (·<=reachBytes)=true:=B;have E:=p;obtain⟨F,a1,H,I,rfl,a5,a6⟩:=p;have s:DataW.TrodAll c XP n 0 (λ_=>true) true Tryz.f4.params.toList a.toList o F:=H;rw[Tryz.params4]at s h r;obtain⟨t,a7,d0,a8,p0,q0,a9,rfl,rfl,J,K⟩:=trodAll_cons s;obtain⟨u,b0,d1,b1,p1,q1,rfl,rfl,rfl,L,M⟩:=trodAll_cons K;obtain⟨v,b2,d2,b3,p2,q2,rfl,rfl,rfl,N,O⟩:=trodAll_cons M;obtain⟨w,b4,d3,b5,p3,q3,rfl,rfl,rfl,P,Q⟩:=trodAll_cons O;obtain⟨rfl,rfl,rfl⟩:=trodAll_nil Q;obtain rfl:a= #[t,u,v,w]:=by cases a;simp_all
 obtain⟨rfl,rfl⟩:=trodVars_none I;obtain⟨⟨R,y0⟩,S,rfl,T,U,V,W,X,Y,Z,a2,a3,a0,i0,m,m0⟩:=Pb Tryz.underlying30 JH (h 0 30 t rfl rfl) J (Pc r (j:=0) rfl rfl);obtain rfl:S=(jQ R T U V W X Y Z a2 a3).toArray:=Array.toList_inj.1 a0;obtain⟨x1,rfl,i1⟩:=JI Tryz.underlying3 (h 1 3 u rfl rfl) L;obtain⟨x2,rfl,i2⟩:=JI Tryz.underlying3 (h 2 3 v rfl rfl) N;obtain⟨x3,rfl,i3⟩:=JI Tryz.underlying3 (h 3 3 w rfl rfl) P;refine(sO C k i0 (λ_ f=>f) m0 (λ_ f=>f) m.bM m.every m.start i1 i2 i3).mono λb6 W' ⟨l,he,hv,hk⟩=>?_;subst he;subst hv;exact⟨_,rfl,MF (tb:=4) kR rfl Tryz.underlying4 rfl rfl rfl rfl kR E hk⟩
end Go.Proofs.YtjgjkeponbeekaaGreatDoor.bB
