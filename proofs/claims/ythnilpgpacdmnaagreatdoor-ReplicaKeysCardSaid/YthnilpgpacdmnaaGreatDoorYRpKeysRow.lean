import Derived.Test.YthnilpgpacdmnaaGreatDoorK36
import Derived.Test.YthnilpgpacdmnaaGreatDoorYLaidRow7
namespace Go.Proofs.YthnilpgpacdmnaaGreatDoor.bM
open Go.au Go.ChangeShapes Go.WideShapes Go.ChangeAt Go.RowKit
set_option linter.unusedVariables false
theorem own:ownKnob Tryz.prog.godebug=none:=kR
set_option maxRecDepth 100000 in
theorem lifted (e:Os) (b:e.Started) (x:Type) (c:TypeId×Value->x):
  ReturnsInHanded {} Tryz.checked e 3 .any (λd a=>(Rows.replicaKeysSpec.pre c Tryz.prog Tryz.f3 [] false d a/\laidMetH Tryz.prog GZ d)/\sizedMet c Tryz.prog Tryz.f3 (OpenSpec.ofChange Rows.replicaKeysSpec) false d a)
   (Rows.replicaKeysSpec.post c Tryz.prog Tryz.f3 false true false false):=by
 refine returnsInHanded_of_change_and (C:=Tryz.checked) (X:=λd _=>laidMetH Tryz.prog GZ d) (λ_ _ _ y f=>f.of_heap y) own b kR Tryz.func3
  (ChangeSpec.witness_shaped (enc:=c) (C:=Tryz.checked) (os:=e) (X:=λd _=>laidMetH Tryz.prog GZ d) false (World.doorLaid Tryz.prog 400 e) #[.agg #[.int .i64 0,.int .i64 0,.int .i64 0,.int .i64 0,.int .i64 0,.int .i64 0,.int .i64 0,.int .i64 0,.slice none 0 0,.slice none 0 0],.int .i64 0,.slice none 0 0,.agg #[.int .i64 0,.int .i64 0,.int .i64 0,.int .i64 0,.int .i64 0,.int .i64 0,.int .i64 0]] 8 rfl (World.shaped_of_RefB kR kR) kR kR kR (TH e _)) ?_
 intro o g a p z i A q a4 B l _;obtain⟨l,C⟩:=Ot l;have h:∀(j:Nat) r m,Tryz.f3.params[j]? =some r->a[j]? =some m->Value.okWide Tryz.prog o .any g r m:=A;have k:(DataW.weightsEach Tryz.prog (Tryz.f3.params.toList++Rows.replicaKeysSpec.plain.varTypes Tryz.prog) (p++z)).all (·<=reachBytes)=true:=B;have E:=q;obtain⟨F,a1,H,I,rfl,a5,a6⟩:=q;have s:DataW.TrodAll c Tryz.prog o 0 (λ_=>true) true Tryz.f3.params.toList a.toList p F:=H;rw [Tryz.params3]at s h k;obtain⟨t,a7,d0,a8,p0,q0,a2,rfl,rfl,J,K⟩:=trodAll_cons s;obtain⟨u,a9,d1,b0,p1,q1,rfl,rfl,rfl,L,M⟩:=trodAll_cons K;obtain⟨v,b1,d2,b2,p2,q2,rfl,rfl,rfl,N,O⟩:=trodAll_cons M;obtain⟨w,b3,d3,b4,p3,q3,rfl,rfl,rfl,P,Q⟩:=trodAll_cons O;obtain⟨rfl,rfl,rfl⟩:=trodAll_nil Q;obtain rfl:a= #[t,u,v,w]:=by cases a;simp_all
 obtain⟨rfl,rfl⟩:=trodVars_none I;obtain⟨R,S,rfl,T,U,V,W,X,Y,Z,i0,n⟩:=GR Tryz.underlying27 Mc (h 0 27 t rfl rfl) J (Ag k (j:=0) rfl rfl);obtain rfl:S=(gw R T U V W X Y).toArray:=Array.toList_inj.1 Z;obtain⟨x1,rfl,i1⟩:=Sq Tryz.underlying3 (h 1 3 u rfl rfl) L;obtain⟨b5,n2,c2,x2,rfl,b6,b7,i2⟩:=Sr Tryz.underlying28 kR dC kR (GS) (h 2 28 v rfl rfl) N (Ag k (j:=2) rfl rfl);obtain⟨x3,a3,rfl,a0,i3⟩:=GR Tryz.underlying30 CR (h 3 30 w rfl rfl) P (Ag k (j:=3) rfl rfl);obtain rfl:a3=(fx x3).toArray:=Array.toList_inj.1 a0;refine(uP C l i0 (λ_ f=>f) i2 (λ_ f=>f) i3 n.bN n.every n.start).mono λb8 W' ⟨m,he,hv,hk⟩=>?_;subst he;subst hv;exact⟨_,rfl,L_ (tb:=4) kR rfl Tryz.underlying4 rfl rfl rfl rfl kR E hk⟩
end Go.Proofs.YthnilpgpacdmnaaGreatDoor.bM
