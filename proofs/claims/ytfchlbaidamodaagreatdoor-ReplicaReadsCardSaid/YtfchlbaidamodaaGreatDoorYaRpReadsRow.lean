import Derived.Test.YtfchlbaidamodaaGreatDoorKa37
import Derived.Test.YtfchlbaidamodaaGreatDoorYaLaidRow7
set_option linter.all false
namespace Go.Proofs.YtfchlbaidamodaaGreatDoor.bY
open Go.ax Go.ChangeShapes Go.WideShapes Go.ChangeAt Go.RowKit
theorem own:ownKnob Tryz.prog.godebug=none:=kR
set_option maxRecDepth 100000 in
theorem lifted (e:Os) (b:e.Started) (x:Type) (c:TypeId×Value->x):
  ReturnsInHanded {} Tryz.checked e 6 .any (λd a=>(Rows.replicaReadsSpec.pre c ZQ Tryz.f6 [] false d a/\laidMetH ZQ mz d)/\sizedMet c ZQ Tryz.f6 (OpenSpec.ofChange Rows.replicaReadsSpec) false d a)
   (Rows.replicaReadsSpec.post c ZQ Tryz.f6 false true false false):=by
 refine returnsInHanded_of_change_and (C:=Tryz.checked) (X:=λd _=>laidMetH ZQ mz d) (λ_ _ _ y f=>f.of_heap y) own b kR Tryz.func6
  (ChangeSpec.witness_shaped (enc:=c) (C:=Tryz.checked) (os:=e) (X:=λd _=>laidMetH ZQ mz d) false (World.doorLaid ZQ 400 e) #[.agg #[QH 0,QH 0,QH 0,QH 0,QH 0,QH 0,QH 0,QH 0,.slice none 0 0,.slice none 0 0],QH 0,QH 0,.slice none 0 0] 8 rfl (World.shaped_of_RefB kR kR) kR kR kR (Oi e _)) ?_
 intro o g a p z i A q a1 B k _;obtain⟨k,C⟩:=wP k;have h:∀(j:Nat) r l,Tryz.f6.params[j]? =some r->a[j]? =some l->Value.okWide ZQ o .any g r l:=A;have m:(DataW.weightsEach ZQ (Tryz.f6.params.toList++Rows.replicaReadsSpec.plain.varTypes ZQ) (p++z)).all (·<=reachBytes)=true:=B;have E:=q;obtain⟨F,a0,H,I,rfl,a2,a4⟩:=q;have s:DataW.TrodAll c ZQ o 0 (λ_=>true) true Tryz.f6.params.toList a.toList p F:=H;rw [Tryz.params6]at s h m;obtain⟨t,a5,d0,a6,p0,q0,a3,rfl,rfl,J,K⟩:=trodAll_cons s;obtain⟨u,a7,d1,a8,p1,q1,rfl,rfl,rfl,L,M⟩:=trodAll_cons K;obtain⟨v,a9,d2,b0,p2,q2,rfl,rfl,rfl,N,O⟩:=trodAll_cons M;obtain⟨w,b1,d3,b2,p3,q3,rfl,rfl,rfl,P,Q⟩:=trodAll_cons O;obtain⟨rfl,rfl,rfl⟩:=trodAll_nil Q;obtain rfl:a= #[t,u,v,w]:=by cases a;simp_all
 obtain⟨rfl,rfl⟩:=trodVars_none I;obtain⟨R,S,rfl,T,U,V,W,X,Y,Z,i0,n⟩:=wM Tryz.underlying28 yD (h 0 28 t rfl rfl) J (iR m (j:=0) rfl rfl);obtain rfl:S=(cC R T U V W X Y).toArray:=Array.toList_inj.1 Z;obtain⟨x1,rfl,i1⟩:=CD Tryz.underlying3 (h 1 3 u rfl rfl) L;obtain⟨x2,rfl,i2⟩:=CD Tryz.underlying3 (h 2 3 v rfl rfl) N;obtain⟨b3,n3,c3,x3,rfl,b4,b5,i3⟩:=CE Tryz.underlying69 kR dC kR (rE) (h 3 69 w rfl rfl) P (iR m (j:=3) rfl rfl);refine(vw C k i0 (λ_ f=>f) i3 (λ_ f=>f) n.aZ n.every n.start).mono λb6 W' ⟨l,he,hv,hk⟩=>?_;subst he;subst hv;exact⟨_,rfl,sG (tb:=4) kR rfl Tryz.underlying4 rfl rfl rfl rfl kR E hk⟩
end Go.Proofs.YtfchlbaidamodaaGreatDoor.bY
