import Derived.Test.YtfchlbaidamodaaGreatDoorKc38
import Derived.Test.YtfchlbaidamodaaGreatDoorKc35
import Derived.Test.YtfchlbaidamodaaGreatDoorYcLaidRow7
set_option linter.all false
namespace Go.Proofs.YtfchlbaidamodaaGreatDoor.bq
open Go.ax Go.ChangeShapes Go.WideShapes Go.ChangeAt Go.RowKit
def own:ownKnob ZQ.godebug=none:=kR
set_option maxRecDepth 100000 in
theorem lifted(e:Os)(b:e.Started)(x:Type)(c:TypeId×Value->x):
  ReturnsInHanded {} Tryz.checked e 7 .any (λd a=>(Rows.replicaCompactsSpec.pre c ZQ Tryz.f7 [] false d a/\laidMetH ZQ mz d)/\sizedMet c ZQ Tryz.f7 (OpenSpec.ofChange Rows.replicaCompactsSpec) false d a)
   (Rows.replicaCompactsSpec.post c ZQ Tryz.f7 false true false false):=by
 refine returnsInHanded_of_change_and (C:=Tryz.checked) (X:=λd _=>laidMetH ZQ mz d) (λ_ _ _ y f=>f.of_heap y) own b kR Tryz.func7
  (ChangeSpec.witness_shaped (enc:=c) (C:=Tryz.checked) (os:=e) (X:=λd _=>laidMetH ZQ mz d) false (World.doorLaid ZQ 400 e) #[.agg #[QH 0,QH 0,QH 0,QH 0,QH 0,QH 0,QH 0,QH 0,.slice none 0 0,.slice none 0 0],QH 0,.slice none 0 0,QH 0] 8 rfl (World.shaped_of_RefB kR kR) kR kR kR (Oi e _)) ?_
 intro o g a p z i A q a1 B k _;obtain⟨k,C⟩:=wP k;have h:∀(j:Nat) r l,Tryz.f7.params[j]? =some r->a[j]? =some l->Value.okWide ZQ o .any g r l:=A;have m:(DataW.weightsEach ZQ (Tryz.f7.params.toList++Rows.replicaCompactsSpec.plain.varTypes ZQ) (p++z)).all (·<=reachBytes)=true:=B;have E:=q;obtain⟨F,a0,H,I,rfl,a3,a4⟩:=q;have s:DataW.TrodAll c ZQ o 0 (λ_=>true) true Tryz.f7.params.toList a.toList p F:=H;rw[Tryz.params7]at s h m;obtain⟨t,a5,d0,a6,p0,q0,a2,rfl,rfl,J,K⟩:=trodAll_cons s;obtain⟨u,a7,d1,a8,p1,q1,rfl,rfl,rfl,L,M⟩:=trodAll_cons K;obtain⟨v,a9,d2,b0,p2,q2,rfl,rfl,rfl,N,O⟩:=trodAll_cons M;obtain⟨w,b1,d3,b2,p3,q3,rfl,rfl,rfl,P,Q⟩:=trodAll_cons O;obtain⟨rfl,rfl,rfl⟩:=trodAll_nil Q;obtain rfl:a= #[t,u,v,w]:=by cases a;simp_all
 obtain⟨rfl,rfl⟩:=trodVars_none I;obtain⟨R,S,rfl,T,U,V,W,X,Y,Z,i0,n⟩:=wM Tryz.underlying28 yD (h 0 28 t rfl rfl) J (iR m (j:=0) rfl rfl);obtain rfl:S=(cC R T U V W X Y).toArray:=Array.toList_inj.1 Z;obtain⟨x1,rfl,i1⟩:=CD Tryz.underlying3 (h 1 3 u rfl rfl) L;obtain⟨b3,n2,c2,x2,rfl,b4,b5,i2⟩:=CE Tryz.underlying69 kR dC kR (rE) (h 2 69 v rfl rfl) N (iR m (j:=2) rfl rfl);obtain⟨x3,rfl,i3⟩:=CD Tryz.underlying3 (h 3 3 w rfl rfl) P;refine(qB C k i0 (λ_ f=>f) i2 (λ_ f=>f) i3 n.aZ n.every n.start).mono λb6 W' ⟨l,he,hv,hk⟩=>?_;subst he;subst hv;exact⟨_,rfl,sG (tb:=4) kR rfl Tryz.underlying4 rfl rfl rfl rfl kR E hk⟩
end Go.Proofs.YtfchlbaidamodaaGreatDoor.bq
