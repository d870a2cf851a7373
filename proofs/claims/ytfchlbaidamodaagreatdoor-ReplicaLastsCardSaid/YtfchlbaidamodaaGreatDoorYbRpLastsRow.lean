import Derived.Test.YtfchlbaidamodaaGreatDoorKb38
import Derived.Test.YtfchlbaidamodaaGreatDoorYbLaidRow7
set_option linter.all false
namespace Go.Proofs.YtfchlbaidamodaaGreatDoor.bX
open Go.ax Go.ChangeShapes Go.WideShapes Go.ChangeAt Go.RowKit
theorem own:ownKnob Tryz.prog.godebug=none:=kR
set_option maxRecDepth 100000 in
theorem lifted (e:Os) (b:e.Started) (w:Type) (c:TypeId×Value->w):
  ReturnsInHanded {} Tryz.checked e 5 .any (λd a=>(Rows.replicaLastsSpec.pre c ZQ Tryz.f5 [] false d a/\laidMetH ZQ mz d)/\sizedMet c ZQ Tryz.f5 (OpenSpec.ofChange Rows.replicaLastsSpec) false d a)
   (Rows.replicaLastsSpec.post c ZQ Tryz.f5 false true false false):=by
 refine returnsInHanded_of_change_and (C:=Tryz.checked) (X:=λd _=>laidMetH ZQ mz d) (λ_ _ _ x f=>f.of_heap x) own b kR Tryz.func5
  (ChangeSpec.witness_shaped (enc:=c) (C:=Tryz.checked) (os:=e) (X:=λd _=>laidMetH ZQ mz d) false (World.doorLaid ZQ 400 e) #[.agg #[QH 0,QH 0,QH 0,QH 0,QH 0,QH 0,QH 0,QH 0,.slice none 0 0,.slice none 0 0],QH 0,.slice none 0 0] 8 rfl (World.shaped_of_RefB kR kR) kR kR kR (Oi e _)) ?_
 intro o g a p y h z q a1 A k _;obtain⟨k,B⟩:=wP k;have i:∀(j:Nat) r l,Tryz.f5.params[j]? =some r->a[j]? =some l->Value.okWide ZQ o .any g r l:=z;have m:(DataW.weightsEach ZQ (Tryz.f5.params.toList++Rows.replicaLastsSpec.plain.varTypes ZQ) (p++y)).all (·<=reachBytes)=true:=A;have C:=q;obtain⟨E,a0,F,H,rfl,a3,a4⟩:=q;have s:DataW.TrodAll c ZQ o 0 (λ_=>true) true Tryz.f5.params.toList a.toList p E:=F;rw [Tryz.params5]at s i m;obtain⟨t,a5,d0,a6,p0,q0,a2,rfl,rfl,I,J⟩:=trodAll_cons s;obtain⟨u,a7,d1,a8,p1,q1,rfl,rfl,rfl,K,L⟩:=trodAll_cons J;obtain⟨v,a9,d2,b0,p2,q2,rfl,rfl,rfl,M,N⟩:=trodAll_cons L;obtain⟨rfl,rfl,rfl⟩:=trodAll_nil N;obtain rfl:a= #[t,u,v]:=by cases a;simp_all
 obtain⟨rfl,rfl⟩:=trodVars_none H;obtain⟨O,P,rfl,Q,R,S,T,U,V,W,X,n⟩:=wM Tryz.underlying28 yD (i 0 28 t rfl rfl) I (iR m (j:=0) rfl rfl);obtain rfl:P=(cC O Q R S T U V).toArray:=Array.toList_inj.1 W;obtain⟨x1,rfl,i1⟩:=CD Tryz.underlying3 (i 1 3 u rfl rfl) K;obtain⟨b1,n2,c2,x2,rfl,b2,b3,Y⟩:=CE Tryz.underlying69 kR dC kR (rE) (i 2 69 v rfl rfl) M (iR m (j:=2) rfl rfl);refine(vu B k X (λ_ f=>f) Y (λ_ f=>f) n.aZ n.every n.start).mono λb4 W' ⟨l,Z,hv,hk⟩=>?_;subst Z;subst hv;exact⟨_,rfl,sG (tb:=4) kR rfl Tryz.underlying4 rfl rfl rfl rfl kR C hk⟩
end Go.Proofs.YtfchlbaidamodaaGreatDoor.bX
