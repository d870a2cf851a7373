import Derived.Test.YtfchlbaidamodaaGreatDoorKd36
import Derived.Test.YtfchlbaidamodaaGreatDoorYdLaidRow7
set_option linter.all false
namespace Go.Proofs.YtfchlbaidamodaaGreatDoor.bZ
open Go.ax Go.ChangeShapes Go.WideShapes Go.ChangeAt Go.RowKit
theorem own:ownKnob Tryz.prog.godebug=none:=kR
set_option maxRecDepth 100000 in
theorem lifted (f:Os) (b:f.Started) (v:Type) (c:TypeId×Value->v):
  ReturnsInHanded {} Tryz.checked f 4 .any (λd a=>(Rows.replicaWaitsSpec.pre c ZX Tryz.f4 [] false d a/\laidMetH ZX mz d)/\sizedMet c ZX Tryz.f4 (OpenSpec.ofChange Rows.replicaWaitsSpec) false d a)
   (Rows.replicaWaitsSpec.post c ZX Tryz.f4 false true false false):=by
 refine returnsInHanded_of_change_and (C:=Tryz.checked) (X:=λd _=>laidMetH ZX mz d) (λ_ _ _ w e=>e.of_heap w) own b kR Tryz.func4
  (ChangeSpec.witness_shaped (enc:=c) (C:=Tryz.checked) (os:=f) (X:=λd _=>laidMetH ZX mz d) false (World.doorLaid ZX 400 f) #[.agg #[.slice none 0 0,.slice none 0 0],.slice none 0 0,.slice none 0 0] 8 rfl (World.shaped_of_RefB kR kR) kR kR kR (Oi f _)) ?_
 intro n g a o x h y p a3 z l _;obtain⟨l,A⟩:=wP l;have i:∀(j:Nat) q m,Tryz.f4.params[j]? =some q->a[j]? =some m->Value.okWide ZX n .any g q m:=y;have k:(DataW.weightsEach ZX (Tryz.f4.params.toList++Rows.replicaWaitsSpec.plain.varTypes ZX) (o++x)).all (·<=reachBytes)=true:=z;have B:=p;obtain⟨C,a0,E,F,rfl,a4,a5⟩:=p;have r:DataW.TrodAll c ZX n 0 (λ_=>true) true Tryz.f4.params.toList a.toList o C:=E;rw [Tryz.params4]at r i k;obtain⟨s,a6,d0,a7,p0,q0,a1,rfl,rfl,H,I⟩:=trodAll_cons r;obtain⟨t,a8,d1,a9,p1,q1,rfl,rfl,rfl,J,K⟩:=trodAll_cons I;obtain⟨u,b0,d2,b1,p2,q2,rfl,rfl,rfl,L,M⟩:=trodAll_cons K;obtain⟨rfl,rfl,rfl⟩:=trodAll_nil M;obtain rfl:a= #[s,t,u]:=by cases a;simp_all
 obtain⟨rfl,rfl⟩:=trodVars_none F;obtain⟨x0,N,rfl,O,P,Q,R,S,T,U,V⟩:=wM Tryz.underlying25 CF (i 0 25 s rfl rfl) H (iR k (j:=0) rfl rfl);obtain rfl:N= #[.slice O P Q,.slice R S T]:=Array.toList_inj.1 U;obtain⟨a2,n1,c1,x1,rfl,b2,b3,W⟩:=CE Tryz.underlying26 kR dC kR (FR) (i 1 26 t rfl rfl) J (iR k (j:=1) rfl rfl);obtain⟨b4,n2,c2,x2,rfl,b5,b6,X⟩:=CE Tryz.underlying55 kR dC kR (yC Tryz.underlying3) (i 2 55 u rfl rfl) L (iR k (j:=2) rfl rfl);refine(vy A l V (λ_ e=>e) W (λ_ e=>e) X (λ_ e=>e)).mono λb7 W' ⟨m,Y,Z,hk⟩=>?_;subst Y;subst Z;exact⟨_,rfl,sG (tb:=4) kR rfl Tryz.underlying4 rfl rfl rfl rfl kR B hk⟩
end Go.Proofs.YtfchlbaidamodaaGreatDoor.bZ
