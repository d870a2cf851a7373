import Derived.Test.YtkpomgifkloklacGreatDoorKg23
import Derived.Test.YtkpomgifkloklacGreatDoorYgLaidRow7
set_option linter.all false
namespace Go.Proofs.YtkpomgifkloklacGreatDoor.bC
open Go.aw Go.ChangeShapes Go.WideShapes Go.ChangeAt Go.RowKit
def own:ownKnob Tryz.prog.godebug=none:=kR
set_option maxRecDepth 100000 in
theorem lifted(e:Os)(a:e.Started)(v:Type)(b:TypeId×Value->v):
  ReturnsInHanded {} Tryz.checked e 3 .any (λc P=>(Rows.replicaMeetsSpec.pre b XP Tryz.f3 [] false c P/\laidMetH XP FE c)/\sizedMet b XP Tryz.f3 (OpenSpec.ofChange Rows.replicaMeetsSpec) false c P)
   (Rows.replicaMeetsSpec.post b XP Tryz.f3 false true false false):=by
 refine returnsInHanded_of_change_and (C:=Tryz.checked) (X:=λc _=>laidMetH XP FE c) (λ_ _ _ w d=>d.of_heap w) own a kR Tryz.func3
  (ChangeSpec.witness_shaped (enc:=b) (C:=Tryz.checked) (os:=e) (X:=λc _=>laidMetH XP FE c) false (World.doorLaid XP 400 e) #[.agg #[.slice none 0 0,.slice none 0 0],.slice none 0 0,.slice none 0 0,XH 0] 8 rfl (World.shaped_of_RefB kR kR) kR kR kR (Sy e _)) ?_
 intro m f P n x h y o a3 z k _;obtain⟨k,A⟩:=Nk k;have g:∀(j:Nat) p l,Tryz.f3.params[j]? =some p->P[j]? =some l->Value.okWide XP m .any f p l:=y;have i:(DataW.weightsEach XP (Tryz.f3.params.toList++Rows.replicaMeetsSpec.plain.varTypes XP) (n++x)).all (·<=reachBytes)=true:=z;have B:=o;obtain⟨C,a0,E,F,rfl,a4,a5⟩:=o;have q:DataW.TrodAll b XP m 0 (λ_=>true) true Tryz.f3.params.toList P.toList n C:=E;rw[Tryz.params3]at q g i;obtain⟨r,a6,d0,a7,p0,q0,a1,rfl,rfl,H,I⟩:=trodAll_cons q;obtain⟨s,a8,d1,a9,p1,q1,rfl,rfl,rfl,J,K⟩:=trodAll_cons I;obtain⟨t,b0,d2,b1,p2,q2,rfl,rfl,rfl,L,M⟩:=trodAll_cons K;obtain⟨u,b2,d3,b3,p3,q3,rfl,rfl,rfl,N,O⟩:=trodAll_cons M;obtain⟨rfl,rfl,rfl⟩:=trodAll_nil O;obtain rfl:P= #[r,s,t,u]:=by cases P;simp_all
 obtain⟨rfl,rfl⟩:=trodVars_none F;obtain⟨x0,Q,rfl,R,S,T,U,V,W,X,Y⟩:=MZ Tryz.underlying25 Ii (g 0 25 r rfl rfl) H (yX i (j:=0) rfl rfl);obtain rfl:Q= #[.slice R S T,.slice U V W]:=Array.toList_inj.1 X;obtain⟨a2,n1,c1,x1,rfl,b4,b5,Z⟩:=MY Tryz.underlying26 kR dC kR (BJ) (g 1 26 s rfl rfl) J (yX i (j:=1) rfl rfl);obtain⟨b6,n2,c2,x2,rfl,b7,b8,i2⟩:=MY Tryz.underlying26 kR dC kR (BJ) (g 2 26 t rfl rfl) L (yX i (j:=2) rfl rfl);obtain⟨x3,rfl,i3⟩:=Rm Tryz.underlying3 (g 3 3 u rfl rfl) N;refine(sJ A k Y (λ_ d=>d) Z (λ_ d=>d) i2 (λ_ d=>d) i3).mono λb9 W' ⟨l,he,hv,hk⟩=>?_;subst he;subst hv;exact⟨_,rfl,KX (tb:=4) kR rfl Tryz.underlying4 rfl rfl rfl rfl kR B hk⟩
