import Derived.Test.YtblabbpipmodgaaGreatDoorKp24
import Derived.Test.YtblabbpipmodgaaGreatDoorYpLaidRow7
set_option linter.all false
namespace Go.Proofs.YtblabbpipmodgaaGreatDoor.bG
open Go.aw Go.ChangeShapes Go.WideShapes Go.ChangeAt Go.RowKit
def own:ownKnob Tryz.prog.godebug=none:=kR
set_option maxRecDepth 100000 in
theorem lifted(d:Os)(a:d.Started)(w:Type)(b:TypeId×Value->w):
  ReturnsInHanded {} Tryz.checked d 5 .any (λc P=>(Rows.replicaReadsSpec.pre b XP Tryz.f5 [] false c P/\laidMetH XP Hl c)/\sizedMet b XP Tryz.f5 (OpenSpec.ofChange Rows.replicaReadsSpec) false c P)
   (Rows.replicaReadsSpec.post b XP Tryz.f5 false true false false):=by
 refine returnsInHanded_of_change_and (C:=Tryz.checked) (X:=λc _=>laidMetH XP Hl c) (λ_ _ _ x e=>e.of_heap x) own a kR Tryz.func5
  (ChangeSpec.witness_shaped (enc:=b) (C:=Tryz.checked) (os:=d) (X:=λc _=>laidMetH XP Hl c) false (World.doorLaid XP 400 d) #[.agg #[XH 0,XH 0,XH 0,XH 0,XH 0,XH 0,XH 0,XH 0,.slice none 0 0,.slice none 0 0],XH 0,XH 0,.slice none 0 0] 8 rfl (World.shaped_of_RefB kR kR) kR kR kR (Up d _)) ?_
 intro n f P o y h z p a1 A i _;obtain⟨i,B⟩:=OZ i;have g:∀(j:Nat) q k,Tryz.f5.params[j]? =some q->P[j]? =some k->Value.okWide XP n .any f q k:=z;have l:(DataW.weightsEach XP (Tryz.f5.params.toList++Rows.replicaReadsSpec.plain.varTypes XP) (o++y)).all (·<=reachBytes)=true:=A;have C:=p;obtain⟨E,a0,F,H,rfl,a2,a4⟩:=p;have r:DataW.TrodAll b XP n 0 (λ_=>true) true Tryz.f5.params.toList P.toList o E:=F;rw[Tryz.params5]at r g l;obtain⟨s,a5,d0,a6,p0,q0,a3,rfl,rfl,I,J⟩:=trodAll_cons r;obtain⟨t,a7,d1,a8,p1,q1,rfl,rfl,rfl,K,L⟩:=trodAll_cons J;obtain⟨u,a9,d2,b0,p2,q2,rfl,rfl,rfl,M,N⟩:=trodAll_cons L;obtain⟨v,b1,d3,b2,p3,q3,rfl,rfl,rfl,O,Q⟩:=trodAll_cons N;obtain⟨rfl,rfl,rfl⟩:=trodAll_nil Q;obtain rfl:P= #[s,t,u,v]:=by cases P;simp_all
 obtain⟨rfl,rfl⟩:=trodVars_none H;obtain⟨R,S,rfl,T,U,V,W,X,Y,Z,i0,m⟩:=OO Tryz.underlying29 ME (g 0 29 s rfl rfl) I (Hd l (j:=0) rfl rfl);obtain rfl:S=(dL R T U V W X Y).toArray:=Array.toList_inj.1 Z;obtain⟨x1,rfl,i1⟩:=ON Tryz.underlying3 (g 1 3 t rfl rfl) K;obtain⟨x2,rfl,i2⟩:=ON Tryz.underlying3 (g 2 3 u rfl rfl) M;obtain⟨b3,n3,c3,x3,rfl,b4,b5,i3⟩:=Tc Tryz.underlying64 kR dC kR (He) (g 3 64 v rfl rfl) O (Hd l (j:=3) rfl rfl);refine(tj B i i0 (λ_ e=>e) i3 (λ_ e=>e) m.bO m.every m.start).mono λb6 W' ⟨k,he,hv,hk⟩=>?_;subst he;subst hv;exact⟨_,rfl,MB (tb:=4) kR rfl Tryz.underlying4 rfl rfl rfl rfl kR C hk⟩
