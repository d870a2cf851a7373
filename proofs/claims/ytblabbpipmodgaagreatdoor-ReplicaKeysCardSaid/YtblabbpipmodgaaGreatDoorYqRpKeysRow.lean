import Derived.Test.YtblabbpipmodgaaGreatDoorKq22
import Derived.Test.YtblabbpipmodgaaGreatDoorYqLaidRow7
set_option linter.all false
namespace Go.Proofs.YtblabbpipmodgaaGreatDoor.bL
open Go.aw Go.ChangeShapes Go.WideShapes Go.ChangeAt Go.RowKit
def own:ownKnob Tryz.prog.godebug=none:=kR
set_option maxRecDepth 100000 in
theorem lifted(d:Os)(a:d.Started)(w:Type)(b:TypeId×Value->w):
  ReturnsInHanded {} Tryz.checked d 6 .any (λc P=>(Rows.replicaKeysSpec.pre b XP Tryz.f6 [] false c P/\laidMetH XP GC c)/\sizedMet b XP Tryz.f6 (OpenSpec.ofChange Rows.replicaKeysSpec) false c P)
   (Rows.replicaKeysSpec.post b XP Tryz.f6 false true false false):=by
 refine returnsInHanded_of_change_and (C:=Tryz.checked) (X:=λc _=>laidMetH XP GC c) (λ_ _ _ x e=>e.of_heap x) own a kR Tryz.func6
  (ChangeSpec.witness_shaped (enc:=b) (C:=Tryz.checked) (os:=d) (X:=λc _=>laidMetH XP GC c) false (World.doorLaid XP 400 d) #[.agg #[XH 0,XH 0,XH 0,XH 0,XH 0,XH 0,XH 0,XH 0,.slice none 0 0,.slice none 0 0],XH 0,.slice none 0 0,.agg #[XH 0,XH 0,XH 0,XH 0,XH 0,XH 0,XH 0]] 8 rfl (World.shaped_of_RefB kR kR) kR kR kR (Tm d _)) ?_
 intro n f P o y h z p a4 A k _;obtain⟨k,B⟩:=NZ k;have g:∀(j:Nat) q l,Tryz.f6.params[j]? =some q->P[j]? =some l->Value.okWide XP n .any f q l:=z;have i:(DataW.weightsEach XP (Tryz.f6.params.toList++Rows.replicaKeysSpec.plain.varTypes XP) (o++y)).all (·<=reachBytes)=true:=A;have C:=p;obtain⟨E,a1,F,H,rfl,a5,a6⟩:=p;have r:DataW.TrodAll b XP n 0 (λ_=>true) true Tryz.f6.params.toList P.toList o E:=F;rw[Tryz.params6]at r g i;obtain⟨s,a7,d0,a8,p0,q0,a2,rfl,rfl,I,J⟩:=trodAll_cons r;obtain⟨t,a9,d1,b0,p1,q1,rfl,rfl,rfl,K,L⟩:=trodAll_cons J;obtain⟨u,b1,d2,b2,p2,q2,rfl,rfl,rfl,M,N⟩:=trodAll_cons L;obtain⟨v,b3,d3,b4,p3,q3,rfl,rfl,rfl,O,Q⟩:=trodAll_cons N;obtain⟨rfl,rfl,rfl⟩:=trodAll_nil Q;obtain rfl:P= #[s,t,u,v]:=by cases P;simp_all
 obtain⟨rfl,rfl⟩:=trodVars_none H;obtain⟨R,S,rfl,T,U,V,W,X,Y,Z,i0,m⟩:=Gv Tryz.underlying29 LK (g 0 29 s rfl rfl) I (zM i (j:=0) rfl rfl);obtain rfl:S=(gu R T U V W X Y).toArray:=Array.toList_inj.1 Z;obtain⟨x1,rfl,i1⟩:=RY Tryz.underlying3 (g 1 3 t rfl rfl) K;obtain⟨b5,n2,c2,x2,rfl,b6,b7,i2⟩:=RZ Tryz.underlying64 kR dC kR (Gw) (g 2 64 u rfl rfl) M (zM i (j:=2) rfl rfl);obtain⟨x3,a3,rfl,a0,i3⟩:=Gv Tryz.underlying49 Cy (g 3 49 v rfl rfl) O (zM i (j:=3) rfl rfl);obtain rfl:a3=(fv x3).toArray:=Array.toList_inj.1 a0;refine(uC B k i0 (λ_ e=>e) i2 (λ_ e=>e) i3 m.bN m.every m.start).mono λb8 W' ⟨l,he,hv,hk⟩=>?_;subst he;subst hv;exact⟨_,rfl,LH (tb:=4) kR rfl Tryz.underlying4 rfl rfl rfl rfl kR C hk⟩
