import Derived.Test.YtblabbpipmodgaaGreatDoorKr23
import Derived.Test.YtblabbpipmodgaaGreatDoorYrLaidRow7
set_option linter.all false
namespace Go.Proofs.YtblabbpipmodgaaGreatDoor.bh
open Go.aw Go.ChangeShapes Go.WideShapes Go.ChangeAt Go.RowKit
def own:ownKnob Tryz.prog.godebug=none:=kR
set_option maxRecDepth 100000 in
theorem lifted(d:Os)(a:d.Started)(w:Type)(b:TypeId×Value->w):
  ReturnsInHanded {} Tryz.checked d 7 .any (λc P=>(Rows.replicaCompactsSpec.pre b ZP Tryz.f7 [] false c P/\laidMetH ZP Ie c)/\sizedMet b ZP Tryz.f7 (OpenSpec.ofChange Rows.replicaCompactsSpec) false c P)
   (Rows.replicaCompactsSpec.post b ZP Tryz.f7 false true false false):=by
 refine returnsInHanded_of_change_and (C:=Tryz.checked) (X:=λc _=>laidMetH ZP Ie c) (λ_ _ _ x e=>e.of_heap x) own a kR Tryz.func7
  (ChangeSpec.witness_shaped (enc:=b) (C:=Tryz.checked) (os:=d) (X:=λc _=>laidMetH ZP Ie c) false (World.doorLaid ZP 400 d) #[.agg #[ZH 0,ZH 0,ZH 0,ZH 0,ZH 0,ZH 0,ZH 0,ZH 0,.slice none 0 0,.slice none 0 0],ZH 0,.slice none 0 0,ZH 0] 8 rfl (World.shaped_of_RefB kR kR) kR kR kR (Vu d _)) ?_
 intro n f P o y h z p a1 A i _;obtain⟨i,B⟩:=Qf i;have g:∀(j:Nat) q k,Tryz.f7.params[j]? =some q->P[j]? =some k->Value.okWide ZP n .any f q k:=z;have l:(DataW.weightsEach ZP (Tryz.f7.params.toList++Rows.replicaCompactsSpec.plain.varTypes ZP) (o++y)).all (·<=reachBytes)=true:=A;have C:=p;obtain⟨E,a0,F,H,rfl,a3,a4⟩:=p;have r:DataW.TrodAll b ZP n 0 (λ_=>true) true Tryz.f7.params.toList P.toList o E:=F;rw[Tryz.params7]at r g l;obtain⟨s,a5,d0,a6,p0,q0,a2,rfl,rfl,I,J⟩:=trodAll_cons r;obtain⟨t,a7,d1,a8,p1,q1,rfl,rfl,rfl,K,L⟩:=trodAll_cons J;obtain⟨u,a9,d2,b0,p2,q2,rfl,rfl,rfl,M,N⟩:=trodAll_cons L;obtain⟨v,b1,d3,b2,p3,q3,rfl,rfl,rfl,O,Q⟩:=trodAll_cons N;obtain⟨rfl,rfl,rfl⟩:=trodAll_nil Q;obtain rfl:P= #[s,t,u,v]:=by cases P;simp_all
 obtain⟨rfl,rfl⟩:=trodVars_none H;obtain⟨R,S,rfl,T,U,V,W,X,Y,Z,i0,m⟩:=PT Tryz.underlying29 NC (g 0 29 s rfl rfl) I (HY l (j:=0) rfl rfl);obtain rfl:S=(iw R T U V W X Y).toArray:=Array.toList_inj.1 Z;obtain⟨x1,rfl,i1⟩:=PR Tryz.underlying3 (g 1 3 t rfl rfl) K;obtain⟨b3,n2,c2,x2,rfl,b4,b5,i2⟩:=Uo Tryz.underlying64 kR dC kR (HZ) (g 2 64 u rfl rfl) M (HY l (j:=2) rfl rfl);obtain⟨x3,rfl,i3⟩:=PR Tryz.underlying3 (g 3 3 v rfl rfl) O;refine(pA B i i0 (λ_ e=>e) i2 (λ_ e=>e) i3 m.bl m.every m.start).mono λb6 W' ⟨k,he,hv,hk⟩=>?_;subst he;subst hv;exact⟨_,rfl,Nz (tb:=4) kR rfl Tryz.underlying4 rfl rfl rfl rfl kR C hk⟩
