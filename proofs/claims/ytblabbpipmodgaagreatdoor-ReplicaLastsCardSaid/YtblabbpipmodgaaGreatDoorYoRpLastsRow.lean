import Derived.Test.YtblabbpipmodgaaGreatDoorKo23
import Derived.Test.YtblabbpipmodgaaGreatDoorYoLaidRow7
set_option linter.all false
namespace Go.Proofs.YtblabbpipmodgaaGreatDoor.bK
open Go.au Go.ChangeShapes Go.WideShapes Go.ChangeAt Go.RowKit
def own:ownKnob Tryz.prog.godebug=none:=kR
set_option maxRecDepth 100000 in
theorem lifted(d:Os)(a:d.Started)(v:Type)(b:TypeId×Value->v):
  ReturnsInHanded {} Tryz.checked d 4 .any (λc P=>(Rows.replicaLastsSpec.pre b XG Tryz.f4 [] false c P/\laidMetH XG Gz c)/\sizedMet b XG Tryz.f4 (OpenSpec.ofChange Rows.replicaLastsSpec) false c P)
   (Rows.replicaLastsSpec.post b XG Tryz.f4 false true false false):=by
 refine returnsInHanded_of_change_and (C:=Tryz.checked) (X:=λc _=>laidMetH XG Gz c) (λ_ _ _ w e=>e.of_heap w) own a kR Tryz.func4
  (ChangeSpec.witness_shaped (enc:=b) (C:=Tryz.checked) (os:=d) (X:=λc _=>laidMetH XG Gz c) false (World.doorLaid XG 400 d) #[.agg #[QH 0,QH 0,QH 0,QH 0,QH 0,QH 0,QH 0,QH 0,.slice none 0 0,.slice none 0 0],QH 0,.slice none 0 0] 8 rfl (World.shaped_of_RefB kR kR) kR kR kR (TH d _)) ?_
 intro n f P o x g y p a1 z i _;obtain⟨i,A⟩:=Om i;have h:∀(j:Nat) q k,Tryz.f4.params[j]? =some q->P[j]? =some k->Value.okWide XG n .any f q k:=y;have l:(DataW.weightsEach XG (Tryz.f4.params.toList++Rows.replicaLastsSpec.plain.varTypes XG) (o++x)).all (·<=reachBytes)=true:=z;have B:=p;obtain⟨C,a0,E,F,rfl,a3,a4⟩:=p;have r:DataW.TrodAll b XG n 0 (λ_=>true) true Tryz.f4.params.toList P.toList o C:=E;rw[Tryz.params4]at r h l;obtain⟨s,a5,d0,a6,p0,q0,a2,rfl,rfl,H,I⟩:=trodAll_cons r;obtain⟨t,a7,d1,a8,p1,q1,rfl,rfl,rfl,J,K⟩:=trodAll_cons I;obtain⟨u,a9,d2,b0,p2,q2,rfl,rfl,rfl,L,M⟩:=trodAll_cons K;obtain⟨rfl,rfl,rfl⟩:=trodAll_nil M;obtain rfl:P= #[s,t,u]:=by cases P;simp_all
 obtain⟨rfl,rfl⟩:=trodVars_none F;obtain⟨N,O,rfl,Q,R,S,T,U,V,W,X,m⟩:=NZ Tryz.underlying29 LX (h 0 29 s rfl rfl) H (Gu l (j:=0) rfl rfl);obtain rfl:O=(il N Q R S T U V).toArray:=Array.toList_inj.1 W;obtain⟨x1,rfl,i1⟩:=Su Tryz.underlying3 (h 1 3 t rfl rfl) J;obtain⟨b1,n2,c2,x2,rfl,b2,b3,Y⟩:=Sv Tryz.underlying64 kR dC kR (Gv) (h 2 64 u rfl rfl) L (Gu l (j:=2) rfl rfl);refine(sW A i X (λ_ e=>e) Y (λ_ e=>e) m.bh m.every m.start).mono λb4 W' ⟨k,Z,hv,hk⟩=>?_;subst Z;subst hv;exact⟨_,rfl,LU (tb:=4) kR rfl Tryz.underlying4 rfl rfl rfl rfl kR B hk⟩
