import Derived.Test.YtjgjkeponbeekaaGreatDoorKi20
import Derived.Test.YtjgjkeponbeekaaGreatDoorYiLaidRow7
set_option linter.all false
namespace Go.Proofs.YtjgjkeponbeekaaGreatDoor.bz
open Go.au Go.ChangeShapes Go.WideShapes Go.ChangeAt Go.RowKit
def own:ownKnob Tryz.prog.godebug=none:=kR
set_option maxRecDepth 100000 in
theorem lifted(c:Os)(P:c.Started)(w:Type)(a:TypeId×Value->w):
  ReturnsInHanded {} Tryz.checked c 4 .any (λb n=>(Rows.clusterReadsSpec.pre a XP Tryz.f4 [] false b n/\laidMetH XP GZ b)/\sizedMet a XP Tryz.f4 (OpenSpec.ofChange Rows.clusterReadsSpec) false b n)
   (Rows.clusterReadsSpec.post a XP Tryz.f4 false true false false):=by
 refine returnsInHanded_of_change_and (C:=Tryz.checked) (X:=λb _=>laidMetH XP GZ b) (λ_ _ _ x d=>d.of_heap x) own P kR Tryz.func4
  (ChangeSpec.witness_shaped (enc:=a) (C:=Tryz.checked) (os:=c) (X:=λb _=>laidMetH XP GZ b) false (World.doorLaid XP 400 c) #[.agg #[XH 0,XH 0,XH 0,XH 0,XH 0,XH 0,XH 0,XH 0,.slice none 0 0,.slice none 0 0,.slice none 0 0],XH 0,XH 0,XH 0] 8 rfl (World.shaped_of_RefB kR kR) kR kR kR (UE c _)) ?_
 intro l e n m y g z o a4 A h _;obtain⟨h,B⟩:=OT h;have f:∀(j:Nat) p i,Tryz.f4.params[j]? =some p->n[j]? =some i->Value.okWide XP l .any e p i:=z;have q:(DataW.weightsEach XP (Tryz.f4.params.toList++Rows.clusterReadsSpec.plain.varTypes XP) (m++y)).all (·<=reachBytes)=true:=A;have C:=o;obtain⟨E,a1,F,H,rfl,a5,a6⟩:=o;have r:DataW.TrodAll a XP l 0 (λ_=>true) true Tryz.f4.params.toList n.toList m E:=F;rw[Tryz.params4]at r f q;obtain⟨s,a7,d0,a8,p0,q0,a9,rfl,rfl,I,J⟩:=trodAll_cons r;obtain⟨t,b0,d1,b1,p1,q1,rfl,rfl,rfl,K,L⟩:=trodAll_cons J;obtain⟨u,b2,d2,b3,p2,q2,rfl,rfl,rfl,M,N⟩:=trodAll_cons L;obtain⟨v,b4,d3,b5,p3,q3,rfl,rfl,rfl,O,Q⟩:=trodAll_cons N;obtain⟨rfl,rfl,rfl⟩:=trodAll_nil Q;obtain rfl:n= #[s,t,u,v]:=by cases n;simp_all
 obtain⟨rfl,rfl⟩:=trodVars_none H;obtain⟨⟨R,y0⟩,S,rfl,T,U,V,W,X,Y,Z,a2,a3,a0,i0,k,m0⟩:=OU Tryz.underlying30 Jz (f 0 30 s rfl rfl) I (OV q (j:=0) rfl rfl);obtain rfl:S=(jU R T U V W X Y Z a2 a3).toArray:=Array.toList_inj.1 a0;obtain⟨x1,rfl,i1⟩:=JA Tryz.underlying3 (f 1 3 t rfl rfl) K;obtain⟨x2,rfl,i2⟩:=JA Tryz.underlying3 (f 2 3 u rfl rfl) M;obtain⟨x3,rfl,i3⟩:=JA Tryz.underlying3 (f 3 3 v rfl rfl) O;refine(sN B h i0 (λ_ d=>d) m0 (λ_ d=>d) k.bN k.every k.start i1 i2 i3).mono λb6 W' ⟨i,he,hv,hk⟩=>?_;subst he;subst hv;exact⟨_,rfl,Mx (tb:=4) kR rfl Tryz.underlying4 rfl rfl rfl rfl kR C hk⟩
