import Derived.Test.YtkpomgifkloklaaGreatDoorKe18
import Derived.Test.YtkpomgifkloklaaGreatDoorYeQue
set_option maxHeartbeats 4000000
set_option linter.all false
set_option maxRecDepth 100000
open Go.IntKind renaming wrap→PP
namespace Go.Proofs.YtkpomgifkloklaaGreatDoor
open Go.aw
def KR:aU:=⟨[[⟨1,1,true,[]⟩,⟨2,3,false,[]⟩,⟨3,2,false,[]⟩,⟨4,2,false,[⟨0,1,0,2⟩,⟨1,0,-1,0⟩,⟨0,2,-1,0⟩]⟩,⟨2,2,false,[]⟩,⟨1,1,false,[]⟩]],[⟨0,0,1,0,2⟩,⟨0,2,2,0,1⟩,⟨0,5,3,4,4⟩]⟩
def jK(n:Int):bF:=⟨n,131072,400,3,20,5,4,0,KR⟩
def AO:jT:=⟨0,0,0,0,0,0,0⟩
def flush(P:bF):Nat->cH->Option cH
 |0,_=>none
 |k+1,n=>if n.dP.length=0 then some n else if(cB P n ⟨3,0,0,AO⟩).1.code=0 then flush P k (cB P n ⟨3,0,0,AO⟩).2 else none
def Ie(a:bF)(n:Int)(P:cH):cH:=if n.tdiv 2≠n.tmod 2 then(cB a P ⟨2,n.tdiv 2,n.tmod 2,AO⟩).2 else P
def meets(n:bF):Nat->Nat->cH->Option cH
 |0,_,P=>some P
 |m+1,a,P=>match flush n 50 (Ie n (a:Int) P)with
  |none=>none
  |some b=>meets n m (a+1) b
def tA(n:cH)(P:Nat):Option Nat:=(n.aA[P]?).map λa=>a.S.l.length
def yC(n:cH)(P:Nat):Option (List Int):=(n.aA[P]?).map λa=>a.S.vec
def Rk:Bool:=
 let n:=jK 2
 let c:=(cB n (sJ n).2 ⟨1,0,0,⟨0,0,0,1,3,-1,0⟩⟩).2
 let a:=(cB n c ⟨1,1,0,⟨0,0,0,1,4,-1,0⟩⟩).2
 (sJ n).1==0&&(tA a 0==some 1&&(tA a 1==some 1&&match meets n 4 0 a with
  |none=>false
  |some P=>yC P 0==some [1,1]&&(yC P 1==some [1,1]&&(tA P 1==some 2&&decide ((P.aA[0]?).map (λb=>b.S.l)=(P.aA[1]?).map λb=>b.S.l)))))
def KV:Rk=true:=by decide+kernel
def Ig:∃(d e P n:cH),sJ (jK 2)=(0,d)/\(cB (jK 2) d ⟨1,0,0,⟨0,0,0,1,3,-1,0⟩⟩).2=e/\(cB (jK 2) e ⟨1,1,0,⟨0,0,0,1,4,-1,0⟩⟩).2=P/\meets (jK 2) 4 0 P=some n/\
  tA P 0=some 1/\tA P 1=some 1/\yC n 0=some [1,1]/\yC n 1=some [1,1]/\tA n 1=some 2/\(n.aA[0]?).map (λb=>b.S.l)=(n.aA[1]?).map λb=>b.S.l:=by
 have c:=KV;unfold Rk at c;simp only[QK,beq_iff_eq]at c;obtain⟨f,g,h,a⟩:=c;split at a
 ·cases a
 ·rename_i n i
  simp only[QK,beq_iff_eq,Zk]at a;exact⟨_,_,_,n,Prod.ext f rfl,rfl,rfl,i,g,h,a⟩
def qZ{l:List ah}(P:∀n∈l,n.Ok/\n.aM.length<=64):bL (aB l)=(l,(aB l).length):=by
 have:=yZ P [];rw[List.append_nil,r_]at this;simpa using this
def FH(n:List ah)(P:Nat):(aB n).take (aB (n.take P)).length=aB (n.take P):=by
 conv=>lhs;rw[<-ZX P n,gF]
 rw[show(List.take P (List.take P n++List.drop P n))=n.take P by rw[ZX]];exact List.take_left
variable{o:Array Value}{H:Bool}{B:ba}{O e r:Int}{g6:List (Bx ah)}{a6:List PanicEntry->bc}{u:List UInt8}{a5:List bG}{d9:List bh}{a c:Nat}{f:ac}{F:Nat×Nat}{d v:be}{e8:Option bG}{j:Type}{g:TypeId}{N:Value->Prop}{m:am}{b:World}{g9:World->(ac)->cH->Prop}{h8:World->bc}{L l:ah}{y:aq}{X:bZ}{c7:bh}
def yo(n:0<=e/\e<1000000000000):ig (ay e)=(e,true):=by
 unfold ig ay;rw[oK,pN n.1 n.2];simp;omega
def Vs(n:Int)(P:ByteArray):n<=eN n P:=by unfold eN;split<;>omega
def Om:∀(P:List ByteArray) (n:Int),n<=P.foldl eN n
 |[],n=>Int.le_refl n
 |s::P,n=>Int.le_trans (Vs n s) (Om P _)
def Kb:∀(n:List ByteArray) (b:Int) {P:ByteArray},P∈n->(ig P).2=true->(ig P).1+1<=n.foldl eN b
 |d::n,b,P,a,c=>by
  rcases Q2.1 a with rfl|a
  ·refine Int.le_trans ?_ (Om n _)
   unfold eN;rw[Zx c];omega
  ·exact Kb n _ a c
def JJ{D:ak}(n:0<=e/\e<1000000000000)(a:(au D.files (ay e)).isSome=true):e<iD D:=by
 have P:=Kb D.list 1 (FI.2 a) (by rw[yo n]);rw[yo n]at P;unfold iD tQ;simp only at P;omega
section
variable {D E:ak} {A:qo} {no:Int} {l x:List ah} {k j n s:Nat} {V:dA}
def JL(A:qo)(k:Nat):Nat:=((A.map (·.2)).flatten).length+k
def Yz(n:Int)(A:qo):Prop:=∀P∈A,n<=((aB P.2).length:Nat)
def JM(h:cO D A no l k)(i:Ic V A no l)(I:∀c∈x,c.Ok)(T:x.length<=20000000)(J:D.Ok)(m:Yz V.size A):
  ∃P a b d,cO (aG V D x).2.2 P a b d/\Ic (aG V D x).2.1 P a b/\JL A k<=JL P d/\cx P b=(if(aG V D x).1=0 then cx A l++x else cx A l)/\(aG V D x).2.1.size=V.size/\Yz V.size P/\
   ((P=A/\a=no/\(aG V D x).2.1.next=V.next)\/(P=A++[(no,l)]/\a=V.next/\(aG V D x).2.1.next=V.next+1)):=by
 unfold aG
 by_cases u:x.any eV=true
 ·rw[Zx u]
  exact⟨A,no,l,k,h,i,Q4 _,rfl,rfl,m,.inl ⟨rfl,rfl,rfl⟩⟩
 rw[Zq u]
 by_cases v:x=[]
 ·rw[Zx v]
  exact⟨A,no,l,k,h,i,Q4 _,by rw[Zx rfl,v,List.append_nil],rfl,m,.inl ⟨rfl,rfl,rfl⟩⟩
 rw[Zq v];have B:∀c∈x,c.Ok/\c.aM.length<=64:=λc o=>⟨I c o,by
  have:¬eV c=true:=λf=>u (List.any_eq_true.2 ⟨c,o,f⟩);unfold eV at this;simp at this;omega⟩
 have U:=Jn B;have K:(aB l).length<=262144:=by
  obtain⟨s,w,_⟩:=h.last;exact J.len (cA w)
 have g:∀(n:Int×dA×ak) (P:qo) (a:Int) (b:List ah) (d:Nat),n.1=0->cO n.2.2 P a b d->Ic n.2.1 P a b->(aB b).length<=262144->JL A k<=JL P d->cx P b=cx A l->n.2.1.size=V.size->Yz V.size P->
   ((P=A/\a=no/\n.2.1.next=V.next)\/(P=A++[(no,l)]/\a=V.next/\n.2.1.next=V.next+1))->
   ∃P a b d,cO (if n.1≠0 then n else if(n.2.2.append n.2.1.last (aB x)).1≠0 then((n.2.2.append n.2.1.last (aB x)).1,n.2.1,(n.2.2.append n.2.1.last (aB x)).2)else(0,⟨n.2.1.size,n.2.1.bd,PP .i64 (n.2.1.bytes+((aB x).length:Nat)),n.2.1.next⟩,(n.2.2.append n.2.1.last (aB x)).2)).2.2 P a b d/\
    Ic (if n.1≠0 then n else if(n.2.2.append n.2.1.last (aB x)).1≠0 then((n.2.2.append n.2.1.last (aB x)).1,n.2.1,(n.2.2.append n.2.1.last (aB x)).2)else(0,⟨n.2.1.size,n.2.1.bd,PP .i64 (n.2.1.bytes+((aB x).length:Nat)),n.2.1.next⟩,(n.2.2.append n.2.1.last (aB x)).2)).2.1 P a b/\JL A k<=JL P d/\
    cx P b=(if(if n.1≠0 then n else if(n.2.2.append n.2.1.last (aB x)).1≠0 then((n.2.2.append n.2.1.last (aB x)).1,n.2.1,(n.2.2.append n.2.1.last (aB x)).2)else(0,⟨n.2.1.size,n.2.1.bd,PP .i64 (n.2.1.bytes+((aB x).length:Nat)),n.2.1.next⟩,(n.2.2.append n.2.1.last (aB x)).2)).1=0 then cx A l++x else cx A l)/\
    (if n.1≠0 then n else if(n.2.2.append n.2.1.last (aB x)).1≠0 then((n.2.2.append n.2.1.last (aB x)).1,n.2.1,(n.2.2.append n.2.1.last (aB x)).2)else(0,⟨n.2.1.size,n.2.1.bd,PP .i64 (n.2.1.bytes+((aB x).length:Nat)),n.2.1.next⟩,(n.2.2.append n.2.1.last (aB x)).2)).2.1.size=V.size/\Yz V.size P/\
    ((P=A/\a=no/\(if n.1≠0 then n else if(n.2.2.append n.2.1.last (aB x)).1≠0 then((n.2.2.append n.2.1.last (aB x)).1,n.2.1,(n.2.2.append n.2.1.last (aB x)).2)else(0,⟨n.2.1.size,n.2.1.bd,PP .i64 (n.2.1.bytes+((aB x).length:Nat)),n.2.1.next⟩,(n.2.2.append n.2.1.last (aB x)).2)).2.1.next=V.next)\/
     (P=A++[(no,l)]/\a=V.next/\(if n.1≠0 then n else if(n.2.2.append n.2.1.last (aB x)).1≠0 then((n.2.2.append n.2.1.last (aB x)).1,n.2.1,(n.2.2.append n.2.1.last (aB x)).2)else(0,⟨n.2.1.size,n.2.1.bd,PP .i64 (n.2.1.bytes+((aB x).length:Nat)),n.2.1.next⟩,(n.2.2.append n.2.1.last (aB x)).2)).2.1.next=V.next+1)):=by
  intro n P a b d L j e W C o E F f;rw[Zq (by simpa using L)];rw[cO.MK e];rcases pd n.2.2 (ay a) (aB x)with⟨r,y⟩|⟨r,X,p,y⟩
  ·rw[Zx r]
   exact⟨P,a,b,d,j.files y,e,C,by rw[Zq r];exact o,E,F,f⟩
  ·rw[Zq (by simpa using r)]
   obtain⟨s,w,M,Y⟩:=j.last;rw[w]at p;cases p
   refine⟨P,a,b++x,d,j.put (s:=s) (by rw[y,gF]) (by have:=j.kl;simp;omega) ?_ (by rw[gF];simp;omega) ?_,⟨e.bd,?_,e.next⟩,C,?_,E,F,f⟩
   ·rw[List.take_append_of_le_length j.kl];exact M
   ·intro c N
    rcases Q6.1 N with H|H
    ·exact j.Zb c H
    ·exact B c H
   ·show PP .i64 _=_
    rw[e.bytes,wrap_i64 cS,gF];simp
   ·rw[Zx rfl,<-o];simp[cx]
 dsimp only
 by_cases f:V.size<=V.bytes
 ·rw[Zx f]
  rcases h.begin i with⟨t,q,z⟩|⟨t,q,z,O,Q⟩
  ·rw[Zx t]
   exact⟨A,no,l,k,z,by rw[q];exact i,Q4 _,by rw[Zq t],by rw[q],m,.inl ⟨rfl,rfl,by rw[q]⟩⟩
  ·refine g _ (A++[(no,l)]) V.next [] 0 t z O (by simp[aB]) ?_ (by rw[CE,List.append_nil]) q ?_ (.inr ⟨rfl,rfl,Q⟩)
   ·have:=h.kl;unfold JL;simp;omega
   ·intro R S
    rcases Q6.1 S with H|H
    ·exact m R H
    ·rw[List.mem_singleton]at H;subst H
     rw[i.bytes]at f;exact f
 ·rw[Zq f]
  exact g (0,V,D) A no l k rfl h i K (Q4 _) rfl rfl m (.inl ⟨rfl,rfl,rfl⟩)
def HD(s:cu D)(t:Tidy D.files)(a:0<=V.next/\V.next<1000000000000)(b:au D.files (ay V.next)=none):
  cu (bC V D).2.2/\((bC V D).1=0\/(bC V D).1=3\/(bC V D).1=12)/\((bC V D).1≠0->au (bC V D).2.2.files (ay V.next)=none):=by
 obtain⟨x,nt⟩:=fI (n:=V.next) (.inr a);unfold bC;dsimp only;rw[show cI (ax V.next)=ay V.next from rfl];obtain⟨c,d⟩:=s.create (ay V.next);have d:=d ((um a.1).2 a.2) b;rcases lQ D (ay V.next)with⟨e,k⟩|⟨e,k,y,l⟩
 ·rw[Zx e]
  exact⟨c,d.imp id .inr,λ_=>by show au (D.create _).2.files _=none;rw[k];exact b⟩
 rw[Zq (show¬(D.create (ay V.next)).1≠0 by simpa using e)];have f:uo (ay V.next) D (D.create (ay V.next)).2:=(uo.refl t).put l;have m:au (D.create (ay V.next)).2.files (ay V.next)=some ⟨[],0,false⟩:=by rw[l,bE];simp
 generalize(D.create (ay V.next)).2=P at f m c;unfold nG;dsimp only;rw[show cI (ax V.next)=ay V.next from rfl];obtain⟨o,g⟩:=c.sync (ay V.next);have g:=g _ m;rw[Zq (show¬(P.sync (ay V.next)).1≠0 by simpa using g)];have h:Tidy (P.sync (ay V.next)).2.files:=by
  rcases om P (ay V.next)with⟨i,n⟩|⟨i,z,b,n⟩
  ·rw[n];exact f.1
  ·rw[n];exact f.1.aJ _ _
 generalize(P.sync (ay V.next)).2=j at h o;obtain⟨p,u⟩:=o.bD h (V.bd++[V.next]);have mt:Tidy (bD j (V.bd++[V.next])).2.files:=by
  rcases LO h (V.bd++[V.next])with⟨-,q,-⟩|⟨-,-,q,-⟩<;>exact q
 by_cases r:(bD j (V.bd++[V.next])).1=0
 ·rw[Zq (by simpa using r)]
  exact⟨p,.inl rfl,λv=>Zz rfl v⟩
 ·rw[Zx r]
  obtain⟨i,n⟩:=p.delete (ay V.next);refine⟨i,u,λ_=>?_⟩;show au ((bD j (V.bd++[V.next])).2.delete (ay V.next)).2.files _=none;rcases n with n|⟨n,w⟩
  ·rw[n,gy mt];simp
  ·rw[w];exact n
def Wm(V:dA)(D:ak):Prop:=∀n,V.next<=n->n<1000000000000->au D.files (ay n)=none
end
section
variable {D E:ak} {A:qo} {no:Int} {l x:List ah} {k j n s:Nat} {V:dA}
def cu.read(P:cu D){n:ByteArray}(a:au D.files n=some X):D.read n=(X.bytes,0):=by
 unfold ak.read;rw[P.dead,a];rfl
def cu.told(P:cu D){n:List Int}(a:au D.files cj=some (dV (bT n)))(b:∀x∈n,aH x)(c:n.length<=64):told D=n:=by
 unfold Go.Proofs.YtkpomgifkloklaaGreatDoor.told dI;rw[P.read a,Zq sM,show(dV (bT n)).bytes=bT n from rfl,pf b c];rfl
def y_(d:cu D):∀(A:qo) (n:List Int) (P:List ah) (V:dA),(∀x∈A,au D.files (ay x.1)=some (dV (aB x.2)))->(∀a∈(A.map (·.2)).flatten,a.Ok/\a.aM.length<=64)->
  ∃b,cQ (cY A++n) P V D=cQ n (P++(A.map (·.2)).flatten) ⟨V.size,V.bd++cY A,b,V.next⟩ D
 |[],n,P,V,_,_=>⟨V.bytes,by simp[cY]⟩
 |y::A,n,P,V,e,f=>by
  have g:=d.read (e y (QV ..));have h:=qZ (l:=y.2) λa c=>f a (by simp only[QY,List.flatten_cons];exact ZV _ c);obtain⟨b,i⟩:=y_ d A n (P++y.2) ⟨V.size,V.bd++[y.1],((aB y.2).length:Nat),V.next⟩ (λx j=>e x (QJ _ j)) λa c=>f a (by simp only[QY,List.flatten_cons];exact ZW _ c);refine⟨b,?_⟩;have k:cY (y::A)++n=y.1::(cY A++n):=rfl;rw[k]
  conv=>lhs;unfold cQ
  have l:(dV (aB y.2)).bytes=aB y.2:=rfl;rw[g,Zq sM,l];dsimp only;rw[h,Zq sM];dsimp only;rw[i];simp[cY,XQ]
def PV{size:Int}(d:cu D)(r:Tidy D.files)(a:cO E A no l k)(m:∀x∈A,au D.files (ay x.1)=some (dV (aB x.2)))(o:au D.files cj=some (dV (bT (cY A++[no]))))(g:au D.files (ay no)=some ⟨(aB l).take n,s,true⟩)(hs:s<=min n (aB l).length)(M:(aB (l.take k)).length<=s):
  ∃P,k<=P/\P<=l.length/\((aB l).length<=n->P=l.length)/\(aT D size).no=0/\(aT D size).out=cx A (l.take P)/\Ic (aT D size).V A no (l.take P)/\(aT D size).V.size=size/\(aT D size).V.next=iD D/\
   cO (aT D size).D A no (l.take P) k/\cu (aT D size).D/\(s=min n (aB l).length->cO (aT D size).D A no (l.take P) P)/\∀x,x≠ay no->au (aT D size).D.files x=au D.files x:=by
 have t:=a.Zb;obtain⟨P,u,N,O,v⟩:=wW t n;have b3:=km l P;have p:k<=P:=by
  refine Nat.le_of_not_lt λq=>?_;have Q:=v (by have:=a.kl;omega);have R:=CF (l:=l) (i:=P+1) (j:=k) q;omega
 have S:(aB l).length<=n->P=l.length:=λhn=>by
  refine Nat.le_antisymm u (Nat.le_of_not_lt λq=>?_);have Q:=v q;have R:=km l (P+1);omega
 have T:∀x∈cY A++[no],aH x:=λx e=>by have:=a.zF x e;unfold aH;omega
 have U:(cY A++[no]).length<=64:=by have:=a.many;simpa[cY]using this
 have w:=d.told o T U;obtain⟨y,V⟩:=y_ d A [no] [] (dS D size) m λb f=>a.evs b (ZV _ f);have z:=d.read g;simp only at z;have b4:((aB l).take n).length=min n (aB l).length:=Qy;have B:no<iD D:=JJ (by have:=a.uq;omega) (by rw[g];rfl);have C:=sA D.list;have F:∀b∈l.take P,b.Ok/\b.aM.length<=64:=λb f=>t b (List.mem_of_mem_take f);have W:cO ⟨D.most,aJ D.files (ay no) ⟨aB l,(aB l).length,true⟩,D.jF,D.left,D.dead⟩ A no l k:=by
  have X:=a.Wl;have Y:=(fI (n:=no) (.inr (by have:=a.uq;omega))).1;exact⟨r.aJ _ _,λx e=>by show au (aJ _ _ _) _=_;rw[bE,Zq (by simpa using X x e)];exact m x e,⟨_,by show au (aJ _ _ _) _=_;rw[bE];simp,by exact km l k,Q4 _⟩,a.kl,by show au (aJ _ _ _) _=_;rw[bE,Zq (by simpa using Y.symm)];exact o,a.zF,a.zD,a.evs,a.many⟩
 have H:cQ (told D) [] (dS D size) D=cQ [no] ((A.map (·.2)).flatten) ⟨size,cY A,y,iD D⟩ D:=by
  rw[w,V];simp[dS]
 have I:cQ [no] ((A.map (·.2)).flatten) ⟨size,cY A,y,iD D⟩ D=
   if(aB (l.take P)).length<((aB l).take n).length then⟨(D.oD (ay no) (aB (l.take P)).length).1,cx A (l.take P),⟨size,cY A++[no],((aB (l.take P)).length:Nat),iD D⟩,(D.oD (ay no) (aB (l.take P)).length).2⟩
   else⟨0,cx A (l.take P),⟨size,cY A++[no],((aB (l.take P)).length:Nat),iD D⟩,D⟩:=by
  unfold cQ;rw[z,Zq sM];dsimp only;rw[N];dsimp only;split
  ·rfl
  ·unfold cQ;rfl
 have J:∀(h:pC),h.no=0->h.V.bd=cY A++[no]->gB (told D).length h=h:=λh Z K=>by
  unfold gB;rw[Zq (by simpa using Z),Zq (by rw[K];simp),Zq (by rw[K,w];omega)]
 have a0:aT D size=cQ (told D) [] (dS D size) D:=by
  unfold aT;rw[H,I];split
  ·exact J _ (d.oD g _).1 rfl
  ·exact J _ rfl rfl
 rw[a0,H,I];refine⟨P,p,u,S,?_⟩;split
 ·rename_i b1
  obtain⟨c1,c2,c3⟩:=d.oD g ((aB (l.take P)).length:Nat);have a6:iq ((aB (l.take P)).length:Nat) ((aB l).take n).length=(aB (l.take P)).length:=by unfold iq;omega
  have a7:(⟨(aB l).take n,s,true⟩:bZ).cut ((aB (l.take P)).length:Nat)=⟨aB (l.take P),(aB (l.take P)).length,true⟩:=by
   unfold bZ.cut;simp only[a6];rw[List.take_take,X2 O,FH]
  have L:(D.oD (ay no) ((aB (l.take P)).length:Nat)).2.files=aJ D.files (ay no) ⟨aB (l.take P),(aB (l.take P)).length,true⟩:=by
   rw[c2,a7];rfl
  have i:∀c,c<=P->cO (D.oD (ay no) ((aB (l.take P)).length:Nat)).2 A no (l.take P) c:=λc j=>
   W.put (s:=(aB (l.take P)).length) (by rw[L];show _=aJ (aJ _ _ _) _ _;rw[yi]) dg (km _ _) (Q4 _) F
  refine⟨c1,rfl,⟨rfl,rfl,B,C.2⟩,rfl,rfl,i k p,c3,λ_=>i P (Q4 _),λx e=>?_⟩;show au (D.oD (ay no) ((aB (l.take P)).length:Nat)).2.files x=_;rw[L,bE,Zq (by simpa using e)]
 ·rename_i b2
  have a8:(aB (l.take P)).length=min n (aB l).length:=oM
  have a9:(aB l).take n=aB (l.take P):=by
   rw[<-FH l P,a8,List.take_eq_take_iff];omega
  have i:∀c,c<=P->(aB (l.take c)).length<=s->cO D A no (l.take P) c:=λc j b0=>
   ⟨r,m,⟨s,by rw[g,a9],by rw[List.take_take,X2 j];exact b0,oM⟩,by simp;omega,o,a.zF,a.zD,λb f=>(Q6.1 f).elim (λh'=>a.evs b (ZV _ h')) (F b),a.many⟩
  exact⟨rfl,rfl,⟨rfl,rfl,B,C.2⟩,rfl,rfl,i k p M,d,λf=>i P (Q4 _) oM,λ_ _=>rfl⟩
def Kc(P:Nat)(n:Int):aT (gX P) n=⟨(bC ⟨n,[],0,1⟩ (gX P)).1,[],(bC ⟨n,[],0,1⟩ (gX P)).2.1,(bC ⟨n,[],0,1⟩ (gX P)).2.2⟩:=by
 have a:iD (gX P)=1:=by simp[iD,tQ,ak.list,gX,tI]
 have b:told (gX P)=[]:=by
  have:(gX P).read cj=([],14):=by simp[ak.read,gX,au]
  unfold told dI;rw[this];rfl
 have c:(dS (gX P) n)=⟨n,[],0,1⟩:=by unfold dS;rw[a]
 unfold aT;rw[b,c];unfold cQ gB;rw[Zq sM,Zx rfl];unfold aN;rw[Zx rfl]
def SU(P:Nat)(n:Int):((aT (gX P) n).no=3\/(aT (gX P) n).no=12)\/
  ((aT (gX P) n).no=0/\(aT (gX P) n).out=[]/\cO (aT (gX P) n).D [] 1 [] 0/\Ic (aT (gX P) n).V [] 1 []/\(aT (gX P) n).V.size=n/\(aT (gX P) n).V.next=2/\cu (aT (gX P) n).D/\Wm (aT (gX P) n).V (aT (gX P) n).D):=by
 have e:cu (gX P):=⟨rfl,rfl⟩
 have c:Tidy (gX P).files:=by simp[Tidy,gX]
 rw[Kc];obtain⟨f,g,s⟩:=HD (V:=⟨n,[],0,1⟩) e c ⟨sM,sM⟩ (by simp[gX,au]);rcases CG (D:=gX P) (V:=⟨n,[],0,1⟩) c sM with⟨b,h,i,j⟩|⟨b,h,i,j,a,k,l,m,o⟩
 ·exact .inl (g.resolve_left b)
 ·refine .inr ⟨b,rfl,⟨k,sM,⟨0,l,by simp[aB],Qj _⟩,Q4 _,m,by simp[cY],by simp[cY],by simp[cx],sM⟩,⟨by rw[a];rfl,by rw[a];rfl,by rw[a];simp⟩,by rw[a],by rw[a];rfl,f,?_⟩
  show Wm (bC ⟨n,[],0,1⟩ (gX P)).2.1 (bC ⟨n,[],0,1⟩ (gX P)).2.2;rw[a];intro p q t;simp only at q;have d:=fI (n:=p) (.inr oM);rw[o _ (λr=>by have:=sv (a:=1) oM r;omega) d.2 d.1];simp[gX,au]
end
section
variable {D E:ak} {A:qo} {no:Int} {l x:List ah} {k:Nat} {V:dA} {b:List UInt8} {size:Int}
def Bs:∀(b:List Int) {D:ak},Tidy D.files->Tidy (jW b D).files/\∀P,(∀n∈b,P≠ay n)->au (jW b D).files P=au D.files P
 |[],D,c=>⟨c,λ_ _=>rfl⟩
 |n::b,D,c=>by
  have d:Tidy (D.delete (ay n)).2.files/\∀P,P≠ay n->au (D.delete (ay n)).2.files P=au D.files P:=by
   rcases jO D (ay n)with e|e
   ·rw[e];exact⟨c,λ_ _=>rfl⟩
   ·rw[e];exact⟨c.bR _,λP a=>by rw[gy c,Zq (by simpa using a)]⟩
  unfold jW;split
  ·exact⟨d.1,λP a=>d.2 P (a n (QV ..))⟩
  ·obtain⟨f,g⟩:=Bs b d.1
   exact⟨f,λP a=>(g P λh i=>a h (QJ _ i)).trans (d.2 P (a n (QV ..)))⟩
def GP(s:Tidy D.files)(t:0<=no):((bI no b D).1≠0/\Tidy (bI no b D).2.files/\∀n,n≠ay no->n≠aQ->au (bI no b D).2.files n=au D.files n)\/
  ((bI no b D).1=0/\no<1000000000000/\au D.files (ay no)=none/\Tidy (bI no b D).2.files/\au (bI no b D).2.files (ay no)=some (dV b)/\
   au (bI no b D).2.files cj=some (dV (bT [no]))/\∀n,n≠ay no->n≠aQ->n≠cj->au (bI no b D).2.files n=au D.files n):=by
 unfold bI;dsimp only;rw[show cI (ax no)=ay no from rfl];rcases lQ D (ay no)with⟨k,l⟩|⟨k,l,B,u⟩
 ·rw[Zx k]
  exact .inl ⟨k,by show Tidy (D.create _).2.files;rw[l];exact s,λn _ _=>by show au (D.create (ay no)).2.files n=_;rw[l]⟩
 have v:=(um t).1 l;obtain⟨C,nt⟩:=fI (n:=no) (.inr ⟨t,v⟩);rw[Zq (show¬(D.create (ay no)).1≠0 by simpa using k)];have m:uo (ay no) D (D.create (ay no)).2:=(uo.refl s).put u;have w:au (D.create (ay no)).2.files (ay no)=some ⟨[],0,false⟩:=by rw[u,bE];simp
 generalize(D.create (ay no)).2=f at m w;have d:∀{F:ak},Tidy F.files->(∀n,n≠ay no->n≠aQ->au F.files n=au D.files n)->Tidy (F.delete (ay no)).2.files/\∀n,n≠ay no->n≠aQ->au (F.delete (ay no)).2.files n=au D.files n:=by
  intro F q x;rcases jO F (ay no)with e|e
  ·rw[e];exact⟨q,x⟩
  ·rw[e];exact⟨q.bR _,λn a h=>by rw[gy q,Zq (by simpa using a)];exact x n a h⟩
 rcases pd f (ay no) b with⟨c,P⟩|⟨c,E,i,P⟩
 ·rw[Zx c]
  have:=d (F:=(f.append (ay no) b).2) (by rw[P];exact m.1) λn a _=>by rw[P];exact m.2 n a
  exact .inl ⟨c,this⟩
 rw[w]at i;cases i
 rw[Zq (show¬(f.append (ay no) b).1≠0 by simpa using c)];have o:uo (ay no) D (f.append (ay no) b).2:=m.put P;have y:au (f.append (ay no) b).2.files (ay no)=some ⟨b,0,false⟩:=by rw[P,bE];simp
 generalize(f.append (ay no) b).2=g at o y;rcases om g (ay no)with⟨c,P⟩|⟨c,E,i,P⟩
 ·rw[Zx c]
  have:=d (F:=(g.sync (ay no)).2) (by rw[P];exact o.1) λn a _=>by rw[P];exact o.2 n a
  exact .inl ⟨c,this⟩
 rw[y]at i;cases i
 have p:uo (ay no) D (g.sync (ay no)).2:=o.put P;have z:au (g.sync (ay no)).2.files (ay no)=some (dV b):=by rw[P,bE];simp
 rw[Zq (show¬(g.sync (ay no)).1≠0 by simpa using c)];generalize(g.sync (ay no)).2=H at p z;rcases LO p.1 [no]with⟨j,r⟩|⟨j,r,I,J,A⟩
 ·rw[Zx j]
  have:=d (F:=(bD H [no]).2) r.1 λn a h=>(r.2 n h).trans (p.2 n a);exact .inl ⟨j,this⟩
 ·rw[Zq (by simpa using j)]
  exact .inr ⟨j,v,B,I,(A _ nt C).trans z,J,λn a h K=>(A n h K).trans (p.2 n a)⟩
def cO.lt_next(b:cO D A no l k)(c:Ic V A no l):∀n∈cY A++[no],n<V.next:=λn d=>by
 have e:=c.next;rcases Q6.1 d with P|P
 ·have a:=b.zD
  rw[List.pairwise_append]at a;have:=a.2.2 n P no (List.mem_singleton.2 rfl);omega
 ·have:=List.mem_singleton.1 P;omega
def cO.ne_next(P:cO D A no l k)(b:Ic V A no l):∀n∈cY A++[no],ay n≠ay V.next:=λn a c=>by
 have d:=P.zF n a;have e:=P.lt_next b n a;have:=sv (a:=n) ⟨oM,d.2⟩ c.symm;omega
def UD(a:0<=no):cj≠ay no:=λn=>by
 by_cases b:no<1000000000000
 ·exact(fI (n:=no) (.inr oM)).1 n.symm
 ·have P:ay no=cI []:=by unfold ay ax;rw[Zx (.inr oM)]
  rw[P]at n
  revert n;decide+kernel
def Se(P:Tidy D.files)(a:1<=no/\no<1000000000000)(b:au D.files (ay no)=some (dV (aB x)))(c:au D.files cj=some (dV (bT [no])))(d:∀n∈x,n.Ok/\n.aM.length<=64):cO D [] no x x.length:=
 ⟨P,λf e=>(by cases e),⟨_,b,by rw[List.take_length];exact Q4 _,Q4 _⟩,Q4 _,c,by simpa[cY]using a,by simp[cY],by simpa[cx]using d,sM⟩
def cO.bI(n:cO D A no l k)(d:Ic V A no l)(g:∀P∈x,P.Ok/\P.aM.length<=64):
  ((bI V.next (aB x) D).1≠0/\cO (bI V.next (aB x) D).2 A no l k)\/((bI V.next (aB x) D).1=0/\V.next<1000000000000/\cO (bI V.next (aB x) D).2 [] V.next x x.length):=by
 have m:=n.uq;have o:=d.next;rcases GP (b:=aB x) n.tidy (show 0<=V.next by omega)with⟨a,b,c⟩|⟨a,b,c,h,i,j,p⟩
 ·exact .inl ⟨a,n.same b (λe f=>c _ (n.ne_next d e f) (fI (.inr (by have:=n.zF e f;omega))).2) (c _ (UD oM) λP=>NO P.symm)⟩
 ·exact .inr ⟨a,b,Se h oM i j g⟩
def ur(P:D.dead=false){n:ByteArray}(a:au D.files n=some X):D.read n=(X.bytes,0):=by
 unfold ak.read;rw[P,a];rfl
def vA(d:D.dead=false):∀(A:qo) (n:List Int) (P:List ah) (V:dA),(∀x∈A,au D.files (ay x.1)=some (dV (aB x.2)))->(∀a∈(A.map (·.2)).flatten,a.Ok/\a.aM.length<=64)->
  ∃b,cQ (cY A++n) P V D=cQ n (P++(A.map (·.2)).flatten) ⟨V.size,V.bd++cY A,b,V.next⟩ D
 |[],n,P,V,_,_=>⟨V.bytes,by simp[cY]⟩
 |y::A,n,P,V,e,f=>by
  have g:=ur d (e y (QV ..));have h:=qZ (l:=y.2) λa c=>f a (by simp only[QY,List.flatten_cons];exact ZV _ c);obtain⟨b,i⟩:=vA d A n (P++y.2) ⟨V.size,V.bd++[y.1],((aB y.2).length:Nat),V.next⟩ (λx j=>e x (QJ _ j)) λa c=>f a (by simp only[QY,List.flatten_cons];exact ZW _ c);refine⟨b,?_⟩;have k:cY (y::A)++n=y.1::(cY A++n):=rfl;rw[k]
  conv=>lhs;unfold cQ
  have l:(dV (aB y.2)).bytes=aB y.2:=rfl;rw[g,Zq sM,l];dsimp only;rw[h,Zq sM];dsimp only;rw[i];simp[cY,XQ]
def LP(n:cO D A no l k)(P:D.dead=false):aT D size=⟨0,cx A l,⟨size,cY A++[no],((aB l).length:Nat),iD D⟩,D⟩:=by
 obtain⟨o,c,p,q⟩:=n.last;have d:∀x∈cY A++[no],aH x:=λx e=>by have:=n.zF x e;unfold aH;omega
 have f:(cY A++[no]).length<=64:=by have:=n.many;simpa[cY]using this
 have a:told D=cY A++[no]:=by
  unfold told dI;rw[ur P n.XR,Zq sM,show(dV (bT (cY A++[no]))).bytes=bT (cY A++[no])from rfl,pf d f];rfl
 obtain⟨b,g⟩:=vA P A [no] [] (dS D size) n.full λh i=>n.evs h (ZV _ i);have j:=ur P c;have m:cQ (told D) [] (dS D size) D=⟨0,cx A l,⟨size,cY A++[no],((aB l).length:Nat),iD D⟩,D⟩:=by
  rw[a,g];unfold cQ;rw[j,Zq sM];dsimp only;rw[qZ n.Zb,Zq sM];unfold cQ;simp[dS,cx]
 unfold aT;rw[m];unfold gB;rw[Zq sM,Zq sM,Zq (by rw[a];simp)]
def Pj(n:D.dead=true):(aT D size).no=15/\(aT D size).D.files=D.files:=by
 have P:told D=[]:=by
  have:D.read cj=([],15):=by unfold ak.read;rw[n];rfl
  unfold told dI;rw[this];rfl
 have a:∀V:dA,V.bd=[]->aN V D=(15,V,D.gone):=λV b=>by
  unfold aN;rw[Zx b];have c:D.create (cI (ax V.next))=(15,D.gone):=by
   unfold ak.create ak.op ak.dies;rw[n];rfl
  unfold bC;dsimp only;rw[c,Zx sM]
 unfold aT;rw[P];unfold cQ gB;rw[Zq sM,Zx (show(dS D size).bd=[]from rfl),show aN _ _=_ from a (dS D size) rfl];exact⟨rfl,rfl⟩
end
section
variable {D E:ak} {A:qo} {no:Int} {l x:List ah} {k:Nat} {V:dA} {b:List UInt8} {size:Int} {L:List Int}
structure KS (D:ak) (no:Int) (x:List ah):Prop where
 held:cO D [] no x x.length
 alive:cu D
 none:∀y,y≠ay no->y≠cj->au D.files y=none
def Sf:(ig cj).2=false:=by decide+kernel
end
section
variable {D E:ak} {A:qo} {no:Int} {l:List ah} {k:Nat}
def Bg:∀(n:List ByteArray) {D:ak},cu D->cu (Ll D n)
 |[],D,P=>P
 |s::n,D,P=>Bg n (P.delete s).1
def Bh:∀(a:List ByteArray) {D:ak},cu D->Tidy D.files->∀n,au (Ll D a).files n=if n∈a then none else au D.files n
 |[],D,_,_,n=>by simp[Ll]
 |P::a,D,d,b,n=>by
  show au (Ll (D.delete P).2 a).files n=_;obtain⟨f,g⟩:=d.delete P;have h:Tidy (D.delete P).2.files:=by
   rcases jO D P with e|e
   ·rw[e];exact b
   ·rw[e];exact b.bR _
  have e:au (D.delete P).2.files n=if n=P then none else au D.files n:=by
   rcases g with e|⟨i,e⟩
   ·rw[e,gy b];simp
   ·rw[e];split
    ·rename_i j;rw[j,i]
    ·rfl
  rw[Bh a f h n,e]
  by_cases c:n∈a
  ·simp[c]
  ·by_cases k:n=P<;>simp[c,k]
def Lm:cj≠aQ:=by decide+kernel
end
section
variable {w w' w0 w1:World} {p q:Nat} {F D E T:ac} {m:bG} {M:List bG} {va ea a:be} {vn vc en ec n c:Nat}
def Aq(b:Row nR.kO 96 w D a n g6)(d:∀P,D P->P<w.heap.size):bn 104 #[.slice a n c] w (Ok (qh nR.kO 82 w g6)):=
 im (xA uc dC b d λf w' e=>Ok.mk e)
def tK(H:Row aO 8 w D va vn m.vec)(hD:∀n,D n->n<w.heap.size)(I:Row iz 96 w E ea en m.events)(T:∀n,E n->n<w.heap.size):
  bn 69 #[iW m va vn vc ea en ec] w (Ok λa2 w'=>∃p q J r s K G,a2=iW m p q J r s K/\Row aO 8 w' G p q m.vec/\Row iz 96 w' G r s m.events/\(∀n,G n->w.heap.size<=n/\n<w'.heap.size)/\ai w w'):=by
 obtain⟨f,U,l2,l3⟩:=fw.boxes (N:=nR) I;have b1:=H.eO;have b2:=H.len;have b3:=I.eO;have d0:=I.len;have d1:f.length=m.events.length:=by rw[<-U];simp
 refine Ai (PA.mk λw1 V s1 W=>PA.mk λw2 x s2 g2=>⟨_,_,_,ae (x.get W id) rfl,PC.ok (bV (H.af (V.then x)) λn B=>by have:=hD n B;omega) ?_⟩);rintro _ w3 ⟨j,k,l,L,rfl,X,y,z⟩;have a3:=X.aE;have z3:=y.size;refine⟨_,_,_,rfl,PS.mk (y.get (x.get W id) id) (by simp[et]) λY M s4 Z=>⟨_,_,_,ae Z rfl,?_⟩⟩;have A:ai w Y:=((V.then x).then y).new M λn B=>.inr oM;refine PC.ok (Aq (l2.af A) λn B=>by have:=T n B;have:=A.size;omega) ?_;rintro _ w5 ⟨b,o,g,F5,rfl,C,t,b4⟩;have z5:=t.size;have i:∀n,aI b=some n->Y.heap.size<=n:=λn B=>b4 n (C.self n B);have a4:∀n,aI b=some n->n<w5.heap.size:=λn B=>C.aE n (C.self n B);refine⟨_,_,_,rfl,PS.mk (t.get Z id) (by simp[et]) λu F s6 g6=>⟨_,_,_,ae g6 rfl,?_⟩⟩;have b5:ai w u:=(A.then t).new F λn B=>.inr oM;have b6:=F.get (t.get (M.get (y.get g2 id) oM) id) (show¬w1.heap.size=w.heap.size by omega);have b7:aS nR.kO 82 (λn=>aI b=some n) u b o g f:=C.alone.keep F λn B P=>by have:=i n B;omega
 have a5:aS aO 3 L u j k l m.vec:=((X.keep M λn B P=>by have:=z n B;omega).af t).keep F λn B P=>by have:=z n B;omega
 refine⟨λmm a8 w'=>∃a:Nat,a8=a/\a<=o/\mm=o-a/\ef nR 82 u b o g f a w',⟨_,0,rfl,Qj _,rfl,ef.start b7⟩,?_⟩;rintro mm _ _ N ⟨a,rfl,hj,rfl,c⟩;have d2:=c.len;have O:ai w N:=b5.new c.keep λn B=>.inr (by have:=i n B;have:=A.size;omega);have b8:¬aI b=some w.heap.size:=λP=>by have:=i _ P;omega
 have b9:¬aI b=some w1.heap.size:=λP=>by have:=i _ P;omega
 have g7:=c.keep.get g6 b8;have c1:=c.keep.get b6 b9;unfold aP at b3;refine al.dec (λd3=>λQ d8=>?_) (λd4=>?_)
 ·have d:ai N Q:=d8.keep
  have a6:=c.af d;obtain⟨e,rfl⟩:=c.some oM;have d5:=i e rfl;have c2:e<u.heap.size:=by have:=a4 e rfl;omega
  have R:f[a]? =some f[a]:=Qq oM;have v:=l3 f[a] (XY oM);generalize f[a]=bx at R v;have gx:=d.get g7 id;refine⟨λn=>n=e,by show w.heap.size≠e;omega,_,_,_,ae gx rfl,_,_,_,ae gx rfl,e,0,rfl,by omega,by omega,_,_,_,a6.cell rfl R (by show o*10<=aP;unfold aP;omega) 3 _ rfl,PC.ok (bV ((v.1.af O).af d) λn B=>by have:=T n B;have:=(O.then d).size;omega) ?_⟩;rintro _ w9 ⟨c0,n9,c9,G,rfl,a7,k9,hG⟩;refine⟨_,_,_,rfl,ai.keep k9,e,0,rfl,oM,oM,?_⟩;have z7:=c.keep.size;have z8:=d.size;refine(a6.af k9).step (g:=e) rfl R (a7.row (bytes:=8) dC ?_) v.2 (λa0 hx=>⟨by have:=hG a0 hx;omega,a7.aE a0 hx⟩) c2 λd6 a9 c4 d7=>⟨c4.mono λn _ P=>(by simpa[aI]using P.symm),_,?_,a+1,an oM,oM,rfl,a9⟩
  ·have:=v.1.eO;have h2:=v.1.len;rw[h2]at this;exact this
  ·omega
 ·obtain rfl:a=o:=oM
  obtain⟨Fd,S,c6⟩:=c.done;rw[U]at S;have z6:=c.keep.size;have a1:aS aO 3 L N j k l m.vec:=a5.keep c.keep λn B P=>by have:=i n P;have:=a3 n B;omega
  have b0:∀n,Fd n->w2.heap.size<=n:=λn B=>by
   rcases c6 n B with h|h
   ·have:=i n h;omega
   ·omega
  have c7:=S.aE;have c8:=a1.aE;refine ar (fe m j k l b a g) g7 (aD (fe m j k l b a g) c1 rfl λQ d s8 g8=>ar (fe m j k l b a g) g8 (Ok.mk ⟨j,k,l,b,a,g,λn=>L n\/Fd n,rfl,?_,?_,?_,?_⟩))
  ·exact(((a1.keep d λn B P=>by have P:n=w1.heap.size:=P;have:=z n B;omega).row dC (by rw[<-b2];exact b1)).mono λn B=>.inl B)
  ·exact(((show aS iz 82 Fd Q b a g m.events from S.keep d λn B P=>by have P:n=w1.heap.size:=P;have:=b0 n B;omega).row dC cw).mono λn B=>.inr B)
  ·rintro n (B|B)
   ·have:=z n B;have:=c8 n B;omega
   ·have:=b0 n B;have:=c7 n B;omega
  ·exact O.new d λn B=>.inr (by have B:n=w1.heap.size:=B;omega)
def ez(w:World)(q:Nat)(F:ac)(M:List bG):Prop:=
 ∃(a:be) (n c:Nat) (b:List KT) (D:ac),w.heap[q]? =some (.cells #[.slice a n c] 125 (0,0))/\aS PF 97 (λP=>aI a=some P) w a n c b/\b.map (·.m)=M/\(∀P∈b,P.In w D)/\(∀P,D P->F P/\aI a≠some P/\P≠q)/\(∀P,aI a=some P->F P/\P≠q)/\F q/\(∀P,F P->P<w.heap.size)/\M.length<=1024
def ez.keep(i:ez w q F M)(d:aj T w w')(e:∀P,F P->¬T P):ez w' q F M:=by
 obtain⟨a,n,c,j,D,k,l,m,o,f,g,h,p,r⟩:=i;exact⟨a,n,c,j,D,d.get k (e q h),l.keep d λP b=>e P (g P b).1,m,λP b=>(o P b).keep d λP b=>e P (f P b).1,f,g,h,λP b=>Qk (p P b) d.size,r⟩
def ez.af(n:ez w q F M)(P:ai w w'):ez w' q F M:=n.keep P λ_ _ n=>n
def ez.aE(b:ez w q F M):∀P,F P->P<w.heap.size:=by obtain⟨a,n,c,e,D,f,g,h,i,j,k,l,d,m⟩:=b;exact d
def ez.len(P:ez w q F M):M.length<=1024:=by obtain⟨a,n,c,d,D,e,f,g,h,i,j,k,l,b⟩:=P;exact b
def LH:bn 33 #[] w (Ok λa w'=>∃q F,a= RK q/\ez w' q F []/\(∀n,F n->w.heap.size<=n)/\ai w w'):=
 Ha (PA.mk λw1 b d c=>Ok.mk ⟨_,λn=>n=w.heap.size,rfl,⟨none,0,0,[],λ_=>False,c,(aS.nil w1).mono (λn P=>P.elim) (λn P=>(by cases P)),rfl,sM,λn P=>P.elim,λn P=>(by cases P),rfl,λn P=>oM,sM⟩,λn P=>oM,b⟩)
def LF(P:ez w q F M):bn 63 #[RK q] w (Ok λb w'=>b= WP (M.length:Int)/\w=w'):=by
 obtain⟨a,n,c,h,D,d,e,f,i,j,k,l,m,o⟩:=P;have g:=e.len dC;exact tq ⟨q,0,rfl,_,_,_,ae d rfl,Ok.mk ⟨by rw[g,<-f,Q8],rfl⟩⟩
def Bm(w0:World)(n:Option bG)(a:Value)(w:World):Prop:=
 ∃va vn vc ea en ec G,a= .tuple #[iW (n.getD vw) va vn vc ea en ec,.bool n.isSome]/\Row aO 8 w G va vn (n.getD vw).vec/\Row iz 96 w G ea en (n.getD vw).events/\(∀P,G P->w0.heap.size<=P/\P<w.heap.size)
def yG(J:ez w q F M):bn 43 #[RK q,WP e] w (Ok λi w'=>Bm w (eH M e) i w'/\ai w w'):=by
 obtain⟨a,n,c,K,D,u,v,x,L,y,h6,h7,z,h9⟩:=J;have hn:=v.len dC;have a0:K.length=M.length:=by rw[<-x,Q8]
 refine rq (PA.mk λw1 g s1 A=>?_);have d:(e<0\/(M.length:Int)<=e)->oQ LL 97 (RK w.heap.size) (iW vw none 0 0 none 0 0) w1 λj=>jB LL 97 (RK w.heap.size) j λN=>Ok (λi w'=>Bm w (eH M e) i w'/\ai w w') (.returned (.tuple #[N,.bool false])) j:=λO=>
  aD (fe vw none 0 0 none 0 0) A rfl λj Q s4 R=>ar (fe vw none 0 0 none 0 0) R (Ok.mk ⟨by rw[LN O];exact⟨none,0,0,none,0,0,λ_=>False,rfl,dF _ _,dF _ _,λP b=>b.elim⟩,g.new Q λP b=>.inr (by have b:P=w.heap.size:=b;omega)⟩)
 refine al.dec (λB=>d (.inl B)) (λa1=>⟨q,0,rfl,_,_,_,ae (g.get u id) rfl,al.dec (λa2=>d (.inr oM)) (λB=>⟨q,0,rfl,_,_,_,ae (g.get u id) rfl,?_⟩)⟩);obtain⟨h,rfl⟩:∃h:Nat,e=h:=⟨e.toNat,oM⟩
 obtain⟨P,S,f,es,rfl,b,-,C,T,rfl,-⟩:=((v.af g).row (bytes:=72) dC cw).vv (i:=h) oM;have E:=L f (QZ C);have U:eH M (h:Int)=some f.m:=by
  unfold eH;rw[Zx oM,Qx,<-x,Q9,C];rfl
 refine⟨P,S,rfl,oM,oM,bJ (es:=et f.m f.va f.vn f.vc f.ea f.en f.ec) (k:=5) (fe _ _ _ _ _ _ _) rfl (λV W=>by rw[Qx];exact T V W) (PC.ok (tK (E.1.af g) (λP b=>by have:=z P (y P b).1;omega) (E.2.af g) λP b=>by have:=z P (y P b).1;omega) ?_)⟩;rintro _ w2 ⟨k,l,m,o,p,r,G,rfl,X,Y,s,H⟩;refine cg (EJ _ _ _ _ _ _ _) ⟨rfl,aD (fe _ _ _ _ _ _ _) (H.get A id) rfl λw3 t s3 Z=>ar (fe _ _ _ _ _ _ _) Z (Ok.mk ⟨?_,(g.then H).new t λP b=>.inr (by have b:P=w.heap.size:=b;omega)⟩)⟩;have I:∀P,G P->¬P=w.heap.size:=λP b=>by have:=s P b;omega
 rw[U];exact⟨k,l,m,o,p,r,G,rfl,X.keep t I,Y.keep t I,λP b=>⟨by have:=s P b;omega,by have:=s P b;omega⟩⟩
def IL(z:ez w q F M)(hi:aH e):bn 42 #[RK q,WP e] w (Ok λr w'=>Bm w (eH M e) r w'/\ez w' q F (gP M e)/\aj F w w'):=by
 have m:=z.aE;refine rp (PA.mk λw1 A s1 U=>PC.ok (yG (z.af A)) ?_);rintro _ i ⟨⟨va,vn,vc,ea,en,ec,G,rfl,K,L,j⟩,v⟩;have z2:=v.size;have V:=(z.af A).af v;obtain⟨x,f⟩:∃x,eH M e=x:=⟨_,rfl⟩
 rw[f]at K L⊢;refine cg (EJ _ _ _ _ _ _ _) ⟨_,rfl,PA.mk λw3 o s3 W=>aD (fe _ _ _ _ _ _ _) W rfl λs t s4 X=>?_⟩;have Y:ai w s:=((A.then v).then o).new t λP b=>.inr (by have b:P=i.heap.size:=b;omega);have N:ez s q F M:=(V.af o).keep t λP b d=>by have d:P=i.heap.size:=d;have:=m P b;omega
 have Z:=t.get (o.get (v.get U id) id) (show¬w.heap.size=i.heap.size by omega);have a8:∀P,G P->w1.heap.size<=P/\P<i.heap.size:=j;have a0:=(K.af o).keep t λP b d=>by have d:P=i.heap.size:=d;have:=j P b;omega
 have a1:=(L.af o).keep t λP b d=>by have d:P=i.heap.size:=d;have:=j P b;omega
 have k:∀{p:World} {B:List bG},aj (λP=>F P) s p->ez p q F B->gP M e=B->jB LL 97 (RK i.heap.size) p λa2=>oQ LL 97 (RK w.heap.size) a2 p λu=>jB LL 97 (RK w.heap.size) u λa3=>Ok (λr w'=>Bm w x r w'/\ez w' q F (gP M e)/\aj F w w') (.returned (.tuple #[a3,.bool x.isSome])) u:=λ{p B} g hf hM=>by
  have n1:¬F i.heap.size:=λd=>by have:=m _ d;omega
  have n2:¬F w.heap.size:=λd=>by have:=m _ d;omega
  refine ar (fe _ _ _ _ _ _ _) (g.get X n1) (aD (fe _ _ _ _ _ _ _) (g.get Z n2) rfl λu l s6 C=>ar (fe _ _ _ _ _ _ _) C (Ok.mk ⟨?_,?_,?_⟩))
  ·have z5:=g.size;have z3:=o.size
   exact⟨va,vn,vc,ea,en,ec,G,rfl,(a0.keep g λP b d=>by have:=j P b;have:=m P d;omega).keep l λP b d=>by have d:P=w.heap.size:=d;have:=j P b;omega,(a1.keep g λP b d=>by have:=j P b;have:=m P d;omega).keep l λP b d=>by have d:P=w.heap.size:=d;have:=j P b;omega,λP b=>by have:=j P b;constructor<;>omega⟩
  ·rw[hM]
   exact hf.keep l λP b d=>by have d:P=w.heap.size:=d;have:=m P b;omega
  ·exact((ai.keep Y).then g).new l λP b=>.inr (by have b:P=w.heap.size:=b;omega)
 refine al.mk (λE=>?_) (λE=>k (aj.refl _) N (by unfold gP;rw[f,E];rfl));obtain⟨m0,rfl⟩:=Option.isSome_iff_exists.1 E;have a4:0<=e:=by
  unfold eH at f;split at f
  ·assumption
  ·cases f
 unfold eH at f;rw[Zx a4]at f;obtain⟨h,rfl⟩:∃h:Nat,e=h:=⟨e.toNat,oM⟩
 rw[Qx]at f;obtain⟨a9,b0⟩:=Qv.1 f;have a5:eH M (h:Int)=some m0:=by unfold eH;rw[Zx oM,Qx];exact f
 have a6:gP M (h:Int)=M.eraseIdx h:=by unfold gP;rw[a5];rfl
 obtain⟨a,n,c,H,D,O,Q,R,f4,I,y,S,f8,f9⟩:=N;have hn:=Q.len dC;have b1:H.length=M.length:=by rw[<-R,Q8]
 refine⟨q,0,rfl,_,_,_,ae O rfl,PC.ok (jx (Gt.one (c:=PF) (tz:=0) Fe kR Q (show h<n by omega) (by unfold maxLen;omega) (R:=Ok λr w'=>r= .slice a (n-1) c/\aS PF 97 (λP=>aI a=some P) w' a (n-1) c (H.eraseIdx h)/\aj (λP=>aI a=some P) s w') λw' J hk=>Ok.mk ⟨rfl,J,hk⟩)) ?_⟩;rintro _ p ⟨rfl,a7,g⟩;refine⟨_,_,_,rfl,q,0,rfl,PS.mk (g.get O λd=>(y q d).2 rfl) sM λu l s6 C=>?_⟩;have T:aj (λP=>F P) s u:=(g.mono λP _ b=>(y P b).1).then (l.mono λP _ b=>by have b:P=q:=b;rw[b];exact S);refine k T ⟨a,n-1,c,H.eraseIdx h,D,C,a7.keep l λP b d=>(y P b).2 d,?_,λP b=>((f4 P ((List.eraseIdx_sublist ..).subset b)).keep g λP b=>(I P b).2.1).keep l λP b d=>(I P b).2.2 d,I,y,S,λP b=>by have:=f8 P b;have:=T.size;omega,?_⟩ a6
 ·rw[<-R,map_eraseIdx]
 ·have:=List.length_eraseIdx_le (l:=M) (i:=h);omega
def IG(e:ez w q F M){j lc:Nat}{R:List KT}(S:aS PF 97 (λP=>aI d=some P) w d j lc R)(a0:R.map (·.m)=a5)(a8:∀P∈R,P.In w f)(T:∀P,f P->P<w.heap.size/\¬F P)(a9:∀P,aI d=some P->¬F P)(c9:j<=1000000):
  bn 44 #[RK q,.slice d j lc] w (Ok λa2 w'=>∃(a3:Int) (F':ac),a2= WP a3/\ez w' q F' (EH M a5)/\cd F w F' w'):=by
 have hM:=e.len;have d0:=e.aE;have b0:=S.len dC;have d1:=S.lL;have d2:a5.length=j:=by rw[b0,<-a0,Q8]
 obtain⟨d3,s,d5,L0,D0,f1,f2,f3,f4,f5,f6,f7,f8,f9⟩:=id e;have b1:=f2.len dC;have b2:s=M.length:=by rw[b1,<-f3,Q8]
 have b3:PP .i64 (1024-((s:Nat):Int))=((1024-s:Nat):Int):=by rw[wrap_i64 cS];omega
 have a7:(if(PP .i64 (1024-((s:Nat):Int)))<((j:Nat):Int)then(PP .i64 (1024-((s:Nat):Int)))else((j:Nat):Int))=((min (1024-s) j:Nat):Int):=by rw[b3];split<;>omega
 obtain⟨x,hr⟩:∃x,min (1024-s) j=x:=⟨_,rfl⟩
 have b4:M++a5.take x=EH M a5:=by
  unfold EH;rw[<-hr,<-b2];rcases Nat.le_total (1024-s) j with u|u
  ·rw[X2 u]
  ·rw[Nat.min_eq_right u,Qz oM,Qz oM]
 rw[hr]at a7;refine rr ⟨q,0,rfl,_,_,_,ae f1 rfl,?_⟩;refine⟨oM,oM,λmm U w'=>∃(i:Nat) (t:ac),U=i/\i<=x/\mm=x-i/\ez w' q t (M++a5.take i)/\cd F w t w',⟨_,0,F,rfl,Qj _,rfl,by simpa using e,cd.refl _ _⟩,?_⟩;rintro mm _ _ w1 ⟨i,t,rfl,hj,rfl,u,y⟩;have d6:=u.aE;have z1:=y.keep.size;have d7:∀P,P<w.heap.size->¬F P->¬t P:=λP b hf b5=>(y.new P b5).elim hf λe=>by omega
 refine al.dec (λd8=>?_) (λd9=>Ok.mk ⟨_,t,rfl,by rw[<-b4,show x=i by omega];exact u,y⟩);have b6:=S.keep y.keep λP b=>a9 P b;obtain⟨P,b7,h,es,rfl,b,-,hx,hc,rfl,-⟩:=(b6.row (bytes:=72) dC cw).vv (i:=i) oM;have b8:=(a8 h (QZ hx)).keep y.keep λP b=>(T P b).2;refine⟨P,b7,rfl,oM,oM,bJ (es:=et h.m h.va h.vn h.vc h.ea h.en h.ec) (k:=5) (fe _ _ _ _ _ _ _) rfl (λU ht=>by rw[Qx];exact hc U ht) (PA.mk λw2 k2 s2 g2=>aD (fe _ _ _ _ _ _ _) g2 rfl λw3 k3 s3 g3=>?_)⟩;have I:ai w1 w3:=k2.new k3 λP b=>.inr (by have b:P=w1.heap.size:=b;omega);have h3:=u.af I;intro J d4;have C:ai w3 J:=d4.keep;have h4:=h3.af C;obtain⟨a,n,c,V,D,e1,e2,e3,e4,z,A,K,B,e9⟩:=h4;have hn:=e2.len dC;have e0:V.length=M.length+i:=by
  have:=Zj List.length e3;rw[Q8,QX,Qy]at this;omega
 have z4:=(I.then C).size;have a4:h.In J f:=(b8.keep I λ_ _ e=>e).keep C λ_ _ e=>e;refine⟨λ_=>False,q,0,rfl,id,_,_,_,ae e1 rfl,ar (fe _ _ _ _ _ _ _) (C.get g3 id) (PC.ok (tK a4.1 (λP b=>by have:=(T P b).1;omega) a4.2 λP b=>by have:=(T P b).1;omega) ?_)⟩;rintro _ w5 ⟨k,l,m,o,p,r,G,rfl,b9,c0,E,W⟩;refine⟨_,_,_,_,_,_,_,_,_,rfl,ai.keep W,PA.mk λX Y s6 g6=>⟨ai.keep Y,?_⟩⟩;have L:ai J X:=W.then Y;have z5:=W.size;refine fV (c:=PF) (x:=⟨h.m,k,l,m,o,p,r⟩) (D:=λ_=>False) (e2.af L) Fe g6 ⟨rfl,trivial⟩ (λP b=>b.elim) cw (by unfold maxLen;omega) λv c7 w7 F7 N H c1=>⟨_,_,_,rfl,q,0,rfl,PS.mk (H.get (L.get e1 id) λg=>(A q g).2 rfl) sM λZ O s8 g8=>?_⟩
 have Q:∀P,aI v=some P->aI a=some P\/X.heap.size<=P:=λP b=>(c1 P (N.self P b)).imp id λe=>e.resolve_left id;have z7:=H.size;have c2:aj t w1 Z:=(((ai.keep ((I.then C).then L):aj t w1 X)).then (H.mono λP _ b=>(A P b).1)).then (O.mono λP _ b=>by have b:P=q:=b;rw[b];exact K);have a1:aI v≠some q:=λg=>(Q q g).elim (λe=>(A q e).2 rfl) λe=>by have:=B q K;omega
 have c3:∀P,D P->aI v≠some P:=λP b g=>(Q P g).elim (z P b).2.1 λe=>by have:=B P (z P b).1;omega
 have c4:∀P,G P->aI v≠some P:=λP b g=>(Q P g).elim (λe=>by have:=B P (A P e).1;have:=E P b;omega) λe=>by have:=E P b;omega
 have a6:∀P,G P->P≠q:=λP b g=>by have:=E P b;have:=B q K;omega
 have c5:∀P,G P->aI a≠some P:=λP b g=>by have:=B P (A P g).1;have:=E P b;omega
 have c6:aS PF 97 (λP=>aI v=some P) Z v (n+1) c7 (V++[⟨h.m,k,l,m,o,p,r⟩]):=N.alone.keep O λP b g=>by have g:P=q:=g;exact a1 (g▸b)
 refine⟨_,oM,i+1,λP=>t P\/(J.heap.size<=P/\P<Z.heap.size),an oM,oM,rfl,⟨v,n+1,c7,V++[⟨h.m,k,l,m,o,p,r⟩],λP=>D P\/G P,g8,c6,?_,?_,?_,?_,.inl K,?_,?_⟩,y.trans ⟨c2,λP b=>b.imp id λe=>oM⟩⟩
 ·have c8:a5[i]? =some h.m:=by rw[<-a0,Q9,hx];rfl
  rw[Q3,e3,Qw,c8,XQ];rfl
 ·intro P b
  rcases Q6.1 b with b|b
  ·exact((((e4 P b).keep L λ_ _ e=>e).keep H λP b=>(z P b).2.1).keep O λP b g=>(z P b).2.2 g).mono λP b=>.inl b
  ·simp at b;subst b
   exact((((show KT.In w5 G ⟨h.m,k,l,m,o,p,r⟩from⟨b9,c0⟩).keep Y λ_ _ e=>e).keep H λP b=>c5 P b).keep O λP b g=>a6 P b g).mono λP b=>.inr b
 ·rintro P (b|b)
  ·exact⟨.inl (z P b).1,c3 P b,(z P b).2.2⟩
  ·exact⟨.inr (by have:=E P b;omega),c4 P b,a6 P b⟩
 ·intro P b
  refine⟨(Q P b).elim (λe=>.inl (A P e).1) λe=>.inr ⟨oM,by have:=N.aE P (N.self P b);omega⟩,λg=>a1 (g▸b)⟩
 ·rintro P (b|b)
  ·have:=B P b;omega
  ·exact b.2
 ·rw[QX,Qy];omega
end
def Za:kq Nat:=flat 1 (λP=>[Value.pointer (UV P)]) (λ_=>True) (λ_=>rfl) (λa b n=>by simp at n;subst n;rfl)
def Zt:ki LL 74 73 Za.k 8:=⟨kR,kR,dC⟩
def jQ(n:ei):iQ LL 51 (dh n)=true:=kR
structure Ln where
 q:Nat
 a:be
 n:Nat
 cc:Nat
 ps:List Nat
def jA(P a:World->(ac)->Prop)(b:bF)(c:List (Nat×bh)):Nat->World->(ac)->Prop
 |0=>P
 |1=>a
 |k+2=>λd G=>∀n,c[k]? =some n->bY d n.1 G b k n.2
def Kept(n:World->(ac)->Prop):Prop:=∀P a G b,n P G->aj b P a->(∀c,G c->¬b c)->n a G
def GC(a:Nat)(n:Ln)(b:Int)(c:World)(G:ac):Prop:=G a/\c.heap[a]? =some (.cells #[.slice n.a n.n n.cc,RK n.q,WP b] 77 (0,0))/\aS Za 73 (λP=>aI n.a=some P) c n.a n.n n.cc n.ps/\∀P,aI n.a=some P->G P/\P≠a
abbrev cT(n:World)(c:ac)(P:Nat->Nat)(d:Nat)(b:Ln)(a:Int)(e:bF)(f:List (Nat×bh))(g:List bG):Prop:=bf n c P (jA (GC d b a) (λn G=>ez n b.q G g) e f)
section
variable {w w' w0 w1 w2:World} {p i:Nat} {F G G' T:ac} {cls:Nat->Nat} {h:Ln} {c:bF} {X:cH} {now:Int} {rs:List (Nat×bh)} {dP fly' ms:List bG} {x:Nat×bh} {R':bh} {v:Value} {C0 C1 D0 D1:World->(ac)->Prop}
def Lp(b:Kept C0)(d:Kept C1):mI (jA C0 C1 c rs):=by
 intro k w w' G T n P a
 match k,n with
 |0,n=>exact b _ _ _ _ n P a
 |1,n=>exact d _ _ _ _ n P a
 |k+2,n=>exact λx e=>(n x e).keep P a
def OX:Kept (GC p h now):=λw w' G T n P a=>⟨n.1,P.get n.2.1 (a p n.1),n.2.2.1.keep P λb c=>a b (n.2.2.2 b c).1,n.2.2.2⟩
def fN:mI (jA (GC p h now) (λw G=>ez w h.q G dP) c rs):=Lp OX λw w' G T n P a=>ez.keep n P a
def EF(j:bf w F cls (jA C0 C1 c rs))(l:mI (jA C0 C1 c rs))(m:rs[i]? =some x)(e:bY w' x.1 G' c i R')(o:cd (λn=>F n/\cls n=i+2) w G' w'):
  ∃a P,bf w' a P (jA C0 C1 c (rs.set i (x.1,R')))/\cd F w a w'/\(λn=>a n/\P n=1)=(λn=>F n/\cls n=1)/\(λn=>a n/\P n=0)=(λn=>F n/\cls n=0)/\∀n,a n->(F n/\cls n≠i+2)\/G' n:=by
 obtain⟨a,P,p,q,r,f,-⟩:=bf.tC j l o e.aE (C2:=jA C0 C1 c (rs.set i (x.1,R'))) (λg b=>by
  rw[List.getElem?_set_self (Qv.1 m).1]at b
  injection b with b;subst b;exact e) λs G h d=>by
  match s,h,d with
  |0,_,d=>exact d
  |1,_,d=>exact d
  |k+2,h,d=>exact λg b=>d g (by rw[List.getElem?_set_ne oM]at b;exact b)
 exact⟨a,P,p,q,f 1 oM,f 0 oM,r⟩
def OY(d:bf w F cls (jA C0 C1 c rs))(e:mI (jA C0 C1 c rs))(f:D1 w' G')(g:∀P,G' P->P<w'.heap.size)(h:cd (λP=>F P/\cls P=1) w G' w'):
  ∃a n,bf w' a n (jA C0 D1 c rs)/\cd F w a w'/\(λP=>a P/\n P=0)=(λP=>F P/\cls P=0)/\(λP=>a P/\n P=1)=G':=by
 obtain⟨a,n,i,j,-,l,m⟩:=bf.tC d e h g (C2:=jA C0 D1 c rs) f λo G p b=>by
  match o,p,b with
  |0,_,b=>exact b
  |k+2,_,b=>exact b
 exact⟨a,n,i,j,l 0 oM,m⟩
def Lq(b:bf w F cls (jA C0 C1 c rs))(d:mI (jA C0 C1 c rs))(a:aj (λn=>F n/\cls n=0) w w')(e:D0 w' λn=>F n/\cls n=0):bf w' F cls (jA D0 C1 c rs)/\cd F w F w':=by
 refine⟨bf.same b d a e λf G g P=>?_,a.mono λn _ h=>h.1,λn i=>.inl i⟩
 match f,g,P with
 |1,_,P=>exact P
 |k+2,_,P=>exact P
def cT.af(n:cT w F cls p h now c rs dP)(P:ai w w'):cT w' F cls p h now c rs dP:=bf.af n fN P
def cT.c0(P:cT w F cls p h now c rs dP):GC p h now w (λn=>F n/\cls n=0):=P.at' 0
def cT.cell(n:cT w F cls p h now c rs dP):w.heap[p]? =some (.cells #[.slice h.a h.n h.cc,RK h.q,WP now] 77 (0,0)):=n.c0.2.1
def cT.nN(n:cT w F cls p h now c rs dP):aS Za 73 (λP=>aI h.a=some P) w h.a h.n h.cc h.ps:=n.c0.2.2.1
def cT.XO(P:cT w F cls p h now c rs dP):ez w h.q (λn=>F n/\cls n=1) dP:=P.at' 1
def cT.rep(P:bf w F cls (jA C0 C1 c rs))(a:rs[i]? =some x):bY w x.1 (λn=>F n/\cls n=i+2) c i x.2:=P.at' (i+2) x a
def cT.fP(d:cT w F cls p h now c rs dP)(a:ez w' h.q G' fly')(e:cd (λb=>F b/\cls b=1) w G' w'):∃P n,cT w' P n p h now c rs fly'/\cd F w P w':=by
 obtain⟨P,n,f,g,-⟩:=OY (D1:=λw G=>ez w h.q G fly') d fN a a.aE e;exact⟨P,n,f,g⟩
def cT.Zu(b:cT w F cls p h now c rs dP){now':Int}(d:aj (·=p) w w')(e:w'.heap[p]? =some (.cells #[.slice h.a h.n h.cc,RK h.q,WP now'] 77 (0,0))):cT w' F cls p h now' c rs dP/\cd F w F w':=by
 have n:=b.c0;exact Lq (D0:=GC p h now') b fN (d.mono λP _ a=>by have a:P=p:=a;rw[a];exact n.1) ⟨n.1,e,n.2.2.1.keep d λP f=>(n.2.2.2 P f).2,n.2.2.2⟩
def bB(w0 w:World)(p:Nat)(F:ac)(c:bF)(X:cH):Prop:=
 ∃h cls rs,cT w F cls p h X.now c rs X.dP/\h.ps=rs.map (·.1)/\X.aA=rs.map (·.2)/\rs.length=c.aA.toNat/\ks c 0/\Env w0 w F
def bB.af(P:bB w0 w p F c X)(n:ai w w'):bB w0 w' p F c X:=by
 obtain⟨h,cls,rs,a,b,d,e,f,g⟩:=P;exact⟨h,cls,rs,a.af n,b,d,e,f,g.af n⟩
def bB.keep(b:bB w0 w p F c X)(a:aj T w w')(d:∀n,F n->¬T n)(e:∀n,T n->w0.heap.size<=n):bB w0 w' p F c X:=by
 obtain⟨h,cls,rs,f,g,i,j,k,P⟩:=b;exact⟨h,cls,rs,bf.keep f fN a d,g,i,j,k,⟨P.qp,P.laid,P.gr.new a λn l=>.inr (e n l),P.aE⟩⟩
def bB.aE(P:bB w0 w p F c X):∀n,F n->n<w.heap.size:=by
 obtain⟨h,cls,rs,a,-⟩:=P;exact a.aE
def bB.env(n:bB w0 w p F c X):Env w0 w F:=by
 obtain⟨h,cls,rs,a,b,d,e,f,P⟩:=n;exact P
def bB.len(n:bB w0 w p F c X):X.aA.length=c.aA.toNat/\1<=c.aA/\c.aA<=64/\X.dP.length<=1024:=by
 obtain⟨h,cls,rs,P,e,a,b,d,f⟩:=n;obtain⟨g,i,j⟩:=d.aA;exact⟨by rw[a,Q8];exact b,oM,oM,P.XO.len⟩
def iU(w0:World)(f:ac)(x:gO)(v:Value)(w:World):Prop:=∃(P:be) (a g:Nat) (b:be) (c h:Nat) (d:be) (e i:Nat) (G:ac),v= .agg (gh x P a g b c h d e i).toArray/\
 Row fy 32 w G P a x.st.cells/\Row xu 120 w G b c x.Lr/\Row Ib 24 w G d e x.rows/\∀n,G n->w0.heap.size<=n/\n<w.heap.size/\¬f n
def NJ(a:World->(ac)->cH->Prop)(w:World)(F:ac)(b:Nat)(n:gO×cH)(v:Value)(w':World):Prop:=∃P,iU w P n.1 v w'/\a w' P n.2/\eD b n.2/\cd F w P w'
abbrev ju(w0 w:World)(p:Nat)(F:ac)(c:bF)(n:Nat)(P:gO×cH)(v:Value)(w':World):Prop:=NJ (λw F X=>bB w0 w p F c X) w F n P v w'
def RN(P:World->(ac)->cH->Prop)(a:Nat):Prop:=∀w w' F T X,P w F X->aj T w w'->(∀n,F n->¬T n)->(∀n,T n->a<=n)->P w' F X
def EG:RN (λw F X=>bB w0 w p F c X) w0.heap.size:=λ_ _ _ _ _ h n P a=>h.keep n P a
def Env.part(n:Env w0 w F):Env w0 w (λP=>F P/\cls P=a):=⟨n.qp,n.laid,n.gr,λP b=>n.aE P b.1⟩
def Bj(f:cT w F cls p h now c rs dP)(t:rs[i]? =some x)(u:bY w1 x.1 G' c i R')(y:cd (λn=>F n/\cls n=i+2) w G' w1)(z:fW w G' ms v w1)(L:ms.length<=10000):
  bn 44 #[RK h.q,v] w1 (Ok λv w'=>∃(e:Int) (d:ac) (P:Nat->Nat),v= WP e/\cT w' d P p h now c (rs.set i (x.1,R')) (EH dP ms)/\cd F w d w'/\aj (λn=>F n/\cls n=1) w1 w'):=by
 obtain⟨g,j,k,A,l,-⟩:=EF f fN t u y;obtain⟨M,N,O,B,D,rfl,m,o,C,q,E⟩:=z;have b:=cT.XO k;have H:=f.aE;have r:∀n,(g n/\j n=1)->n<w.heap.size:=λn a=>by
  have a:(λn=>g n/\j n=1) n:=a;rw[l]at a;exact H n a.1
 have Q:=m.len dC;have R:B.length=ms.length:=by rw[<-o,Q8]
 refine Calls.ok (IG b m o C (λn a=>⟨(q n a).2.1,λb=>by have:=r n b;have:=(q n a).1;omega⟩) (λn a b=>by have:=r n b;have:=(E n a).1;omega) oM) ?_;rintro _ w2 ⟨e,S,rfl,I,s⟩;obtain⟨d,P,J,K⟩:=cT.fP k I s;exact⟨e,d,P,rfl,J,A.trans K,by rw[<-l];exact s.keep⟩
end
def Row.AN{c:kq j}{bytes n:Nat}{D:ac}(d:b.heap[n]? =some (.cells o g F)){xs:List j}(k:cf c b D xs o.toList)(q:0<c.k)(P:xs.length*bytes<=aP):Row c bytes b (λa=>a=n\/D a) (UV n) xs.length xs:=
 ⟨rfl,P,λr s l=>by
  obtain⟨e,m,f⟩:=k.at l;have t:=c.len f;refine⟨n,0,e,rfl,az d,.inl rfl,λh p=>?_,c.mono f λa P=>.inr P⟩;have i:=m h p;rw[Qq (show h<e.length by omega)]at i⊢;rw[Xz];exact ae d (by simpa using i)⟩
def i10(n:(decide (-1000000<=e)&&decide (e<=1000000))=true):aH e:=by
 simp only[QK,Zk]at n;unfold aH;omega
section
variable {w w' w0:World}
def Nz:bn 35 #[] w (Ok λu w'=>∃m tn v o p x G,u= .agg #[.slice m tn v,.slice o p x]/\bt w' G KR m tn o p/\(∀n,G n->w.heap.size<=n/\n<w'.heap.size)/\ai w w'):=by
 refine GS (PA.mk λb y V z=>PA.mk λd A W B=>PA.mk λf q X C=>PA.mk λg k Y E=>PA.mk λr h Z F=>?_);have s:=((A.then q).then k).then h;refine PS.mk (s.get z id) sM λw6 H s6 I=>PS.mk I sM λc J s7 t=>⟨_,_,_,_,_,_,ae t rfl,ae t rfl,?_⟩
 have e:aj (λn=>n=w.heap.size) r c:=H.then J;have K:=e.get (h.get (k.get (q.get B id) id) id) (λP=>by have P:b.heap.size=w.heap.size:=P;omega);have L:=e.get (h.get (k.get C id) id) (λP=>by have P:d.heap.size=w.heap.size:=P;omega);have M:=e.get (h.get E id) (λP=>by have P:f.heap.size=w.heap.size:=P;omega);have N:=e.get F (λP=>by have P:g.heap.size=w.heap.size:=P;omega);have O:Row jz 32 c (λn=>n=b.heap.size\/False) (UV b.heap.size) 3 [⟨0,1,0,2⟩,⟨1,0,-1,0⟩,⟨0,2,-1,0⟩]:=
  Row.AN (c:=jz) (xs:=[⟨0,1,0,2⟩,⟨1,0,-1,0⟩,⟨0,2,-1,0⟩]) (D:=λ_=>False) K ⟨_,_,rfl,⟨rfl,i10 rfl,i10 rfl,i10 rfl,i10 rfl⟩,_,_,rfl,⟨rfl,i10 rfl,i10 rfl,i10 rfl,i10 rfl⟩,_,_,rfl,⟨rfl,i10 rfl,i10 rfl,i10 rfl,i10 rfl⟩,rfl⟩ dC dC
 have Q:Row sP 48 c (λn=>n=d.heap.size\/n=b.heap.size\/False) (UV d.heap.size) 6 [⟨1,1,true,[]⟩,⟨2,3,false,[]⟩,⟨3,2,false,[]⟩,⟨4,2,false,[⟨0,1,0,2⟩,⟨1,0,-1,0⟩,⟨0,2,-1,0⟩]⟩,⟨2,2,false,[]⟩,⟨1,1,false,[]⟩]:=by
  have no:∀(i j:Int) (l:Bool),aH i->aH j->sP.rep c (λn=>n=b.heap.size\/False) ⟨i,j,l,[]⟩ [WP i,WP j,.bool l,.slice none 0 0]:=λi j l R S=>⟨none,0,0,rfl,dF _ _,R,S⟩
  exact Row.AN (c:=sP) (xs:=[⟨1,1,true,[]⟩,⟨2,3,false,[]⟩,⟨3,2,false,[]⟩,⟨4,2,false,[⟨0,1,0,2⟩,⟨1,0,-1,0⟩,⟨0,2,-1,0⟩]⟩,⟨2,2,false,[]⟩,⟨1,1,false,[]⟩]) (D:=λn=>n=b.heap.size\/False) L ⟨_,_,rfl,no 1 1 true (i10 rfl) (i10 rfl),_,_,rfl,no 2 3 false (i10 rfl) (i10 rfl),_,_,rfl,no 3 2 false (i10 rfl) (i10 rfl),_,_,rfl,⟨_,_,_,rfl,O,i10 rfl,i10 rfl⟩,_,_,rfl,no 2 2 false (i10 rfl) (i10 rfl),_,_,rfl,no 1 1 false (i10 rfl) (i10 rfl),rfl⟩ dC dC
 have T:Row Cb 40 c (λn=>n=f.heap.size\/False) (UV f.heap.size) 3 KR.projs:=
  Row.AN (c:=Cb) (xs:=[⟨0,0,1,0,2⟩,⟨0,2,2,0,1⟩,⟨0,5,3,4,4⟩]) (D:=λ_=>False) M ⟨_,_,rfl,⟨rfl,i10 rfl,i10 rfl,i10 rfl,i10 rfl,i10 rfl⟩,_,_,rfl,⟨rfl,i10 rfl,i10 rfl,i10 rfl,i10 rfl,i10 rfl⟩,_,_,rfl,⟨rfl,i10 rfl,i10 rfl,i10 rfl,i10 rfl,i10 rfl⟩,rfl⟩ dC dC
 have U:Row nQ 24 c (λn=>n=g.heap.size\/n=d.heap.size\/n=b.heap.size\/False) (UV g.heap.size) 1 KR.types:=
  Row.AN (c:=nQ) (xs:=[[⟨1,1,true,[]⟩,⟨2,3,false,[]⟩,⟨3,2,false,[]⟩,⟨4,2,false,[⟨0,1,0,2⟩,⟨1,0,-1,0⟩,⟨0,2,-1,0⟩]⟩,⟨2,2,false,[]⟩,⟨1,1,false,[]⟩]]) (D:=λn=>n=d.heap.size\/n=b.heap.size\/False) N ⟨_,_,rfl,⟨_,_,_,rfl,Q⟩,rfl⟩ dC dC
 refine Ok.mk ⟨_,_,_,_,_,_,λn=>(n=g.heap.size\/n=d.heap.size\/n=b.heap.size\/False)\/n=f.heap.size\/False,rfl,⟨U.mono λn a=>.inl a,T.mono λn a=>.inr a⟩,λn a=>?_,?_⟩
 ·have z7:c.heap.size=r.heap.size:=oM
  rcases a with(rfl|rfl|rfl|a)|rfl|a<;>first|omega|exact a.elim
 ·exact(y.then s).new e λn a=>.inr (by have a:n=w.heap.size:=a;omega)
def zi:bn 15 #[WP e] w (Ok λk w'=>∃P tn d a b f G,k=uh (jK e) P tn d a b f/\bt w' G KR P tn a b/\(∀n,G n->w.heap.size<=n/\n<w'.heap.size)/\ai w w'):=by
 refine DK (PA.mk λq l r m=>PC.ok Nz ?_);rintro _ s ⟨P,tn,d,a,b,f,G,rfl,o,g,h⟩;refine⟨_,_,_,_,_,_,rfl,aD (IS (jK e) P tn d a b f) (h.get m id) rfl λt i u p=>ar (IS (jK e) P tn d a b f) p (Ok.mk ⟨P,tn,d,a,b,f,G,rfl,o.keep i λn c j=>by have j:n=w.heap.size:=j;have:=g n c;omega,λn c=>by have:=g n c;omega,(l.then h).new i λn c=>.inr (by have c:n=w.heap.size:=c;omega)⟩)⟩
end
section
variable {w w' w0:World} {p q:Nat} {F G D E:ac} {c e:bF} {self other:Int} {X Y:bh}
def LI(c:bF)(self:Int):(cC c self).2.gJ.asked=[]:=by
 have n:(Cr c).2.gJ.asked=[]:=by unfold Cr;rw[yH]
 unfold cC;split
 ·exact n
 split<;>exact n
def bY.cl(n:bY w p F c self X):X.S.Cl/\X.S.n=c.aA.toNat:=by
 obtain⟨b,d,P,a⟩:=n;exact(a.at' 3).2
def bY.len(a:bY w p F c self X):X.S.l.length<=20000000:=by
 obtain⟨f,b,n,d⟩:=a;have e:de w b.bp (λP=>F P/\n P=4) c.decl c.every.toNat X.S.l:=d.at' 4;exact e.1.2.2.2
def bY.dok(b:bY w p F c self X):X.D.Ok:=by
 obtain⟨f,P,n,d⟩:=b;obtain⟨Fd,e,-⟩:=(show DL w (λa=>F a/\n a=2) P.dp P.lp X.D X.log from d.at' 2)
 exact e.ok
def OB{P n:Int}(a:n≠0)(b c:Operand):(do eqGuard .rem 3 b c (WP P) (WP n);binOp .rem 3 (WP P) (WP n):Sem Value).run LL w= .ok (WP (P.tmod n)) w:=by
 simp[eqGuard,binOp,Op.intDiv,a]
end
section
variable {w w' w0 w1 w2 wb:World} {p i k g:Nat} {F F1 F' G G' T D:ac} {cls cls':Nat->Nat} {h:Ln} {c:bF} {X:cH} {s:ei} {x:gO} {v:Value} {r:gO×cH} {now:Int} {rs:List (Nat×bh)} {dP:List bG} {y:Nat×bh} {R R':bh} {aA:List bh}
def iU.base(b:iU w1 f x v w2)(r:w.heap.size<=w1.heap.size):iU w f x v w2:=by
 obtain⟨c,d,e,g,h,i,j,k,l,G,m,o,p,q,n⟩:=b;exact⟨c,d,e,g,h,i,j,k,l,G,m,o,p,q,λP a=>⟨by have:=(n P a).1;omega,(n P a).2⟩⟩
def iU.at'(b:iU w f x v w2):fz w x v w2:=by
 obtain⟨c,d,e,g,h,i,j,k,l,G,m,o,p,q,n⟩:=b;exact⟨c,d,e,g,h,i,j,k,l,G,m,o,p,q,λP a=>⟨(n P a).1,(n P a).2.1⟩⟩
def iU.new(b:fz w x v w2)(c:∀n,f n->n<w.heap.size):iU w f x v w2:=by
 obtain⟨d,e,g,h,i,j,k,l,m,G,o,p,q,r,P⟩:=b;exact⟨d,e,g,h,i,j,k,l,m,G,o,p,q,r,λn a=>⟨(P n a).1,(P n a).2,λs=>by have:=c n s;have:=P n a;omega⟩⟩
def Bk{n:kq j}{bytes:Nat}(h:Row n bytes w D d a []):Row n bytes w (λ_=>False) d a []:=by
 have:=h.len;simp at this;subst this;exact⟨rfl,by unfold aP;omega,λi y P=>by simp at P⟩
def iU.flat(e:fz w x v w2)(n:x.st.cells=[])(P:x.Lr=[])(a:x.rows=[]):iU w f x v w2:=by
 obtain⟨g,h,i,j,k,l,m,o,p,G,q,b,c,d,s⟩:=e;rw[n]at b;rw[P]at c;rw[a]at d;exact⟨g,h,i,j,k,l,m,o,p,λ_=>False,q,by rw[n];exact Bk b,by rw[P];exact Bk c,by rw[a];exact Bk d,λt r=>r.elim⟩
def WC(s:iU wb f x v w1)(t:w1.heap[g]? =some (.cells o 46 (0,0)))(u:8=o.size)(E:g<wb.heap.size)(w:∀w2,aj (·=g) w1 w2->iU wb f x v w2->m v w2):
  sQ (dv LL 46) λy=>v=y/\oQ LL 46 (RK g) y w1 λw2=>jB LL 46 (RK g) w2 λr=>Ok m (.returned r) w2:=by
 obtain⟨a,b,c,d,e,h,i,j,k,G,rfl,z,A,B,l⟩:=s;have q:∀n,G n->¬n=g:=λn P F=>by have:=l n P;omega
 exact cg (RO x a b c d e h i j k) ⟨rfl,aD (iV x a b c d e h i j k) t u λw2 p H C=>ar (iV x a b c d e h i j k) C (Ok.mk (w w2 p ⟨a,b,c,d,e,h,i,j,k,G,rfl,z.keep p q,A.keep p q,B.keep p q,λn P=>⟨(l n P).1,by have:=(l n P).2.1;omega,(l n P).2.2⟩⟩))⟩
def Ut(i:RN g9 a)(j:NJ g9 wb F1 k r v w1)(c:cd F w F1 wb)(A:a<=w.heap.size)(d:wb.heap[g]? =some (.cells o 46 (0,0)))(l:8=o.size)(B:w.heap.size<=g)(e:¬F1 g):
  sQ (dv LL 46) λy=>v=y/\oQ LL 46 (RK g) y w1 λw2=>jB LL 46 (RK g) w2 λm=>Ok (NJ g9 w F k r) (.returned m) w2:=by
 obtain⟨p,q,s,t,b⟩:=j;have u:=az d;exact WC q (b.keep.get d e) l u λw2 f x=>⟨p,x.base c.keep.size,i _ _ _ _ _ s f (λP z n=>by have n:P=g:=n;subst n;exact(b.new P z).elim e λh=>oM) (λP n=>by have n:P=g:=n;omega),t,(c.trans b).last f λP n=>by have n:P=g:=n;omega⟩
def WD(c:RN g9 a){no:Int}(d:g9 w1 F1 X)(e:eD k X)(f:cd F w F1 w1)(q:a<=w.heap.size)(h:w1.heap[g]? =some (.cells o 46 (0,0)))(i:8=o.size)(r:w.heap.size<=g)(j:¬F1 g):
  oQ LL 46 (RK g) (.agg #[WP no,WP 0,WP 0,WP 0,.slice none 0 0,.slice none 0 0,.slice none 0 0,.bool false]) w1 λw2=>jB LL 46 (RK g) w2 λl=>Ok (NJ g9 w F k (bS no,X)) (.returned l) w2:=
 aD (iV (bS no) none 0 0 none 0 0 none 0 0) h i λw2 b s m=>ar (iV (bS no) none 0 0 none 0 0 none 0 0) m (Ok.mk ⟨F1,.flat (fz.plain rfl rfl rfl) rfl rfl rfl,c _ _ _ _ _ d b (λP p n=>by have n:P=g:=n;subst n;exact j p) (λP n=>by have n:P=g:=n;omega),e,f.last b λP n=>by have n:P=g:=n;omega⟩)
def qV(n:ju w0 wb p F1 c k r v w1)(P:cd F w F1 wb)(a:w0.heap.size<=w.heap.size)(b:wb.heap[g]? =some (.cells o 46 (0,0)))(d:8=o.size)(e:w.heap.size<=g)(f:¬F1 g):
  sQ (dv LL 46) λy=>v=y/\oQ LL 46 (RK g) y w1 λw2=>jB LL 46 (RK g) w2 λh=>Ok (ju w0 w p F c k r) (.returned h) w2:=Ut EG n P a b d e f
def GD(n:bB w0 w1 p F1 c X)(P:eD k X)(a:cd F w F1 w1)(b:w0.heap.size<=w.heap.size)(d:w1.heap[g]? =some (.cells o 46 (0,0)))(e:8=o.size)(f:w.heap.size<=g)(h:¬F1 g):
  oQ LL 46 (RK g) (.agg #[WP 0,WP 0,WP 0,WP 0,.slice none 0 0,.slice none 0 0,.slice none 0 0,.bool false]) w1 λw2=>jB LL 46 (RK g) w2 λi=>Ok (ju w0 w p F c k (bS 0,X)) (.returned i) w2:=WD EG n P a b d e f h
def RP{no:Int}:bn 25 #[WP no] w (Ok λv w'=>fz w (bS no) v w'/\ai w w'):=
 Bl (PA.mk λw2 P e a=>aD (iV (bS no) none 0 0 none 0 0 none 0 0) a rfl λf b g c=>ar (iV (bS no) none 0 0 none 0 0 none 0 0) c (Ok.mk ⟨fz.plain rfl rfl rfl,P.new b λd n=>.inr (by have n:d=w.heap.size:=n;omega)⟩))
def iC{no:Int}(P:bB w0 w p F c X)(a:eD k X):bn 25 #[WP no] w (Ok (ju w0 w p F c k (bS no,X))):=
 Calls.ok RP λv w' ⟨b,n⟩=>⟨F,.flat b rfl rfl rfl,P.af n,a,cd.of n⟩
def GF:(e_ d9 e).isSome=decide (0<=e/\e<d9.length):=by
 by_cases h:0<=e/\e<d9.length
 ·rw[Zy h];unfold e_
  rw[Zx h.1,Qq oM];rfl
 ·rw[Xv h,Ls.2 oM];rfl
def cT.n(n:cT w F cls p h now c rs dP)(P:h.ps=rs.map (·.1)):h.n=rs.length:=by
 have:=n.nN.len dC;rw[P,Q8]at this;exact this
def n_(b:bB w0 w p F c X):bn 26 #[RK p,WP e] w (Ok λv w'=>v= .bool (e_ X.aA e).isSome/\w=w'):=by
 obtain⟨h,cls,rs,a,d,f,i,j,k⟩:=b;have g:=a.n d;rw[GF,f,Q8];refine ob (al.dec (λP=>⟨p,0,rfl,_,_,_,ae a.cell rfl,Ok.mk ⟨?_,rfl⟩⟩) (λP=>Ok.mk ⟨?_,rfl⟩))
 ·rw[g];congr 1;exact decide_eq_decide.2 ⟨λn=>⟨P,n⟩,λn=>n.2⟩
 ·congr 1;exact(Xv λn=>P n.1).symm
def cT.ptr(b:cT w F cls p h now c rs dP)(d:h.ps=rs.map (·.1))(f:rs[i]? =some y)(q:rs.length<=1000):∃n P,h.a=some ⟨n,P,none⟩/\i<h.n/\w.cell? ⟨n,P+i,none⟩=some (RK y.1)/\F n/\cls n=0:=by
 have r:=b.n d;have s:=(Qv.1 f).1;obtain⟨n,P,g,t,j,-,k,a,e,l⟩:=(b.nN.row (bytes:=8) dC (by rw[d,Q8];unfold aP;omega)).vv (i:=i) oM;have m:g=y.1:=by rw[d,Q9,f]at a;injection a with a;exact a.symm
 obtain⟨rfl,-⟩:=l;have e:=e 0 dC;subst m;have o:=b.c0.2.2.2 n k;exact⟨n,P,j,oM,by simpa[show Za.k=1 from rfl]using e,o.1⟩
def cT.self(n:cT w F cls p h now c rs dP):F p/\cls p=0:=n.c0.1
def nd{c g:Type}{f:c->g}:∀{n:List c} {d:Nat} {a b:c},n[d]? =some a->f b=f a->(n.set d b).map f=n.map f
 |x::n,0,a,b,P,e=>by simp at P;subst P;simp[e]
 |x::n,d+1,a,b,P,e=>by simp at P;simp[nd P e]
def bB.Lt(n:cT w F cls p h now c (rs.set i (y.1,R')) dP)(P:rs[i]? =some y)(a:h.ps=rs.map (·.1))(b:aA=rs.map (·.2))(d:rs.length=c.aA.toNat)(e:ks c 0)(f:Env w0 w F):bB w0 w p F c ⟨aA.set (i:Int).toNat R',dP,now⟩:=
 ⟨h,cls,_,n,by rw[a];exact(nd (f:=(·.1)) (b:=(y.1,R')) P rfl).symm,by dsimp only;rw[b,List.map_set,Qx],by rw[List.length_set];exact d,e,f⟩
def ju.rep{R':bh}(e:cT w F cls p h X.now c rs X.dP)(f:h.ps=rs.map (·.1))(g:X.aA=rs.map (·.2))(j:rs.length=c.aA.toNat)(l:ks c 0)(m:Env w0 w F)(a:rs[i]? =some y)(o:fz w x v w')(q:x.st.cells=[])(r:x.Lr=[])(s:x.rows=[])(t:bY w' y.1 G' c i R')(u:cd (λb=>F b/\cls b=i+2) w G' w')(n:eD k X)(z:Fit (k+1) R'):
  ju w0 w p F c (k+1) (x,⟨X.aA.set (i:Int).toNat R',X.dP,X.now⟩) v w':=by
 obtain⟨F1,E,P,d,H,-⟩:=EF e fN a t u;refine⟨F1,.flat o q r s,bB.Lt P a f g j l (m.tC d),?_,d⟩;exact⟨λA B=>(List.mem_or_eq_of_mem_set B).elim (λP=>(n.aA A P).mono) λC=>C▸z,n.Lu,by have h:=n.now;show X.now<=_;omega⟩
def IH(a:aq)(n:Int)(P:bG)(b:Int):(ly a n P b).length<=2:=by
 have d:∀(c:Prop) [Decidable c] (e:bG),(if c then [e]else([]:List bG)).length<=1:=λc _ e=>by split<;>simp
 unfold ly
 by_cases f:P.kind≠1/\P.kind≠2
 ·rw[Zx f];simp
 rw[Zq f];have h:=d (0<(a.missing P.vec (max 1 (min b 32))).length) ⟨3,n,P.bO,[],a.missing P.vec (max 1 (min b 32))⟩;have i:=d (P.kind=1/\(ic P.vec a.vec=2\/ic P.vec a.vec=3)) ⟨2,n,P.bO,a.vec,[]⟩;dsimp only;generalize(if 0<(a.missing P.vec (max 1 (min b 32))).length then [(⟨3,n,P.bO,[],a.missing P.vec (max 1 (min b 32))⟩:bG)]else [])=j at h;generalize(if P.kind=1/\(ic P.vec a.vec=2\/ic P.vec a.vec=3)then [(⟨2,n,P.bO,a.vec,[]⟩:bG)]else [])=k at i
 by_cases g:(j++k).isEmpty=true
 ·rw[Zx g];simp
 ·rw[Zq g,QX];omega
def II(c:bF)(n:Int)(X:bh)(P:bG):(cy c n X P).1.length<=2:=by
 unfold cy
 cases X.log with
 |none=>simp
 |some a=>
  dsimp only;split
  ·simp
  split
  ·simp
  split
  ·unfold lP
   dsimp only;split
   ·simp
   split<;>simp
  split
  ·exact IH _ _ _ _
  split<;>simp
def xB(n:cT w F cls p h now c rs dP)(P:rs[i]? =some y)(b:F a/\cls a=0):¬(F a/\cls a=i+2):=λd=>by omega
def EI(m:bB w0 w p F c X)(o:eD k X)(hk:k<=1000)(b:Option bG){x z:be}{A M B N:Nat}(hv:Row aO 8 w D x A (b.getD vw).vec)(b1:Row iz 96 w D z B (b.getD vw).events)(q:∀P,D P->P<w.heap.size/\¬F P):
  bn 41 #[RK p,iW (b.getD vw) x A M z B N,.bool b.isSome] w (Ok (ju w0 w p F c (k+1) (gi c X b))):=by
 have a1:=m.aE;have C:=m.env.gr.size;refine od (PA.mk λw1 k1 s1 O=>PA.mk λw2 E s2 H=>?_);have g:=k1.then E;have I:=m.af g;have z2:=g.size;have r:¬F w1.heap.size:=λa=>by have:=a1 _ a;omega
 cases b with
 |none=>exact al.tt rfl (PC.ok (iC I o.mono) λv w' i=>qV i (cd.of g) C H rfl oM r)
 |some n=>
  refine al.ff rfl ⟨_,ae (E.get O id) rfl,PC.ok (n_ I) ?_⟩;rintro _ _ ⟨rfl,rfl⟩;refine⟨_,rfl,?_⟩;show al (!(e_ X.aA n.m_).isSome) _ _
  cases J:e_ X.aA n.m_ with
  |none=>
   have a:gi c X (some n)=(bS 1,X):=by unfold gi;dsimp only;rw[J]
   rw[a];exact al.tt rfl (PC.ok (iC I o.mono) λv w' i=>qV i (cd.of g) C H rfl oM r)
  |some R=>
   obtain⟨d,Q,S⟩:=ej J;have a:gi c X (some n)=(bS (cy c d R n).2.1,X.put d (cy c d R n).2.2 (cy c d R n).1):=by unfold gi;dsimp only;rw[J];dsimp only;rw[Q]
   rw[a];refine al.ff rfl λT d3=>?_;have s:ai w2 T:=d3.keep;have j:=g.then s;obtain⟨h,cls,rs,e,U,K,a5,L,V⟩:=m.af j;obtain⟨a6,b8,b9⟩:=L.aA;rw[K,Q9]at S;obtain⟨y,f,rfl⟩:=Option.map_eq_some_iff.1 S;obtain⟨P,b,b2,c0,a2,c1⟩:=e.ptr U f oM;have W:=s.get (E.get O id) id;have Y:=cT.rep e f;have a7:y.2∈X.aA:=by rw[K];exact Xk.2 ⟨y,QZ f,rfl⟩
   have Z:=o.aA _ a7;have b3:=Y.waits;have b4:=L.Lw;have z3:=j.size;have c2:=s.size;refine⟨p,0,rfl,_,_,_,ae e.cell rfl,_,ae W rfl,P,b,b2,by show(0:Int)<=n.m_;omega,by show n.m_<_;omega,_,by show T.cell? ⟨P,b+Int.toNat n.m_,none⟩=_;rw[Q,Qx];exact a2,ar (fe n x A M z B N) W ?_⟩;refine PC.ok (IJ Y V.part (hv.af j) (λP l=>⟨by have:=(q P l).1;omega,λa=>(q P l).2 a.1⟩) (b1.af j) (λP l=>⟨by have:=(q P l).1;omega,λa=>(q P l).2 a.1⟩) (by have:=Z.evs;omega)) ?_;rintro _ w4 ⟨v1,G',rfl,t,a8,a0⟩;have a9:=DE c d y.2 n b3 b4.2;have b0:=II c d y.2 n;generalize cy c d y.2 n=dl at t a8 a9 b0;obtain⟨oa,on,oc,a3,Do,rfl,t⟩:=t;have np:=xB e f e.self;refine⟨oa,on,oc,_,rfl,p,0,rfl,_,ae (a0.keep.get e.cell np) rfl,?_⟩;refine PC.ok (Bj e f a8 a0 ⟨oa,on,oc,a3,Do,rfl,t⟩ oM) ?_;rintro _ w5 ⟨a4,F5,c3,rfl,b5,u,-⟩;have b6:¬F5 w1.heap.size:=λa=>(u.new _ a).elim r λh=>by omega
   have b7:bB w0 w5 p F5 c (X.put d dl.2.2 dl.1):=bB.Lt b5 f U K a5 L (V.tC u);exact⟨a4,rfl,PC.ok (iC b7 (o.put (Z.IK a9))) λv w' i=>qV i (cd.after j u) C (u.keep.get (s.get H id) r) rfl oM b6⟩
def cT.take(P:cT w F cls p h now c rs dP)(d:aH e):bn 42 #[RK h.q,WP e] w (Ok λv w'=>Bm w (eH dP e) v w'/\cT w' F cls p h now c rs (gP dP e)/\aj (λa=>F a/\cls a=1) w w'):=by
 refine Calls.ok (IL P.XO d) λv w' ⟨f,g,b⟩=>⟨f,?_,b⟩
 refine bf.same P fN b g λi G j n=>?_
 match i,j,n with
 |0,_,n=>exact n
 |k+2,_,n=>exact n
def IM(b:bB w0 w p F c X)(q:eD k X)(r:k<=1000)(t:s.Ok):
  bn 19 #[RK p,gA s] w (Ok (ju w0 w p F c (k+1) (gi c ⟨X.aA,gP X.dP s.n,X.now⟩ (eH X.dP s.n)))):=by
 have d:=b.aE;have u:=b.env.gr.size;refine mu (PA.mk λw1 x O y=>PA.mk λw2 e Q z=>λi A=>?_);have f:ai w2 i:=A.keep;have g:=(x.then e).then f;have R:=g.size;have S:=e.size;obtain⟨h,cls,rs,j,B,C,E,H,I⟩:=b.af g;refine⟨p,0,rfl,_,ae j.cell rfl,_,ae (f.get (e.get y id) id) rfl,PC.ok (j.take t.n) ?_⟩;rintro _ J ⟨⟨T,U,V,W,Y,Z,G,rfl,K,L,l⟩,M,m⟩;have o:cd F i F J:=⟨m.mono λP _ n=>n.1,λP n=>.inl n⟩
 refine cg (EJ _ _ _ _ _ _ _) ⟨_,rfl,PC.ok (EI (X:=⟨X.aA,gP X.dP s.n,X.now⟩) ⟨h,cls,rs,M,B,C,E,H,I.tC o⟩ q.dP r _ K L λP n=>⟨(l P n).2,λa=>by have:=d P a;have:=l P n;omega⟩) λv w' N=>qV N (cd.after g o) u (m.get (f.get z id) λa=>by have:=d _ a.1;omega) rfl oM λa=>by have:=d _ a;omega⟩
def Lx(n:bB w0 w p F c X)(m:eD k X)(o:k<=1000)(C:s.Ok):
  bn 20 #[RK p,gA s] w (Ok (ju w0 w p F c (k+1) (gi c X (eH X.dP s.n)))):=by
 have g:=n.aE;have q:=n.env.gr.size;refine ng (PA.mk λw1 r E t=>PA.mk λw2 a H u=>λx y=>?_);have b:ai w2 x:=y.keep;have P:=(r.then a).then b;have I:=P.size;have J:=a.size;obtain⟨h,cls,rs,i,-⟩:=n.af P;refine⟨p,0,rfl,_,ae i.cell rfl,_,ae (b.get (a.get t id) id) rfl,PC.ok (yG i.XO) ?_⟩;rintro _ K ⟨⟨L,M,N,O,Q,R,G,rfl,z,A,j⟩,d⟩;refine cg (EJ _ _ _ _ _ _ _) ⟨_,rfl,PC.ok (EI (n.af (P.then d)) m o _ z A λe l=>⟨(j e l).2,λf=>by have:=g e f;have:=j e l;omega⟩) λv w' B=>qV B (cd.of (P.then d)) q (d.get (b.get u id) id) rfl oM λf=>by have:=g _ f;omega⟩
def RQ(u:bB w0 w p F c X)(B:eD k X)(C:s.Ok):
  bn 21 #[RK p,gA s] w (Ok (ju w0 w p F c k (bS (if(eH X.dP s.n).isSome then 0 else 14),⟨X.aA,gP X.dP s.n,X.now⟩))):=by
 have i:=u.aE;have E:=u.env.gr.size;refine oU (PA.mk λw1 O s1 Q=>PA.mk λw2 x s2 R=>λe S=>?_);have m:ai w2 e:=S.keep;have j:=(O.then x).then m;have z3:=j.size;have z2:=x.size;have b0:=m.size;obtain⟨h,cls,rs,o,T,U,V,W,Y⟩:=u.af j;have Z:=m.get (x.get Q id) id;have H:=m.get R id;have I:=o.self;have l:∀{b:World} (n:Bool),cT b F cls p h X.now c rs (gP X.dP s.n)->cd F e F b->b.heap[w1.heap.size]? =some (.cells (gh (bS 0) none 0 0 none 0 0 none 0 0).toArray 46 (0,0))->al (!n) (PC LL 25 #[WP 14] b (λa4 a5=>sQ (dv LL 46) λJ=>a4=J/\oQ LL 46 (RK w1.heap.size) J a5 λK=>jB LL 46 (RK w1.heap.size) K λa6=>Ok (ju w0 w p F c k (bS (if n then 0 else 14),⟨X.aA,gP X.dP s.n,X.now⟩)) (.returned a6) K) (λch a0=>Ok (ju w0 w p F c k (bS (if n then 0 else 14),⟨X.aA,gP X.dP s.n,X.now⟩)) (.panicked ch) a0))
   (oQ LL 46 (RK w1.heap.size) (.agg #[WP 0,WP 0,WP 0,WP 0,.slice none 0 0,.slice none 0 0,.slice none 0 0,.bool false]) b λL=>jB LL 46 (RK w1.heap.size) L λa7=>Ok (ju w0 w p F c k (bS (if n then 0 else 14),⟨X.aA,gP X.dP s.n,X.now⟩)) (.returned a7) L):=λ{b} n y z q=>by
  have M:bB w0 b p F c ⟨X.aA,gP X.dP s.n,X.now⟩:=⟨h,cls,rs,y,T,U,V,W,Y.tC z⟩
  cases n with
  |false=>exact al.tt rfl (PC.ok (iC M B.dP) λv w' hq=>qV hq (cd.after j z) E q rfl oM λP=>by have:=i _ P;omega)
  |true=>exact al.ff rfl (GD M B.dP (cd.after j z) E q rfl oM λP=>by have:=i _ P;omega)
 have r:∀n,w.heap.size<=n->¬(F n/\cls n=1):=λn a P=>by have:=i _ P.1;omega
 have a8:=i p I.1;refine⟨λn=>(F n/\cls n=1)\/e.heap.size<=n,p,0,rfl,λP=>P.elim (λh=>by have:=h.2;have:=I.2;omega) (λh=>Nat.lt_irrefl _ (Qk a8 (Xx j.size h))),_,ae o.cell rfl,λP=>P.elim (r _ oM) (λh=>by have h:e.heap.size<=w.heap.size:=h;omega),_,ae Z rfl,PC.ok (o.take C.n) ?_,PA.mk λt d s4 g4=>⟨ai.keep d,PC.ok (cT.take (cT.af o d) C.n) ?_⟩⟩
 ·rintro _ t ⟨⟨va,vn,vc,ea,en,ec,G,rfl,-⟩,a9,d⟩
  have z4:=d.size;refine cg (EJ _ _ _ _ _ _ _) ⟨_,rfl,d.mono λn _ a=>.inl a,PA.mk λb f s5 q=>⟨ai.keep f,aD (fe _ _ _ _ _ _ _) q rfl λN g s6 g6=>⟨g.mono λn a P=>.inr (by have P:n=t.heap.size:=P;omega),?_⟩⟩⟩;have A:ai t N:=f.new g λn a=>.inr (by have a:n=t.heap.size:=a;omega);exact l (eH X.dP s.n).isSome (cT.af a9 A) ⟨(d.mono λn _ a=>a.1).then (ai.keep A),λn a=>.inl a⟩ (A.get (d.get H (r _ oM)) id)
 ·rintro _ b ⟨⟨va,vn,vc,ea,en,ec,G,rfl,-⟩,y,f⟩
  have z5:=f.size;refine cg (EJ _ _ _ _ _ _ _) ⟨_,rfl,f.mono λn _ a=>.inl a,aD (fe _ _ _ _ _ _ _) (f.get g4 (r _ oM)) rfl λN g s6 g6=>⟨g.mono λn a P=>.inr (by have P:n=e.heap.size:=P;omega),?_⟩⟩;refine l (eH X.dP s.n).isSome (bf.keep y fN g λn a P=>by have P:n=e.heap.size:=P;have:=i _ a;omega) ⟨?_,λn a=>.inl a⟩ (g.get (f.get (d.get H id) (r _ oM)) λP=>by have P:w1.heap.size=e.heap.size:=P;omega);exact((ai.keep d).then (f.mono λn _ a=>a.1)).new g λn P=>.inr (by have P:n=e.heap.size:=P;omega)
end
section
variable {w w' w0 w1 w2 wb:World} {p i k g:Nat} {F F1 F' G G' T D:ac} {cls cls':Nat->Nat} {h:Ln} {c:bF} {X:cH} {s:ei} {x:gO} {v:Value} {r:gO×cH} {now:Int} {rs:List (Nat×bh)} {dP:List bG} {y:Nat×bh} {R R':bh} {aA:List bh}
def RR(c:bF)(n:Int)(X:bh)(P now:Int):(fg c n X P now).1.length<=1:=by
 unfold fg;split<;>simp
def GG(j:bB w0 w p F c X)(b:e_ X.aA i=some R):∃h cls rs y,cT w F cls p h X.now c rs X.dP/\h.ps=rs.map (·.1)/\X.aA=rs.map (·.2)/\rs.length=c.aA.toNat/\ks c 0/\Env w0 w F/\rs[i]? =some y/\y.2=R/\(∃n d,h.a=some ⟨n,d,none⟩/\i<h.n/\w.cell? ⟨n,d+i,none⟩=some (RK y.1)/\F n/\cls n=0)/\R∈X.aA:=by
 obtain⟨h,cls,rs,e,f,P,k,g,l⟩:=j;obtain⟨m,o,q⟩:=g.aA;rw[ck,P,Q9]at b;obtain⟨y,a,rfl⟩:=Option.map_eq_some_iff.1 b;exact⟨h,cls,rs,y,e,f,P,k,g,l,a,rfl,e.ptr f a oM,by rw[P];exact Xk.2 ⟨y,QZ a,rfl⟩⟩
def RS(b:bB w0 w p F c X)(t:eD k X)(Q:s.Ok)(u:e_ X.aA s.n=some R):
  bn 23 #[RK p,gA s] w (Ok (ju w0 w p F c (k+1) (if(e_ X.aA s.m).isNone\/s.m=s.n then(bS 1,X)else(bS 0,X.put s.n (fg c s.n R s.m X.now).2 (fg c s.n R s.m X.now).1)))):=by
 have S:=b.aE;have C:=b.env.gr.size;refine oV (PA.mk λw1 T s1 U=>PA.mk λw2 E s2 H=>?_);have d:=T.then E;have z2:=d.size;have x:∀n,w.heap.size<=n->¬F n:=λn f a=>by have:=S _ a;omega
 have g:=E.get U id;have no:∀{r},r=(bS 1,X)->PC LL 25 #[WP 1] w2 (λv w'=>sQ (dv LL 46) λy=>v=y/\oQ LL 46 (RK w1.heap.size) y w' λw2=>jB LL 46 (RK w1.heap.size) w2 λV=>Ok (ju w0 w p F c (k+1) r) (.returned V) w2) (λW w'=>Ok (ju w0 w p F c (k+1) r) (.panicked W) w'):=λa=>by
  rw[a];exact PC.ok (iC (b.af d) t.mono) λv w' Y=>qV Y (cd.of d) C H rfl oM (x _ oM)
 refine⟨_,ae g rfl,PC.ok (n_ (b.af d)) ?_⟩;rintro _ _ ⟨rfl,rfl⟩;refine⟨_,rfl,al.mk (λe=>no (Zx (.inl (by simpa using e)))) (λe=>⟨_,ae g rfl,_,ae g rfl,al.eT (λz=>no (Zx (.inr z))) (λz=>?_)⟩)⟩;rw[Zq (by
         rintro(i|i);·simp at e;rw[Option.isNone_iff_eq_none]at i;rw[i]at e;simp at e
         ·exact z i)]
 intro Z d3;have j:ai w2 Z:=d3.keep;have A:=d.then j;have z3:=A.size;have b3:=j.size;have I:=j.get g id;obtain⟨B,l,-⟩:=ej u;rw[l]at u⊢;obtain⟨h,cls,rs,y,P,a4,hX,a0,a5,he,m,rfl,⟨n,a1,a6,b4,a2,b5⟩,a3⟩:=GG (b.af A) u;have hr:=cT.rep P m;have np:=xB P m P.self;have a7:=P.self;refine⟨λn=>F n/\cls n≠0,p,0,rfl,λa=>a.2 a7.2,_,ae P.cell rfl,p,0,rfl,_,_,_,ae P.cell rfl,_,ae I rfl,n,a1,a6,by rw[l];omega,by rw[l];omega,_,by rw[l,Qx];exact a2,_,ae I rfl,p,0,rfl,_,ae P.cell rfl,PC.ok (GH hr Q.m) ?_⟩;rintro _ w4 ⟨G',o,J,K⟩;have L:=Ly c B y.2 s.m X.now;have a8:=RR c B y.2 s.m X.now;generalize fg c B y.2 s.m X.now=dl at o J L a8;obtain⟨M,N,O,a9,Do,rfl,o⟩:=o;refine⟨M,N,O,rfl,K.keep.mono λn _ f=>⟨f.1,oM⟩,PC.ok (Bj P m J K ⟨M,N,O,a9,Do,rfl,o⟩ oM) ?_⟩;rintro _ w5 ⟨b0,F5,b6,rfl,b1,q,b2⟩;exact⟨b0,rfl,b2.mono λn _ f=>⟨f.1,oM⟩,GD (bB.Lt b1 m a4 hX a0 a5 (he.tC q)) (t.put ((t.aA _ a3).IK L)) (cd.after A q) C (q.keep.get (j.get H id) (x _ oM)) rfl oM λa=>(q.new _ a).elim (x _ oM) λh=>oM⟩
def Uu(N:bB w0 w p F c X)(J:eD k X)(hk:k<=1000)(O:s.Ok)(K:e_ X.aA s.n=some R):
  bn 24 #[RK p,gA s] w (Ok (ju w0 w p F c (k+1) ((gQ c s.n R s).1,⟨X.aA.set s.n.toNat (gQ c s.n R s).2,X.dP,X.now⟩))):=by
 have Q:=N.aE;have S:=N.env.gr.size;obtain⟨n,z,-⟩:=ej K;rw[z]at K⊢;refine qq (PA.mk λw1 k1 s1 g1=>PA.mk λw2 k2 s2 g2=>λe d3=>?_);have T:ai w2 e:=d3.keep;have a3:=(k1.then k2).then T;have z3:=a3.size;have z2:=k2.size;have b9:=T.size;have a4:=T.get (k2.get g1 id) id;obtain⟨h,cls,rs,y,a5,a6,hX,a1,a7,b3,U,V,⟨P,b4,b5,c0,b6,b7⟩,b1⟩:=GG (N.af a3) K;have c1:=Q p a5.self.1;have c2:=Q P b7.1;have n1:¬e.heap.size<=p:=oM
 have n2:¬e.heap.size<=w.heap.size:=oM
 have n3:¬e.heap.size<=P:=oM
 refine⟨λP=>e.heap.size<=P,p,0,rfl,n1,_,_,_,ae a5.cell rfl,n2,_,ae a4 rfl,P,b4,b5,by rw[z];omega,by rw[z];omega,n3,_,by rw[z,Qx];exact b6,n2,?_⟩;refine NK (es:=fh s.cmd) (Bn s.cmd) a4 (λn z=>by rcases n with _|_|_|_|_|_|_|n<;>first|rfl|exact Zz z (by simp[fh])) (PA.mk λw4 k4 s4 g4=>⟨ai.keep k4,aD (Bn s.cmd) g4 rfl λi k5 s5 A=>⟨k5.mono λP _ a=>by have a:P=e.heap.size:=a;omega,?_⟩⟩);have B:ai e i:=k4.new k5 λP W=>.inr (by have W:P=e.heap.size:=W;omega);have a9:=a3.then B;have z5:=a9.size;have c3:=B.size;have L:=B.get a4 id;have Y:=B.get (T.get g2 id) id;have C:¬F w1.heap.size:=λa=>by have:=Q _ a;omega
 have Z:cd F w F i:=cd.of a9;have hp:=cT.af a5 B;have E:=b3.af B;rw[<-V];rw[<-V]at b1;have j:=cT.rep hp U;have a0:=J.aA _ b1;have hl:=a0.evs;have a2:∀{x:gO} {R':bh} {v:Value} {w':World} {G':ac},gQ c n y.2 s=(x,R')->fz i x v w'->x.st.cells=[]/\x.Lr=[]/\x.rows=[]->bY w' y.1 G' c n R'->cd (λP=>F P/\cls P=n+2) i G' w'->ku y.2 R'->sQ (dv LL 46) λb=>v=b/\oQ LL 46 (RK w1.heap.size) b w' λw2=>jB LL 46 (RK w1.heap.size) w2 λb=>Ok (ju w0 w p F c (k+1) ((gQ c n y.2 s).1,⟨X.aA.set (n:Int).toNat (gQ c n y.2 s).2,X.dP,X.now⟩)) (.returned b) w2:=λ{x R' v w' G'} a d ⟨e1,e2,e3⟩ l b0 hg=>by
  rw[a];exact qV (ju.rep hp a6 hX a1 a7 E U d e1 e2 e3 l b0 J (a0.IK hg)) Z S Y rfl oM C
 have b2:∀{no:Int} {R':bh} {w':World} {G':ac},gQ c n y.2 s=(bS no,R')->bY w' y.1 G' c n R'->cd (λP=>F P/\cls P=n+2) i G' w'->ku y.2 R'->PC LL 25 #[WP no] w' (λv w'=>sQ (dv LL 46) λb=>v=b/\oQ LL 46 (RK w1.heap.size) b w' λw2=>jB LL 46 (RK w1.heap.size) w2 λb=>Ok (ju w0 w p F c (k+1) ((gQ c n y.2 s).1,⟨X.aA.set (n:Int).toNat (gQ c n y.2 s).2,X.dP,X.now⟩)) (.returned b) w2) (λch w'=>Ok (ju w0 w p F c (k+1) ((gQ c n y.2 s).1,⟨X.aA.set (n:Int).toNat (gQ c n y.2 s).2,X.dP,X.now⟩)) (.panicked ch) w'):=λ{no R' w' G'} a l b0 hg=>by
  obtain⟨F',-,m,o,q⟩:=ju.rep (x:=bS no) (v:=.agg (gh (bS no) none 0 0 none 0 0 none 0 0).toArray) hp a6 hX a1 a7 E U (fz.plain rfl rfl rfl) rfl rfl rfl l b0 J (a0.IK hg);rw[a];exact PC.ok (iC m o) λv w2 hq=>qV hq (Z.trans q) S (q.keep.get Y C) rfl oM λa=>(q.new _ a).elim C λh=>by omega
 have a8:∀{x:gO} {v:Value} {w':World},gQ c n y.2 s=(x,y.2)->fz i x v w'->ai i w'->sQ (dv LL 46) λb=>v=b/\oQ LL 46 (RK w1.heap.size) b w' λw2=>jB LL 46 (RK w1.heap.size) w2 λb=>Ok (ju w0 w p F c (k+1) ((gQ c n y.2 s).1,⟨X.aA.set (n:Int).toNat (gQ c n y.2 s).2,X.dP,X.now⟩)) (.returned b) w2:=λ{x v w'} a d f=>by
  rw[a];refine qV ⟨F,.new d λP W=>by have:=Q P W;omega,?_,?_,cd.of f⟩ Z S Y rfl oM C
  ·show bB w0 w' p F c ⟨X.aA.set (n:Int).toNat y.2,X.dP,X.now⟩
   rw[V,GI K];exact N.af (a9.then f)
  ·show eD (k+1) ⟨X.aA.set (n:Int).toNat y.2,X.dP,X.now⟩
   rw[V,GI K];exact J.mono
 refine⟨_,ae L rfl,al.eT (λg=>?_) (λg=>?_)⟩
 ·refine ar (Bn s.cmd) A (PC.ok (IN j E.part O.cmd oM) ?_)
  rintro _ H ⟨G',d,r,t⟩;exact a2 (by unfold gQ;rw[Zx g]) d (by split<;>exact⟨rfl,rfl,rfl⟩) r t (Lz c n y.2 s.cmd)
 refine al.eT (λu=>?_) (λu=>?_)
 ·refine⟨_,ae L rfl,PC.ok (OZ j E.part O.m) ?_⟩
  rintro _ H ⟨G',rfl,r,t,b8⟩;exact⟨_,rfl,b2 (by unfold gQ;rw[Zq g,Zx u]) r t ⟨.inr b8,by unfold ie;rw[yH];exact Qj _⟩⟩
 refine al.eT (λI=>?_) (λI=>?_)
 ·refine PC.ok (IP j E.part oM) ?_
  rintro _ H ⟨G',rfl,r,t⟩;exact⟨_,rfl,b2 (by unfold gQ;rw[Zq g,Zq u,Zx I]) r t (DF c y.2)⟩
 refine al.eT (λM=>?_) (λM=>?_)
 ·refine⟨_,ae A rfl,_,ae A rfl,_,ae L rfl,PC.ok (LA j O.m) ?_⟩
  rintro _ H ⟨d,f⟩;exact a8 (by unfold gQ;rw[Zq g,Zq u,Zq I,Zx M]) d f
 refine al.eT (λh4=>?_) (λh4=>?_)
 ·refine⟨_,ae A rfl,_,ae A rfl,PC.ok (Uv j) ?_⟩
  rintro _ H ⟨d,f⟩;exact a8 (by unfold gQ;rw[Zq g,Zq u,Zq I,Zq M,Zx h4]) d f
 refine al.eT (λh5=>?_) (λh5=>?_)
 ·refine⟨_,ae A rfl,_,ae L rfl,PC.ok (O_ j) ?_⟩
  rintro _ H ⟨d,f⟩;exact a8 (by unfold gQ;rw[Zq g,Zq u,Zq I,Zq M,Zq h4,Zx h5]) d f
 ·refine⟨_,ae L rfl,PC.ok (RT j O.m) ?_⟩
  rintro _ H ⟨G',rfl,r,t⟩;have a:gQ c n y.2 s=(bS 0,{y.2 with D:=y.2.D.GJ s.m}):=by unfold gQ;rw[Zq g,Zq u,Zq I,Zq M,Zq h4,Zq h5]
  obtain⟨F',-,m,o,q⟩:=ju.rep (x:=bS 0) (v:=.agg (gh (bS 0) none 0 0 none 0 0 none 0 0).toArray) hp a6 hX a1 a7 E U (fz.plain rfl rfl rfl) rfl rfl rfl r t J (a0.IK ⟨.inl ek,by dsimp only;omega⟩);rw[a];exact⟨rfl,GD m o (Z.trans q) S (q.keep.get Y C) rfl oM λa=>(q.new _ a).elim C λh=>oM⟩
def RU(q:bB w0 w p F c X)(r:eD k X)(hk:k<=999):
  bn 22 #[RK p,gA s] w (Ok (ju w0 w p F c (k+1) (bS 0,IQ X))):=by
 have a6:=q.aE;have b7:=q.env.gr.size;refine oW (PA.mk λw1 k1 s1 g1=>PA.mk λw2 k2 s2 g2=>?_);have t:=k1.then k2;have z2:=t.size;obtain⟨h,cls,rs,j,C,u,c6,E,H⟩:=q.af t;obtain⟨a4,a7,a8⟩:=E.aA;have I:∀P,w.heap.size<=P->¬F P:=λP f d=>by have:=a6 _ d;omega
 have c8:=r.Lu;have c9:=r.now;have b8:PP .i64 (X.now+1)=X.now+1:=wrap_i64 cS;have d0:=j.self;refine⟨p,0,rfl,_,ae j.cell rfl,p,0,rfl,PS.mk j.cell sM λw3 k3 s3 J=>?_⟩;rw[b8]at J;obtain⟨l,K⟩:=cT.Zu (now':=X.now+1) j k3 (by rw[J];rfl);have c7:=l.nN;have hn:=cT.n l C;refine⟨p,0,rfl,_,_,_,ae l.cell rfl,λL a0 w'=>∃(n:Nat) (F1:ac) (m:Nat->Nat) (a:List (Nat×bh)) (g:List bG),a0=n/\n<=h.n/\L=h.n-n/\cT w' F1 m p h (X.now+1) c a g/\h.ps=a.map (·.1)/\a.length=rs.length/\
  (List.range n).foldl fX ⟨X.aA,X.dP,X.now+1⟩=⟨a.map (·.2),g,X.now+1⟩/\cd F w3 F1 w'/\eD (k+1) ⟨a.map (·.2),g,X.now+1⟩,
  ⟨_,0,F,cls,rs,X.dP,rfl,Qj _,rfl,l,C,rfl,by rw[u];rfl,cd.refl _ _,?_⟩,?_⟩
 ·rw[<-u];exact⟨λR hR=>(r.aA R hR).mono,by show 0<=X.now+1;omega,by show X.now+1<=_;omega⟩
 rintro L _ _ w4 ⟨n,F1,m,a,g,rfl,hj,rfl,v,x,b9,M,N,z⟩;have z3:=K.keep.size;have i:=K.trans N;have c1:∀P,w.heap.size<=P->P<w2.heap.size->¬F1 P:=λP f d1 d=>(i.new P d).elim (I P f) λh=>by omega
 refine al.dec (λd2=>?_) (λd3=>?_)
 ·have b:a[n]? =some a[n]:=Qq oM
  generalize a[n]=y at b;obtain⟨P,a1,c2,d4,a5,d6⟩:=cT.ptr v x b oM;refine⟨P,a1,c2,oM,oM,_,by rw[Qx];exact a5,λO d5=>?_⟩;have A:ai w4 O:=d5.keep;have e:=cT.af v A;have hr:=cT.rep e b;have d7:Env w0 O F1:=(H.tC i).af A;have np:=xB e b e.self;have c3:=e.self;have b1:y.2∈a.map (·.2):=Xk.2 ⟨y,QZ b,rfl⟩;have B:=z.aA _ b1;refine⟨λP=>F1 P/\m P≠0,p,0,rfl,λd=>d.2 c3.2,_,ae e.cell rfl,p,0,rfl,_,ae e.cell rfl,PC.ok (RV hr (by have:=B.asked;omega)) ?_⟩;rintro _ w6 ⟨G',o,Q,S⟩;have T:=B.tick n (X.now+1);have b4:(pX n y.2 (X.now+1)).1.length<=1001:=by unfold pX;dsimp only;rw[Q8];have:=NL y.2.gJ (X.now+1);have:=B.asked;omega
  have U:(List.range (n+1)).foldl fX ⟨X.aA,X.dP,X.now+1⟩=(⟨a.map (·.2),g,X.now+1⟩:cH).put n (pX n y.2 (X.now+1)).2 (pX n y.2 (X.now+1)).1:=by
   rw[List.range_succ,List.foldl_append,M];show fX _ n=_;unfold fX;dsimp only;rw[Q9,b];rfl
  generalize pX n y.2 (X.now+1)=V at o Q T b4 U;obtain⟨W,Y,Z,a2,Do,rfl,o⟩:=o;refine⟨W,Y,Z,rfl,S.keep.mono λP _ f=>⟨f.1,oM⟩,PC.ok (Bj e b Q S ⟨W,Y,Z,a2,Do,rfl,o⟩ oM) ?_⟩;rintro _ w7 ⟨a3,F7,b5,rfl,c4,b6,c5⟩;refine⟨a3,rfl,c5.mono λP _ f=>⟨f.1,oM⟩,_,oM,n+1,F7,b5,_,_,an oM,oM,rfl,c4,by rw[x];exact(nd (f:=(·.1)) (b:=(y.1,V.2)) b rfl).symm,by rw[List.length_set];exact b9,?_,N.trans (cd.after A b6),?_⟩
  ·rw[U,List.map_set];rfl
  ·have:=z.stay (j:=n) (ms:=V.1) T
   unfold cH.put at this;dsimp only at this;rw[Qx]at this;rw[List.map_set];exact this
 ·have d:IQ X=⟨a.map (·.2),g,X.now+1⟩:=by
   unfold IQ;rw[<-M,u,Q8,show rs.length=n by omega]
  rw[d];exact GD ⟨h,m,a,v,x,rfl,oM,E,H.tC i⟩ z (cd.after t i) b7 (i.keep.get g2 (I _ oM)) rfl oM (c1 _ oM oM)
def AB(n:bB w0 w p F c X):bn 7 #[RK p,WP e] w (Ok λv w'=>(e_ X.aA e=none/\v= .slice none 0 0/\w=w')\/∃R,e_ X.aA e=some R/\qh aO 3 w R.S.vec v w'):=by
 refine qs (PC.ok (n_ n) ?_);rintro _ _ ⟨rfl,rfl⟩;refine⟨_,rfl,?_⟩
 cases P:e_ X.aA e with
 |none=>exact al.tt rfl (Ok.mk (.inl ⟨rfl,rfl,rfl⟩))
 |some R=>
  obtain⟨m,rfl,-⟩:=ej P;obtain⟨h,cls,rs,y,a,o,q,r,s,t,b,rfl,⟨d,f,g,u,i,x⟩,z⟩:=GG n P;refine al.ff rfl ⟨p,0,rfl,_,_,_,ae a.cell rfl,d,f,g,oM,oM,_,by rw[Qx];exact i,PC.ok (Uw (cT.rep a b)) ?_⟩;rintro _ A ⟨j,e,k,G,rfl,l⟩;exact⟨_,_,_,rfl,Ok.mk (.inr ⟨_,rfl,j,e,k,G,rfl,l⟩)⟩
def jR(n:bB w0 w p F c X)(b:∀R∈X.aA,R.S.l.length<=20000000):bn 9 #[RK p,WP e] w (Ok λv w'=>(e_ X.aA e=none/\v= .slice none 0 0/\w=w')\/∃R,e_ X.aA e=some R/\qh iz 82 w R.S.l v w'):=by
 refine nh (PC.ok (n_ n) ?_);rintro _ _ ⟨rfl,rfl⟩;refine⟨_,rfl,?_⟩
 cases P:e_ X.aA e with
 |none=>exact al.tt rfl (Ok.mk (.inl ⟨rfl,rfl,rfl⟩))
 |some R=>
  obtain⟨q,rfl,-⟩:=ej P;obtain⟨h,cls,rs,y,a,r,s,t,u,x,d,rfl,⟨f,g,i,z,j,A⟩,k⟩:=GG n P;refine al.ff rfl ⟨p,0,rfl,_,_,_,ae a.cell rfl,f,g,i,oM,oM,_,by rw[Qx];exact j,PC.ok (LB (cT.rep a d) (b _ k)) ?_⟩;rintro _ B ⟨l,e,m,G,rfl,o⟩;exact⟨_,_,_,rfl,Ok.mk (.inr ⟨_,rfl,l,e,m,G,rfl,o⟩)⟩
def LD(P:bB w0 w p F c X):bn 38 #[RK p] w (Ok λv w'=>v= WP (X.dP.length:Int)/\w=w'):=by
 obtain⟨h,cls,rs,n,-⟩:=P;refine ni ⟨p,0,rfl,_,ae n.cell rfl,PC.ok (LF n.XO) ?_⟩;rintro _ _ ⟨rfl,rfl⟩;exact⟨_,rfl,Ok.mk ⟨rfl,rfl⟩⟩
end
def mL:mZ LL 69 3 47 .nilFunc:=⟨kR,kR⟩
abbrev LG(n:Int):Nat:=if n=3 then 19 else if n=5 then 20 else if n=4 then 21 else 22
abbrev zH(n:Int):Nat:=if n=2 then 23 else 24
abbrev bound(n P:Nat):Value:=.func (.func n) #[RK P] #[]
abbrev Yi(n:Nat):List (Int×Value):=[(3,bound (LG 3) n),(5,bound (LG 5) n),(4,bound (LG 4) n),(6,bound (LG 6) n)]
abbrev VS(n:Nat):List (Int×Value):=[(2,bound (zH 2) n),(1,bound (zH 1) n),(7,bound (zH 7) n),(8,bound (zH 8) n),(9,bound (zH 9) n),(10,bound (zH 10) n),(11,bound (zH 11) n),(12,bound (zH 12) n)]
def RW(a:Nat)(n:Int):au (Yi a) n=if n=3\/n=5\/n=4\/n=6 then some (bound (LG n) a)else none:=by
 by_cases P:n=3\/n=5\/n=4\/n=6
 ·rw[Zx P];rcases P with rfl|rfl|rfl|rfl<;>rfl
 ·rw[Zq P];exact jS.2 dg
def Pa(P:Nat)(n:Int):au (VS P) n=if n=2\/n=1\/7<=n/\n<=12 then some (bound (zH n) P)else none:=by
 by_cases a:n=2\/n=1\/7<=n/\n<=12
 ·rw[Zx a]
  have:n=2\/n=1\/n=7\/n=8\/n=9\/n=10\/n=11\/n=12:=oM
  rcases this with rfl|rfl|rfl|rfl|rfl|rfl|rfl|rfl<;>rfl
 ·rw[Zq a];exact jS.2 dg
def en1(n:Int):enters LL (LG n)=true:=by unfold LG;split;rfl;split;rfl;split<;>rfl
def en2(n:Int):enters LL (zH n)=true:=by unfold zH;split<;>rfl
section
variable {w w' w0 w1 w2 wb:World} {p i k g:Nat} {F F1 F' G G' T D:ac} {c:bF} {X:cH} {s:ei} {R:bh}
def ug(r:bB w0 w p F c X)(g:eD k X)(hk:k<=999)(i:s.Ok):
  bn 6 #[RK p,gA s] w (Ok (ju w0 w p F c (k+1) (cB c X s))):=by
 have b2:=r.aE;have b3:=r.env.gr.size;refine qW (PA.mk λw1 k1 s1 g1=>PA.mk λw2 t s2 g2=>PA.mk λw3 k3 s3 C=>?_);have m:∀{w:World} b,b=w2.heap.size->False\/w2.heap.size<=b:=λb n=>.inr (Nat.le_of_eq n.symm);refine dG (k:=(3:Int)) mL lO (bX.new C) λw4 E H s4=>dG (k:=(5:Int)) mL lO E λw5 I J s5=>dG (k:=(4:Int)) mL lO I λw6 K L s6=>dG (k:=(6:Int)) mL lO K λu M N s7=>PA.mk λw8 k8 s8 O=>?_;have b4:ai w2 u:=(((k3.new H λb d=>.inr oM).new J λb d=>.inr oM).new L λb d=>.inr oM).new N λb d=>.inr oM;refine dG (k:=(2:Int)) mL lO (bX.new O) λw9 Q S s9=>dG (k:=(1:Int)) mL lO Q λb8 T U b9=>dG (k:=(7:Int)) mL lO T λc0 V W c1=>dG (k:=(8:Int)) mL lO V λc2 Y Z c3=>dG (k:=(9:Int)) mL lO Y λc4 a1 a2 c5=>dG (k:=(10:Int)) mL lO a1 λc6 a3 a4 c7=>dG (k:=(11:Int)) mL lO a3 λc8 a5 a6 c9=>dG (k:=(12:Int)) mL lO a5 λo a7 a8 d0=>?_;have a0:ai u o:=(((((((k8.new S λb d=>.inr oM).new U λb d=>.inr oM).new W λb d=>.inr oM).new Z λb d=>.inr oM).new a2 λb d=>.inr oM).new a4 λb d=>.inr oM).new a6 λb d=>.inr oM).new a8 λb d=>.inr oM;have mA:bX o w2.heap.size (Value.int .i64) (Yi p):=M.af a0;have mO:bX o u.heap.size (Value.int .i64) (VS p):=a7;have v:=b4.then a0;have a9:=(k1.then t).then v;have j:=v.get (t.get g1 id) id;have b5:=v.get g2 id;have f:=r.af a9;have z2:=t.size;have b6:¬F w1.heap.size:=λn=>by have:=b2 _ n;omega
 have P:∀{b0:gO×cH} {e:Value} {w':World},ju w0 o p F c (k+1) b0 e w'->sQ (dv LL 46) λb1=>e=b1/\oQ LL 46 (RK w1.heap.size) b1 w' λw2=>jB LL 46 (RK w1.heap.size) w2 λb7=>Ok (ju w0 w p F c (k+1) b0) (.returned b7) w2:=λa=>qV a (cd.of a9) b3 b5 rfl oM b6
 clear E I K M Q T V Y a1 a3 a5 a7 H J L N S U W Z a2 a4 a6 a8 C O
 refine⟨_,ae j rfl,jN mL lO mA ?_⟩;rw[RW]
 by_cases x:s.kind=3\/s.kind=5\/s.kind=4\/s.kind=6
 ·rw[Zx x]
  refine⟨_,_,rfl,al.tt rfl (ar (jQ s) j ⟨_,_,_,rfl,en1 _,?_⟩)⟩;rcases x with h|h|h|h
  ·rw[h]
   have n:cB c X s=gi c ⟨X.aA,gP X.dP s.n,X.now⟩ (eH X.dP s.n):=by unfold cB;rw[Zx h]
   rw[n];exact PC.ok (IM f g oM i) λe w' a=>P a
  ·rw[h]
   have n:cB c X s=gi c X (eH X.dP s.n):=by unfold cB;rw[Zq oM,Zx h]
   rw[n];exact PC.ok (Lx f g oM i) λe w' a=>P a
  ·rw[h]
   have n:cB c X s=(bS (if(eH X.dP s.n).isSome then 0 else 14),⟨X.aA,gP X.dP s.n,X.now⟩):=by unfold cB;rw[Zq oM,Zq oM,Zx h]
   rw[n];exact PC.ok (RQ f g.mono i) λe w' a=>P a
  ·rw[h]
   have n:cB c X s=(bS 0,IQ X):=by unfold cB;rw[Zq oM,Zq oM,Zq oM,Zx h]
   rw[n];exact PC.ok (RU f g hk) λe w' a=>P a
 rw[Zq x];refine⟨_,_,rfl,al.ff rfl ⟨_,ae j rfl,jN mL lO mO ?_⟩⟩;rw[Pa]
 by_cases hO:s.kind=2\/s.kind=1\/7<=s.kind/\s.kind<=12
 ·rw[Zx hO]
  refine⟨_,_,rfl,al.ff rfl ⟨_,ae j rfl,PC.ok (n_ f) ?_⟩⟩;rintro _ _ ⟨rfl,rfl⟩;refine⟨_,rfl,?_⟩;have e0:¬s.kind=3/\¬s.kind=5/\¬s.kind=4/\¬s.kind=6/\¬(s.kind<1\/12<s.kind):=oM
  obtain⟨y,z,m,A,B⟩:=e0
  cases l:e_ X.aA s.n with
  |none=>
   have n:cB c X s=(bS 1,X):=by unfold cB;rw[Zq y,Zq z,Zq m,Zq A,Zq B,l]
   rw[n];exact al.tt rfl (PC.ok (iC f g.mono) λe w' a=>P a)
  |some R=>
   refine al.ff rfl (ar (jQ s) j ⟨_,_,_,rfl,en2 _,?_⟩)
   by_cases q:s.kind=2
   ·have n:cB c X s=(if(e_ X.aA s.m).isNone\/s.m=s.n then(bS 1,X)else(bS 0,X.put s.n (fg c s.n R s.m X.now).2 (fg c s.n R s.m X.now).1)):=by unfold cB;rw[Zq y,Zq z,Zq m,Zq A,Zq B,l];exact Zx q
    rw[n,q];exact PC.ok (RS f g i l) λe w' a=>P a
   ·have n:cB c X s=((gQ c s.n R s).1,⟨X.aA.set s.n.toNat (gQ c s.n R s).2,X.dP,X.now⟩):=by unfold cB;rw[Zq y,Zq z,Zq m,Zq A,Zq B,l];exact Zq q
    rw[n];have:zH s.kind=24:=Zq q
    rw[this];exact PC.ok (Uu f g oM i l) λe w' a=>P a
 ·rw[Zq hO]
  have n:cB c X s=(bS 2,X):=by unfold cB;rw[Zq oM,Zq oM,Zq oM,Zq oM,Zx oM]
  rw[n];exact⟨_,_,rfl,al.tt rfl (PC.ok (iC f g.mono) λe w' a=>P a)⟩
end
section
variable {w w' w0 w1 w2 wb:World} {p q i k g:Nat} {F F1 F' G G' T D:ac} {cls:Nat->Nat} {h:Ln} {c:bF} {X:cH} {s:ei} {R:bh} {now:Int} {rs:List (Nat×bh)} {dP:List bG}
def cT.more(i:cT w F cls p h now c rs dP)(j:ai w w')(e:bY w' q G' c rs.length R)(l:∀d,G' d->w.heap.size<=d):
  ∃F' a,cT w' F' a p h now c (rs++[(q,R)]) dP/\cd F w F' w':=by
 obtain⟨m,b,o,r,-⟩:=bf.tC i fN (k:=rs.length+2) (G':=G') (C2:=jA (GC p h now) (λw G=>ez w h.q G dP) c (rs++[(q,R)])) ⟨ai.keep j,λd s=>.inr (l d s)⟩ e.aE (λf n=>by
  rw[X8 (Q4 _),Nat.sub_self]at n
  injection n with n;subst n;exact e) λt G g P=>by
  match t,g,P with
  |0,_,P=>exact P
  |1,_,P=>exact P
  |k+2,g,P=>
   intro f n;refine P f ?_;rcases Nat.lt_trichotomy k rs.length with h|h|h
   ·rwa [XW h]at n
   ·omega
   ·rw[Q7 dg]at n;cases n
 exact⟨m,b,o,r⟩
def RX(w0 w:World)(c:bF)(n:Value)(w':World):Prop:=ai w w'/\
 (((sJ c).1≠0/\n= .tuple #[.pointer none,WP (sJ c).1])\/
  ((sJ c).1=0/\∃p F,n= .tuple #[RK p,WP 0]/\bB w0 w' p F c (sJ c).2/\(∀P,F P->w.heap.size<=P)/\eD 0 (sJ c).2))
def NM(V:fE w0)(W:Laid w0)(C:ai w0 w){tn X E Y:Nat}(hd:bt w D c.decl d tn v E)(hD:∀n,D n->n<w.heap.size)(hs:aH c.bk)(a9:aH c.every)(b0:aH c.start):
  bn 14 #[uh c d tn X v E Y] w (Ok (RX w0 w c)):=by
 refine DG (PA.mk λw1 Z s1 g1=>PC.ok LH ?_);rintro _ w2 ⟨q,Fq,rfl,H,b1,x⟩;have z2:=x.size;refine⟨_,rfl,PA.mk λw3 l s3 g3=>?_⟩;have c4:=(Z.then x).then l;have z3:=l.size;have z0:=C.size;have b2:=l.get (x.get g1 id) id;obtain⟨j,hB⟩:∃j:Nat,(if(if(64:Int)<c.aA then 64 else c.aA)>1 then(if(64:Int)<c.aA then 64 else c.aA)else 1)=(j:Int):=⟨(if(if(64:Int)<c.aA then 64 else c.aA)>1 then(if(64:Int)<c.aA then 64 else c.aA)else 1).toNat,by repeat' split<;>omega⟩
 have c5:(j:Int)=max 1 (min c.aA 64):=by rw[<-hB];repeat' split<;>omega
 obtain⟨m,I⟩:=bf.join (w:=w3) (C:=jA (GC w2.heap.size ⟨q,none,0,0,[]⟩ 0) (λw G=>ez w q G []) c []) (G:=λa n=>match a with|0=>n=w2.heap.size|1=>Fq n|_=>False)
  (λa=>by
   match a with
   |0=>exact⟨rfl,g3,(aS.nil w3).mono (λn P=>P.elim) (λn P=>(by cases P)),λn P=>(by cases P)⟩
   |1=>exact H.af l
   |a+2=>exact λc6 J=>by simp at J)
  (λi a n b g=>by
   have hq:=H.aE n
   match i,a,b,g with
   |0,0,_,_=>rfl
   |1,1,_,_=>rfl
   |0,1,b,g=>have b:n=w2.heap.size:=b;have:=hq g;omega
   |1,0,b,g=>have g:n=w2.heap.size:=g;have:=hq b;omega)
  (λa n P=>by
   match a,P with
   |0,P=>have P:n=w2.heap.size:=P;omega
   |1,P=>have:=H.aE n P;omega)
 refine⟨_,ae b2 rfl,λa0 b3 w'=>∃(a:Nat) (h:Ln) (F:ac) (cls:Nat->Nat) (rs:List (Nat×bh)),b3=a/\a<=j/\a0=j-a/\(a=0\/(cC c 0).1=0/\(cC c 0).2.S.l.length<=16777216)/\cT w' F cls w2.heap.size h 0 c rs []/\h.ps=rs.map (·.1)/\rs.length=a/\rs.map (·.2)=List.replicate a (cC c 0).2/\(∀n,F n->w1.heap.size<=n)/\ai w1 w',
  ⟨_,0,⟨q,none,0,0,[]⟩,_,m,[],rfl,Qj _,rfl,.inl rfl,I,rfl,rfl,rfl,λn ⟨a,P⟩=>?_,x.then l⟩,?_⟩
 ·match a,P with
  |0,P=>have P:n=w2.heap.size:=P;omega
  |1,P=>exact b1 n P
 rintro a0 _ _ w4 ⟨a,h,F,cls,rs,rfl,g,rfl,b4,K,o,a1,a2,y,z⟩;have k:=Z.then z;have b5:=z.get g1 id;rw[hB];refine al.dec (λb6=>?_) (λc7=>?_)
 ·have b6:a<j:=oM
  obtain⟨L,e2⟩:=Pb (c:=c) (i:=(a:Int)) oM oM;refine ar (IS c d tn X v E Y) b5 (PC.ok (Ux (self:=(a:Int)) V W (C.then k) (hd.af k) (λn P=>by have:=hD n P;have:=k.size;omega) hs a9 b0) ?_);rintro v5 M ⟨N,⟨a3,rfl⟩|⟨p,A,G',rfl,hA,hG,a4⟩⟩
  ·refine⟨_,_,rfl,al.eu (λ_=>Ok.mk ⟨k.then N,.inl ⟨?_,?_⟩⟩) (λh=>Zz h a3)⟩
   ·show(cC c 0).1≠0
    rw[<-L];exact a3
   ·show _=Value.tuple #[.pointer none,WP (cC c 0).1]
    rw[<-L]
  refine⟨_,_,rfl,al.eu (λh=>Zz rfl h) (λ_=>?_)⟩;rw[L]at p;rw[e2]at hA a4;have z4:=z.size;obtain⟨F2,a5,a6,b7⟩:=cT.more (R:=(cC c 0).2) K N (by rw[a1];exact hA) hG;have b8:GC w2.heap.size h 0 M (λn=>F2 n/\a5 n=0):=a6.at' 0;obtain⟨c1,O,c3,B⟩:=b8;have hn:=c3.len dC;rw[o,Q8]at hn;refine⟨_,0,rfl,_,_,_,ae O rfl,ON (x:=A) (D:=λ_=>False) c3 Zt ⟨rfl,trivial⟩ (λn P=>P.elim) (by rw[o,Q8];unfold aP;omega) (by rw[o,Q8];unfold maxLen;omega) λr e w7 F7 Q S c8 b9=>⟨_,_,_,rfl,_,0,rfl,PS.mk (S.get O λf=>(B _ f).2 rfl) sM λw8 k8 s8 g8=>?_⟩⟩;have z5:=N.size;have z7:=S.size;have c9:=az O;have T:∀n,aI r=some n->(aI h.a=some n\/M.heap.size<=n)/\n<w7.heap.size:=λn P=>⟨b9 n P,Q.aE n (Q.self n P)⟩
  have a7:∀n,aI r=some n->n≠w2.heap.size:=λn P f=>by rcases(T n P).1 with h|h;exact(B n h).2 f;omega
  have kk:aj (λn=>F2 n/\a5 n=0) M w8:=(S.mono λn _ P=>(B n P).1).then (k8.mono λn _ P=>by have P:n=w2.heap.size:=P;rw[P];exact c1);obtain⟨F8,s,U,t,-⟩:=bf.tC a6 fN (k:=0) (G':=λn=>n=w2.heap.size\/aI r=some n) (C2:=jA (GC w2.heap.size ⟨h.q,r,h.n+1,e,h.ps++[A]⟩ 0) (λw G=>ez w h.q G []) c (rs++[(A,(cC c 0).2)]))
   ⟨kk,λn P=>P.elim (λf=>.inl (f▸c1)) λP=>(T n P).1.imp (λh=>(B n h).1) id⟩ (λn P=>P.elim (λf=>oM) λP=>by have:=(T n P).2;omega)
   ⟨.inl rfl,g8,Q.alone.keep k8 λn P f=>a7 n P f,λn P=>⟨.inr P,a7 n P⟩⟩ λi G b u=>by
    match i,b,u with
    |1,_,u=>exact u
    |i+2,_,u=>exact u
  have a8:=b7.trans t;refine⟨_,oM,a+1,⟨h.q,r,h.n+1,e,h.ps++[A]⟩,F8,s,_,an oM,oM,rfl,.inr ⟨p,a4⟩,U,by rw[o,Q3];rfl,by rw[QX,a1];rfl,by rw[Q3,a2,List.replicate_succ'];rfl,λn P=>(a8.new n P).elim (y n) λh=>oM,z.new a8.keep λn P=>.inr (y n P)⟩
 ·have c0:a≠0:=oM
  obtain⟨p,d0⟩:=b4.resolve_left c0;obtain⟨r1,r2,-,-⟩:=IT p;have c2:a=c.aA.toNat:=oM
  have J:rs[0]? =some rs[0]:=Qq oM;refine Ok.mk ⟨k,.inr ⟨p,_,F,rfl,⟨h,cls,rs,K,o,?_,oM,(cT.rep K J).ok,⟨V,W,C.then k,λn P=>by have:=y n P;omega⟩⟩,λn P=>by have:=y n P;omega,⟨λR hR=>?_,Int.le_refl 0,Int.le_refl 0⟩⟩⟩
  ·rw[a2,c2];rfl
  ·have:=(List.mem_replicate.1 hR).2
   subst this;exact⟨oM,by rw[LI];exact Qj _⟩
end
section
variable {w w' w0 w1 w2 wb:World} {p i k g:Nat} {F F1 F' G G' T D:ac} {c:bF} {X:cH} {s:ei} {x:gO} {v:Value}
def Ua(w:World)(g:Nat)(F:ac)(x:gO):Prop:=∃(P:be) (a b:Nat) (c:be) (d e:Nat) (f:be) (h i:Nat) (G:ac),w.heap[g]? =some (.cells (gh x P a b c d e f h i).toArray 46 (0,0))/\Row fy 32 w G P a x.st.cells/\(∀n,G n->n<w.heap.size/\¬F n)/\¬F g
def Ua.get(n:Ua w g F x):∃cs:Array Value,w.heap[g]? =some (.cells cs 46 (0,0))/\cs[0]? =some (WP x.code)/\cs[1]? =some (WP x.id.1)/\cs[2]? =some (WP x.id.2):=by
 obtain⟨a,b,c,d,e,f,h,i,j,G,P,k,l,m⟩:=n;exact⟨_,P,rfl,rfl,rfl⟩
def XI(A:bB w0 w p F c X)(E:eD k X)(H:k<=999)(I:s.Ok)(f:∀n b F',w.heap.size<=n.heap.size->bB w0 b p F' c (cB c X s).2->eD (k+1) (cB c X s).2->cd F w F' b->Ua b n.heap.size F' (cB c X s).1->h8 n b):
  PC LL 6 #[RK p,gA s] w (λv n=>sQ (dv LL 46) λx=>v=x/\PA n (.cells #[WP 0,WP 0,WP 0,WP 0,.slice none 0 0,.slice none 0 0,.slice none 0 0,.bool false] 46) λw2=>oQ LL 46 (RK n.heap.size) x w2 λb=>h8 n b) a6:=by
 have N:=A.env.gr.size;refine PC.ok (ug A E H I) ?_;rintro _ n ⟨F',⟨g,h,i,j,l,m,o,q,r,G,rfl,J,O,Q,t⟩,e,u,B⟩;have C:=e.aE;have K:=B.keep.size;refine cg (RO _ g h i j l m o q r) ⟨rfl,PA.mk λw2 y R L=>aD (iV _ g h i j l m o q r) L rfl λb z S M=>f n b F' K ?_ u ?_ ?_⟩
 ·exact(e.af y).keep z (λa d P=>by have P:a=n.heap.size:=P;have:=C a d;omega) λa P=>by have P:a=n.heap.size:=P;omega
 ·exact(B.af y).last z λa P=>by have P:a=n.heap.size:=P;omega
 ·exact⟨g,h,i,j,l,m,o,q,r,G,M,(J.af y).keep z λa d P=>by have P:a=n.heap.size:=P;have:=(t a d).2.1;omega,λa d=>⟨by have:=(t a d).2.1;omega,(t a d).2.2⟩,λP=>by have:=C _ P;omega⟩
def TR(n:(decide (-1000000<=e)&&decide (e<=1000000)&&(decide (-1000000<=r)&&decide (r<=1000000))&&(decide (-1000000<=O)&&decide (O<=1000000)))=true):ei.Ok ⟨e,r,O,AO⟩:=by
 simp only[QK,Zk]at n;exact⟨by show aH e;unfold aH;omega,by show aH r;unfold aH;omega,by show aH O;unfold aH;omega,i10 rfl,i10 rfl,i10 rfl,i10 rfl,i10 rfl,i10 rfl⟩
set_option maxHeartbeats 2000000 in
end
def lI(n:bF)(P:be)(tn a:Nat)(b:be)(c d:Nat)(e:be)(f g:Nat):List Value:=eI n P tn a b c d++[.slice e f g]
abbrev GK(n:bF)(P:be)(tn a:Nat)(b:be)(c d:Nat)(e:be)(f g:Nat):Value:=.agg (lI n P tn a b c d e f g).toArray
def RY(n:bF)(P:be)(tn a:Nat)(b:be)(c d:Nat)(e:be)(f g:Nat):iQ LL 30 (lI n P tn a b c d e f g)=true:=kR
def EK:kq ei:=flat 10 dh ei.Ok (λ_=>rfl) (λP a n=>by simp[dh,fh]at n;rcases n with rfl|rfl|rfl|rfl|rfl|rfl|rfl|rfl|rfl|rfl<;>rfl)
section
variable {w w' w0 w1 w2 wb:World} {p q i k g:Nat} {F F1 F' G G' T D E:ac} {c:bF} {X Y:cH} {s:ei} {x:gO} {v:Value} {ta pa la:be} {tn tc pn pc ln lc:Nat} {l:List ei}
def LJ(f:bt w D c.decl ta tn pa pn)(g:Row EK 80 w E la ln l):
  bn 13 #[GK c ta tn tc pa pn pc la ln lc] w (Ok λv w'=>(∃P:Bool,v= .bool P/\(P=false->l.length<=300))/\ai w w'):=by
 have h:=g.len;refine GM (PA.mk λw1 d i a=>⟨_,_,_,_,_,_,ae a rfl,ae a rfl,PC.ok (LK (f.af d)) ?_⟩);rintro _ w2 ⟨⟨P,rfl⟩,e⟩;have n:=d.then e;have b:=e.get a id;exact⟨_,rfl,al.mk (λ_=>Ok.mk ⟨⟨_,rfl,sM⟩,n⟩) (λ_=>⟨_,_,_,ae b rfl,al.dec (λ_=>Ok.mk ⟨⟨_,rfl,sM⟩,n⟩) (λj=>⟨_,ae b rfl,al.dec (λ_=>⟨_,ae b rfl,Ok.mk ⟨⟨_,rfl,λ_=>oM⟩,n⟩⟩) (λ_=>Ok.mk ⟨⟨_,rfl,λ_=>oM⟩,n⟩)⟩)⟩)⟩
def Uy(P:w.heap[g]? =some (.cells (lI c ta tn tc pa pn pc la ln lc).toArray 30 (0,0)))(a:N (uh c ta tn tc pa pn pc)):jB LL 27 (RK g) w N:=
 NK (es:=eI c ta tn tc pa pn pc) (IS c ta tn tc pa pn pc) P (λn b=>by rcases n with _|_|_|_|_|_|_|_|_|_|n<;>first|rfl|exact Zz b (by simp[eI])) a
def RZ(c:Row EK 80 w E la ln l){j:Nat}(d:j<ln):∃n P s,la=some ⟨n,P,none⟩/\n<w.heap.size/\E n/\l[j]? =some s/\s.Ok/\∀a:Value->Prop,a (gA s)->jB LL 51 (.pointer (some ⟨n,P+j*10,none⟩)) w a:=by
 obtain⟨n,P,s,p,e,f,g,h,i,rfl,k⟩:=c.vv (i:=j) d;exact⟨n,P,s,e,f,g,h,k,λa b=>bJ (es:=dh s) (k:=10) (jQ s) rfl (λm o=>i m o) b⟩
def EM(P:fz w1 x v w)(a:N v):sQ (dv LL 46) λn=>v=n/\N n:=by
 obtain⟨b,c,d,e,f,g,h,i,j,G,rfl,-⟩:=P;exact cg (RO x b c d e f g h i j) ⟨rfl,a⟩
end
def aq.Ve(n:L∈y.l):L∈(y.add l).2.l:=by
 rcases y.eZ l with⟨-,P⟩|⟨a,-⟩
 ·rw[P];exact n
 ·rw[a];exact(cP l y.l).mem_iff.2 (QJ _ n)
def aq.wD:∀(P:List ah) {S:aq} {n:ah},n∈S.l->n∈(S.eG P).l
 |[],S,n,a=>a
 |e::P,S,n,a=>aq.wD P (S:=(S.add e).2) (aq.Ve a)
def aq.ym:∀(a:List ah) {S:aq} {P:ah},P∈(S.eG a).l->P∈S.l\/P∈a
 |[],S,P,b=>.inl b
 |e::a,S,P,b=>by
  rcases aq.ym a (S:=(S.add e).2) b with n|n
  ·rcases S.eZ e with⟨-,c⟩|⟨c,-⟩
   ·rw[c]at n;exact .inl n
   ·rw[c]at n
    rcases Q2.1 ((cP e S.l).mem_iff.1 n)with d|d
    ·exact .inr (d▸QV ..)
    ·exact .inl d
  ·exact .inr (QJ _ n)
section
variable {D E:ak} {A:qo} {no:Int} {l x:List ah} {k d:Nat} {V:dA} {c:bF} {X:bh} {ref:Bool} {Q:ah->Prop}
def wF(P:D.dead=true)(n:ak->Int×ak):D.op n=(15,D.gone):=by
 unfold ak.op ak.dies;rw[P];rfl
def JH(n:D.dead=true):Go.Proofs.YtkpomgifkloklaaGreatDoor.bC V D=(15,V,D.gone):=by
 unfold bC;have:D.create (cI (ax V.next))=(15,D.gone):=wF n _;dsimp only;rw[this,Zx sM]
def Cq(n:D.dead=true):aN V D=(15,V,D.gone):=by
 unfold aN;split
 ·exact JH n
 ·have:D.sync V.last=(15,D.gone):=wF n _
  dsimp only;rw[this,Zx sM]
def JI(n:D.dead=true)(x:List ah):(aG V D x).2.2.files=D.files/\(aG V D x).2.2.dead=true/\(x≠[]->(aG V D x).1≠0):=by
 unfold aG;split
 ·exact⟨rfl,n,λ_=>sM⟩
 split
 ·rename_i a;exact⟨rfl,n,λb=>Zz a b⟩
 dsimp only
 by_cases P:V.size<=V.bytes
 ·rw[Zx P,Cq n,Zx sM]
  exact⟨rfl,rfl,λ_=>sM⟩
 ·rw[Zq P,Zq sM]
  have:D.append V.last (aB x)=(15,D.gone):=wF n _;rw[this,Zx sM];exact⟨rfl,rfl,λ_=>sM⟩
def Ht(n:D.dead=true){size:Int}:(aR V D x size).no≠0/\(aR V D x size).D.files=D.files/\(aR V D x size).D.dead=true:=by
 unfold aR;split
 ·rename_i P;exact⟨P,rfl,n⟩
 have:bI V.next (bQ x).1 D=(15,D.gone):=by
  unfold bI;have:D.create (cI (ax V.next))=(15,D.gone):=wF n _;dsimp only;rw[this,Zx sM]
 rw[this,Zx sM];exact⟨sM,rfl,rfl⟩
def PU{n:ByteArray}(c:au D.files n=some ⟨u,a,H⟩)(P:(D.sync n).1≠0):(D.sync n).1=15/\(D.sync n).2=D.gone:=by
 unfold ak.sync at P⊢;rcases BR D (ak.BS n λD b=>(0,D.fP n (b.cut b.bytes.length)))with e|e
 ·rw[e];exact⟨rfl,rfl⟩
 ·rw[e]at P
  unfold ak.BS at P;rw[eJ,c]at P;exact Zz rfl P
def cO.SS(g:cO D A no l k)(b:Ic V A no l)(i:∀n∈x,n.Ok/\n.aM.length<=64){size:Int}:
  ((aR V D x size).no≠0/\cO (aR V D x size).D A no l k)\/
  (cO (aR V D x size).D [] V.next x x.length/\((aR V D x size).no=0/\Ic (aR V D x size).V [] V.next x/\(aR V D x size).V.size=size\/(aR V D x size).no≠0/\(aR V D x size).D.dead=true)):=by
 have r:bQ x=(aB x,0):=by
  unfold bQ;rw[Zq];intro s;obtain⟨n,t,j⟩:=List.any_eq_true.1 s;have:=(i n t).2;unfold eV at j;simp at j;omega
 unfold aR;rw[r,Zq sM];rcases g.bI b i with⟨c,m⟩|⟨c,m,h⟩
 ·dsimp only
  rw[Zx c];exact .inl ⟨c,m⟩
 dsimp only;rw[Zq (by simpa using c)];generalize(Go.Proofs.YtkpomgifkloklaaGreatDoor.bI V.next (aB x) D).2=o at h;have u:=g.ne_next b;obtain⟨v,p⟩:=Bs V.bd h.tidy;have P:cO (jW V.bd o) [] V.next x x.length:=by
  refine h.same v (λd e=>?_) (p _ λd e n=>?_)
  ·obtain rfl:d=V.next:=by simpa[cY]using e
   exact p _ λw q n=>u w (by rw[b.bd]at q;exact q) n.symm
  ·rw[b.bd]at e
   exact(fI (n:=d) (.inr (by have:=g.zF d e;omega))).1 n.symm
 generalize jW V.bd o=a at P
 cases f:a.dead with
 |false=>
  have y:V.next<iD a:=by
   obtain⟨F,z,-⟩:=P.last;have:=P.uq;exact JJ oM (by rw[z];rfl)
  have:=sA a.list;rw[LP P f];exact .inr ⟨P,.inl ⟨rfl,⟨rfl,rfl,y,this.2⟩,rfl⟩⟩
 |true=>
  obtain⟨B,C⟩:=Pj (size:=size) f;refine .inr ⟨P.files C,.inr ⟨by rw[B];simp,?_⟩⟩;have E:told a=[]:=by
   have:a.read cj=([],15):=by unfold ak.read;rw[f];rfl
   unfold told dI;rw[this];rfl
  unfold aT;rw[E];unfold cQ gB;rw[Zq sM,Zx (show(dS a size).bd=[]from rfl),show aN _ _=_ from Cq f]
  rfl
def JK(P:cO D A no l k)(n:Int):cu (dw (D.eA n))/\Tidy (dw (D.eA n)).files/\(∀a∈cY A++[no],au (dw (D.eA n)).files (ay a)=au (D.eA n).files (ay a))/\au (dw (D.eA n)).files cj=au (D.eA n).files cj:=by
 have g:=Jt D n;have j:=Ml P.tidy n;have m:∀x∈cY A++[no],aH x:=λx p=>by have:=P.zF x p;unfold aH;omega
 have q:(cY A++[no]).length<=64:=by have:=P.many;simpa[cY]using this
 have r:dI (D.eA n)=some (cY A++[no]):=by
  unfold dI;rw[g.read (uS P.tidy n P.XR),Zq sM,show(dV (bT (cY A++[no]))).bytes=bT (cY A++[no])from rfl,pf m q]
 have o:∀c∈GO (D.eA n),(∀a∈cY A++[no],ay a≠c)/\cj≠c:=λc d=>by
  have b:=(List.mem_filter.1 d).2;unfold jV at b;rw[r]at b;refine⟨λa h e=>?_,λe=>?_⟩
  ·have m:=P.zF a h
   subst e;rw[yo oM,Xv (fI (n:=a) (.inr oM)).2]at b;simp only[Option.getD_some,Zy h]at b;simp at b
  ·subst e
   rw[Xv Lm,Sf]at b;simp at b
 have f:∀(i:List ByteArray) {D:ak},Tidy D.files->Tidy (Ll D i).files:=by
  intro i
  induction i with
  |nil=>intro D P;exact P
  |cons c i s=>
   intro D P;refine s (D:=(D.delete c).2) ?_;rcases jO D c with e|e
   ·rw[e];exact P
   ·rw[e];exact P.bR _
 refine⟨Bg _ g,f _ j,λa h=>?_,?_⟩
 ·unfold dw
  rw[Bh _ g j,Zq λd=>(o _ d).1 a h rfl]
 ·unfold dw
  rw[Bh _ g j,Zq λd=>(o _ d).2 rfl]
def MJ{size keep:Int}(n:cO D A no l k):∃P,k<=P/\P<=l.length/\(aT (dw (D.eA keep)) size).no=0/\(aT (dw (D.eA keep)) size).out=cx A (l.take P)/\Ic (aT (dw (D.eA keep)) size).V A no (l.take P)/\(aT (dw (D.eA keep)) size).V.size=size/\
  cO (aT (dw (D.eA keep)) size).D A no (l.take P) P/\cu (aT (dw (D.eA keep)) size).D:=by
 obtain⟨g,h,d,i⟩:=JK n keep;obtain⟨j,m,z,o⟩:=n.last;obtain⟨a,B,C,p⟩:=EW keep (aB l) o;have e:au (D.eA keep).files (ay no)=some ⟨(aB l).take a,((aB l).take a).length,true⟩:=by
  rw[EV n.tidy,m];show(if true then some (tv keep ⟨aB l,j,true⟩)else none)=_;rw[p];rfl
 have q:((aB l).take a).length=a:=by simp;omega
 rw[q]at e;obtain⟨P,r,s,E,t,u,v,w,F,H,b,c,y⟩:=PV (size:=size) (n:=a) g h n (λx f=>by rw[d x.1 (ZV _ (Xk.2 ⟨x,f,rfl⟩))];exact uS n.tidy keep (n.full x f)) (by rw[i];exact uS n.tidy keep n.XR) (by rw[d no sM];exact e) oM oM;exact⟨P,r,s,t,u,v,w,c oM,b⟩
structure fj (Q:ah->Prop) (c:bF) (X:bh) (ref:Bool):Prop where
 log:∃V A no l k d,X.log=some V/\cO X.D A no l k/\(X.D.dead=true\/Ic V A no l/\V.size=c.bk)/\Yz c.bk A/\X.S=(⟨c.aA.toNat,[]⟩:aq).eG ((cx A l).take d)/\d<=JL A k/\(d<(cx A l).length->X.D.dead=true/\ref=true)/\∀e∈cx A l,Q e
def sB(A:qo)(l:List ah):(cx A l).length=JL A l.length:=by unfold cx JL;simp
def fj.same{Y:bh}(b:fj Q c X ref)(e:Y.S=X.S)(n:Y.D=X.D)(f:Y.log=X.log){r2:Bool}(g:ref=true->r2=true):fj Q c Y r2:=by
 obtain⟨V,A,no,l,k,d,h,i,j,m,o,p,P,q⟩:=b.log;exact⟨V,A,no,l,k,d,by rw[f];exact h,by rw[n];exact i,by rw[n];exact j,m,by rw[e];exact o,p,λa=>⟨by rw[n];exact(P a).1,g (P a).2⟩,q⟩
def fj.GJ(n:fj Q c X ref)(P:Int):fj Q c {X with D:=X.D.GJ P} ref:=by
 obtain⟨V,A,no,l,k,d,a,b,e,f,g,h,i,j⟩:=n.log;exact⟨V,A,no,l,k,d,a,b.files rfl,e,f,g,h,i,j⟩
def fj.take(q:fj Q c X ref)(E:X.S.Cl)(F:X.S.n=c.aA.toNat)(T:X.D.Ok)(H:∀b∈x,b.Ok/\Q b)(U:x.length<=20000000):
  ((dx c X x).1=0/\(dx c X x).2.S=X.S.eG x/\∀I,fj Q c (dx c X x).2 I)\/
  ((dx c X x).1≠0/\(dx c X x).2.S=X.S/\fj Q c (dx c X x).2 (ref||(dx c X x).1==15)):=by
 obtain⟨V,A,no,l,k,d,W,m,Y,r,h,J,s,o⟩:=q.log;have n:dx c X x=(if(aG V X.D x).1≠0 then((aG V X.D x).1,{X with log:=some (aG V X.D x).2.1,D:=(aG V X.D x).2.2})else
   if((aG V X.D x).2.2.sync (aG V X.D x).2.1.last).1≠0 then(((aG V X.D x).2.2.sync (aG V X.D x).2.1.last).1,{X with log:=some (aG V X.D x).2.1,D:=((aG V X.D x).2.2.sync (aG V X.D x).2.1.last).2})else
   (0,{X with log:=some (aG V X.D x).2.1,D:=((aG V X.D x).2.2.sync (aG V X.D x).2.1.last).2,S:=fp c X.S x})):=by
  unfold dx;rw[W]
 by_cases t:X.D.dead=true
 ·obtain⟨K,u,e3⟩:=JI (V:=V) t x
  generalize aG V X.D x=P at*
  by_cases a:P.1≠0
  ·rw[Zx a]at n
   rw[n];exact .inr ⟨a,rfl,P.2.1,A,no,l,k,d,rfl,m.files K,.inl u,r,h,J,λf=>⟨u,by rw[(s f).2];rfl⟩,o⟩
  ·rw[Zq a]at n
   have Z:P.2.2.sync P.2.1.last=(15,P.2.2.gone):=wF u _;rw[Z,Zx sM]at n;rw[n];exact .inr ⟨sM,rfl,P.2.1,A,no,l,k,d,rfl,m.files K,.inl rfl,r,h,J,λf=>⟨rfl,by rw[(s f).2];rfl⟩,o⟩
 obtain⟨hv,L⟩:=Y.resolve_left t;have a0:(cx A l).length<=d:=Nat.le_of_not_lt λa1=>t (s a1).1;rw[Qz a0]at h;have M:(cx A l).length=JL A k:=by
  have:=sB A l;have:=m.kl;unfold JL at*;omega
 obtain⟨i,v,g,N,w,y,O,e,z,p,f7⟩:=JM (x:=x) m hv (λb B=>(H b B).1) U T (by rw[L];exact r);rw[L]at z p;generalize aG V X.D x=P at*
 by_cases a:P.1≠0
 ·rw[Zx a]at n
  rw[Zq a]at e;rw[n];exact .inr ⟨a,rfl,P.2.1,i,v,g,N,(cx i g).length,rfl,w,.inr ⟨y,z⟩,p,by rw[List.take_length,e];exact h,by rw[e,M];exact O,λf=>Zz f (Nat.lt_irrefl _),by rw[e];exact o⟩
 rw[Zq a]at n;have a:P.1=0:=Classical.not_not.1 a;rw[Zx a]at e;rw[cO.MK y]at n;obtain⟨a2,s1,s2,s3⟩:=w.last;have R:∀b∈cx i g,Q b:=by rw[e];exact λb B=>(Q6.1 B).elim (o b) λq=>(H b q).2
 rcases Fy w with⟨j,C⟩|⟨j,C⟩
 ·rw[Zq (by rw[j];simp)]at n
  rw[n];refine .inl ⟨rfl,wG E F x,λI=>⟨P.2.1,i,v,g,g.length,(cx i g).length,rfl,C,.inr ⟨y,z⟩,p,?_,by rw[sB];exact Q4 _,λf=>Zz f (Nat.lt_irrefl _),R⟩⟩;rw[List.take_length,e,aq.Bi,<-h];exact wG E F x
 ·obtain⟨z1,S⟩:=PU s1 j
  rw[Zx j]at n;rw[n];refine .inr ⟨j,rfl,P.2.1,i,v,g,N,(cx A l).length,rfl,C,.inl (by rw[S];rfl),p,?_,by rw[M];exact O,λ_=>⟨by rw[S];rfl,by rw[z1];simp⟩,R⟩;rw[e,List.take_left];exact h
def fj.sub(a:fj Q c X ref):∀n∈X.S.l,Q n:=λn P=>by
 obtain⟨V,A,no,l,k,d,f,g,h,i,b,j,m,e⟩:=a.log;rw[b]at P;exact e n (List.mem_of_mem_take ((aq.ym _ P).resolve_left sM))
def fj.eA(P:fj Q c X ref)(keep:Int):(ie c X keep).1=0/\(∀a∈X.S.l,a∈(ie c X keep).2.S.l)/\(ref=false->(ie c X keep).2.S=X.S)/\fj Q c (ie c X keep).2 false:=by
 obtain⟨V,A,no,l,k,d,C,g,E,h,e,i,j,m⟩:=P.log;obtain⟨n,F,o,p,q,r,s,t,H⟩:=MJ (size:=c.bk) (keep:=keep) g;have u:ie c X keep=(0,{X with D:=(aT (dw (X.D.eA keep)) c.bk).D,waits:=[],gJ:=⟨X.gJ.dj,[],[]⟩,log:=some (aT (dw (X.D.eA keep)) c.bk).V,S:=(⟨c.aA.toNat,[]⟩:aq).eG (cx A (l.take n))}):=by
  unfold ie fM;dsimp only;rw[Zq (by rw[p];simp),q]
 have v:(cx A l).take d=(cx A (l.take n)).take d:=by
  have f:d<=((A.map (·.2)).flatten).length+n:=by unfold JL at i;omega
  unfold cx;rw[List.take_append,List.take_append,List.take_take,X2 oM]
 have w:(⟨c.aA.toNat,[]⟩:aq).eG (cx A (l.take n))=X.S.eG ((cx A (l.take n)).drop d):=by
  rw[e,v,<-aq.Bi,ZX]
 rw[u];refine⟨rfl,λa b=>?_,λx=>?_,_,A,no,l.take n,n,(cx A (l.take n)).length,rfl,t,.inr ⟨r,s⟩,h,by rw[List.take_length],?_,λf=>Zz f (Nat.lt_irrefl _),λa b=>m a ?_⟩
 ·show a∈((⟨c.aA.toNat,[]⟩:aq).eG (cx A (l.take n))).l
  rw[w];exact aq.wD _ b
 ·show(⟨c.aA.toNat,[]⟩:aq).eG (cx A (l.take n))=X.S
  have y:(cx A l).length<=d:=Nat.le_of_not_lt λz=>by have:=(j z).2;rw[x]at this;cases this
  have:=sB A l;have B:n=l.length:=by unfold JL at*;omega
  rw[B,List.take_length,e,Qz y]
 ·rw[sB];unfold JL;rw[Qy,X2 o];exact Q4 _
 ·unfold cx at b⊢
  exact(Q6.1 b).elim (λP=>ZV _ P) λP=>ZW _ (List.mem_of_mem_take P)
def fj.Vf(y:fj Q c X ref)(f:X.S.Cl)(z:X.S.n=c.aA.toNat):(dR c X).2.S=X.S/\fj Q c (dR c X).2 ref:=by
 obtain⟨V,A,no,l,k,d,g,q,B,r,i,s,t,j⟩:=y.log;have P:dR c X=(if(aR V X.D X.S.l c.bk).no≠0 then((aR V X.D X.S.l c.bk).no,{X with D:=(aR V X.D X.S.l c.bk).D})else(0,{X with D:=(aR V X.D X.S.l c.bk).D,log:=some (aR V X.D X.S.l c.bk).V})):=by
  unfold dR;rw[g]
 refine⟨by rw[P];split<;>rfl,?_⟩
 by_cases m:X.D.dead=true
 ·obtain⟨C,E,u⟩:=Ht (V:=V) (x:=X.S.l) (size:=c.bk) m
  rw[Zx C]at P;rw[P];exact⟨V,A,no,l,k,d,g,q.files E,.inl u,r,i,s,λa=>⟨u,(t a).2⟩,j⟩
 obtain⟨v,F⟩:=B.resolve_left m;have L:(cx A l).length<=d:=Nat.le_of_not_lt λH=>m (t H).1;have I:∀n∈X.S.l,n.Ok/\n.aM.length<=64:=λn b=>⟨f.ok.ok n b,by
  obtain⟨-,-,-,-,-,-,M,-⟩:=jP (f.ok.XN n b);have:=f.ok.n;omega⟩
 have w:X.S=(⟨c.aA.toNat,[]⟩:aq).eG X.S.l:=by rw[<-z];exact f.Wz.symm
 have x:∀n∈cx [] X.S.l,Q n:=λn b=>by
  have b:n∈X.S.l:=b;rw[i]at b;exact j n (List.mem_of_mem_take ((aq.ym _ b).resolve_left sM))
 rcases q.SS v I (size:=c.bk)with⟨h,e⟩|⟨h,⟨e,o,J⟩|⟨e,o⟩⟩
 ·rw[Zx h]at P
  rw[P];exact⟨V,A,no,l,k,d,g,e,.inr ⟨v,F⟩,r,i,s,λa=>Zz a oM,j⟩
 ·rw[Zq (by rw[e];simp)]at P
  rw[P];exact⟨_,[],V.next,X.S.l,X.S.l.length,X.S.l.length,rfl,h,.inr ⟨o,J⟩,λK p=>by simp at p,by rw[show(cx [] X.S.l)=X.S.l from rfl,List.take_length];exact w,by unfold JL;simp,λa=>Zz a (by rw[show(cx [] X.S.l)=X.S.l from rfl];exact Nat.lt_irrefl _),x⟩
 ·rw[Zx e]at P
  rw[P];exact⟨V,[],V.next,X.S.l,X.S.l.length,X.S.l.length,g,h,.inl o,λK p=>by simp at p,by rw[show(cx [] X.S.l)=X.S.l from rfl,List.take_length];exact w,by unfold JL;simp,λa=>Zz a (by rw[show(cx [] X.S.l)=X.S.l from rfl];exact Nat.lt_irrefl _),x⟩
def Pc{self:Int}(n:(cC c self).1=0):fj Q c (cC c self).2 false/\(cC c self).2.waits=[]:=by
 have b:cC c self=Cr c:=by
  unfold cC at n⊢;split
  ·rename_i P;rw[Zx P]at n;exact Zz n P
  rename_i P;rw[Zq P]at n;split
  ·rename_i d;rw[Zx d]at n;simp at n
  ·rfl
 rw[b]at n⊢;unfold Cr fM at n⊢;dsimp only at n⊢;rcases SU c.uV.toNat c.bk with a|⟨a,e,f,g,h,l,m,o⟩
 ·rw[Zx oM]at n
  exact Zz n ek
 ·rw[Zq (by rw[a];simp)]
  exact⟨⟨_,[],1,[],0,0,rfl,f,.inr ⟨g,h⟩,λp i=>by simp at i,by rw[e];rfl,Qj _,λj=>by simp[cx]at j,λq k=>by simp[cx]at k⟩,rfl⟩
def ML{P:List ah}{b x:ah}(n:x∈(eY a P b).2):x=b\/x∈P:=by
 unfold eY at n;split at n
 ·exact .inr n
 ·exact Q2.1 ((cP b P).mem_iff.1 n)
def wH(n:Nat)(Q:ah->Prop):∀(l:List ah) (f:aq) (P b:List ah),(∀e∈l,Q e)->(∀e∈P,Q e)->(∀e∈b,Q e)->(∀e∈(gW n l f P b).2.1,Q e)/\∀e∈(gW n l f P b).2.2,Q e
 |[],f,P,b,_,c,d=>⟨c,d⟩
 |e::l,f,P,b,h,c,d=>by
  have i:=h e (QV ..);have g:∀x∈l,Q x:=λx a=>h x (QJ _ a);unfold gW;split
  ·exact wH n Q l _ _ _ g (λx a=>(Q6.1 a).elim (c x) λa=>by rw[List.mem_singleton.1 a];exact i) d
  split
  ·exact wH n Q l _ _ _ g c d
  ·exact wH n Q l _ _ _ g c λx a=>(ML a).elim (λj=>by rw[j];exact i) (d x)
def rQ(Q:ah->Prop):∀(l:List ah) (b:aq) (n:List ah),(∀e∈l,Q e)->(∀e∈n,Q e)->∀e∈(eL l b n).2,Q e
 |[],b,n,_,a=>a
 |e::l,b,n,c,a=>by
  have d:∀x∈l,Q x:=λx P=>c x (QJ _ P);unfold eL;split
  ·exact rQ Q l _ _ d λx P=>(Q6.1 P).elim (a x) λP=>by rw[List.mem_singleton.1 P];exact c e (QV ..)
  ·exact rQ Q l _ _ d a
def wI(Q:ah->Prop):∀(l:List ah) (P:aq) {a:ah×aq×List ah},dQ P l=some a->(∀e∈l,Q e)->Q a.1/\∀e∈a.2.2,Q e
 |[],P,a,n,_=>by cases n
 |e::l,P,a,n,c=>by
  unfold dQ at n;split at n
  ·cases n;exact⟨c e (QV ..),λx b=>c x (QJ _ b)⟩
  ·cases d:dQ P l with
   |none=>rw[d]at n;cases n
   |some i=>
    rw[d]at n
    cases n
    obtain⟨f,g⟩:=wI Q l P d λx b=>c x (QJ _ b);exact⟨f,λx b=>(Q2.1 b).elim (λh=>by rw[h];exact c e (QV ..)) (g x)⟩
def wJ(Q:ah->Prop):∀(k:Nat) (a:aq) (l n:List ah),(∀P∈l,Q P)->(∀P∈n,Q P)->(∀P∈(du k a l n).1,Q P)/\∀P∈(du k a l n).2,Q P
 |0,a,l,n,b,c=>⟨c,b⟩
 |k+1,a,l,n,b,c=>by
  unfold du
  cases e:dQ a l with
  |none=>exact⟨c,b⟩
  |some h=>
   obtain⟨f,g⟩:=wI Q l a e b;exact wJ Q k _ _ _ g λx d=>(Q6.1 d).elim (c x) λd=>by rw[List.mem_singleton.1 d];exact f
def JN(Q:ah->Prop):∀(k:Nat) (P:aq) (a b:List ah),(∀n∈a,Q n)->(∀n∈b,Q n)->(∀n∈(qd k P a b).1,Q n)/\∀n∈(qd k P a b).2,Q n
 |0,P,a,b,c,e=>⟨c,e⟩
 |k+1,P,a,b,c,e=>by
  unfold qd;have d:=wJ Q ((b.filter λn=>(P.get (aZ n)).isNone).length+1) P (b.filter λn=>(P.get (aZ n)).isNone) [] (λx f=>e x (List.mem_filter.1 f).1) sM;have n:bM P b=du ((b.filter λn=>(P.get (aZ n)).isNone).length+1) P (b.filter λn=>(P.get (aZ n)).isNone) []:=rfl;rw[<-n]at d;dsimp only;split
  ·exact⟨c,d.2⟩
  ·exact JN Q k _ _ _ (rQ Q _ _ _ d.1 c) d.2
def PW{c:bF}{X:bh}{l:List ah}(Q:ah->Prop)(P:∀n∈l,Q n)(a:∀n∈X.waits,Q n):(∀n∈(jg c X l).1,Q n)/\∀n∈(jg c X l).2,Q n:=by
 obtain⟨b,d⟩:=wH c.buffer.toNat Q l (fp c X.S []) [] X.waits P sM a;exact JN Q _ _ _ _ b d
def Cs(c:bF)(X:bh)(x:List ah):(dx c X x).2.waits=X.waits:=by
 unfold dx
 cases X.log with
 |none=>rfl
 |some V=>
  dsimp only;split
  ·rfl
  split<;>rfl
def JO(ref:Bool)(kind no:Int):Bool:=ref&&kind !=4||(kind==0||kind==2)&&(no==15||no==12)
structure qe (Q:ah->Prop) (c:bF) (X:bh) (ref:Bool) (kind:Int) (r:Int×bh):Prop where
 RB:∀e∈X.S.l,e∈r.2.S.l
 ZB:fj Q c r.2 (JO ref kind r.1)
 idle:kind≠0->kind≠2->kind≠4->r.2.S=X.S
 no:kind=0\/kind=2->r.1≠0->r.2.S=X.S
 cr:kind=4->ref=false->r.2.S=X.S
 wait:∀e∈r.2.waits,e.Ok/\Q e
def oH{ref:Bool}{n no:Int}(P:n≠4)(a:ref=true):JO ref n no=true:=by unfold JO;rw[a];simp[P]
def qe.still{no:Int}(P:fj Q c X ref)(b:e≠4)(n:c7.S=X.S)(d:c7.D=X.D)(f:c7.log=X.log)(g:∀a∈c7.waits,a.Ok/\Q a):qe Q c X ref e (no,c7):=
 ⟨λa h=>by rw[n];exact h,P.same n d f (oH b),λ_ _ _=>n,λ_ _=>n,λP=>Zz P b,g⟩
def PX{P:bG}(n:fq P a e=0)(c:P.kind=3)(d:e<=32):P.events.length<=32:=by
 rcases Nat.lt_or_ge 32 P.events.length with b|b
 ·exfalso
  unfold fq at n;rw[Zx c]at n;split at n
  ·cases n
  ·unfold fr at n
   split at n
   ·cases n
   ·rw[Zx (.inr oM)]at n;cases n
 ·exact b
def fj.call{a:Sa}(b:fj Q c X ref)(f:∀P∈X.waits,P.Ok/\Q P)(u:X.S.Cl)(v:X.S.n=c.aA.toNat)(z:X.D.Ok)(C:a.cmd.Ok)(E:∀P∈a.m.events,P.Ok/\Q P)(F:a.kind=0->(fk c.decl X.S (bU c.decl X.S.l) e c.start a.cmd).2.1=true->Q (fk c.decl X.S (bU c.decl X.S.l) e c.start a.cmd).1)(I:aH e)(J:aH c.start)(K:X.S.l.length<=20000000)(W:X.waits.length<=256)(L:c.chunk<=32):
  qe Q c X ref a.kind (NN c e X a):=by
 unfold NN;split
 ·rename_i h
  have i:a.kind≠4:=oM
  obtain⟨V,A,no,l,k,d,s,-⟩:=b.log;unfold eU;rw[s];dsimp only;split
  ·exact qe.still b i rfl rfl rfl f
  split
  ·rename_i M
   have N:=Ob (d:=c.decl) (V:=bU c.decl X.S.l) C u.ok I J K;have q:=b.take (x:=[(fk c.decl X.S (bU c.decl X.S.l) e c.start a.cmd).1]) u v z (λP g=>by rw[List.mem_singleton.1 g];exact⟨N,F h M⟩) sM;have m:=Cs c X [(fk c.decl X.S (bU c.decl X.S.l) e c.start a.cmd).1];generalize dx c X [(fk c.decl X.S (bU c.decl X.S.l) e c.start a.cmd).1]=w at q m;rcases q with⟨o,j,p⟩|⟨o,j,p⟩
   ·rw[Zq (by rw[o];simp)]
    exact⟨λP g=>by dsimp only;rw[j];exact aq.wD _ g,p _,λn=>Zz h n,λ_ n=>Zz rfl n,λn=>Zz n i,by dsimp only;rw[m];exact f⟩
   ·rw[Zx o]
    refine⟨λP g=>by dsimp only;rw[j];exact g,p.same rfl rfl rfl λH=>?_,λn=>Zz h n,λ_ _=>j,λn=>Zz n i,by dsimp only;rw[m];exact f⟩;rcases Bool.or_eq_true .. ▸H with H|H
    ·exact oH i H
    ·unfold JO;dsimp only;rw[H,h];simp
  ·exact qe.still b i rfl rfl rfl f
 split
 ·rename_i h
  unfold fg;split<;>exact qe.still b oM rfl rfl rfl f
 split
 ·rename_i h
  have i:a.kind≠4:=oM
  obtain⟨V,A,no,l,k,d,s,-⟩:=b.log;unfold cy;rw[s];dsimp only;split
  ·exact qe.still b i rfl rfl rfl f
  rename_i O;split
  ·exact qe.still b i rfl rfl rfl f
  split
  ·rename_i R
   have Y:=PX (Classical.not_not.1 O) R L;unfold lP;obtain⟨B,x⟩:=PW (c:=c) (X:=X) (λP=>P.Ok/\Q P) E f;have S:=Ct c X a.m.events;generalize jg c X a.m.events=r at B x S;dsimp only;split
   ·exact qe.still b i rfl rfl rfl x
   have q:=(b.same (Y:={X with waits:=r.2}) rfl rfl rfl id).take (x:=r.1) u v z B oM;have m:=Cs c {X with waits:=r.2} r.1;generalize dx c {X with waits:=r.2} r.1=w at q m;dsimp only at q m;rcases q with⟨o,j,p⟩|⟨o,j,p⟩
   ·rw[Zq (by rw[o];simp)]
    exact⟨λP g=>by dsimp only;rw[j];exact aq.wD _ g,p _,λ_ n=>Zz h n,λ_ n=>Zz rfl n,λn=>Zz n i,by dsimp only;rw[m];exact x⟩
   ·rw[Zx o]
    refine⟨λP g=>by dsimp only;rw[j];exact g,p.same (Y:={w.2 with waits:=[]}) (r2:=JO ref a.kind w.1) rfl rfl rfl λH=>?_,λ_ n=>Zz h n,λ_ _=>j,λn=>Zz n i,sM⟩;rcases Bool.or_eq_true .. ▸H with H|H
    ·exact oH i H
    ·unfold JO;rw[H,h];simp
  split
  ·exact qe.still b i rfl rfl s.symm f
  split<;>exact qe.still b i rfl rfl s.symm f
 split
 ·exact qe.still b oM rfl rfl rfl f
 split
 ·rename_i h
  obtain⟨t,y,T,U⟩:=b.eA a.n;have P:JO ref a.kind (ie c X a.n).1=false:=by unfold JO;rw[h];simp
  refine⟨y,by rw[P];exact U,λ_ _ n=>Zz h n,λn=>oM,λ_ n=>T n,?_⟩;unfold ie fM;dsimp only;split<;>simp
 split
 ·rename_i h
  exact⟨λP g=>g,(b.GJ a.n).same rfl rfl rfl (oH oM),λ_ _ _=>rfl,λ_ _=>rfl,λ_ _=>rfl,f⟩
 split
 ·rename_i h
  obtain⟨t,y⟩:=b.Vf u v;refine⟨λP g=>by rw[t];exact g,y.same rfl rfl rfl (oH oM),λ_ _ _=>t,λ_ _=>t,λ_ _=>t,?_⟩;unfold dR
  cases X.log with
  |none=>exact f
  |some V=>
   dsimp only;split<;>exact f
 ·exact⟨λP g=>g,b.same rfl rfl rfl (oH oM),λ_ _ _=>rfl,λ_ _=>rfl,λ_ _=>rfl,f⟩
end
structure oe (c:bF) (X:cH):Prop where
 len:X.aA.length=c.aA.toNat
 cl:∀R∈X.aA,R.S.Cl/\R.S.n=c.aA.toNat/\R.D.Ok/\R.S.l.length<=20000000/\R.waits.length<=256
 evs:∀m∈X.dP,∀e∈m.events,e.Ok
 chunk:c.chunk<=32
 start:aH c.start
 aA:c.aA<=64
def vx(P:ah->Prop)(c:bF)(a:bh):Prop:=(∃n,fj P c a n)/\∀b∈a.waits,b.Ok/\P b
def LC(a:Nat->ah->Prop)(b:bF)(c:cH):Prop:=∀n P,c.aA[n]? =some P->vx (a n) b P
section
variable {c:bF} {X:cH} {k j:Nat} {i:Int} {R R':bh} {s:ei} {ms:List bG} {m:bG} {Q:Nat->ah->Prop} {P:ah->Prop} {f:List bG} {now:Int} {n:Int}
def LC.set(d:LC Q c X)(e:vx (Q j) c R'):LC Q c ⟨X.aA.set j R',f,now⟩:=λP a n=>by
 have n:(X.aA.set j R')[P]? =some a:=n
 by_cases b:j=P
 ·subst b
  by_cases g:j<X.aA.length
  ·rw[List.getElem?_set_self g]at n;injection n with n;exact n▸e
  ·rw[Q7 (by rw[List.length_set];omega)]at n;cases n
 ·rw[List.getElem?_set_ne b]at n;exact d P a n
def vx.same(a:vx P c R)(b:R'.S=R.S)(d:R'.D=R.D)(e:R'.log=R.log)(f:R'.waits=R.waits):vx P c R':=by
 obtain⟨⟨n,g⟩,h⟩:=a;exact⟨⟨n,g.same b d e id⟩,by rw[f];exact h⟩
def vx.call(e:vx P c R)(n:oe c X)(f:R∈X.aA)(g:aH i){a:Sa}(h:a.cmd.Ok)(j:∀b∈a.m.events,b.Ok/\P b)(k:a.kind=0->(fk c.decl R.S (bU c.decl R.S.l) i c.start a.cmd).2.1=true->P (fk c.decl R.S (bU c.decl R.S.l) i c.start a.cmd).1):vx P c (NN c i R a).2:=by
 obtain⟨⟨l,m⟩,o⟩:=e;obtain⟨p,q,r,s,t⟩:=n.cl R f;have d:=m.call o p q r h j k g n.start s t n.chunk;exact⟨⟨_,d.ZB⟩,d.wait⟩
def sR:Sa:=⟨0,0,0,⟨0,0,0,0,0,0,0⟩,⟨0,0,0,[],[]⟩⟩
def lz:jT.Ok ⟨0,0,0,0,0,0,0⟩:=by
 have:aH 0:=by unfold aH;omega
 exact⟨this,this,this,this,this,this⟩
def vx.one(n:vx P c R)(b:oe c X)(d:R∈X.aA)(e:aH i)(g:s.Ok)(h:(fk c.decl R.S (bU c.decl R.S.l) i c.start s.cmd).2.1=true->P (fk c.decl R.S (bU c.decl R.S.l) i c.start s.cmd).1):vx P c (gQ c i R s).2:=by
 have a:∀f∈([]:List ah),f.Ok/\P f:=λf a=>by cases a
 unfold gQ;split
 ·exact n.call b d e (a:=⟨0,0,0,s.cmd,sR.m⟩) g.cmd a λ_=>h
 split
 ·exact n.call b d e (a:=⟨4,s.m,0,sR.cmd,sR.m⟩) lz a λn=>by cases n
 split
 ·exact n.call b d e (a:=⟨6,0,0,sR.cmd,sR.m⟩) lz a λn=>by cases n
 split
 ·exact n
 split
 ·exact n
 split
 ·exact n
 ·exact n.call b d e (a:=⟨5,s.m,0,sR.cmd,sR.m⟩) lz a λn=>by cases n
def EN(c:bF)(i:Int)(R:bh)(n now:Int):(fg c i R n now).2.S=R.S/\(fg c i R n now).2.D=R.D/\(fg c i R n now).2.log=R.log/\(fg c i R n now).2.waits=R.waits:=by
 unfold fg;split<;>exact⟨rfl,rfl,rfl,rfl⟩
def LM(n:LC Q c X):LC Q c (fX X j):=by
 unfold fX;split
 ·exact n
 ·rename_i R P
  exact n.set ((n j R P).same rfl rfl rfl rfl)
def IU:∀(n:List Nat) {X:cH},LC Q c X->LC Q c (n.foldl fX X)
 |[],_,P=>P
 |j::n,_,P=>IU n (LM P)
def oh(P:eH a5 n=some m):m∈a5:=by
 unfold eH at P;split at P
 ·exact QZ P
 ·cases P
def UA(n:oe c X)(P:j<X.aA.length):aH (j:Int):=by
 have:=n.len;have:=n.aA;unfold aH;omega
def IV(n:LC Q c X)(a:oe c X)(h:∀m,e8=some m->m∈X.dP/\∀i:Nat,m.m_=i->∀P∈m.events,Q i P):LC Q c (gi c ⟨X.aA,f,X.now⟩ e8).2:=by
 unfold gi
 cases e8 with
 |none=>exact n
 |some m=>
  dsimp only;split
  ·exact n
  ·rename_i R b
   obtain⟨j,e,b⟩:=ej b;have d:X.aA[j]? =some R:=b;obtain⟨k,l⟩:=h m rfl;have o:=(n j R d).call a (QZ d) (UA a (Qv.1 d).1) (a:=⟨2,0,0,sR.cmd,m⟩) lz (λP g=>⟨a.evs m k P g,l j e P g⟩) λn=>by cases n
   rw[e];exact LC.set (X:=X) n o
def Pd(P:LC Q c X)(b:oe c X)(g:s.Ok)(d:(s.kind=3\/s.kind=5)->∀m,eH X.dP s.n=some m->∀i:Nat,m.m_=i->∀h∈m.events,Q i h)(k:∀(i:Nat) R,s.n=i->X.aA[i]? =some R->(fk c.decl R.S (bU c.decl R.S.l) i c.start s.cmd).2.1=true->Q i (fk c.decl R.S (bU c.decl R.S.l) i c.start s.cmd).1):LC Q c (cB c X s).2:=by
 unfold cB;split
 ·rename_i l
  exact IV P b λm n=>⟨oh n,d (.inl l) m n⟩
 split
 ·rename_i o
  exact IV (f:=X.dP) P b λm n=>⟨oh n,d (.inr o) m n⟩
 split
 ·exact P
 split
 ·exact IU _ (X:=⟨X.aA,X.dP,X.now+1⟩) P
 split
 ·exact P
 split
 ·exact P
 ·rename_i R a
  obtain⟨j,e,a⟩:=ej a;have p:=(Qv.1 a).1;have f:=P j R a;rw[e];split
  ·split
   ·exact P
   ·obtain⟨q,r,t,u⟩:=EN c j R s.m X.now
    exact LC.set (X:=X) P (f.same q r t u)
  ·exact LC.set (X:=X) P (f.one b (QZ a) (UA b p) g (k j R e a))
def Sb(n:LC Q c X)(P:oe c X)(a:s.Ok)(b:(s.kind=3\/s.kind=5)->∀m,eH X.dP s.n=some m->∀i:Nat,m.m_=i->∀d∈m.events,Q i d)(e:∀(i:Nat) R,X.aA[i]? =some R->(fk c.decl R.S (bU c.decl R.S.l) i c.start s.cmd).2.1=true->Q i (fk c.decl R.S (bU c.decl R.S.l) i c.start s.cmd).1):LC Q c (cB c X s).2:=
 Pd n P a b λi R _ f=>e i R f
end
section
variable {w w' w0 w1 w2 wb:World} {p q i k g:Nat} {F F1 F' G G' T D E:ac} {c:bF} {X Y:cH} {s:ei} {x:gO} {v:Value}
def R_{P:List ah}(b:Row iz 96 w D d a P):∀n∈P,n.Ok:=λn c=>by
 obtain⟨i,e⟩:=List.mem_iff_getElem?.1 c;obtain⟨g,h,j,-,-,-,-,k,l,m,-,-,f⟩:=b.el i n e;exact f
def bB.facts(P:bB w0 w p F c X)(f:aH c.start):oe c X:=by
 have a:=P.len;obtain⟨r,g,s,b,t,h,u,i,v⟩:=P;refine⟨a.1,λx d=>?_,λy e=>?_,i.Lw.2,f,a.2.2.1⟩
 ·rw[h]at d
  obtain⟨z,j,rfl⟩:=Xk.1 d;obtain⟨A,k⟩:=List.mem_iff_getElem?.1 j;have n:=cT.rep b k;exact⟨n.cl.1,n.cl.2,n.dok,n.len,n.waits⟩
 ·obtain⟨B,C,E,H,D,I,J,l,m,-⟩:=b.XO
  rw[<-l]at e;obtain⟨o,q,rfl⟩:=Xk.1 e;exact R_ (m o q).2
def Uz{Q:Nat->ah->Prop}(P:(sJ c).1=0):LC Q c (sJ c).2:=λi a b=>by
 have n:=QZ b;have n:a∈List.replicate c.aA.toNat (cC c 0).2:=n;rw[(List.mem_replicate.1 n).2];obtain⟨d,e⟩:=Pc (Q:=Q i) (c:=c) (self:=0) P;exact⟨⟨false,d⟩,by rw[e];intro g f;cases f⟩
structure XP where
 a:be
 n:Nat
 c:Nat
 vs:List Int
def cVB:kq XP:=flat 1 (λn=>[Value.slice n.a n.n n.c]) (λ_=>True) (λ_=>rfl) (λx a P=>by simp at P;subst P;rfl)
def ZA:ki LL 35 52 cVB.k 24:=⟨kR,kR,dC⟩
end
def DY:lq:=⟨[(3,[(6,WP 0)])],[],[],[],[(6,⟨[0,1,2,4,8,16,48,80,16,400,528,1040,2048,6144,10240,2048,2048,67584,133120,296960,526336,1050624,2115584,4196352,8390656,16777216,50331648,16777216,218103808,16777216,822083584,1090519040,2164260864],[8589934591,8589934590,8589934589,8589934587,8589934583,8589934575,8589934543,8589934511,8589934575,8589934191,8589934063,8589933567,8589932543,8589928447,8589924351,8589932543,8589932543,8589867007,8589801471,8589637631,8589408255,8588883967,8587819007,8585738239,8581545983,8573157375,8539602943,8573157375,8371830783,8573157375,7767851007,7499415551,6425673727],[0,0,1,0,0,0,0,1,0,0,0,0,0,0,1,0,0,0,1,0,1,0,0,0,0,0,1,0,2,0,2,0,0]⟩)]⟩
def DZ(q:PR_ (Instr.makeSlice 52 (.ii e) (.ii e)) b (kS_ λg h l r=>(∃k:Nat->Int->bc,(∃i,k i 0 r)/\∀(i:Nat) (f:Int) (R:Nat->Value) (n:World),k i f n->al (decide (f<(a:Int))) ((ix_ d f a λs t=>(Ld 82 (ad s (t+Int.toNat f*10)) n λu=>PA n (.cells #[.ii 0,.ii 0,.ii 0,.slice none 0 0,.ii 0,.ii 0,.ii 0,.ii 0,.ii 0,.ii 0] 82) λv=>St 82 (ab_ n 0) u v λw=>(∀P,bW w P->(rI P (ab_ n 0) λx=>al (decide (x<0)) (rt B ((.bool false)) P) ((rI P (ab_ n 0) λy=>al (decide (y>=e)) (rt B ((.bool false)) P) ((rI P (ab_ n (0+1)) λz=>(rI P (ab_ n 0) λm=>(ix_ g m h λA C=>(rI P (ad A (C+Int.toNat m)) λD=>al (z !=(PP .i64 (D+1))) (rt B ((.bool false)) P) ((rS P (ab_ n (0+3)) λE F G=>PC_ 31 #[.slice E F G,.slice g h l] P (kS_ λH I J K=>PC_ 8 #[.slice H I J,.slice g h l] K (kI_ λL j=>al (L !=0) (rt B ((.bool false)) j) ((rI j (ab_ n 0) λo=>(rI j (ab_ n (0+1)) λM=>(ix_ g o h λN O=>PS j (ad N (O+Int.toNat o)) (.ii M) λQ=>(∃p,p<i/\k p (PP .i64 (f+1)) Q)))))) (pZ B)) (pZ B))))))))))))))) (rt B ((.bool true)) n))) (pV B)):bn 12 #[.slice d a c,.ii e] b B:=DC DY Tryz.func12 rfl q
