import Derived.Test.YtjgjkeponbeekaaGreatDoorKa24
set_option linter.all false
set_option maxHeartbeats 4000000
set_option maxRecDepth 20000
namespace Go.Proofs.YtjgjkeponbeekaaGreatDoor
open Go.ar
section
variable {w w':World} {p:Nat} {F T D:Nat->Prop} {d:aM} {every:Nat} {l l2:List aj}
def Oq{d:aM}{ta pa:Option Addr}{tn tc pn pc:Nat}{ev:Int}(o:cN d=0)(g8:aH ev)(hT:eA w)(q:bb w D d ta tn pa pn)(hD:∀a,D a->a<w.heap.size):
  Calls XP 72 #[.agg #[.slice ta tn tc,.slice pa pn pc],XH ev] w (Ok λe2 w'=>∃p F,e2= ZQ p/\cO w' p F d (max 1 ev).toNat []/\(∀a,F a->w.heap.size<=a)/\ai w w'):=by
 have g9:=q.aS.len;have X:=q.aS.dN;have h0:=q.Em.len;have h3:=q.Em.dN;have e5:d.projs.length<=8:=(zt (mh o).1).2.2.1;obtain⟨every,e6⟩:∃every:Nat,every=(max 1 ev).toNat:=⟨_,rfl⟩
 have e7:(if ev>1 then ev else 1)=(every:Int):=by split<;>omega
 have c0:0<every/\every<9223372036854775808:=by unfold aH at g8;omega
 rw[<-e6];refine BV ?_;rw[e7];refine PA.mk λw1 k1 s1 g1=>⟨_,_,_,ae g1 rfl,PC.ok (pw (q.Em.ah k1) λa B=>by have:=hD a B;omega) ?_⟩
 rintro _ b ⟨j,h,x,y,rfl,Y,k8,h4⟩;have z8:=k8.size;refine⟨_,_,_,rfl,PA.mk λc1 Z k9 h5=>?_⟩;have e8:ai w c1:=(k1.then k8).then Z;have ga:=Z.get (k8.get g1 id) id;have l0:=Z.size;refine⟨_,_,_,ae ga rfl,λr J w'=>∃c:Nat,J=c/\c<=tn/\r=tn-c/\ak (·=b.heap.size) c1 w'/\∃s t K m,w'.heap[b.heap.size]? =some (.cells #[.slice s t K,.slice j h x,XH (every:Int),.slice none 0 0,.pointer none,.slice none 0 0,.slice none 0 0] 202 (0,0))/\aO mj 118 m w' s t K (d.types.take c)/\∀a,m a->c1.heap.size<=a,
  ⟨_,0,rfl,Qj _,rfl,ak.refl _,none,0,0,λ_=>False,h5,aO.nil _,λ_ q=>q.elim⟩,?_⟩
 rintro r _ _ z ⟨c,rfl,hj,rfl,kk,s,t,K,m,L,u,M⟩;have a7:ai w z:=e8.new kk λa B=>.inr oM;have zk:=kk.size;refine al.dec (λl4=>?_) (λl5=>?_)
 ·have d9:c<d.types.length:=oM
  obtain⟨a,a4,es,ha,B,h6,e9,fa,fn,fc,rfl,a8⟩:=(q.aS.ah a7).el c d.types[c] (by simp[d9]);have e0:d.types[c]? =some d.types[c]:=Qq d9;generalize d.types[c]=a0 at a8 e0;have c2:=e9 0 dC;have h7:mj.k=1:=rfl;rw[h7,Nat.mul_one]at c2;refine⟨a,a4,ha,oM,oM,fa,fn,fc,by rw[Qx];exact c2,PA.mk λl6 h8 l7 h9=>PS.mk h9 sM λe1 i0 l8 i1=>⟨_,_,_,ae i1 rfl,?_⟩⟩;have a1:ai z e1:=h8.new i0 λa B=>.inr oM;have f0:=a7.then a1;obtain⟨E,l1,l2,l3⟩:=ef.boxes (N:=I_) a8;have c4:=a8.dN;refine PC.ok (px (l2.ah a1) λa B=>by have:=hD a B;have:=f0.size;omega) ?_;rintro _ e3 ⟨a9,N,f1,F9,rfl,b0,e4,i2⟩;have l9:=a1.size;have m0:=e4.size;have a2:∀a,aF a9=some a->e1.heap.size<=a:=λa B=>i2 a (b0.self a B);have f4:∀a,aF a9=some a->a<e3.heap.size:=λa B=>b0.aB a (b0.self a B);refine⟨_,_,_,rfl,λr J w'=>∃c:Nat,J=c/\c<=N/\r=N-c/\dt I_ 121 e3 a9 N f1 E c w',⟨_,0,rfl,Qj _,rfl,dt.start b0.alone⟩,?_⟩;rintro r _ _ i3 ⟨f,rfl,i,rfl,A⟩;have m1:=A.len;have m2:E.length=a0.length:=by rw[<-l1];simp
  have i4:=a8.len;have O:ai z i3:=(a1.then e4).new A.af λa B=>.inr (by have:=a2 a B;omega);have m3:=A.af.size;refine al.dec (λf5=>?_) (λf7=>?_)
  ·obtain⟨a3,rfl⟩:=A.some oM
   have f9:=f4 a3 rfl;have a5:E[f]? =some E[f]:=Qq oM;have P:=l3 E[f] (XY oM);generalize E[f]=bx at a5 P;refine⟨a3,0,rfl,oM,oM,_,_,_,A.cell rfl a5 (by show N*4<=aK;unfold aK at c4⊢;omega) 3 _ rfl,PC.ok (sD (P.1.ah O) λa B=>by have:=hD a B;have:=(a7.then O).size;omega) ?_⟩;rintro _ m4 ⟨m5,m6,m7,G,rfl,c3,i5,l⟩;refine⟨_,_,_,rfl,a3,0,rfl,oM,oM,?_⟩;refine(A.ah i5).step (g:=a3) rfl a5 (c3.row (bytes:=32) dC ?_) P.2 (λv H=>⟨by have:=l v H;omega,c3.aB v H⟩) f9 λm8 g2 m9 n0=>⟨_,?_,f+1,aq (by unfold aK at c4;omega),oM,rfl,g2⟩
   ·have g:=P.1.dN
    have n:=P.1.len;show bx.x.bq.length*32<=aK;have n1:bx.n=bx.x.bq.length:=n;have n2:bx.n*32<=aK:=g;omega
   ·omega
  ·obtain rfl:f=N:=oM
   obtain⟨Fd,o,c6⟩:=A.done;rw[l1,GB]at o;have c5:=O.get L id;refine⟨b.heap.size,0,rfl,_,_,_,ae c5 rfl,Mo (c:=mj) (x:=a0) (u.ah O) Ot (D:=Fd) ⟨_,_,_,rfl,o.row dC (by rw[<-i4];exact c4)⟩ (λa B=>⟨o.aB a B,λe=>?_⟩) ?_ ?_ λa' Q n3 F' g5 c7 f2 n4=>⟨_,_,_,rfl,b.heap.size,0,rfl,?_⟩⟩
   ·have g:=u.aB a (u.self a e)
    rcases c6 a B with n|n
    ·have:=a2 a n;omega
    ·omega
   ·have:=List.length_take_le c d.types;unfold aK at X⊢;omega
   ·have:=List.length_take_le c d.types;unfold aK at X;unfold maxLen;omega
   ·have i6:¬aF s=some b.heap.size:=λe=>by have:=M _ (u.self _ e);omega
    have i7:=c7.get c5 i6;have n5:=c7.size;refine PS.mk i7 sM λn6 f3 n7 i8=>⟨_,?_,c+1,aq (by unfold aK at X;omega),oM,rfl,?_,a',t+1,Q,F',i8,?_,?_⟩
    ·omega
    ·exact((kk.ah O).new c7 λa B=>.inr (M _ (u.self a B))).then f3
    ·rw[Qw,e0]
     refine g5.af f3 λa B e=>?_;rcases f2 a B with g|g|g
     ·have:=M a g;omega
     ·rcases c6 a g with n|n
      ·have:=a2 a n;omega
      ·omega
     ·omega
    ·intro a B
     rcases f2 a B with g|g|g
     ·exact M a g
     ·rcases c6 a g with n|n
      ·have:=a2 a n;omega
      ·omega
     ·omega
 ·obtain rfl:c=tn:=oM
  rw[Qz oM]at u;have h1:=(Y.ah Z).af kk λa B e=>by have:=Y.aB a B;omega
  have n8:b.heap.size<z.heap.size:=ax L;have f6:bb z (λa=>m a\/y a) d s t j h:=⟨(u.row (bytes:=24) dC (by rw[<-g9];exact X)).mono λa B=>.inl B,(h1.row (bytes:=40) dC (by rw[<-h0];exact h3)).mono λa B=>.inr B⟩
  have C:∀a,m a\/y a->w.heap.size<=a/\a<z.heap.size/\a≠b.heap.size:=λa B=>by
   rcases B with B|B
   ·have:=M a B;have:=u.aB a B;omega
   ·have:=h4 a B;have:=Y.aB a B;omega
  refine⟨b.heap.size,0,rfl,_,_,_,_,_,_,ae L rfl,ae L rfl,PC.ok (GC o f6 λa B=>(C a B).2.1) ?_⟩;rintro _ i9 ⟨vp,R,rfl,hv,b1,b2⟩;have o0:=b2.size;have f8:=hv.aB;refine⟨_,rfl,b.heap.size,0,rfl,PS.mk (b2.get L id) sM λS c8 o1 g0=>⟨b.heap.size,0,rfl,_,_,_,ae g0 rfl,?_⟩⟩;have n9:=Y.len dC;have c9:bb S (λa=>m a\/y a) d s t j h:=(f6.ah b2).af c8 λa B e=>(C a B).2.2 e;have h2:b_ S vp R (aU.new d):=hv.af c8 λa B e=>by have e:a=b.heap.size:=e;have:=b1 a B;omega
  refine⟨λr J w'=>∃(c:Nat) (ra:Option Addr) (T rc:Nat) (G:Nat->Prop),J=c/\c<=h/\r=h-c/\ak (·=b.heap.size) S w'/\w'.heap[b.heap.size]? =some (.cells #[.slice s t K,.slice j h x,XH (every:Int),.slice none 0 0,ZQ vp,.slice ra T rc,.slice none 0 0] 202 (0,0))/\
   cd w' G ra T rc ((d.projs.take c).map λp=>(⟨p,[]⟩:de))/\∀a,G a->S.heap.size<=a/\a<w'.heap.size,⟨_,0,none,0,0,λ_=>False,rfl,Qj _,rfl,ak.refl _,g0,cd.nil _,λa B=>B.elim⟩,?_⟩
  rintro r _ _ b3 ⟨f,ra,T,rc,G,rfl,i,rfl,I,d0,b4,l⟩;have o2:=I.size;refine al.dec (λf5=>?_) (λf7=>?_)
  ·have j0:f<d.projs.length:=oM
   have H:d.projs[f]? =some d.projs[f]:=Qq j0;generalize d.projs[f]=v at H;obtain⟨a,a4,es,a6,d5,h6,b5,rfl,d6⟩:=(c9.af I λa B e=>(C a B).2.2 e).Em.el f v H;refine⟨a,a4,a6,oM,oM,bA (es:=ni v) (k:=5) (pk v) rfl (λa0 ht=>by rw[Qx];exact b5 a0 ht) (PA.mk λo3 j1 o4 j2=>az (pk v) j2 rfl λo5 j3 o6 j4=>λj5 g3=>⟨λ_=>False,b.heap.size,0,rfl,id,?_⟩)⟩;have d1:ai b3 j5:=(j1.new j3 λa B=>.inr (by have B:a=b3.heap.size:=B;omega)).then g3.af;refine⟨_,_,_,ae (d1.get d0 id) rfl,au (pk v) ((g3.af (S:=λ_=>False)).get j4 id) (PC.ok Ou ?_)⟩;rintro _ o7 ⟨p',r',rfl,d2,o8,o9,p0,p1,d3⟩;have j6:p'≠r':=λe=>by
    obtain⟨es,cl,hm,-⟩:=d2.map.at';have:=d2.at';rw[e,hm]at this;cases this
   have p2:=d3.size;have p3:=d1.size;refine⟨_,rfl,d3,PA.mk λp4 d4 p5 j7=>⟨d4,?_⟩⟩;have b6:=(d1.then d3).then d4;have j8:=b4.len;rw[Q8,Qy,X2 oM]at j8;refine(b4.ah b6).push (λa B=>by have:=(l a B).2;omega) (d2.ah d4) (λB=>by have:=(l _ B).2;omega) (λB=>by have:=(l _ B).2;omega) j6 Oi j7 (by rw[Q8,Qy];omega) λj9 k0 p6 G3 k2 g4 k3 k4=>⟨_,_,_,rfl,b.heap.size,0,rfl,?_⟩
   have k5:=g4.get (b6.get d0 id) λB=>by have:=(l _ B).1;omega
   have d7:∀a,G3 a->S.heap.size<=a:=λa B=>by
    rcases k3 a B with g|g|g|g
    ·exact(l a g).1
    ·omega
    ·omega
    ·omega
   refine PS.mk k5 sM λp7 g6 p8 k6=>⟨_,?_,f+1,j9,T+1,k0,G3,aq oM,oM,rfl,((I.ah b6).new g4 λa B=>.inr (l a B).1).then g6,k6,?_,λa B=>⟨d7 a B,by have:=k4 a B;omega⟩⟩
   ·omega
   ·rw[Qw,H,Q3]
    exact k2.af g6 λa B e=>by have e:a=b.heap.size:=e;have:=d7 a B;omega
  ·rw[Qz oM]at b4
   have k7:∃U,dz b3 (λa=>∃k,(match k with|0=>a=b.heap.size|1=>m a\/y a|3=>R a|4=>G a|_=>False:Prop)) U b.heap.size ⟨s,t,K,j,h,x,every,none,0,0,vp,ra,T,rc,none,0,0⟩ d (cm d []) (dE d []).rows [] []:=by
    refine aT.join (G:=λk a=>match k with|0=>a=b.heap.size|1=>m a\/y a|3=>R a|4=>G a|_=>False) (λk=>?_) (λf c a i hj=>?_) λk a B=>?_
    ·match k with
     |0=>exact⟨rfl,d0⟩
     |1=>exact c9.af I λa B e=>(C a B).2.2 e
     |2=>exact aO.nil _
     |3=>exact h2.af I λa B e=>by have e:a=b.heap.size:=e;have:=b1 a B;omega
     |4=>exact b4
     |5=>exact aO.nil _
     |k+6=>trivial
    ·have V:∀f:Nat,(match f with|0=>a=b.heap.size|1=>m a\/y a|3=>R a|4=>G a|_=>False:Prop)->f=(if a=b.heap.size then 0 else if a<z.heap.size then 1 else if a<i9.heap.size then 3 else 4):=λf i=>by
      rcases f with _|_|_|_|_|f
      ·have i:a=b.heap.size:=i
       rw[if_pos i]
      ·have:=C a i;rw[if_neg oM,if_pos oM]
      ·exact i.elim
      ·have:=b1 a i;have:=f8 a i;rw[if_neg oM,if_neg oM,if_pos oM]
      ·have:=l a i;rw[if_neg oM,if_neg oM,if_neg oM]
      ·exact i.elim
     rw[V f i,<-V c hj]
    ·rcases k with _|_|_|_|_|k
     ·have B:a=b.heap.size:=B
      omega
     ·have:=C a B;omega
     ·exact B.elim
     ·have:=f8 a B;omega
     ·have:=l a B;omega
     ·exact B.elim
   obtain⟨U,hq⟩:=k7;have b7:ai w b3:=(((a7.then b2).new c8 λa B=>.inr (by have B:a=b.heap.size:=B;omega)).new I λa B=>.inr (by have B:a=b.heap.size:=B;omega))
   have g7:∀a,(∃k,(match k with|0=>a=b.heap.size|1=>m a\/y a|3=>R a|4=>G a|_=>False:Prop))->w.heap.size<=a:=λa ⟨k,B⟩=>by
    rcases k with _|_|_|_|_|k
    ·have B:a=b.heap.size:=B
     omega
    ·exact(C a B).1
    ·exact B.elim
    ·have:=b1 a B;omega
    ·have:=l a B;omega
    ·exact B.elim
   refine PC.ok (CS hq o (hT.ah b7) sM (by rw[pq];exact e5) sM sM) ?_;rintro _ p9 ⟨rfl,q',F',W,b8,b9,d8⟩;refine⟨rfl,Ok.mk ⟨b.heap.size,F',rfl,⟨⟨o,c0.1,c0.2,sM⟩,q',W,b9,?_⟩,λa B=>?_,b7.new d8.af λa B=>.inr (g7 a B)⟩⟩
   ·rw[Ov];simpa using b8
   ·rcases d8.new a B with g|g
    ·exact g7 a g
    ·have:=b7.size;omega
end
def Lk(g:aM)(b:List aj):∀a∈(dE g b).rows,a.rows.length<=b.length:=by
 have:∀(b:List aj) (c:jB) (d:Nat),(∀a∈c.rows,a.rows.length<=d)->∀a∈(b.foldl jB.add c).rows,a.rows.length<=d+b.length:=by
  intro b
  induction b with
  |nil=>intro c d h a e;exact h a e
  |cons f b m=>
   intro c d h a e;have:=m (c.add f) (d+1) (λi j=>?_) a e
   ·simp only[Xq];omega
   ·obtain⟨k,l,rfl⟩:=Xk.1 (show i∈c.rows.map λa=>a.add (c.view.add f).1 (rW ((c.view.add f).2.state f.aS f.agg) a.p)from j)
    have o:=h k l;unfold de.add;dsimp only;split
    ·omega
    ·split
     ·omega
     ·exact Xx (xh ..) oM
 intro a e;have:=this b (jB.new g) 0 (λi j=>by
  obtain⟨k,l,rfl⟩:=Xk.1 (show i∈g.projs.map λn=>(⟨n,[]⟩:de)from j);exact Q4 0) a e
 omega
def iw(b:aM)(c:List aj)(a:Int):List di:=if a<0 then []else match(dE b c).rows[a.toNat]? with
 |none=>[]
 |some d=>d.list
variable{e m:Int}
section
variable {w w':World} {p:Nat} {F T D:Nat->Prop} {d:aM} {every:Nat} {l:List aj}
def Ja(s:cO w p F d every l):
  Calls XP 402 #[ZQ p,XH e,XH m] w (Ok λt w'=>∃c f g G,t= .tuple #[.agg #[XH (((cm d l).state e m).getD Gs).version,.slice c f g],.bool ((cm d l).state e m).isSome]/\aO ei 78 G w' c f g (((cm d l).state e m).getD Gs).cells/\(∀a,G a->w.heap.size<=a)/\ai w w'):=by
 obtain⟨z,A,u,rfl,j⟩:=s;refine rb (PA.mk λB h C v=>⟨p,0,rfl,_,ae (dz.ah j h).bh rfl,PC.ok (nh ((dz.ah j h).at' 3)) ?_⟩);rintro _ E ⟨c,f,g,G,rfl,x,k,i⟩;have H:=i.size;refine⟨_,_,_,_,_,rfl,PS.mk (i.get v id) sM λI n J y=>PS.mk y sM λK o L q=>⟨_,_,_,_,ae q rfl,ae q rfl,Ok.mk ⟨c,f,g,G,rfl,?_,λa b=>?_,?_⟩⟩⟩
 ·exact x.af (n.then o) λa b r=>by have r:a=w.heap.size:=r;have:=k a b;omega
 ·have:=k a b;omega
 ·exact(h.then i).new (n.then o) λa b=>.inr (by have b:a=w.heap.size:=b;omega)
def Eo(b:cO w p F d every l):Calls XP 400 #[ZQ p] w (Ok (py vF 133 w (cm d l).entries)):=by
 obtain⟨c,j,e,rfl,a⟩:=b;refine oz ⟨p,0,rfl,_,ae a.bh rfl,PC.ok (Ep (a.at' 3) (vE d l c.2.2.2).1) ?_⟩;rintro _ k ⟨f,g,h,G,rfl,i⟩;exact⟨_,_,_,rfl,Ok.mk ⟨f,g,h,G,rfl,i⟩⟩
def Mp(k:cO w p F d every l):Calls XP 401 #[ZQ p,XH e] w (Ok λm w'=>py Gt 135 w (iw d l e) m w'/\tL (iw d l e)):=by
 obtain⟨n,C,o,rfl,b⟩:=k;have E:=cd.len (b.at' 4);refine sE (al.dec (λh=>Ok.mk ⟨⟨none,0,0,λ_=>False,rfl,?_,ak.refl _,λq c=>c.elim⟩,?_⟩) (λf=>⟨p,0,rfl,_,_,_,ae b.bh rfl,al.dec (λr=>Ok.mk ⟨⟨none,0,0,λ_=>False,rfl,?_,ak.refl _,λq c=>c.elim⟩,?_⟩) (λr=>?_)⟩))
 ·unfold iw;rw[if_pos h];exact aO.nil _
 ·unfold iw;rw[if_pos h];exact List.Pairwise.nil
 ·unfold iw;rw[if_neg f,Q7 oM];exact aO.nil _
 ·unfold iw;rw[if_neg f,Q7 oM];exact List.Pairwise.nil
 ·obtain⟨a,rfl⟩:∃a:Nat,e=a:=⟨e.toNat,oM⟩
  have g:(dE d l).rows[a]? =some (dE d l).rows[a]:=Qq oM;have i:(dE d l).rows[a]∈(dE d l).rows:=XY oM;have s:iw d l (a:Int)=(dE d l).rows[a].list:=by unfold iw;rw[if_neg f,Qx,g]
  rw[s];generalize(dE d l).rows[a]=t at g i;obtain⟨u,H,I,v,x,j,-⟩:=cd.elem (b.at' 4) g;refine⟨p,0,rfl,_,_,_,ae b.bh rfl,u,0,v,oM,oM,_,by rw[Qx];exact x,PC.ok (Mq j (Xx (Lk d l t i) n.2.2.2)) ?_⟩;rintro _ J ⟨y,z,A,G,rfl,B⟩;exact⟨_,_,_,rfl,Ok.mk ⟨⟨y,z,A,G,rfl,B⟩,j.UC⟩⟩
end
structure aw.Cl (S:aw):Prop where
 ok:S.OK
 ly:∀e∈S.l,∀o,o<S.n->S.ly e o=true
 le:∀e∈S.l,e.seq<=(S.EA e.origin.toNat:Int)
 has:∀(o:Nat) (s:Int),o<S.n->1<=s->s<=(S.EA o:Int)->∃e∈S.l,aW e=((o:Int),s)
variable{z:FuncId}{d6:Int×Int}{K e5:List aj}{a:Nat}{d r:Option Addr}{g:TypeId}{N o:aj}{F:aw}
def zQ:F.ly o a=true↔o.aP.getD a 0=0\/∃b,F.get ((a:Int),o.aP.getD a 0)=some b/\b.ay<o.ay/\∀c,c<b.aP.length->b.aP.getD c 0<=o.aP.getD c 0:=by
 unfold aw.ly;generalize o.aP.getD a 0=d;dsimp only
 cases e:F.get ((a:Int),d)with
 |none=>simp
 |some b=>simp
def aw.Cl.new(b:a<=64):aw.Cl ⟨a,[]⟩:=⟨aw.sF b,sM,sM,λd e _ f c=>by simp[aw.EA]at c;omega⟩
def aw.Rv(a:aw.OK ⟨F.n,dd o F.l⟩)(b:F.get d6=some N):aw.get ⟨F.n,dd o F.l⟩ d6=some N:=by
 obtain⟨c,rfl⟩:=aw.get_some b;exact a.get ((cV o F.l).mem_iff.2 (QJ _ c))
def aw.iG(a:aw)(b:aj):((a.add b).1≠0/\(a.add b).2=a)\/(a.add b=(0,⟨a.n,dd b a.l⟩)/\cK b a.n=0/\a.get (aW b)=none/\b.seq=a.vec.getD b.origin.toNat 0+1/\∀c,c<a.n->a.ly b c=true):=by
 rw[aw.add_def];split
 ·rename_i d;exact .inl ⟨d,rfl⟩
 rename_i e;split
 ·exact .inl ⟨sM,rfl⟩
 rename_i f;split
 ·exact .inl ⟨sM,rfl⟩
 rename_i g;split
 ·exact .inl ⟨sM,rfl⟩
 rename_i h;refine .inr ⟨rfl,by simpa using e,by simpa using f,by simpa using g,?_⟩;simpa[List.any_eq_false]using h
def aw.Rw{S:aw}(b:cK o S.n=0)(c:S.get (aW o)=none)(d:o.seq=S.vec.getD o.origin.toNat 0+1)(e:∀a,a<S.n->S.ly o a=true):S.add o=(0,⟨S.n,dd o S.l⟩):=by
 rw[aw.add_def,if_neg (by simpa using b),if_neg (by simp[c]),if_neg (by simpa using d),if_neg];simpa[List.any_eq_false]using e
def aw.Cl.add{d:aw}(i:d.Cl){c:aj}(r:c.Ok):(d.add c).2.Cl:=by
 have m:=(aw.zy i.ok r).1;rcases d.iG c with⟨-,h⟩|⟨j,s,z,t,u⟩
 ·rw[h];exact i
 rw[j]at m⊢;simp only at m⊢;obtain⟨A,B,C,-⟩:=qQ s;obtain⟨k,n⟩:∃k:Nat,c.origin=k:=⟨c.origin.toNat,oM⟩
 have v:k<d.n:=oM
 rw[n,Qx,d.tR v]at t;have e:∀a,a∈dd c d.l↔a=c\/a∈d.l:=λa=>by rw[(cV c d.l).mem_iff,Q2]
 have f:∀a g,d.ly a g=true->aw.ly ⟨d.n,dd c d.l⟩ a g=true:=λa g b=>by
  rw[zQ]at b⊢;rcases b with b|⟨w,j,h⟩
  ·exact .inl b
  ·exact .inr ⟨w,aw.Rv m j,h⟩
 refine⟨m,λa b g l=>?_,λa b=>?_,λg o l j h=>?_⟩
 ·rcases(e a).1 b with rfl|b
  ·exact f _ _ (u g l)
  ·exact f _ _ (i.ly a b g l)
 ·rw[aw.EB]
  rcases(e a).1 b with rfl|b
  ·rw[n,Qx,if_pos rfl];omega
  ·have:=i.le a b
   split<;>omega
 ·rw[aw.EB]at h
  by_cases q:c.origin=(g:Int)
  ·rw[if_pos q]at h
   have x:k=g:=oM
   subst x
   by_cases y:o=c.seq
   ·exact⟨c,(e c).2 (.inl rfl),by simp[aW,n,y]⟩
   ·obtain⟨a,b,p⟩:=i.has k o l j oM
    exact⟨a,(e a).2 (.inr b),p⟩
  ·rw[if_neg q]at h
   obtain⟨a,b,p⟩:=i.has g o l j oM;exact⟨a,(e a).2 (.inr b),p⟩
def aw.SM(a:aw)(b:aj):(a.add b).2.n=a.n:=by
 rcases a.iG b with⟨-,c⟩|⟨d,-⟩
 ·rw[c]
 ·rw[d]
def aw.yU(a:aw)(b:aj):(a.add b).2.l.length<=a.l.length+1:=by
 rcases a.iG b with⟨-,c⟩|⟨d,-⟩
 ·rw[c];omega
 ·rw[d];show(dd b a.l).length<=_;rw[(cV b a.l).length_eq];simp
def aw.qP(a:aw)(b:List aj)(c:aj):a.fr (b++[c])=((a.fr b).add c).2:=by unfold aw.fr;rw[List.foldl_append];rfl
def aw.OJ(a:aw)(b c:List aj):a.fr (b++c)=(a.fr b).fr c:=by unfold aw.fr;rw[List.foldl_append]
def aw.Cl.fr:∀{l:List aj} {S:aw},S.Cl->(∀e∈l,e.Ok)->(S.fr l).Cl
 |[],S,a,_=>a
 |e::l,S,a,b=>aw.Cl.fr (l:=l) (S:=(S.add e).2) (a.add (b e (QV ..))) λc d=>b c (QJ _ d)
def aw.OL:∀(b:List aj) (a:aw),(a.fr b).n=a.n
 |[],a=>rfl
 |e::b,a=>(aw.OL b _).trans (a.SM e)
def aw.mu:∀(b:List aj) (a:aw),(a.fr b).l.length<=a.l.length+b.length
 |[],a=>by simp[aw.fr]
 |e::b,a=>by
  have c:=aw.mu b (a.add e).2;have d:=a.yU e;show((a.add e).2.fr b).l.length<=_;simp only[Xq];omega
def sL{b:aj}:∀{a:List aj},(∀x∈a,dQ b x=false)->dd b a=a++[b]
 |[],_=>rfl
 |x::a,c=>by
  unfold dd;rw[if_neg (by rw[c x (QV ..)];simp),sL λd e=>c d (QJ _ e)];rfl
def aw.Cl.take{a:aw}(i:a.Cl):∀{k:Nat},k<=a.l.length->(⟨a.n,[]⟩:aw).fr (a.l.take k)=⟨a.n,a.l.take k⟩/\aw.Cl ⟨a.n,a.l.take k⟩
 |0,_=>⟨rfl,by simpa using aw.Cl.new i.ok.n⟩
 |k+1,U=>by
  obtain⟨J,n⟩:=aw.Cl.take i (k:=k) oM;have h:a.l[k]? =some a.l[k]:=Qq oM;have o:a.l[k]∈a.l:=XY oM;generalize a.l[k]=b at h o;have x:a.l=a.l.take k++b::a.l.drop (k+1):=by
   conv=>lhs;rw[<-List.take_append_drop k a.l]
   congr 1
   rw[X4 oM]
   congr 1
   have:=Qq (l:=a.l) (i:=k) oM;rw[h]at this;exact(XJ this).symm
  have r:=i.ok.Oz;have j:=i.ok.ids;rw[x]at r j;have g:∀c∈a.l,dQ c b=true->c∈a.l.take k:=λc e p=>by
   rw[x]at e;rcases Q6.1 e with e|e
   ·exact e
   rcases Q2.1 e with rfl|e
   ·rw[iR]at p;omega
   ·have K:=(List.pairwise_append.1 r).2.1
    have s:=(List.pairwise_cons.1 K).1 c e;rw[my s]at p;cases p
  have d:∀c∈a.l.take k,dQ c b=true:=λc e=>(List.pairwise_append.1 r).2.2 c e b (QV ..);have y:aw.get ⟨a.n,a.l.take k⟩ (aW b)=none:=by
   cases L:aw.get ⟨a.n,a.l.take k⟩ (aW b)with
   |none=>rfl
   |some c=>
    obtain⟨l,m⟩:=aw.get_some L;rw[Q3,QY,List.nodup_append]at j;exact absurd m (j.2.2 (aW c) (Xk.2 ⟨c,l,rfl⟩) (aW b) (QV ..))
  have z:=i.ok.VW b o;obtain⟨V,W,M,X,-,-,Y,-,A,-⟩:=qQ z;obtain⟨f,t⟩:∃f:Nat,b.origin=f:=⟨b.origin.toNat,oM⟩
  have u:f<a.n:=oM
  have B:∀q,q<a.n->aw.ly ⟨a.n,a.l.take k⟩ b q=true:=λq N=>by
   have:=i.ly b o q N;rw[zQ]at this⊢;rcases this with C|⟨c,v,E,P⟩
   ·exact .inl C
   ·obtain⟨l,m⟩:=aw.get_some v
    refine .inr ⟨c,?_,E,P⟩;rw[<-m];exact n.ok.get (g c l (by rw[iR];exact .inl E))
  have F:=i.ok.ok b o;have Q:b.seq=(aw.vec ⟨a.n,a.l.take k⟩).getD b.origin.toNat 0+1:=by
   rw[t,Qx,aw.tR (S:=⟨a.n,a.l.take k⟩) u];have Z:(aw.EA ⟨a.n,a.l.take k⟩ f:Int)+1<=b.seq:=by
    rcases Int.lt_or_le (aw.EA ⟨a.n,a.l.take k⟩ f:Int) b.seq with p|O
    ·omega
    ·obtain⟨c,R,S⟩:=n.has f b.seq u M O
     have:=aw.get_none y c R;exact absurd (S.trans (by simp[aW,t])) this
   have O:b.seq<=(aw.EA ⟨a.n,a.l.take k⟩ f:Int)+1:=by
    have T:oD (b.seq-1)=b.seq-1:=by
     have:=F.seq;exact wrap_i64 (by unfold aH at*;omega)
    rw[T,t,Qx]at A;have:=B f u;rw[zQ,A]at this;rcases this with C|⟨c,v,-⟩
    ·omega
    ·obtain⟨l,m⟩:=aw.get_some v
     have s:=n.le c l;have H:c.origin=f/\c.seq=b.seq-1:=by
      have:=m;simp only[aW,Prod.mk.injEq]at this;exact this
     rw[H.1,H.2,Qx]at s;omega
   show b.seq=(aw.EA ⟨a.n,a.l.take k⟩ f:Int)+1;omega
  have I:=aw.Rw (S:=⟨a.n,a.l.take k⟩) z y Q B;have a0:dd b (a.l.take k)=a.l.take (k+1):=by
   rw[sL λc h=>my (d c h),Qw,h];rfl
  rw[show a.l.take (k+1)=a.l.take k++[b] by rw[Qw,h];rfl,aw.qP,J,I];have w:=n.add F;rw[I]at w;rw[show dd b (a.l.take k)=a.l.take k++[b]from sL λc h=>my (d c h)]at w⊢;exact⟨rfl,w⟩
def aw.Cl.UE(a:F.Cl):(⟨F.n,[]⟩:aw).fr F.l=F:=by
 have:=(a.take (Q4 _)).1;rw[List.take_length]at this;exact this
def CW{a:aj}:∀{l:List aj},(∀x∈l,aW x≠aW a)->dd a l=l.take (posOf (λx=>dQ x a) l)++a::l.drop (posOf (λx=>dQ x a) l)
 |[],_=>rfl
 |x::l,c=>by
  have d:=c x (QV ..);unfold dd posOf;rw[List.takeWhile_cons]
  by_cases b:dQ x a=true
  ·rw[if_pos b,if_neg (by rw[my b];simp)]
   have:=CW (l:=l) λe f=>c e (QJ _ f);rw[this];simp[posOf]
  ·rw[if_neg b,if_pos ((Ev d).resolve_left b)]
   rfl
structure pC (most:Nat) (l:List aj):Prop where
 Oz:Tt l
 ids:(l.map aW).Nodup
 ok:∀e∈l,e.Ok
 le:l.length<=most
def pC.nil(a:Nat):pC a []:=⟨List.Pairwise.nil,sM,sM,Qj _⟩
def pC.add(d:pC a K)(h:o.Ok):pC a (eO a K o).2:=by
 unfold eO;split
 ·exact d
 rename_i f;rw[not_or]at f;have g:∀b∈K,aW b≠aW o:=by
  have:=f.2;simp only[List.any_eq_true,beq_iff_eq,not_exists,not_and]at this;exact this
 have e:=cV o K;refine⟨vI d.Oz g,?_,λb c=>?_,by rw[e.length_eq,Xq];omega⟩
 ·refine(e.map aW).nodup_iff.2 ?_
  rw[QY,List.nodup_cons];exact⟨λi=>by obtain⟨b,c,j⟩:=Xk.1 i;exact g b c j,d.ids⟩
 ·rcases Q2.1 (e.mem_iff.1 c)with rfl|c
  ·exact h
  ·exact d.ok b c
def pC.sub(b:pC a K)(c:e5.Sublist K):pC a e5:=
 ⟨b.Oz.sublist c,b.ids.sublist (c.map aW),λd e=>b.ok d (c.subset e),Xx c.length_le b.le⟩
def rY{b:aw}:∀{a:List aj},(∀e∈a,(b.add e).1≠0)->eC b a=none
 |[],_=>rfl
 |e::a,c=>by
  unfold eC;rw[if_neg (c e (QV ..)),rY λd f=>c d (QJ _ f)];rfl
def rZ{c:aw}:∀{a:List aj} {i:Nat} {e:aj},(∀x∈a.take i,(c.add x).1≠0)->a[i]? =some e->(c.add e).1=0->eC c a=some (e,(c.add e).2,a.eraseIdx i)
 |[],i,e,_,b,_=>by simp at b
 |x::a,0,e,d,b,f=>by
  simp at b;subst b;unfold eC;rw[if_pos f];rfl
 |x::a,i+1,e,d,b,f=>by
  unfold eC;rw[if_neg (d x sM),rZ (i:=i) (e:=e) (λg h=>d g (by simp[h])) (by simpa using b) f]
  rfl
def dv(a:bR)(b:Option Addr)(c d:Nat)(e:Option Addr)(f g:Nat):List Value:=[XH a.kind,XH a.bw,XH a.ng,.slice b c d,.slice e f g]
abbrev gM(a:bR)(b:Option Addr)(c d:Nat)(e:Option Addr)(f g:Nat):Value:=.agg (dv a b c d e f g).toArray
def dT(a:bR)(b:Option Addr)(c d:Nat)(e:Option Addr)(f g:Nat):gH XP 127 (dv a b c d e f g)=true:=kR
def C_(a:bR)(b:Option Addr)(c d:Nat)(e:Option Addr)(f g:Nat):RY (cJ XP 127) (gM a b c d e f g)=true:=kR
section
variable {w w':World} {D E F:Nat->Prop} {m:bR} {va ea:Option Addr} {vn vc en ec N:Nat} {chunk:Int} {p:Nat} {S:aw}
def KC(d:Row aJ 8 w D va vn m.vec)(k:Row jj 96 w E ea en m.events):Calls XP 189 #[gM m va vn vc ea en ec,XH (N:Int)] w (Ok λl w'=>l= XH (gj m N)/\ai w w'):=by
 have v:=d.len;have x:=k.len;have n:=d.dN;refine ER (PA.mk λy e z f=>⟨_,_,_,ae f rfl,al.dec (λo=>Ok.mk ⟨?_,e⟩) (λo=>⟨_,_,_,ae f rfl,al.dB (λp=>Ok.mk ⟨?_,e⟩) (λp=>⟨_,_,_,ae f rfl,λh q w'=>∃a:Nat,q=a/\a<=vn/\h=vn-a/\((m.vec.take a).any λb=>decide (b<0))=false/\ai w w',⟨_,0,rfl,Qj _,rfl,sM,e⟩,?_⟩)⟩)⟩)
 ·unfold gj;rw[if_pos oM]
 ·unfold gj;rw[if_neg oM,if_pos oM]
 rintro h _ _ A ⟨a,rfl,B,rfl,g,c⟩;refine al.dec (λC=>?_) (λF=>Ok.mk ⟨?_,c⟩)
 ·obtain⟨r,s,b,t,i,-,u⟩:=(d.ah c).l_ (i:=a) oM
  refine⟨r,s,t,oM,oM,b,u,al.dec (λj=>Ok.mk ⟨?_,c⟩) (λj=>⟨_,oM,a+1,aq (by unfold aK at n;omega),oM,rfl,?_,c⟩)⟩
  ·unfold gj;rw[if_neg oM,if_neg oM,if_pos (List.any_eq_true.2 ⟨b,QZ i,by simpa using j⟩)]
  ·rw[Qw,i,List.any_append,g];simp;omega
 ·rw[Qz oM]at g
  unfold gj;rw[if_neg oM,if_neg oM,if_neg (by rw[g];simp)]
def xI{e:Type}{a:e->Int}:∀{b:List e} {f:Nat} {c:e},(∀y∈b.take f,a y=0)->b[f]? =some c->a c≠0->cj a b=a c
 |y::b,0,c,_,d,g=>by
  simp at d;subst d;unfold cj;rw[if_pos (by simpa using g)]
 |y::b,f+1,c,h,d,g=>by
  have i:a y=0:=h y sM;unfold cj
  rw[i];simp only[bne_self_eq_false,Bool.false_eq_true,if_false];exact xI (λj k=>h j (QJ _ k)) (by simpa using d) g
def Bt{b:Type}{c:b->Int}:∀{a:List b},(∀y∈a,c y=0)->cj c a=0
 |[],_=>rfl
 |y::a,d=>by
  unfold cj
  rw[d y (QV ..)];simpa using Bt λe f=>d e (QJ _ f)
def KD(u:Row aJ 8 w D va vn m.vec)(j:Row jj 96 w E ea en m.events)(v:N<4611686018427387904):Calls XP 188 #[gM m va vn vc ea en ec,XH (N:Int),XH chunk] w (Ok λx w'=>x= XH (eN m N chunk)/\ai w w'):=by
 have W:=u.len;have X:=j.len;have y:=j.dN;refine EP (PA.mk λY c Z d=>⟨_,_,_,ae d rfl,al.dec (λz=>Ok.mk ⟨?_,c⟩) (λz=>⟨_,_,_,ae d rfl,al.dec (λA=>Ok.mk ⟨?_,c⟩) (λA=>⟨_,_,_,ae d rfl,al.dec (λB=>Ok.mk ⟨?_,c⟩) (λB=>⟨_,_,_,ae d rfl,λo k w'=>∃a:Nat,k=a/\a<=en/\o=en-a/\(∀b∈m.events.take a,cK b N=0)/\ai w w',⟨_,0,rfl,Qj _,rfl,sM,c⟩,?_⟩)⟩)⟩)⟩)
 ·unfold eN;rw[if_pos oM]
 ·unfold eN;rw[if_neg oM,if_pos (.inl oM)]
 ·unfold eN;rw[if_neg oM,if_pos (.inr oM)]
 rintro o _ _ C ⟨a,rfl,hj,rfl,e,f⟩;have p:eN m N chunk=cj (λF=>cK F N) m.events:=by unfold eN;rw[if_neg oM,if_neg oM]
 refine al.dec (λa4=>?_) (λa5=>Ok.mk ⟨?_,f⟩)
 ·obtain⟨q,I,es,J,K,a6,r,g,h,i,rfl,s,L⟩:=(j.ah f).el a m.events[a] (Qq oM)
  have l:m.events[a]? =some m.events[a]:=Qq oM;generalize m.events[a]=b at r s L l;refine⟨q,I,J,oM,oM,bA (es:=aC b g h i) (k:=10) (aV b g h i) rfl (λk M=>r k M) (PA.mk λw3 O s3 P=>az (aV b g h i) P rfl λQ R s4 S=>au (aV b g h i) S ?_)⟩;have n:ai C Q:=O.new R λq K=>.inr oM;refine PC.ok (xB (s.ah n) v) ?_;rintro _ w5 ⟨rfl,t⟩;refine⟨_,rfl,al.dB (λT=>Ok.mk ⟨by rw[p,xI e l T],(f.then n).then t⟩) (λU=>⟨_,oM,a+1,aq (by unfold aK at y;omega),oM,rfl,λV H=>?_,(f.then n).then t⟩)⟩;rw[Qw,l]at H;rcases Q6.1 H with H|H
  ·exact e V H
  ·simp at H;subst H;exact U
 ·rw[Qz oM]at e
  rw[p,Bt e]
def xJ(k:cf w p F S){b a:Int}:Calls XP 78 #[ZQ p,XH b,XH a] w (Ok λl w'=>∃va vn vc G,l=gM (jM S b a) va vn vc none 0 0/\aO aJ 3 G w' va vn vc S.vec/\(∀a,G a->w.heap.size<=a)/\ai w w'):=by
 refine Ck (PA.mk λq h r m=>PC.ok (nj (k.ah h)) ?_);rintro _ s ⟨d,e,f,G,rfl,n,g,i⟩;have t:=g.size;refine⟨_,_,_,rfl,az (dT (jM S b a) d e f none 0 0) (g.get m id) rfl λu j v o=>au (dT (jM S b a) d e f none 0 0) o (Ok.mk ⟨d,e,f,G,rfl,n.af j λa c x=>?_,λa c=>?_,(h.then g).new j λa c=>.inr oM⟩)⟩
 ·have:=i a c;omega
 ·have:=i a c;omega
def HV(k:cf w p F S){b a:Int}:Calls XP 191 #[ZQ p,XH b,XH a] w (Ok λl w'=>∃va vn vc G,l=gM (yP S b a) va vn vc none 0 0/\aO aJ 3 G w' va vn vc S.vec/\(∀a,G a->w.heap.size<=a)/\ai w w'):=by
 refine JU (PA.mk λq h r m=>PC.ok (nj (k.ah h)) ?_);rintro _ s ⟨d,e,f,G,rfl,n,g,i⟩;have t:=g.size;refine⟨_,_,_,rfl,az (dT (yP S b a) d e f none 0 0) (g.get m id) rfl λu j v o=>au (dT (yP S b a) d e f none 0 0) o (Ok.mk ⟨d,e,f,G,rfl,n.af j λa c x=>?_,λa c=>?_,(h.then g).new j λa c=>.inr oM⟩)⟩
 ·have:=i a c;omega
 ·have:=i a c;omega
def DS{cs:Array Value}{c:Nat×Nat}(d:w.heap[a]? =some (.cells cs g c))(f:cs[0]? =some (XH (N:Int))):Calls XP 187 #[XH e,ZQ a] w (Ok λh w'=>h= .bool (decide (0<=e)&&decide (e<N))/\w=w'):=by
 refine Cn (al.dec (λb=>⟨_,ae d f,Ok.mk ⟨?_,rfl⟩⟩) (λb=>Ok.mk ⟨?_,rfl⟩))
 ·rw[decide_eq_true (show 0<=e from b)];rfl
 ·rw[Xv (show¬0<=e from b)];rfl
def Nx(p:Row aJ 8 w D va vn m.vec)(q:Row jj 96 w E ea en m.events)(x:N<4611686018427387904):Calls XP 118 #[gM m va vn vc ea en ec,XH (N:Int),XH chunk] w (Ok λi w'=>i= XH (fl m N chunk)/\ai w w'):=by
 refine Hm (PA.mk λy z K A=>PA.mk λj r L k=>?_);have d:=r.get A id;have a:=z.then r;refine⟨λB w'=>B=(!(decide (0<=m.bw)&&decide (m.bw<N))|| !(decide (0<=m.ng)&&decide (m.ng<N))||m.bw==m.ng)/\j=w',?_,?_⟩
 ·refine⟨_,ae d rfl,_,_,_,rfl,kR,PC.ok (DS (N:=N) k rfl) ?_⟩
  rintro _ _ ⟨rfl,rfl⟩;refine⟨_,rfl,al.not (al.mk (λb=>⟨_,ae d rfl,_,_,_,rfl,kR,PC.ok (DS (N:=N) k rfl) ?_⟩) (λb=>⟨by rw[b];rfl,rfl⟩))⟩;rintro _ _ ⟨rfl,rfl⟩;refine⟨_,rfl,al.not (al.mk (λc=>⟨_,ae d rfl,_,ae d rfl,by rw[b,c];rfl,rfl⟩) (λc=>⟨by rw[b,c];rfl,rfl⟩))⟩
 rintro l _ _ ⟨C,rfl⟩;have g:fl m N chunk=if m.kind=3 then(if l then 1 else eN m N chunk)else if m.kind=1\/m.kind=2\/m.kind=4 then(if l then 1 else gj m N)else 2:=by rw[C];rfl
 have e:∀{s:List PanicEntry->World->Prop},(if l then 1 else gj m N)=fl m N chunk->al l (Ok (λi w'=>i= XH (fl m N chunk)/\ai w w') (.returned (XH 1)) j) (il XP 127 (ZQ w.heap.size) j λF=>(∃(t:Int),j.cell? ⟨y.heap.size,0,none⟩=some (XH t)/\PC XP 189 #[F,XH t] j (λH I=>∃(u:Int),H= XH u/\Ok (λi w'=>i= XH (fl m N chunk)/\ai w w') (.returned (XH u)) I) s)):=λ{s} v=>by
  refine al.mk (λh=>Ok.mk ⟨by rw[<-v,h];rfl,a⟩) (λh=>au (dT m va vn vc ea en ec) d ⟨_,ae k rfl,PC.ok (KC (p.ah a) (q.ah a)) ?_⟩);rintro _ J ⟨rfl,n⟩;exact⟨_,rfl,Ok.mk ⟨by rw[<-v,h];rfl,a.then n⟩⟩
 refine⟨_,ae d rfl,al.dA (λf=>al.not (al.mk (λh=>?_) (λh=>au (dT m va vn vc ea en ec) d ⟨_,ae k rfl,PC.ok (KD (p.ah a) (q.ah a) x) ?_⟩))) (λf=>al.dA (λb=>al.tt (by simpa using b) (e ?_)) (λb=>al.dA (λc=>al.tt (by simpa using c) (e ?_)) (λc=>al.dA (λo=>e ?_) (λo=>Ok.mk ⟨?_,a⟩))))⟩
 ·exact al.tt h (Ok.mk ⟨by rw[g,if_pos f,h];rfl,a⟩)
 ·rintro _ J ⟨rfl,n⟩
  exact⟨_,rfl,Ok.mk ⟨by rw[g,if_pos f,h];rfl,a.then n⟩⟩
 ·rw[g,if_neg f,if_pos (show m.kind=1\/m.kind=2\/m.kind=4 from .inl b)]
 ·rw[g,if_neg f,if_pos (show m.kind=1\/m.kind=2\/m.kind=4 from .inr (.inl c))]
 ·rw[g,if_neg f,if_pos (show m.kind=1\/m.kind=2\/m.kind=4 from .inr (.inr o))]
 ·rw[g,if_neg f,if_neg (by rintro(h|h|h);exact b h;exact c h;exact o h)]
end
structure Ox (w:World) (p:Nat) (M D:Nat->Prop) (most:Nat) (l:List aj) (a:Option Addr) (n c:Nat) (L:List (Bx aj)):Prop where
 at':w.heap[p]? =some (.cells #[XH (most:Int),.slice a n c] 147 (0,0))
 mf:aO ml.jk 63 (λb=>aF a=some b) w a n c L
 map:L.map (·.x)=l
 Ms:∀b∈L,ml.In w D b
 dD:∀b,D b->b<w.heap.size/\¬M b
 mp:M p
 ma:∀b,aF a=some b->M b/\b≠p
 dM:∀b,M b->b<w.heap.size
def fZ(c:World)(d:Nat)(e D:Nat->Prop)(a:Nat)(b:List aj):Prop:=(a<=256/\pC a b)/\∃f g h i,Ox c d e D a b f g h i
section
variable {w w':World} {p:Nat} {M D T E:Nat->Prop} {most:Nat} {l:List aj} {a:Option Addr} {n c:Nat} {L:List (Bx aj)}
def Ox.af(d:Ox w p M D most l a n c L)(f:ak T w w')(g:∀b,M b->¬T b)(h:∀b,D b->¬T b):Ox w' p M D most l a n c L:=
 ⟨f.get d.at' (g _ d.mp),d.mf.af f λb e=>g b (d.ma b e).1,d.map,λb e=>(d.Ms b e).af f h,λb e=>⟨Qk (d.dD b e).1 f.size,(d.dD b e).2⟩,d.mp,d.ma,λb e=>Qk (d.dM b e) f.size⟩
def fZ.af(d:fZ w p M D most l)(e:ak T w w')(f:∀b,M b->¬T b)(g:∀b,D b->¬T b):fZ w' p M D most l:=by
 obtain⟨h,a,n,c,L,d⟩:=d;exact⟨h,a,n,c,L,d.af e f g⟩
def fZ.ah(a:fZ w p M D most l)(b:ai w w'):fZ w' p M D most l:=a.af b (λ_ _ a=>a) λ_ _ a=>a
def sI:jC XP 59 63 ml.jk.k 96:=IV
def Jb(h:0<=e/\e<=256):Calls XP 44 #[XH e] w (Ok λd w'=>∃p,d= ZQ p/\fZ w' p (·=p) (λ_=>False) e.toNat []/\w.heap.size<=p/\p<w'.heap.size/\ai w w'):=by
 refine Er (PA.mk λf g i c=>Ok.mk ⟨w.heap.size,rfl,⟨⟨oM,pC.nil _⟩,none,0,0,[],?_,(aO.nil f).mono (λb a=>a.elim) (λb a=>by cases a),rfl,sM,λb a=>a.elim,rfl,λb a=>(by cases a),λb a=>by have a:b=w.heap.size:=a;omega⟩,Q4 _,oM,g⟩);have:(if(if 256<e then 256 else e)>0 then(if 256<e then 256 else e)else 0)=((e.toNat:Nat):Int):=by split<;>split<;>omega
 rw[this]at c;exact c
def tN(e:fZ w p M D most l):Calls XP 84 #[ZQ p] w (Ok λg w'=>g= .tuple #[]/\fZ w' p M (λ_=>False) most []/\ak M w w'):=by
 obtain⟨h,a,n,c,L,e⟩:=e;refine oA ⟨p,0,rfl,PS.mk e.at' sM λi j k m=>Ok.mk ⟨rfl,⟨⟨h.1,pC.nil _⟩,none,0,0,[],m,(aO.nil i).mono (λd b=>b.elim) (λd b=>by cases b),rfl,sM,λd b=>b.elim,e.mp,λd b=>(by cases b),λd b=>by rw[k];exact e.dM d b⟩,j.mono λd _ f=>by have f:d=p:=f;exact f▸e.mp⟩⟩
def zH{o p:Array Value}(t:enters XP z=true)(d:Nat->World->Prop)(q:Nat->World->Prop)(i:d 0 w)(j:∀b g,d b g->Row ml.jk 96 g E a n L)(u:∀b e g,L[b]? =some e->d b g->Calls XP z (o++ #[jA e.x e.a e.n e.c]++p) g (Ok λh w'=>(h= .bool true/\q b w')\/(h= .bool false/\d (b+1) w'))):
  Calls XP 304 #[.slice a n c,.func (.func z) o p] w (Ok λh w'=>(∃b,b<n/\h= XH (b:Int)/\q b w')\/(h= XH (-1)/\d n w')):=by
 have I:=(j 0 w i).len;have v:=(j 0 w i).dN;unfold aK at v;refine fe ⟨λr k w'=>∃b:Nat,k=b/\b<=n/\r=n-b/\d b w',⟨_,0,rfl,Qj _,rfl,i⟩,?_⟩;rintro r _ _ s ⟨b,rfl,J,rfl,l⟩;refine al.dec (λK=>?_) (λM=>?_)
 ·have x:b<L.length:=oM
  have m:L[b]? =some L[b]:=Qq x;generalize L[b]=f at m;obtain⟨e,y,N,A,O,P,B,rfl,-⟩:=(j b s l).el b f m;refine⟨e,y,A,oM,oM,bA (es:=aC f.x f.a f.n f.c) (k:=10) (aV _ _ _ _) rfl (λk C=>by rw[Qx];exact B k C) ⟨_,_,_,rfl,t,PC.ok (u b f s m l) ?_⟩⟩;rintro _ Q (⟨rfl,F⟩|⟨rfl,H⟩)
  ·exact⟨_,rfl,al.tt rfl (Ok.mk (.inl ⟨b,oM,rfl,F⟩))⟩
  ·exact⟨_,rfl,al.ff rfl ⟨_,oM,b+1,aq oM,oM,rfl,H⟩⟩
 ·obtain rfl:b=n:=oM
  exact Ok.mk (.inr ⟨rfl,l⟩)
def GK{f g:Nat}{b:Nat}{h i:Nat}{j:Nat×Nat}(c:w.heap[b]? =some (.cells (aC N r h i).toArray 63 j)):
  Calls XP 296 #[jA o d f g,ZQ b] w (Ok λk w'=>k= .bool (aW o==aW N)/\ai w w'):=by
 refine oB (PA.mk λl a m e=>⟨_,_,ae e rfl,ae e rfl,_,_,ae (a.get c id) rfl,ae (a.get c id) rfl,Lj.eql ⟨_,rfl,Ok.mk ⟨rfl,a⟩⟩⟩)
def Jc(l:Row ml.jk 96 w E a n L)(y:∀b,E b->b<w.heap.size){m:Nat}{r s:Nat}{t:Nat×Nat}(u:w.heap[m]? =some (.cells (aC o d r s).toArray 63 t)):
  Calls XP 295 #[.slice a n c,.func (.func 296) #[] #[ZQ m]] w (Ok λp w'=>p= .bool (L.any λb=>aW b.x==aW o)/\ai w w'):=by
 have z:=l.len;refine eB (PC.ok (zH (E:=E) kR (λg h=>(∀b∈L.take g,(aW b.x==aW o)=false)/\ai w h) (λg h=>(L.any λb=>aW b.x==aW o)=true/\ai w h) ⟨sM,ak.refl _⟩ (λg h i=>l.ah i.2) ?_) ?_)
 ·rintro g b h j ⟨k,e⟩
  refine(GK (e.get u id)).mono ?_;rintro _ A ⟨p,rfl,rfl,q⟩;refine Ok.mk ?_
  cases i:aW b.x==aW o
  ·refine .inr ⟨rfl,λv f=>?_,e.then q⟩
   rw[Qw,j]at f;rcases Q6.1 f with f|f
   ·exact k v f
   ·simp at f;subst f;exact i
  ·exact .inl ⟨rfl,List.any_eq_true.2 ⟨b,QZ j,i⟩,e.then q⟩
 ·rintro _ B (⟨g,C,rfl,x,e⟩|⟨rfl,k,e⟩)
  ·exact⟨_,rfl,Ok.mk ⟨by rw[x,decide_eq_true oM],e⟩⟩
  ·refine⟨_,rfl,Ok.mk ⟨?_,e⟩⟩
   rw[Qz oM]at k;rw[List.any_eq_false.2 λb j=>by rw[k b j];simp]
   rfl
end
section
variable {w w':World} {p:Nat} {M D T E:Nat->Prop} {most:Nat} {l:List aj} {a:Option Addr} {n c:Nat} {L:List (Bx aj)}
def pD{a h:Option Addr}{n c i j:Nat}{w:World}:Calls XP 298 #[jA o a n c,jA N h i j] w (Ok λk w'=>k= XH (rX o N)/\ai w w'):=by
 refine vH (PA.mk λu l v m=>PA.mk λp f x q=>λr s=>⟨λ_=>False,?_⟩);have b:ai p r:=s.af;have d:=b.get (f.get m id) id;have e:=b.get q id;refine⟨_,ae d rfl,_,ae e rfl,id,_,ae d rfl,id,_,ae e rfl,id,_,ae d rfl,id,_,ae e rfl,PC.ok f_ ?_⟩;rintro _ _ ⟨rfl,rfl⟩;refine⟨_,rfl,ak.refl _,PC.ok f_ ?_⟩;rintro _ _ ⟨rfl,rfl⟩;refine⟨_,rfl,ak.refl _,PC.ok f_ ?_⟩;rintro _ _ ⟨rfl,rfl⟩;refine⟨_,rfl,ak.refl _,PA.mk λy g z t=>⟨g,PC.ok (Oy t) ?_⟩⟩;rintro _ _ ⟨rfl,rfl⟩;exact⟨_,rfl,ak.refl _,Ok.mk ⟨by rw[GM],((l.then f).then b).then g⟩⟩
def CV:rX o N<0↔dQ o N=true:=by
 unfold rX
 cases dQ o N
 ·cases dQ N o<;>simp
 ·simp
def BX(y:Row ml.jk 96 w E a n L)(U:Tt (L.map (·.x))){F H:Nat}:
  Calls XP 297 #[.slice a n c,jA o d F H,.func (.func 298) #[] #[]] w (Ok λV w'=>∃b,V= .tuple #[XH ((posOf (λq=>dQ q.x o) L:Nat):Int),.bool b]/\ai w w'):=by
 have hl:=y.len;have W:=y.dN;unfold aK at W;have O:∀{j k:Nat} {e l:Bx aj},L[j]? =some e->L[k]? =some l->j<=k->e=l\/dQ e.x l.x=true:=λ{j k e l} m r b4=>by
  rcases Nat.lt_or_ge j k with h|h
  ·right
   have z:(L.map (·.x))[j]? =some e.x:=by rw[Q9,m];rfl
   have A:(L.map (·.x))[k]? =some l.x:=by rw[Q9,r];rfl
   obtain⟨X,Y⟩:=Qv.1 z;obtain⟨Z,e2⟩:=Qv.1 A;have:=List.pairwise_iff_getElem.1 U j k X Z h;rw[Y,e2]at this;exact this
  ·obtain rfl:j=k:=oM
   rw[m]at r;exact .inl (XJ r)
 refine cR (PA.mk λa4 P b5 Q=>⟨λR j k w'=>∃p f:Nat,j=p/\k=f/\R=f-p/\p<=f/\f<=n/\(∀b e,b<p->L[b]? =some e->dQ e.x o=true)/\(∀b e,f<=b->L[b]? =some e->dQ e.x o=false)/\ai a4 w',
  ⟨_,0,n,rfl,rfl,rfl,oM,oM,λb e i=>oM,λb e i m=>by have:=(Qv.1 m).1;omega,ak.refl _⟩,?_⟩)
 rintro R _ _ _ S ⟨p,f,rfl,rfl,rfl,b6,a5,z,A,t⟩;have u:enters XP 298=true:=kR
 refine al.dec (λb7 a6 a7=>?_) (λb8 a8 a9=>?_)
 ·have B:ai S a6:=a7.af
  have v:=(P.then t).then B;rw[Tq oM];have s:L[(p+f)/2]? =some L[(p+f)/2]:=Qq oM;generalize L[(p+f)/2]=g at s;obtain⟨q,I,es,J,b0,b1,K,rfl,-⟩:=(y.ah v).el _ g s;refine⟨q,I,J,oM,oM,bA (es:=aC g.x g.a g.n g.c) (k:=10) (aV _ _ _ _) rfl (λb i=>by rw[Qx];exact K b i) (au (aV o d F H) ((t.then B).get Q id) ⟨_,_,_,rfl,u,PC.ok pD ?_⟩)⟩;rintro _ b2 ⟨rfl,C⟩;refine⟨_,rfl,al.dec (λM=>⟨_,?_,(p+f)/2+1,f,aq oM,rfl,rfl,oM,a5,λb l i r=>?_,A,(t.then B).then C⟩) (λM=>⟨_,?_,p,(p+f)/2,rfl,rfl,rfl,oM,oM,z,λb l i r=>?_,(t.then B).then C⟩)⟩
  ·omega
  ·have x:=CV.1 M
   rcases O r s oM with rfl|N
   ·exact x
   ·exact sJ N x
  ·omega
  ·have x:¬dQ g.x o=true:=λh=>M (CV.2 h)
   rcases O s r i with rfl|N
   ·simpa using x
   ·cases h4:dQ l.x o
    ·rfl
    ·exact absurd (sJ N h4) x
 ·obtain rfl:p=f:=oM
  have T:ai S a8:=a9.af;have v:=(P.then t).then T;have a3:posOf (λq=>dQ q.x o) L=p:=zF oM (λb e i m=>z b e i m) (λe m=>A p e (Q4 _) m);rw[a3];refine al.dec (λb3=>?_) (λb3=>Ok.mk ⟨false,rfl,v⟩);have s:L[p]? =some L[p]:=Qq oM;generalize L[p]=g at s;obtain⟨q,I,es,J,b0,b1,K,rfl,-⟩:=(y.ah v).el _ g s;refine⟨q,I,J,oM,oM,bA (es:=aC g.x g.a g.n g.c) (k:=10) (aV _ _ _ _) rfl (λb i=>by rw[Qx];exact K b i) (au (aV o d F H) ((t.then T).get Q id) ⟨_,_,_,rfl,u,PC.ok pD ?_⟩)⟩;rintro _ b2 ⟨rfl,C⟩;exact⟨_,rfl,Ok.mk ⟨_,rfl,v.then C⟩⟩
def Tu{g i:Nat}{x:Bx aj}(k:aO ml.jk 63 (λb=>aF a=some b) w a n c L)(l:g<=n)(m:w.heap[i]? =some (.cells (aC x.x x.a x.n x.c).toArray 63 (0,0)))(o:aF a≠some i)(s:L.length<=20000000):
  Calls XP 299 #[.slice a n c,XH (g:Int),.slice (ZX i) 1 1] w (Ok λp w'=>∃e h,p= .slice e (n+1) h/\aO ml.jk 63 (λb=>aF e=some b) w' e (n+1) h (L.take g++x::L.drop g)/\ak (λb=>aF a=some b) w w'/\∀b,aF e=some b->aF a=some b\/w.heap.size<=b):=by
 refine fE (GN.one (c:=ml.jk) (tb:=4) (x:=x) (D:=λ_=>False) sI kR ?_ k l m ⟨rfl,trivial⟩ (λb d=>d.elim) o (by unfold aK;omega) (by unfold maxLen;omega) λe h w' t f q r=>Ok.mk ⟨e,h,rfl,aO.alone f,q,λb d=>?_⟩)
 ·intro j w
  rw[run_callFunc_extern Tryz.func329 kR kR kR (e:=Extern.SlicesOverlaps.overlaps #[59,59] #[4]) kR]
 ·rcases r b (f.self b d)with d|d|d
  ·exact .inl d
  ·exact d.elim
  ·exact .inr d
def Tv{d:Nat}(f:aO ml.jk 63 (λb=>aF a=some b) w a n c L)(g:d<n)(j:n<=20000000):
  Calls XP 305 #[.slice a n c,XH (d:Int),XH (IntKind.wrap .i64 ((d:Int)+1))] w (Ok λh w'=>h= .slice a (n-1) c/\aO ml.jk 63 (λb=>aF a=some b) w' a (n-1) c (L.eraseIdx d)/\ak (λb=>aF a=some b) w w'):=
 fF (Es.one (c:=ml.jk) (tz:=0) sI kR f g (by unfold maxLen;omega) λw' e i=>Ok.mk ⟨rfl,e,i⟩)
def Jd(g:fZ w p M D most l){e:aj}{en ec:Nat}(P:Row aJ 8 w E d en e.aP)(hE:∀b,E b->b<w.heap.size)(he:e.Ok):
  Calls XP 246 #[ZQ p,jA e d en ec] w (Ok λQ w'=>Q= .bool (eO most l e).1/\∃q r,fZ w' p q r most (eO most l e).2/\ak M w w'/\(∀b,q b->M b\/w.heap.size<=b)/\∀b,r b->D b\/w.heap.size<=b):=by
 have b3:=g;obtain⟨C,a,n,c,L,g⟩:=g;have d8:L.length=l.length:=by rw[<-g.map,Q8]
 have hn:n=L.length:=g.mf.len dC;have d9:=g.dM p g.mp;have e0:=C.2.le;have k:(L.any λb=>aW b.x==aW e)=l.any (λj=>aW j==aW e):=by rw[<-g.map,List.any_map];rfl
 refine rf (PA.mk λc6 b4 e1 b5=>λR c7=>⟨λ_=>False,?_⟩);have S:ai c6 R:=c7.af;have o:ai w R:=b4.then S;have T:=o.get g.at' id;have no:(eO most l e)=(false,l)->∀U,ai w U->Ok (λQ w'=>Q= .bool (eO most l e).1/\∃q r,fZ w' p q r most (eO most l e).2/\ak M w w'/\(∀b,q b->M b\/w.heap.size<=b)/\∀b,r b->D b\/w.heap.size<=b) (.returned (.bool false)) U:=λhq U k1=>
  Ok.mk ⟨by rw[hq],M,D,by rw[hq];exact b3.ah k1,ai.af k1,λb f=>.inl f,λb f=>.inl f⟩
 refine⟨p,0,rfl,_,_,_,ae T rfl,p,0,rfl,_,ae T rfl,al.dec (λe2=>no (by unfold eO;rw[if_pos (.inl oM)]) R o) (λe3=>⟨p,0,rfl,id,_,_,_,ae T rfl,ak.refl _,PC.ok (Jc (E:=λb=>aF a=some b) (((g.mf.ah o).row (bytes:=96) dC (by unfold aK;omega))) (λb f=>by have:=(g.mf.aB b f);have:=o.size;omega) (S.get b5 id)) ?_⟩)⟩;rintro _ b6 ⟨rfl,F⟩;refine⟨_,rfl,F,al.mk (λs=>no (by unfold eO;rw[if_pos (.inr (k▸s))]) b6 (o.then F)) (λs=>?_)⟩;have H:=o.then F;have b7:eO most l e=(true,dd e l):=by unfold eO;rw[if_neg (by rw[<-k];rintro(h|h);omega;rw[s]at h;cases h)]
 have c8:∀j∈l,aW j≠aW e:=by
  rw[k]at s;simpa[List.any_eq_false]using s
 have V:=(S.then F).get b5 id;refine⟨_,_,_,ae V rfl,PC.ok (bC (P.ah H) λb f=>by have:=hE b f;have:=H.size;omega) ?_⟩;rintro _ b8 ⟨I,J,K,G,rfl,W,X,Y⟩;have e4:=H.size;have e5:=X.size;refine⟨_,_,_,rfl,PS.mk (X.get V id) (by simp[aC]) λZ a9 e6 c9=>λN b9=>?_⟩;have t:ai Z N:=b9.af;have e7:N.heap.size=Z.heap.size:=by rw[b9.heap]
 have a0:Z.heap[w.heap.size]? =some (.cells (aC e I J K).toArray 63 (0,0)):=c9;have a1:ai w N:=((H.then X).new a9 λb f=>.inr (by have f:b=w.heap.size:=f;omega)).then t;have b0:=g.af a1 (λ_ _ g=>g) λ_ _ g=>g;have c1:Tt (L.map (·.x)):=by rw[g.map];exact C.2.Oz
 refine⟨p,0,rfl,_,_,_,ae b0.at' rfl,au (aV e I J K) (t.get a0 id) (PC.ok (BX (b0.mf.row (bytes:=96) dC (by unfold aK;omega)) c1) ?_)⟩;rintro _ e8 ⟨a4,rfl,d0⟩;refine⟨_,_,rfl,λd1 d2=>⟨λ_=>False,?_⟩⟩;have u:ai N d1:=d0.then d2.af;have a2:=a1.then u;have c3:=b0.af u (λ_ _ g=>g) λ_ _ g=>g;have i:=u.get (t.get a0 id) id;have d7:=zD (λb:Bx aj=>dQ b.x e) L;refine⟨p,0,rfl,id,_,_,_,ae c3.at' rfl,_,_,_,_,_,_,_,_,_,_,_,_,ae i rfl,ae i rfl,ae i rfl,ae i rfl,ae i rfl,ae i rfl,ae i rfl,ae i rfl,ae i rfl,ae i rfl,PA.mk λd3 v e9 d4=>⟨v,?_⟩⟩;have c4:=c3.af v (λ_ _ g=>g) λ_ _ g=>g;have f2:=a2.size;refine PC.ok (Tu (x:=⟨e,I,J,K⟩) c4.mf oM d4 (λe=>by have:=g.mf.aB _ e;omega) oM) ?_;rintro _ f3 ⟨a',c',rfl,a3,x,y⟩;have b1:¬aF a=some p:=λe=>(g.ma p e).2 rfl;have f5:=x.size;refine⟨_,_,_,rfl,p,0,rfl,PS.mk (x.get c4.at' b1) sM λd5 O f6 d6=>?_⟩;have z:ak M w d5:=((ai.af (a2.then v)).then (x.mono λb _ f=>(g.ma b f).1)).then (O.mono λb _ e=>by have e:b=p:=e;exact e▸g.mp);refine Ok.mk ⟨by rw[b7],λb=>M b\/aF a'=some b,λb=>D b\/G b,⟨⟨C.1,C.2.add he⟩,a',n+1,c',L.take (posOf (λb=>dQ b.x e) L)++⟨e,I,J,K⟩::L.drop (posOf (λb=>dQ b.x e) L),d6,?_,?_,?_,?_,.inl g.mp,?_,?_⟩,?_,?_,?_⟩
 ·refine a3.af O λb f e=>?_
  have e:b=p:=e;rcases y b f with h|h
  ·exact b1 (e▸h)
  ·omega
 ·rw[b7]
  have c5:posOf (λj=>dQ j e) l=posOf (λb:Bx aj=>dQ b.x e) L:=by
   unfold posOf;rw[<-g.map,List.takeWhile_map,Q8];rfl
  show _=dd e l;rw[CW c8,c5,Q3,QY,List.map_take,List.map_drop,g.map]
 ·have b2:∀b,G b->b6.heap.size<=b/\b<b8.heap.size:=λb f=>⟨Y b f,W.aB b f⟩
  intro j m;rcases Q6.1 m with m|m
  ·exact((g.Ms j (List.mem_of_mem_take m)).af z λb f=>(g.dD b f).2).mono λb f=>.inl f
  rcases Q2.1 m with rfl|m
  ·refine⟨(((((W.af a9 λb f e=>?_).ah t).ah (u.then v)).af x λb f e=>?_).af O λb f e=>?_).row (bytes:=8) dC (by rw[<-P.len];exact P.dN)|>.mono λb f=>.inr f,he⟩
   ·have e:b=w.heap.size:=e;have:=b2 b f;have:=ax V;omega
   ·have:=g.mf.aB b e;have:=b2 b f;omega
   ·have e:b=p:=e;have:=b2 b f;omega
  ·exact((g.Ms j (List.mem_of_mem_drop m)).af z λb f=>(g.dD b f).2).mono λb f=>.inl f
 ·intro b f
  have hz:b8.heap.size<=d3.heap.size:=by have:=a9.size;have:=t.size;have:=u.size;have:=v.size;omega
  rcases f with f|f
  ·have h:=g.dD b f
   refine⟨by have:=z.size;omega,λA=>A.elim h.2 λe=>?_⟩;rcases y b e with B|B
   ·exact h.2 (g.ma b B).1
   ·omega
  ·have h:=W.aB b f;have h3:=Y b f
   have f8:=b4.size;refine⟨by have:=x.size;have:=O.size;omega,λA=>?_⟩;rcases A with A|e
   ·have:=g.dM b A;omega
   rcases y b e with B|B
   ·have:=g.mf.aB b B;omega
   ·omega
 ·intro b f
  refine⟨.inr f,λe=>?_⟩;rcases y b f with h|h
  ·exact b1 (e▸h)
  ·omega
 ·intro b f
  rcases f with f|f
  ·have:=g.dM b f;have:=z.size;omega
  ·have:=a3.aB b f;omega
 ·exact z
 ·intro b f
  rcases f with f|f
  ·exact .inl f
  rcases y b f with h|h
  ·exact .inl (g.ma b h).1
  ·exact .inr oM
 ·intro b f
  rcases f with f|f
  ·exact .inl f
  ·exact .inr (by have:=Y b f;omega)
end
end Go.Proofs.YtjgjkeponbeekaaGreatDoor
namespace Go.ar
open Go
variable{f:Nat->Prop}{d:Option Addr}{h:Program}{j:Type}{g q:TypeId}{b:World}{y:World->Prop}
def aO.Rm{k:Nat}{c:j->List Value}{r:j->Prop}{hl h1}{n l e m a:Nat}{i:List j}{x:j}(o:aO (flat k c r hl h1) q f b d n l i)(B:a<i.length)(C:0<k)(E:r x)(F:d=some ⟨e,m,none⟩)(H:gH h g (c x)=true)(s:∀p,aO (flat k c r hl h1) q f p d n l (i.set a x)->ak (λe=>aF d=some e) b p->p.heap.size=b.heap.size->y p):mg h g (.pointer (some ⟨e,m+a*k,none⟩)) (.agg (c x).toArray) b y:=by
 have M:=o.len C;obtain⟨cs,D,u,I,v⟩:=o.body;have N:cs.length=n*k:=u.length;have O:(a+1)*k<=n*k:=Q0 _ oM;have J:(a+1)*k=a*k+k:=by rw[X7,Nat.one_mul]
 refine u.store (m:=a*k) F H (by rw[hl];omega) λK L w z=>s K ⟨⟨_,D,L,?_,v⟩,o.self,λe t=>by rw[z];exact o.aB e t⟩ w z;have A:=I.af w λe t=>(v e t).2;rw[hl,<-J,show i.set a x=i.take a++[x]++i.drop (a+1) by rw[XQ,List.singleton_append];exact List.set_eq_take_append_cons_drop .. |>.trans (if_pos B)];exact bu.append (bu.append (A.take a) (bu.one ⟨rfl,E⟩)) (A.drop (a+1))
end Go.ar
namespace Go.Proofs.YtjgjkeponbeekaaGreatDoor
open Go.ar
variable{z:FuncId}{a3 f:Nat->Prop}{d:Option Addr}{o:aj}{F:aw}
section
variable {w w':World} {p:Nat} {M D T E:Nat->Prop} {most:Nat} {l:List aj} {a:Option Addr} {n c:Nat} {L:List (Bx aj)}
def Mt{H I:Array Value}{pr:aj->Bool}(J:enters XP z=true)(o:aO ml.jk 63 (λb=>aF a=some b) w a n c L)(hl:L.length<=20000000)(K:∀(b:Bx aj) f,ak (λb=>aF a=some b) w f->Calls XP z (H++ #[jA b.x b.a b.n b.c]++I) f (Ok λs w'=>s= .bool (pr b.x)/\ai f w')):
  Calls XP 302 #[.slice a n c,.func (.func z) H I] w (Ok λs w'=>∃p,s= .slice a p c/\aO ml.jk 63 (λb=>aF a=some b) w' a p c (L.filter λb=>!pr b.x)/\ak (λb=>aF a=some b) w w'):=by
 have hn:=o.len dC;have b6:=o.jT;have q:∀{f:World} {g:List (Bx aj)},aO ml.jk 63 (λb=>aF a=some b) f a n c g->g.length=L.length->Row ml.jk 96 f (λb=>aF a=some b) a n g:=λ{f g} Z b7=>Z.row dC (by unfold aK;omega);refine eY (PC.ok (zH (E:=λb=>aF a=some b) (L:=L) J (λe f=>(∀b∈L.take e,pr b.x=false)/\ai w f) (λe f=>(∀b∈L.take e,pr b.x=false)/\(∀b,L[e]? =some b->pr b.x=true)/\ai w f) ⟨sM,ak.refl _⟩ (λe f h1=>(q o rfl).ah h1.2) ?_) ?_)
 ·rintro e b f i ⟨j,A⟩
  refine(K b f (ai.af A)).mono ?_;rintro _ w2 ⟨s,rfl,rfl,M⟩;refine Ok.mk ?_
  cases N:pr b.x
  ·refine .inr ⟨rfl,λO h=>?_,A.then M⟩
   rw[Qw,i]at h;rcases Q6.1 h with h|h
   ·exact j O h
   ·simp at h;subst h;exact N
  ·exact .inl ⟨rfl,j,λO h=>by rw[i]at h;cases h;exact N,A.then M⟩
 rintro _ w4 (⟨l,b8,rfl,j,a0,r⟩|⟨rfl,j,r⟩)
 rotate_left
 ·refine⟨_,rfl,al.tt sM (Ok.mk ⟨n,rfl,?_,ai.af r⟩)⟩
  rw[Qz oM]at j;rw[List.filter_eq_self.2 λb i=>by rw[j b i];rfl];exact o.ah r
 have P:L[l]? =some L[l]:=Qq oM;have a8:(L.take (l+1)).filter (λb=>!pr b.x)=L.take l:=by
  rw[Qw,P,List.filter_append,List.filter_eq_self.2 λb i=>by rw[j b i];rfl];simp[a0 _ P]
 refine⟨_,rfl,al.ff sM ⟨λp m e w'=>∃(B k:Nat) (g:List (Bx aj)),m=B/\e=k/\B<k/\k<=n/\p=n-k/\aO ml.jk 63 (λb=>aF a=some b) w' a n c g/\g.length=L.length/\g.take B=(L.take k).filter (λb=>!pr b.x)/\g.drop k=L.drop k/\ak (λb=>aF a=some b) w w',
  ⟨_,l,l+1,L,rfl,aq oM,oM,oM,rfl,o.ah r,rfl,a8.symm,rfl,ai.af r⟩,?_⟩⟩
 rintro p _ _ _ Q ⟨m,e,g,rfl,rfl,b9,c1,rfl,t,C,u,R,v⟩;refine al.dec (λc2=>?_) (λc3=>?_)
 ·have x:L[e]? =some L[e]:=Qq oM
  have S:g[e]? =some L[e]:=by
   have:=congrArg (·[0]?) R;simp only[List.getElem?_drop,Nat.add_zero]at this;rw[this,x]
  have T:g.drop (e+1)=L.drop (e+1):=by
   have:=congrArg (List.drop 1) R
   rwa [List.drop_drop,List.drop_drop]at this
  generalize L[e]=d at x S;obtain⟨b,U,es,E,c4,c5,a9,rfl,-⟩:=(q t C).el e d S;refine⟨b,U,E,oM,oM,bA (es:=aC d.x d.a d.n d.c) (k:=10) (aV _ _ _ _) rfl (λa1 ht=>by rw[Qx];exact a9 a1 ht) (PA.mk λc6 b0 c7 b1=>az (aV d.x d.a d.n d.c) b1 rfl λV b2 c8 W=>au (aV d.x d.a d.n d.c) W ⟨_,_,_,rfl,J,?_⟩)⟩;have X:ai Q V:=b0.new b2 λb i=>.inr (by have i:b=Q.heap.size:=i;omega);refine PC.ok (K d V (v.ah X)) ?_;rintro _ c9 ⟨rfl,Y⟩;have y:=X.then Y;refine⟨_,rfl,al.not (al.mk (λF=>⟨_,?_,m,e+1,g,rfl,aq oM,oM,oM,rfl,t.ah y,C,?_,T,v.ah y⟩) (λF=>?_))⟩
  ·omega
  ·rw[u,Qw,x,List.filter_append]
   simp[F]
  ·refine au (aV d.x d.a d.n d.c) (Y.get W id) ⟨b,U,E,oM,oM,?_⟩
   rw[Qx];refine aO.Rm (x:=d) (k:=10) (t.ah y) oM dC trivial E (aV d.x d.a d.n d.c) λd0 a7 b3 d1=>⟨_,?_,m+1,e+1,g.set m d,aq oM,aq oM,oM,oM,rfl,a7,by simpa using C,?_,?_,(v.ah y).then b3⟩
   ·omega
   ·rw[Qw (l:=L),x,List.filter_append,<-u,Qw,List.getElem?_set_self oM,List.take_set_of_le (Q4 _)]
    simp[F]
   ·rw[List.drop_set_of_lt oM,T]
 ·obtain rfl:e=n:=oM
  rw[Qz (l:=L) oM]at u;refine⟨oM,oM,?_⟩;rw[Qx];refine zv sI kR t oM λvC b4 b5 d2=>⟨oM,oM,Ok.mk ⟨m,rfl,?_,v.then b5⟩⟩
  rw[<-u];exact b4
def Mu{b c:Nat}(l:cf w b f F)(m:w.heap[c]? =some (.cells #[ZQ b] 102 (0,0))){n p:Nat}:
  Calls XP 300 #[jA o d n p,ZQ c] w (Ok λq w'=>q= .bool (F.get (aW o)).isSome/\ai w w'):=by
 refine mq (PA.mk λx a y e=>⟨_,ae (a.get m id) rfl,_,_,ae e rfl,ae e rfl,PC.ok (Rn (l.ah a) (aW o)) ?_⟩);rintro _ r ⟨g,h,i,G,rfl,z,A,j⟩;exact bN (ri _ g h i) ⟨_,rfl,PA.mk λB s C t=>az (aV _ g h i) t rfl λE u H I=>Ok.mk ⟨rfl,((a.then j).then s).new u λv k=>.inr (by have k:v=r.heap.size:=k;have:=a.size;have:=j.size;omega)⟩⟩
def Mv{g i:Nat}(m:cf w g f F)(n:w.heap[i]? =some (.cells #[ZQ g] 102 (0,0))){h j:Nat}(p:Row aJ 8 w a3 d h o.aP)(k:∀a,a3 a->a<w.heap.size/\¬f a)(q:o.Ok)(u:F.l.length<=20000000):
  Calls XP 303 #[jA o d h j,ZQ i] w (Ok λr w'=>r= .bool (decide ((F.add o).1=0))/\∃c,cf w' g c (F.add o).2/\bK f w c w'):=by
 refine mr (PA.mk λv b x s=>⟨_,ae (b.get n id) rfl,au (aV o d h j) s (PC.ok (tO (m.ah b) (p.ah b) (λa e=>⟨by have:=(k a e).1;omega,(k a e).2⟩) q oM) ?_)⟩);rintro _ y ⟨rfl,c,t,l⟩;have:=b.size;exact⟨_,rfl,Ok.mk ⟨by congr 1,c,t,(ai.af b).then l.af,λa e=>(l.new a e).imp id oM⟩⟩
end
end Go.Proofs.YtjgjkeponbeekaaGreatDoor

