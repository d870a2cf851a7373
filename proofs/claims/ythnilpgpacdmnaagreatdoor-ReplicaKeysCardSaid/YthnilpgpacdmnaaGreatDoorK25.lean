import Derived.Test.YthnilpgpacdmnaaGreatDoorK24
namespace Go.Proofs.YthnilpgpacdmnaaGreatDoor
open Go.au
set_option linter.unusedVariables false
set_option maxRecDepth 20000
section
variable {w w':World} {p:Nat} {F T D:Nat->Prop} {d:aM} {every:Nat} {l l2:List aj}
theorem Nl {d:aM} {ta pa:Option Addr} {tn tc pn pc:Nat} {ev:Int} (o:cO d=0) (h4:aK ev) (hT:eu w) (q:aW w D d ta tn pa pn) (hD:∀a,D a->a<w.heap.size):
  Calls Tryz.prog 55 #[.agg #[.slice ta tn tc,.slice pa pn pc],.int .i64 ev] w (Ok λe2 w'=>∃p F,e2= .pointer (some ⟨p,0,none⟩)/\cJ w' p F d (max 1 ev).toNat []/\(∀a,F a->w.heap.size<=a)/\ai w w'):=by
 have h5:=q.aT.len;have X:=q.aT.dt;have h6:=q.yF.len;have h7:=q.yF.dt;have e5:d.projs.length<=8:=(uX (jC o).1).2.2.1;obtain⟨every,e6⟩:∃every:Nat,every=(max 1 ev).toNat:=⟨_,rfl⟩
 have e7:(if ev>1 then ev else 1)=(every:Int):=by split<;>omega
 have c0:0<every/\every<9223372036854775808:=by unfold aK at h4;omega
 rw [<-e6];refine Bt ?_;rw [e7];refine PA.mk λw1 k1 s1 g1=>⟨_,_,_,ae g1 rfl,PC.ok (oF (q.yF.ah k1) λa B=>by have:=hD a B;omega) ?_⟩
 rintro _ b ⟨j,h,x,y,rfl,Y,k8,h8⟩;have z8:=k8.size;refine⟨_,_,_,rfl,PA.mk λc1 Z l4 h9=>?_⟩;have e8:ai w c1:=(k1.then k8).then Z;have ga:=Z.get (k8.get g1 id) id;have l5:=Z.size;refine⟨_,_,_,ae ga rfl,λr J w'=>∃c:Nat,J=c/\c<=tn/\r=tn-c/\ak (·=b.heap.size) c1 w'/\∃s t K m,w'.heap[b.heap.size]? =some (.cells #[.slice s t K,.slice j h x,.int .i64 (every:Int),.slice none 0 0,.pointer none,.slice none 0 0,.slice none 0 0] 194 (0,0))/\aO jE 107 m w' s t K (d.types.take c)/\∀a,m a->c1.heap.size<=a,
  ⟨_,0,rfl,Qj _,rfl,ak.refl _,none,0,0,λ_=>False,h9,aO.nil _,λ_ q=>q.elim⟩,?_⟩
 rintro r _ _ z ⟨c,rfl,hj,rfl,kk,s,t,K,m,L,u,M⟩;have a7:ai w z:=e8.new kk λa B=>.inr oM;have zk:=kk.size;refine al.dec (λl6=>?_) (λl7=>?_)
 ·have d9:c<d.types.length:=oM
  obtain⟨a,a4,es,ha,B,i0,e9,fa,fn,fc,rfl,a8⟩:=(q.aT.ah a7).el c d.types[c] (by simp [d9]);have e0:d.types[c]? =some d.types[c]:=Qq d9;generalize d.types[c]=a0 at a8 e0;have c2:=e9 0 dC;have i1:jE.k=1:=rfl;rw [i1,Nat.mul_one]at c2;refine⟨a,a4,ha,oM,oM,fa,fn,fc,by rw [Qx];exact c2,PA.mk λl8 i2 l9 i3=>PS.mk i3 sM λe1 i4 m0 i5=>⟨_,_,_,ae i5 rfl,?_⟩⟩;have a1:ai z e1:=i2.new i4 λa B=>.inr oM;have f0:=a7.then a1;obtain⟨E,l1,l2,l3⟩:=eg.boxes (N:=Io) a8;have c4:=a8.dt;refine PC.ok (oG (l2.ah a1) λa B=>by have:=hD a B;have:=f0.size;omega) ?_;rintro _ e3 ⟨a9,N,f1,F9,rfl,b0,e4,i6⟩;have m1:=a1.size;have m2:=e4.size;have a2:∀a,aF a9=some a->e1.heap.size<=a:=λa B=>i6 a (b0.self a B);have f3:∀a,aF a9=some a->a<e3.heap.size:=λa B=>b0.aC a (b0.self a B);refine⟨_,_,_,rfl,λr J w'=>∃c:Nat,J=c/\c<=N/\r=N-c/\dF Io 110 e3 a9 N f1 E c w',⟨_,0,rfl,Qj _,rfl,dF.start b0.alone⟩,?_⟩;rintro r _ _ i7 ⟨f,rfl,i,rfl,A⟩;have m3:=A.len;have m4:E.length=a0.length:=by rw [<-l1];simp
  have i8:=a8.len;have O:ai z i7:=(a1.then e4).new A.af λa B=>.inr (by have:=a2 a B;omega);have m5:=A.af.size;refine al.dec (λf4=>?_) (λf5=>?_)
  ·obtain⟨a3,rfl⟩:=A.some oM
   have f6:=f3 a3 rfl;have a5:E[f]? =some E[f]:=Qq oM;have P:=l3 E[f] (XY oM);generalize E[f]=bx at a5 P;refine⟨a3,0,rfl,oM,oM,_,_,_,A.cell rfl a5 (by show N*4<=aI;unfold aI at c4⊢;omega) 3 _ rfl,PC.ok (rR (P.1.ah O) λa B=>by have:=hD a B;have:=(a7.then O).size;omega) ?_⟩;rintro _ m6 ⟨m7,m8,m9,G,rfl,c3,i9,l⟩;refine⟨_,_,_,rfl,a3,0,rfl,oM,oM,?_⟩;refine(A.ah i9).step (g:=a3) rfl a5 (c3.row (bytes:=32) dC ?_) P.2 (λv H=>⟨by have:=l v H;omega,c3.aC v H⟩) f6 λn0 f7 n1 n2=>⟨_,?_,f+1,aq (by unfold aI at c4;omega),oM,rfl,f7⟩
   ·have g:=P.1.dt
    have n:=P.1.len;show bx.x.bh.length*32<=aI;have n3:bx.n=bx.x.bh.length:=n;have n4:bx.n*32<=aI:=g;omega
   ·omega
  ·obtain rfl:f=N:=oM
   obtain⟨Fd,o,c6⟩:=A.done;rw [l1,FR]at o;have c5:=O.get L id;refine⟨b.heap.size,0,rfl,_,_,_,ae c5 rfl,FT (c:=jE) (x:=a0) (u.ah O) Ko (D:=Fd) ⟨_,_,_,rfl,o.row dC (by rw [<-i8];exact c4)⟩ (λa B=>⟨o.aC a B,λe=>?_⟩) ?_ ?_ λa' Q n8 F' f8 c7 f2 k9=>⟨_,_,_,rfl,b.heap.size,0,rfl,?_⟩⟩
   ·have g:=u.aC a (u.self a e)
    rcases c6 a B with n|n
    ·have:=a2 a n;omega
    ·omega
   ·have:=List.length_take_le c d.types;unfold aI at X⊢;omega
   ·have:=List.length_take_le c d.types;unfold aI at X;unfold maxLen;omega
   ·have j0:¬aF s=some b.heap.size:=λe=>by have:=M _ (u.self _ e);omega
    have j1:=c7.get c5 j0;have o0:=c7.size;refine PS.mk j1 sM λo1 g0 o2 j2=>⟨_,?_,c+1,aq (by unfold aI at X;omega),oM,rfl,?_,a',t+1,Q,F',j2,?_,?_⟩
    ·omega
    ·exact((kk.ah O).new c7 λa B=>.inr (M _ (u.self a B))).then g0
    ·rw [Qw,e0]
     refine f8.af g0 λa B e=>?_;rcases f2 a B with g|g|g
     ·have:=M a g;omega
     ·rcases c6 a g with n|n
      ·have:=a2 a n;omega
      ·omega
     ·omega
    ·intro a B
     rcases f2 a B with g|g|g
     ·exact M a g
     ·rcases c6 a g with n|n
      ·have:=a2 a n;omega
      ·omega
     ·omega
 ·obtain rfl:c=tn:=oM
  rw [Qz oM]at u;have g2:=(Y.ah Z).af kk λa B e=>by have:=Y.aC a B;omega
  have o3:b.heap.size<z.heap.size:=ay L;have g3:aW z (λa=>m a\/y a) d s t j h:=⟨(u.row (bytes:=24) dC (by rw [<-h5];exact X)).mono λa B=>.inl B,(g2.row (bytes:=40) dC (by rw [<-h6];exact h7)).mono λa B=>.inr B⟩
  have C:∀a,m a\/y a->w.heap.size<=a/\a<z.heap.size/\a≠b.heap.size:=λa B=>by
   rcases B with B|B
   ·have:=M a B;have:=u.aC a B;omega
   ·have:=h8 a B;have:=Y.aC a B;omega
  refine⟨b.heap.size,0,rfl,_,_,_,_,_,_,ae L rfl,ae L rfl,PC.ok (FU o g3 λa B=>(C a B).2.1) ?_⟩;rintro _ j3 ⟨vp,R,rfl,hv,b1,b2⟩;have o4:=b2.size;have g4:=hv.aC;refine⟨_,rfl,b.heap.size,0,rfl,PS.mk (b2.get L id) sM λS c8 o5 g5=>⟨b.heap.size,0,rfl,_,_,_,ae g5 rfl,?_⟩⟩;have l0:=Y.len dC;have c9:aW S (λa=>m a\/y a) d s t j h:=(g3.ah b2).af c8 λa B e=>(C a B).2.2 e;have g6:cd S vp R (aU.new d):=hv.af c8 λa B e=>by have e:a=b.heap.size:=e;have:=b1 a B;omega
  refine⟨λr J w'=>∃(c:Nat) (ra:Option Addr) (T rc:Nat) (G:Nat->Prop),J=c/\c<=h/\r=h-c/\ak (·=b.heap.size) S w'/\w'.heap[b.heap.size]? =some (.cells #[.slice s t K,.slice j h x,.int .i64 (every:Int),.slice none 0 0,.pointer (some ⟨vp,0,none⟩),.slice ra T rc,.slice none 0 0] 194 (0,0))/\
   cf w' G ra T rc ((d.projs.take c).map λp=>(⟨p,[]⟩:dh))/\∀a,G a->S.heap.size<=a/\a<w'.heap.size,⟨_,0,none,0,0,λ_=>False,rfl,Qj _,rfl,ak.refl _,g5,cf.nil _,λa B=>B.elim⟩,?_⟩
  rintro r _ _ b3 ⟨f,ra,T,rc,G,rfl,i,rfl,I,d0,b4,l⟩;have o6:=I.size;refine al.dec (λf4=>?_) (λf5=>?_)
  ·have j4:f<d.projs.length:=oM
   have H:d.projs[f]? =some d.projs[f]:=Qq j4;generalize d.projs[f]=v at H;obtain⟨a,a4,es,a6,d5,i0,b5,rfl,d6⟩:=(c9.af I λa B e=>(C a B).2.2 e).yF.el f v H;refine⟨a,a4,a6,oM,oM,bq (es:=mD v) (k:=5) (oC v) rfl (λa0 ht=>by rw [Qx];exact b5 a0 ht) (PA.mk λo7 j5 o8 j6=>az (oC v) j6 rfl λo9 j7 p0 j8=>λj9 g7=>⟨λ_=>False,b.heap.size,0,rfl,id,?_⟩)⟩;have d1:ai b3 j9:=(j5.new j7 λa B=>.inr (by have B:a=b3.heap.size:=B;omega)).then g7.af;refine⟨_,_,_,ae (d1.get d0 id) rfl,ar (oC v) ((g7.af (S:=λ_=>False)).get j8 id) (PC.ok Nn ?_)⟩;rintro _ p1 ⟨p',r',rfl,d2,p2,p3,p4,p5,d3⟩;have k0:p'≠r':=λe=>by
    obtain⟨es,cl,hm,-⟩:=d2.map.at';have:=d2.at';rw [e,hm]at this;cases this
   have p6:=d3.size;have p7:=d1.size;refine⟨_,rfl,d3,PA.mk λp8 d4 p9 k2=>⟨d4,?_⟩⟩;have b6:=(d1.then d3).then d4;have k3:=b4.len;rw [Q8,Qy,X2 oM]at k3;refine(b4.ah b6).push (λa B=>by have:=(l a B).2;omega) (d2.ah d4) (λB=>by have:=(l _ B).2;omega) (λB=>by have:=(l _ B).2;omega) k0 Nf k2 (by rw [Q8,Qy];omega) λf9 g9 q0 G3 k4 g8 k5 h1=>⟨_,_,_,rfl,b.heap.size,0,rfl,?_⟩
   have k6:=g8.get (b6.get d0 id) λB=>by have:=(l _ B).1;omega
   have d7:∀a,G3 a->S.heap.size<=a:=λa B=>by
    rcases k5 a B with g|g|g|g
    ·exact(l a g).1
    ·omega
    ·omega
    ·omega
   refine PS.mk k6 sM λq1 h0 q2 k7=>⟨_,?_,f+1,f9,T+1,g9,G3,aq oM,oM,rfl,((I.ah b6).new g8 λa B=>.inr (l a B).1).then h0,k7,?_,λa B=>⟨d7 a B,by have:=h1 a B;omega⟩⟩
   ·omega
   ·rw [Qw,H,Q3]
    exact k4.af h0 λa B e=>by have e:a=b.heap.size:=e;have:=d7 a B;omega
  ·rw [Qz oM]at b4
   have h2:∃U,dB b3 (λa=>∃k,(match k with|0=>a=b.heap.size|1=>m a\/y a|3=>R a|4=>G a|_=>False:Prop)) U b.heap.size ⟨s,t,K,j,h,x,every,none,0,0,vp,ra,T,rc,none,0,0⟩ d (cg d []) (dE d []).rows [] []:=by
    refine bt.join (G:=λk a=>match k with|0=>a=b.heap.size|1=>m a\/y a|3=>R a|4=>G a|_=>False) (λk=>?_) (λf c a i hj=>?_) λk a B=>?_
    ·match k with
     |0=>exact⟨rfl,d0⟩
     |1=>exact c9.af I λa B e=>(C a B).2.2 e
     |2=>exact aO.nil _
     |3=>exact g6.af I λa B e=>by have e:a=b.heap.size:=e;have:=b1 a B;omega
     |4=>exact b4
     |5=>exact aO.nil _
     |k+6=>trivial
    ·have V:∀f:Nat,(match f with|0=>a=b.heap.size|1=>m a\/y a|3=>R a|4=>G a|_=>False:Prop)->f=(if a=b.heap.size then 0 else if a<z.heap.size then 1 else if a<j3.heap.size then 3 else 4):=λf i=>by
      rcases f with _|_|_|_|_|f
      ·have i:a=b.heap.size:=i
       rw [if_pos i]
      ·have:=C a i;rw [if_neg oM,if_pos oM]
      ·exact i.elim
      ·have:=b1 a i;have:=g4 a i;rw [if_neg oM,if_neg oM,if_pos oM]
      ·have:=l a i;rw [if_neg oM,if_neg oM,if_neg oM]
      ·exact i.elim
     rw [V f i,<-V c hj]
    ·rcases k with _|_|_|_|_|k
     ·have B:a=b.heap.size:=B
      omega
     ·have:=C a B;omega
     ·exact B.elim
     ·have:=g4 a B;omega
     ·have:=l a B;omega
     ·exact B.elim
   obtain⟨U,hq⟩:=h2;have b7:ai w b3:=(((a7.then b2).new c8 λa B=>.inr (by have B:a=b.heap.size:=B;omega)).new I λa B=>.inr (by have B:a=b.heap.size:=B;omega))
   have h3:∀a,(∃k,(match k with|0=>a=b.heap.size|1=>m a\/y a|3=>R a|4=>G a|_=>False:Prop))->w.heap.size<=a:=λa ⟨k,B⟩=>by
    rcases k with _|_|_|_|_|k
    ·have B:a=b.heap.size:=B
     omega
    ·exact(C a B).1
    ·exact B.elim
    ·have:=b1 a B;omega
    ·have:=l a B;omega
    ·exact B.elim
   refine PC.ok (Cu hq o (hT.ah b7) sM (by rw [oD];exact e5) sM sM) ?_;rintro _ q3 ⟨rfl,q',F',W,b8,b9,d8⟩;refine⟨rfl,Ok.mk ⟨b.heap.size,F',rfl,⟨⟨o,c0.1,c0.2,sM⟩,q',W,b9,?_⟩,λa B=>?_,b7.new d8.af λa B=>.inr (h3 a B)⟩⟩
   ·rw [No];simpa using b8
   ·rcases d8.new a B with g|g
    ·exact h3 a g
    ·have:=b7.size;omega
end
theorem Kp (g:aM) (b:List aj):∀a∈(dE g b).rows,a.rows.length<=b.length:=by
 have:∀(b:List aj) (c:jj) (d:Nat),(∀a∈c.rows,a.rows.length<=d)->∀a∈(b.foldl jj.add c).rows,a.rows.length<=d+b.length:=by
  intro b
  induction b with
  |nil=>intro c d h a e;exact h a e
  |cons f b m=>
   intro c d h a e;have:=m (c.add f) (d+1) (λi j=>?_) a e
   ·simp only [Xq];omega
   ·obtain⟨k,l,rfl⟩:=Xk.1 (show i∈c.rows.map λa=>a.add (c.view.add f).1 (rb ((c.view.add f).2.state f.aT f.agg) a.p)from j)
    have o:=h k l;unfold dh.add;dsimp only;split
    ·omega
    ·split
     ·omega
     ·exact Xx (wx ..) oM
 intro a e;have:=this b (jj.new g) 0 (λi j=>by
  obtain⟨k,l,rfl⟩:=Xk.1 (show i∈g.projs.map λn=>(⟨n,[]⟩:dh)from j);exact Q4 0) a e
 omega
def gV (b:aM) (c:List aj) (a:Int):List du:=if a<0 then []else match(dE b c).rows[a.toNat]? with
 |none=>[]
 |some d=>d.list
variable{e n:Int}
section
variable {w w':World} {p:Nat} {F T D:Nat->Prop} {d:aM} {every:Nat} {l:List aj}
theorem Ip (s:cJ w p F d every l) :
  Calls Tryz.prog 386 #[.pointer (some ⟨p,0,none⟩),.int .i64 e,.int .i64 n] w (Ok λt w'=>∃c f g G,t= .tuple #[.agg #[.int .i64 (((cg d l).state e n).getD FH).version,.slice c f g],.bool ((cg d l).state e n).isSome]/\aO eP 69 G w' c f g (((cg d l).state e n).getD FH).cells/\(∀a,G a->w.heap.size<=a)/\ai w w'):=by
 obtain⟨z,A,u,rfl,j⟩:=s;refine qz (PA.mk λB h C v=>⟨p,0,rfl,_,ae (dB.ah j h).bg rfl,PC.ok (mC ((dB.ah j h).at' 3)) ?_⟩);rintro _ E ⟨c,f,g,G,rfl,x,k,i⟩;have H:=i.size;refine⟨_,_,_,_,_,rfl,PS.mk (i.get v id) sM λI m J y=>PS.mk y sM λK o L q=>⟨_,_,_,_,ae q rfl,ae q rfl,Ok.mk ⟨c,f,g,G,rfl,?_,λa b=>?_,?_⟩⟩⟩
 ·exact x.af (m.then o) λa b r=>by have r:a=w.heap.size:=r;have:=k a b;omega
 ·have:=k a b;omega
 ·exact(h.then i).new (m.then o) λa b=>.inr (by have b:a=w.heap.size:=b;omega)
theorem DJ (b:cJ w p F d every l):Calls Tryz.prog 384 #[.pointer (some ⟨p,0,none⟩)] w (Ok (oy xt 160 w (cg d l).entries)):=by
 obtain⟨c,j,e,rfl,a⟩:=b;refine nJ ⟨p,0,rfl,_,ae a.bg rfl,PC.ok (DK (a.at' 3) (uY d l c.2.2.2).1) ?_⟩;rintro _ k ⟨f,g,h,G,rfl,i⟩;exact⟨_,_,_,rfl,Ok.mk ⟨f,g,h,G,rfl,i⟩⟩
theorem Lr (k:cJ w p F d every l) :Calls Tryz.prog 385 #[.pointer (some ⟨p,0,none⟩),.int .i64 e] w (Ok λm w'=>oy FV 262 w (gV d l e) m w'/\tg (gV d l e)):=by
 obtain⟨n,C,o,rfl,b⟩:=k;have E:=cf.len (b.at' 4);refine rU (al.dec (λh=>Ok.mk ⟨⟨none,0,0,λ_=>False,rfl,?_,ak.refl _,λq c=>c.elim⟩,?_⟩) (λf=>⟨p,0,rfl,_,_,_,ae b.bg rfl,al.dec (λr=>Ok.mk ⟨⟨none,0,0,λ_=>False,rfl,?_,ak.refl _,λq c=>c.elim⟩,?_⟩) (λr=>?_)⟩))
 ·unfold gV;rw [if_pos h];exact aO.nil _
 ·unfold gV;rw [if_pos h];exact List.Pairwise.nil
 ·unfold gV;rw [if_neg f,Q7 oM];exact aO.nil _
 ·unfold gV;rw [if_neg f,Q7 oM];exact List.Pairwise.nil
 ·obtain⟨a,rfl⟩:∃a:Nat,e=a:=⟨e.toNat,oM⟩
  have g:(dE d l).rows[a]? =some (dE d l).rows[a]:=Qq oM;have i:(dE d l).rows[a]∈(dE d l).rows:=XY oM;have s:gV d l (a:Int)=(dE d l).rows[a].list:=by unfold gV;rw [if_neg f,Qx,g]
  rw [s];generalize(dE d l).rows[a]=t at g i;obtain⟨u,H,I,v,x,j,-⟩:=cf.elem (b.at' 4) g;refine⟨p,0,rfl,_,_,_,ae b.bg rfl,u,0,v,oM,oM,_,by rw [Qx];exact x,PC.ok (Ls j (Xx (Kp d l t i) n.2.2.2)) ?_⟩;rintro _ J ⟨y,z,A,G,rfl,B⟩;exact⟨_,_,_,rfl,Ok.mk ⟨⟨y,z,A,G,rfl,B⟩,j.RR⟩⟩
end
structure aw.Cl (S:aw):Prop where
 ok:S.OK
 iz:∀e∈S.l,∀o,o<S.n->S.iz e o=true
 le:∀e∈S.l,e.seq<=(S.s_ e.origin.toNat:Int)
 has:∀(o:Nat) (s:Int),o<S.n->1<=s->s<=(S.s_ o:Int)->∃e∈S.l,aR e=((o:Int),s)
variable{U r:Array Value}{z:FuncId}{d7:Int×Int}{H e5:List aj}{a:Nat}{F:Nat×Nat}{d:Option Addr}{g:TypeId}{N m:aj}{B:aw}
theorem oP :B.iz m a=true↔m.aN.getD a 0=0\/∃b,B.get ((a:Int),m.aN.getD a 0)=some b/\b.ax<m.ax/\∀c,c<b.aN.length->b.aN.getD c 0<=m.aN.getD c 0:=by
 unfold aw.iz;generalize m.aN.getD a 0=d;dsimp only
 cases e:B.get ((a:Int),d)with
 |none=>simp
 |some b=>simp
theorem aw.Cl.new (b:a<=64):aw.Cl ⟨a,[]⟩:=⟨aw.rV b,sM,sM,λd e _ f c=>by simp [aw.s_]at c;omega⟩
theorem aw.PK (a:aw.OK ⟨B.n,de m B.l⟩) (b:B.get d7=some N):aw.get ⟨B.n,de m B.l⟩ d7=some N:=by
 obtain⟨c,rfl⟩:=aw.get_some b;exact a.get ((cW m B.l).mem_iff.2 (QJ _ c))
theorem aw.ig (a:aw) (b:aj):((a.add b).1≠0/\(a.add b).2=a)\/(a.add b=(0,⟨a.n,de b a.l⟩)/\cD b a.n=0/\a.get (aR b)=none/\b.seq=a.vec.getD b.origin.toNat 0+1/\∀c,c<a.n->a.iz b c=true):=by
 rw [aw.add_def];split
 ·rename_i d;exact .inl ⟨d,rfl⟩
 rename_i e;split
 ·exact .inl ⟨sM,rfl⟩
 rename_i f;split
 ·exact .inl ⟨sM,rfl⟩
 rename_i g;split
 ·exact .inl ⟨sM,rfl⟩
 rename_i h;refine .inr ⟨rfl,by simpa using e,by simpa using f,by simpa using g,?_⟩;simpa [List.any_eq_false]using h
theorem aw.Kv {S:aw} (b:cD m S.n=0) (c:S.get (aR m)=none) (d:m.seq=S.vec.getD m.origin.toNat 0+1) (e:∀a,a<S.n->S.iz m a=true):S.add m=(0,⟨S.n,de m S.l⟩):=by
 rw [aw.add_def,if_neg (by simpa using b),if_neg (by simp [c]),if_neg (by simpa using d),if_neg];simpa [List.any_eq_false]using e
theorem aw.Cl.add {d:aw} (i:d.Cl) {c:aj} (r:c.Ok):(d.add c).2.Cl:=by
 have m:=(aw.yI i.ok r).1;rcases d.ig c with⟨-,h⟩|⟨j,s,z,t,u⟩
 ·rw [h];exact i
 rw [j]at m⊢;simp only at m⊢;obtain⟨A,B,C,-⟩:=lN s;obtain⟨k,n⟩:∃k:Nat,c.origin=k:=⟨c.origin.toNat,oM⟩
 have v:k<d.n:=oM
 rw [n,Qx,d.iA v]at t;have e:∀a,a∈de c d.l↔a=c\/a∈d.l:=λa=>by rw [(cW c d.l).mem_iff,Q2]
 have f:∀a g,d.iz a g=true->aw.iz ⟨d.n,de c d.l⟩ a g=true:=λa g b=>by
  rw [oP]at b⊢;rcases b with b|⟨w,j,h⟩
  ·exact .inl b
  ·exact .inr ⟨w,aw.PK m j,h⟩
 refine⟨m,λa b g l=>?_,λa b=>?_,λg o l j h=>?_⟩
 ·rcases(e a).1 b with rfl|b
  ·exact f _ _ (u g l)
  ·exact f _ _ (i.iz a b g l)
 ·rw [aw.DX]
  rcases(e a).1 b with rfl|b
  ·rw [n,Qx,if_pos rfl];omega
  ·have:=i.le a b
   split<;>omega
 ·rw [aw.DX]at h
  by_cases q:c.origin=(g:Int)
  ·rw [if_pos q]at h
   have x:k=g:=oM
   subst x
   by_cases y:o=c.seq
   ·exact⟨c,(e c).2 (.inl rfl),by simp [aR,n,y]⟩
   ·obtain⟨a,b,p⟩:=i.has k o l j oM
    exact⟨a,(e a).2 (.inr b),p⟩
  ·rw [if_neg q]at h
   obtain⟨a,b,p⟩:=i.has g o l j oM;exact⟨a,(e a).2 (.inr b),p⟩
theorem aw.Ro (a:aw) (b:aj):(a.add b).2.n=a.n:=by
 rcases a.ig b with⟨-,c⟩|⟨d,-⟩
 ·rw [c]
 ·rw [d]
theorem aw.yo (a:aw) (b:aj):(a.add b).2.l.length<=a.l.length+1:=by
 rcases a.ig b with⟨-,c⟩|⟨d,-⟩
 ·rw [c];omega
 ·rw [d];show(de b a.l).length<=_;rw [(cW b a.l).length_eq];simp
theorem aw.qk (a:aw) (b:List aj) (c:aj):a.fe (b++[c])=((a.fe b).add c).2:=by unfold aw.fe;rw [List.foldl_append];rfl
theorem aw.NC (a:aw) (b c:List aj):a.fe (b++c)=(a.fe b).fe c:=by unfold aw.fe;rw [List.foldl_append]
theorem aw.Cl.fe:∀{l:List aj} {S:aw},S.Cl->(∀e∈l,e.Ok)->(S.fe l).Cl
 |[],S,a,_=>a
 |e::l,S,a,b=>aw.Cl.fe (l:=l) (S:=(S.add e).2) (a.add (b e (QV ..))) λc d=>b c (QJ _ d)
theorem aw.ND:∀(b:List aj) (a:aw),(a.fe b).n=a.n
 |[],a=>rfl
 |e::b,a=>(aw.ND b _).trans (a.Ro e)
theorem aw.lH:∀(b:List aj) (a:aw),(a.fe b).l.length<=a.l.length+b.length
 |[],a=>by simp [aw.fe]
 |e::b,a=>by
  have c:=aw.lH b (a.add e).2;have d:=a.yo e;show((a.add e).2.fe b).l.length<=_;simp only [Xq];omega
theorem mG {b:aj}:∀{a:List aj},(∀x∈a,dP b x=false)->de b a=a++[b]
 |[],_=>rfl
 |x::a,c=>by
  unfold de;rw [if_neg (by rw [c x (QV ..)];simp),mG λd e=>c d (QJ _ e)];rfl
theorem aw.Cl.take {a:aw} (i:a.Cl):∀{k:Nat},k<=a.l.length->(⟨a.n,[]⟩:aw).fe (a.l.take k)=⟨a.n,a.l.take k⟩/\aw.Cl ⟨a.n,a.l.take k⟩
 |0,_=>⟨rfl,by simpa using aw.Cl.new i.ok.n⟩
 |k+1,U=>by
  obtain⟨J,n⟩:=aw.Cl.take i (k:=k) oM;have h:a.l[k]? =some a.l[k]:=Qq oM;have o:a.l[k]∈a.l:=XY oM;generalize a.l[k]=b at h o;have x:a.l=a.l.take k++b::a.l.drop (k+1):=by
   conv=>lhs;rw [<-List.take_append_drop k a.l]
   congr 1
   rw [X4 oM]
   congr 1
   have:=Qq (l:=a.l) (i:=k) oM;rw [h]at this;exact(XJ this).symm
  have r:=i.ok.Ns;have j:=i.ok.ids;rw [x]at r j;have g:∀c∈a.l,dP c b=true->c∈a.l.take k:=λc e p=>by
   rw [x]at e;rcases Q6.1 e with e|e
   ·exact e
   rcases Q2.1 e with rfl|e
   ·rw [iB]at p;omega
   ·have K:=(List.pairwise_append.1 r).2.1
    have s:=(List.pairwise_cons.1 K).1 c e;rw [lI s]at p;cases p
  have d:∀c∈a.l.take k,dP c b=true:=λc e=>(List.pairwise_append.1 r).2.2 c e b (QV ..);have y:aw.get ⟨a.n,a.l.take k⟩ (aR b)=none:=by
   cases L:aw.get ⟨a.n,a.l.take k⟩ (aR b)with
   |none=>rfl
   |some c=>
    obtain⟨l,m⟩:=aw.get_some L;rw [Q3,QY,List.nodup_append]at j;exact absurd m (j.2.2 (aR c) (Xk.2 ⟨c,l,rfl⟩) (aR b) (QV ..))
  have z:=i.ok.Ul b o;obtain⟨V,W,M,X,-,-,Y,-,A,-⟩:=lN z;obtain⟨f,t⟩:∃f:Nat,b.origin=f:=⟨b.origin.toNat,oM⟩
  have u:f<a.n:=oM
  have B:∀q,q<a.n->aw.iz ⟨a.n,a.l.take k⟩ b q=true:=λq N=>by
   have:=i.iz b o q N;rw [oP]at this⊢;rcases this with C|⟨c,v,E,P⟩
   ·exact .inl C
   ·obtain⟨l,m⟩:=aw.get_some v
    refine .inr ⟨c,?_,E,P⟩;rw [<-m];exact n.ok.get (g c l (by rw [iB];exact .inl E))
  have F:=i.ok.ok b o;have Q:b.seq=(aw.vec ⟨a.n,a.l.take k⟩).getD b.origin.toNat 0+1:=by
   rw [t,Qx,aw.iA (S:=⟨a.n,a.l.take k⟩) u];have Z:(aw.s_ ⟨a.n,a.l.take k⟩ f:Int)+1<=b.seq:=by
    rcases Int.lt_or_le (aw.s_ ⟨a.n,a.l.take k⟩ f:Int) b.seq with p|O
    ·omega
    ·obtain⟨c,R,S⟩:=n.has f b.seq u M O
     have:=aw.get_none y c R;exact absurd (S.trans (by simp [aR,t])) this
   have O:b.seq<=(aw.s_ ⟨a.n,a.l.take k⟩ f:Int)+1:=by
    have T:nE (b.seq-1)=b.seq-1:=by
     have:=F.seq;exact wrap_i64 (by unfold aK at*;omega)
    rw [T,t,Qx]at A;have:=B f u;rw [oP,A]at this;rcases this with C|⟨c,v,-⟩
    ·omega
    ·obtain⟨l,m⟩:=aw.get_some v
     have s:=n.le c l;have H:c.origin=f/\c.seq=b.seq-1:=by
      have:=m;simp only [aR,Prod.mk.injEq]at this;exact this
     rw [H.1,H.2,Qx]at s;omega
   show b.seq=(aw.s_ ⟨a.n,a.l.take k⟩ f:Int)+1;omega
  have I:=aw.Kv (S:=⟨a.n,a.l.take k⟩) z y Q B;have a0:de b (a.l.take k)=a.l.take (k+1):=by
   rw [mG λc h=>lI (d c h),Qw,h];rfl
  rw [show a.l.take (k+1)=a.l.take k++[b] by rw [Qw,h];rfl,aw.qk,J,I];have w:=n.add F;rw [I]at w;rw [show de b (a.l.take k)=a.l.take k++[b]from mG λc h=>lI (d c h)]at w⊢;exact⟨rfl,w⟩
theorem aw.Cl.Tj (a:B.Cl):(⟨B.n,[]⟩:aw).fe B.l=B:=by
 have:=(a.take (Q4 _)).1;rw [List.take_length]at this;exact this
theorem Cy {a:aj}:∀{l:List aj},(∀x∈l,aR x≠aR a)->de a l=l.take (posOf (λx=>dP x a) l)++a::l.drop (posOf (λx=>dP x a) l)
 |[],_=>rfl
 |x::l,c=>by
  have d:=c x (QV ..);unfold de posOf;rw [List.takeWhile_cons]
  by_cases b:dP x a=true
  ·rw [if_pos b,if_neg (by rw [lI b];simp)]
   have:=Cy (l:=l) λe f=>c e (QJ _ f);rw [this];simp [posOf]
  ·rw [if_neg b,if_pos ((DQ d).resolve_left b)]
   rfl
structure oJ (most:Nat) (l:List aj):Prop where
 Ns:RV l
 ids:(l.map aR).Nodup
 ok:∀e∈l,e.Ok
 le:l.length<=most
theorem oJ.nil (a:Nat):oJ a []:=⟨List.Pairwise.nil,sM,sM,Qj _⟩
theorem oJ.add (d:oJ a H) (h:m.Ok):oJ a (eI a H m).2:=by
 unfold eI;split
 ·exact d
 rename_i f;rw [not_or]at f;have g:∀b∈H,aR b≠aR m:=by
  have:=f.2;simp only [List.any_eq_true,beq_iff_eq,not_exists,not_and]at this;exact this
 have e:=cW m H;refine⟨vd d.Ns g,?_,λb c=>?_,by rw [e.length_eq,Xq];omega⟩
 ·refine(e.map aR).nodup_iff.2 ?_
  rw [QY,List.nodup_cons];exact⟨λi=>by obtain⟨b,c,j⟩:=Xk.1 i;exact g b c j,d.ids⟩
 ·rcases Q2.1 (e.mem_iff.1 c)with rfl|c
  ·exact h
  ·exact d.ok b c
theorem oJ.sub (b:oJ a H) (c:e5.Sublist H):oJ a e5:=
 ⟨b.Ns.sublist c,b.ids.sublist (c.map aR),λd e=>b.ok d (c.subset e),Xx c.length_le b.le⟩
theorem ri {b:aw}:∀{a:List aj},(∀e∈a,(b.add e).1≠0)->ez b a=none
 |[],_=>rfl
 |e::a,c=>by
  unfold ez;rw [if_neg (c e (QV ..)),ri λd f=>c d (QJ _ f)];rfl
theorem rk {c:aw}:∀{a:List aj} {i:Nat} {e:aj},(∀x∈a.take i,(c.add x).1≠0)->a[i]? =some e->(c.add e).1=0->ez c a=some (e,(c.add e).2,a.eraseIdx i)
 |[],i,e,_,b,_=>by simp at b
 |x::a,0,e,d,b,f=>by
  simp at b;subst b;unfold ez;rw [if_pos f];rfl
 |x::a,i+1,e,d,b,f=>by
  unfold ez;rw [if_neg (d x sM),rk (i:=i) (e:=e) (λg h=>d g (by simp [h])) (by simpa using b) f]
  rfl
def bH (a:cN) (b:Option Addr) (c d:Nat) (e:Option Addr) (f g:Nat):List Value:=[.int .i64 a.kind,.int .i64 a.bD,.int .i64 a.oA,.slice b c d,.slice e f g]
abbrev jb (a:cN) (b:Option Addr) (c d:Nat) (e:Option Addr) (f g:Nat):Value:=.agg (bH a b c d e f g).toArray
theorem iJ (a:cN) (b:Option Addr) (c d:Nat) (e:Option Addr) (f g:Nat):gP Tryz.prog 42 (bH a b c d e f g)=true:=kR
theorem TG (a:cN) (b:Option Addr) (c d:Nat) (e:Option Addr) (f g:Nat):Pw (dT Tryz.prog 42) (jb a b c d e f g)=true:=kR
section
variable {w w':World} {D E F:Nat->Prop} {m:cN} {va ea:Option Addr} {vn vc en ec N:Nat} {chunk:Int} {p:Nat} {S:aw}
theorem JG (d:Row aG 8 w D va vn m.vec) (k:Row f_ 96 w E ea en m.events):Calls Tryz.prog 121 #[jb m va vn vc ea en ec,.int .i64 (N:Int)] w (Ok λl w'=>l= .int .i64 (fQ m N)/\ai w w'):=by
 have v:=d.len;have x:=k.len;have n:=d.dt;refine Ej (PA.mk λy e z f=>⟨_,_,_,ae f rfl,al.dec (λo=>Ok.mk ⟨?_,e⟩) (λo=>⟨_,_,_,ae f rfl,al.df (λp=>Ok.mk ⟨?_,e⟩) (λp=>⟨_,_,_,ae f rfl,λh q w'=>∃a:Nat,q=a/\a<=vn/\h=vn-a/\((m.vec.take a).any λb=>decide (b<0))=false/\ai w w',⟨_,0,rfl,Qj _,rfl,sM,e⟩,?_⟩)⟩)⟩)
 ·unfold fQ;rw [if_pos oM]
 ·unfold fQ;rw [if_neg oM,if_pos oM]
 rintro h _ _ A ⟨a,rfl,B,rfl,g,c⟩;refine al.dec (λC=>?_) (λF=>Ok.mk ⟨?_,c⟩)
 ·obtain⟨r,s,b,t,i,-,u⟩:=(d.ah c).kp (i:=a) oM
  refine⟨r,s,t,oM,oM,b,u,al.dec (λj=>Ok.mk ⟨?_,c⟩) (λj=>⟨_,oM,a+1,aq (by unfold aI at n;omega),oM,rfl,?_,c⟩)⟩
  ·unfold fQ;rw [if_neg oM,if_neg oM,if_pos (List.any_eq_true.2 ⟨b,QZ i,by simpa using j⟩)]
  ·rw [Qw,i,List.any_append,g];simp;omega
 ·rw [Qz oM]at g
  unfold fQ;rw [if_neg oM,if_neg oM,if_neg (by rw [g];simp)]
theorem wY {e:Type} {a:e->Int}:∀{b:List e} {f:Nat} {c:e},(∀y∈b.take f,a y=0)->b[f]? =some c->a c≠0->ck a b=a c
 |y::b,0,c,_,d,g=>by
  simp at d;subst d;unfold ck;rw [if_pos (by simpa using g)]
 |y::b,f+1,c,h,d,g=>by
  have i:a y=0:=h y sM;unfold ck
  rw [i];simp only [bne_self_eq_false,Bool.false_eq_true,if_false];exact wY (λj k=>h j (QJ _ k)) (by simpa using d) g
theorem AP {b:Type} {c:b->Int}:∀{a:List b},(∀y∈a,c y=0)->ck c a=0
 |[],_=>rfl
 |y::a,d=>by
  unfold ck
  rw [d y (QV ..)];simpa using AP λe f=>d e (QJ _ f)
theorem JH (u:Row aG 8 w D va vn m.vec) (j:Row f_ 96 w E ea en m.events) (v:N<4611686018427387904):Calls Tryz.prog 120 #[jb m va vn vc ea en ec,.int .i64 (N:Int),.int .i64 chunk] w (Ok λx w'=>x= .int .i64 (eH m N chunk)/\ai w w'):=by
 have W:=u.len;have X:=j.len;have y:=j.dt;refine Ei (PA.mk λY c Z d=>⟨_,_,_,ae d rfl,al.dec (λz=>Ok.mk ⟨?_,c⟩) (λz=>⟨_,_,_,ae d rfl,al.dec (λA=>Ok.mk ⟨?_,c⟩) (λA=>⟨_,_,_,ae d rfl,al.dec (λB=>Ok.mk ⟨?_,c⟩) (λB=>⟨_,_,_,ae d rfl,λo k w'=>∃a:Nat,k=a/\a<=en/\o=en-a/\(∀b∈m.events.take a,cD b N=0)/\ai w w',⟨_,0,rfl,Qj _,rfl,sM,c⟩,?_⟩)⟩)⟩)⟩)
 ·unfold eH;rw [if_pos oM]
 ·unfold eH;rw [if_neg oM,if_pos (.inl oM)]
 ·unfold eH;rw [if_neg oM,if_pos (.inr oM)]
 rintro o _ _ C ⟨a,rfl,hj,rfl,e,f⟩;have p:eH m N chunk=ck (λF=>cD F N) m.events:=by unfold eH;rw [if_neg oM,if_neg oM]
 refine al.dec (λa4=>?_) (λa5=>Ok.mk ⟨?_,f⟩)
 ·obtain⟨q,I,es,J,K,a6,r,g,h,i,rfl,s,L⟩:=(j.ah f).el a m.events[a] (Qq oM)
  have l:m.events[a]? =some m.events[a]:=Qq oM;generalize m.events[a]=b at r s L l;refine⟨q,I,J,oM,oM,bq (es:=aB b g h i) (k:=10) (aV b g h i) rfl (λk M=>r k M) (PA.mk λw3 O s3 P=>az (aV b g h i) P rfl λQ R s4 S=>ar (aV b g h i) S ?_)⟩;have n:ai C Q:=O.new R λq K=>.inr oM;refine PC.ok (wO (s.ah n) v) ?_;rintro _ w5 ⟨rfl,t⟩;refine⟨_,rfl,al.df (λT=>Ok.mk ⟨by rw [p,wY e l T],(f.then n).then t⟩) (λU=>⟨_,oM,a+1,aq (by unfold aI at y;omega),oM,rfl,λV H=>?_,(f.then n).then t⟩)⟩;rw [Qw,l]at H;rcases Q6.1 H with H|H
  ·exact e V H
  ·simp at H;subst H;exact U
 ·rw [Qz oM]at e
  rw [p,AP e]
theorem wZ (j:cj w p F S) :Calls Tryz.prog 61 #[.pointer (some ⟨p,0,none⟩),.int .i64 e,.int .i64 n] w (Ok λk w'=>∃va vn vc G,k=jb (jx S e n) va vn vc none 0 0/\aO aG 3 G w' va vn vc S.vec/\(∀n,G n->w.heap.size<=n)/\ai w w'):=by
 refine BJ (PA.mk λq g r l=>PC.ok (kq (j.ah g)) ?_);rintro _ s ⟨b,c,d,G,rfl,m,f,h⟩;have t:=f.size;refine⟨_,_,_,rfl,az (iJ (jx S e n) b c d none 0 0) (f.get l id) rfl λu i v o=>ar (iJ (jx S e n) b c d none 0 0) o (Ok.mk ⟨b,c,d,G,rfl,m.af i λn a x=>?_,λn a=>?_,(g.then f).new i λn a=>.inr oM⟩)⟩
 ·have:=h n a;omega
 ·have:=h n a;omega
theorem Hn (j:cj w p F S) :Calls Tryz.prog 123 #[.pointer (some ⟨p,0,none⟩),.int .i64 e,.int .i64 n] w (Ok λk w'=>∃va vn vc G,k=jb (yi S e n) va vn vc none 0 0/\aO aG 3 G w' va vn vc S.vec/\(∀n,G n->w.heap.size<=n)/\ai w w'):=by
 refine IK (PA.mk λq g r l=>PC.ok (kq (j.ah g)) ?_);rintro _ s ⟨b,c,d,G,rfl,m,f,h⟩;have t:=f.size;refine⟨_,_,_,rfl,az (iJ (yi S e n) b c d none 0 0) (f.get l id) rfl λu i v o=>ar (iJ (yi S e n) b c d none 0 0) o (Ok.mk ⟨b,c,d,G,rfl,m.af i λn a x=>?_,λn a=>?_,(g.then f).new i λn a=>.inr oM⟩)⟩
 ·have:=h n a;omega
 ·have:=h n a;omega
theorem Dh {cs:Array Value} {c:Nat×Nat} (d:w.heap[a]? =some (.cells cs g c)) (f:cs[0]? =some (.int .i64 (N:Int))):Calls Tryz.prog 119 #[.int .i64 e,.pointer (some ⟨a,0,none⟩)] w (Ok λh w'=>h= .bool (decide (0<=e)&&decide (e<N))/\w=w'):=by
 refine BL (al.dec (λb=>⟨_,ae d f,Ok.mk ⟨?_,rfl⟩⟩) (λb=>Ok.mk ⟨?_,rfl⟩))
 ·rw [decide_eq_true (show 0<=e from b)];rfl
 ·rw [Xv (show¬0<=e from b)];rfl
theorem Mv (p:Row aG 8 w D va vn m.vec) (q:Row f_ 96 w E ea en m.events) (x:N<4611686018427387904):Calls Tryz.prog 63 #[jb m va vn vc ea en ec,.int .i64 (N:Int),.int .i64 chunk] w (Ok λi w'=>i= .int .i64 (eX m N chunk)/\ai w w'):=by
 refine Gt (PA.mk λy z K A=>PA.mk λj r L k=>?_);have d:=r.get A id;have a:=z.then r;refine⟨λB w'=>B=(!(decide (0<=m.bD)&&decide (m.bD<N))|| !(decide (0<=m.oA)&&decide (m.oA<N))||m.bD==m.oA)/\j=w',?_,?_⟩
 ·refine⟨_,ae d rfl,_,_,_,rfl,kR,PC.ok (Dh (N:=N) k rfl) ?_⟩
  rintro _ _ ⟨rfl,rfl⟩;refine⟨_,rfl,al.not (al.mk (λb=>⟨_,ae d rfl,_,_,_,rfl,kR,PC.ok (Dh (N:=N) k rfl) ?_⟩) (λb=>⟨by rw [b];rfl,rfl⟩))⟩;rintro _ _ ⟨rfl,rfl⟩;refine⟨_,rfl,al.not (al.mk (λc=>⟨_,ae d rfl,_,ae d rfl,by rw [b,c];rfl,rfl⟩) (λc=>⟨by rw [b,c];rfl,rfl⟩))⟩
 rintro l _ _ ⟨C,rfl⟩;have g:eX m N chunk=if m.kind=3 then(if l then 1 else eH m N chunk)else if m.kind=1\/m.kind=2\/m.kind=4 then(if l then 1 else fQ m N)else 2:=by rw [C];rfl
 have e:∀{s:List PanicEntry->World->Prop},(if l then 1 else fQ m N)=eX m N chunk->al l (Ok (λi w'=>i= .int .i64 (eX m N chunk)/\ai w w') (.returned (.int .i64 1)) j) (nR Tryz.prog 42 (.pointer (some ⟨w.heap.size,0,none⟩)) j λF=>(∃(t:Int),j.cell? ⟨y.heap.size,0,none⟩=some (.int .i64 t)/\PC Tryz.prog 121 #[F,.int .i64 t] j (λH I=>∃(u:Int),H= .int .i64 u/\Ok (λi w'=>i= .int .i64 (eX m N chunk)/\ai w w') (.returned (.int .i64 u)) I) s)):=λ{s} v=>by
  refine al.mk (λh=>Ok.mk ⟨by rw [<-v,h];rfl,a⟩) (λh=>ar (iJ m va vn vc ea en ec) d ⟨_,ae k rfl,PC.ok (JG (p.ah a) (q.ah a)) ?_⟩);rintro _ J ⟨rfl,n⟩;exact⟨_,rfl,Ok.mk ⟨by rw [<-v,h];rfl,a.then n⟩⟩
 refine⟨_,ae d rfl,al.dJ (λf=>al.not (al.mk (λh=>?_) (λh=>ar (iJ m va vn vc ea en ec) d ⟨_,ae k rfl,PC.ok (JH (p.ah a) (q.ah a) x) ?_⟩))) (λf=>al.dJ (λb=>al.tt (by simpa using b) (e ?_)) (λb=>al.dJ (λc=>al.tt (by simpa using c) (e ?_)) (λc=>al.dJ (λo=>e ?_) (λo=>Ok.mk ⟨?_,a⟩))))⟩
 ·exact al.tt h (Ok.mk ⟨by rw [g,if_pos f,h];rfl,a⟩)
 ·rintro _ J ⟨rfl,n⟩
  exact⟨_,rfl,Ok.mk ⟨by rw [g,if_pos f,h];rfl,a.then n⟩⟩
 ·rw [g,if_neg f,if_pos (show m.kind=1\/m.kind=2\/m.kind=4 from .inl b)]
 ·rw [g,if_neg f,if_pos (show m.kind=1\/m.kind=2\/m.kind=4 from .inr (.inl c))]
 ·rw [g,if_neg f,if_pos (show m.kind=1\/m.kind=2\/m.kind=4 from .inr (.inr o))]
 ·rw [g,if_neg f,if_neg (by rintro(h|h|h);exact b h;exact c h;exact o h)]
end
structure Nq (w:World) (p:Nat) (M D:Nat->Prop) (most:Nat) (l:List aj) (a:Option Addr) (n c:Nat) (L:List (Bx aj)):Prop where
 at':w.heap[p]? =some (.cells #[.int .i64 (most:Int),.slice a n c] 128 (0,0))
 nC:aO oz.jt 60 (λb=>aF a=some b) w a n c L
 map:L.map (·.x)=l
 Lu:∀b∈L,oz.In w D b
 dD:∀b,D b->b<w.heap.size/\¬M b
 mp:M p
 ma:∀b,aF a=some b->M b/\b≠p
 dM:∀b,M b->b<w.heap.size
def fM (c:World) (d:Nat) (e D:Nat->Prop) (a:Nat) (b:List aj):Prop:=(a<=256/\oJ a b)/\∃f g h i,Nq c d e D a b f g h i
section
variable {w w':World} {p:Nat} {M D T E:Nat->Prop} {most:Nat} {l:List aj} {a:Option Addr} {n c:Nat} {L:List (Bx aj)}
theorem Nq.af (d:Nq w p M D most l a n c L) (f:ak T w w') (g:∀b,M b->¬T b) (h:∀b,D b->¬T b):Nq w' p M D most l a n c L:=
 ⟨f.get d.at' (g _ d.mp),d.nC.af f λb e=>g b (d.ma b e).1,d.map,λb e=>(d.Lu b e).af f h,λb e=>⟨Qk (d.dD b e).1 f.size,(d.dD b e).2⟩,d.mp,d.ma,λb e=>Qk (d.dM b e) f.size⟩
theorem fM.af (d:fM w p M D most l) (e:ak T w w') (f:∀b,M b->¬T b) (g:∀b,D b->¬T b):fM w' p M D most l:=by
 obtain⟨h,a,n,c,L,d⟩:=d;exact⟨h,a,n,c,L,d.af e f g⟩
theorem fM.ah (a:fM w p M D most l) (b:ai w w'):fM w' p M D most l:=a.af b (λ_ _ a=>a) λ_ _ a=>a
theorem u_:ix Tryz.prog 40 60 oz.jt.k 96:=FM
theorem Iq (h:0<=e/\e<=256):Calls Tryz.prog 25 #[.int .i64 e] w (Ok λd w'=>∃p,d= .pointer (some ⟨p,0,none⟩)/\fM w' p (·=p) (λ_=>False) e.toNat []/\w.heap.size<=p/\p<w'.heap.size/\ai w w'):=by
 refine DN (PA.mk λf g i c=>Ok.mk ⟨w.heap.size,rfl,⟨⟨oM,oJ.nil _⟩,none,0,0,[],?_,(aO.nil f).mono (λb a=>a.elim) (λb a=>by cases a),rfl,sM,λb a=>a.elim,rfl,λb a=>(by cases a),λb a=>by have a:b=w.heap.size:=a;omega⟩,Q4 _,oM,g⟩);have:(if(if 256<e then 256 else e)>0 then(if 256<e then 256 else e)else 0)=((e.toNat:Nat):Int):=by split<;>split<;>omega
 rw [this]at c;exact c
theorem tj (e:fM w p M D most l):Calls Tryz.prog 72 #[.pointer (some ⟨p,0,none⟩)] w (Ok λg w'=>g= .tuple #[]/\fM w' p M (λ_=>False) most []/\ak M w w'):=by
 obtain⟨h,a,n,c,L,e⟩:=e;refine nK ⟨p,0,rfl,PS.mk e.at' sM λi j k m=>Ok.mk ⟨rfl,⟨⟨h.1,oJ.nil _⟩,none,0,0,[],m,(aO.nil i).mono (λd b=>b.elim) (λd b=>by cases b),rfl,sM,λd b=>b.elim,e.mp,λd b=>(by cases b),λd b=>by rw [k];exact e.dM d b⟩,j.mono λd _ f=>by have f:d=p:=f;exact f▸e.mp⟩⟩
theorem yO (s:enters Tryz.prog z=true) (d:Nat->World->Prop) (o:Nat->World->Prop) (i:d 0 w)
  (j:∀b g,d b g->Row oz.jt 96 g E a n L)
  (t:∀b e g,L[b]? =some e->d b g->Calls Tryz.prog z (r++ #[ji e.x e.a e.n e.c]++U) g (Ok λh w'=>(h= .bool true/\o b w')\/(h= .bool false/\d (b+1) w'))):
  Calls Tryz.prog 255 #[.slice a n c,.func (.func z) r U] w (Ok λh w'=>(∃b,b<n/\h= .int .i64 (b:Int)/\o b w')\/(h= .int .i64 (-1)/\d n w')):=by
 have H:=(j 0 w i).len;have u:=(j 0 w i).dt;unfold aI at u;refine eU ⟨λp k w'=>∃b:Nat,k=b/\b<=n/\p=n-b/\d b w',⟨_,0,rfl,Qj _,rfl,i⟩,?_⟩;rintro p _ _ q ⟨b,rfl,I,rfl,l⟩;refine al.dec (λJ=>?_) (λK=>?_)
 ·have v:b<L.length:=oM
  have m:L[b]? =some L[b]:=Qq v;generalize L[b]=f at m;obtain⟨e,x,M,y,N,O,A,rfl,-⟩:=(j b q l).el b f m;refine⟨e,x,y,oM,oM,bq (es:=aB f.x f.a f.n f.c) (k:=10) (aV _ _ _ _) rfl (λk B=>by rw [Qx];exact A k B) ⟨_,_,_,rfl,s,PC.ok (t b f q m l) ?_⟩⟩;rintro _ P (⟨rfl,C⟩|⟨rfl,F⟩)
  ·exact⟨_,rfl,al.tt rfl (Ok.mk (.inl ⟨b,oM,rfl,C⟩))⟩
  ·exact⟨_,rfl,al.ff rfl ⟨_,oM,b+1,aq oM,oM,rfl,F⟩⟩
 ·obtain rfl:b=n:=oM
  exact Ok.mk (.inr ⟨rfl,l⟩)
theorem Gf {f g:Nat} {b:Nat} {h:Option Addr} {i j:Nat} (c:w.heap[b]? =some (.cells (aB N h i j).toArray 60 F)):
  Calls Tryz.prog 247 #[ji m d f g,.pointer (some ⟨b,0,none⟩)] w (Ok λk w'=>k= .bool (aR m==aR N)/\ai w w'):=by
 refine nN (PA.mk λl a n e=>⟨_,_,ae e rfl,ae e rfl,_,_,ae (a.get c id) rfl,ae (a.get c id) rfl,Kn.eql ⟨_,rfl,Ok.mk ⟨rfl,a⟩⟩⟩)
theorem Ir (l:Row oz.jt 96 w E a n L) (x:∀b,E b->b<w.heap.size) {o:Nat} {r s:Nat} (t:w.heap[o]? =some (.cells (aB m d r s).toArray 60 F)):
  Calls Tryz.prog 246 #[.slice a n c,.func (.func 247) #[] #[.pointer (some ⟨o,0,none⟩)]] w (Ok λp w'=>p= .bool (L.any λb=>aR b.x==aR m)/\ai w w'):=by
 have y:=l.len;refine ey (PC.ok (yO (E:=E) kR (λg h=>(∀b∈L.take g,(aR b.x==aR m)=false)/\ai w h) (λg h=>(L.any λb=>aR b.x==aR m)=true/\ai w h) ⟨sM,ak.refl _⟩ (λg h i=>l.ah i.2) ?_) ?_)
 ·rintro g b h j ⟨k,e⟩
  refine(Gf (e.get t id)).mono ?_;rintro _ z ⟨p,rfl,rfl,q⟩;refine Ok.mk ?_
  cases i:aR b.x==aR m
  ·refine .inr ⟨rfl,λu f=>?_,e.then q⟩
   rw [Qw,j]at f;rcases Q6.1 f with f|f
   ·exact k u f
   ·simp at f;subst f;exact i
  ·exact .inl ⟨rfl,List.any_eq_true.2 ⟨b,QZ j,i⟩,e.then q⟩
 ·rintro _ A (⟨g,B,rfl,v,e⟩|⟨rfl,k,e⟩)
  ·exact⟨_,rfl,Ok.mk ⟨by rw [v,decide_eq_true oM],e⟩⟩
  ·refine⟨_,rfl,Ok.mk ⟨?_,e⟩⟩
   rw [Qz oM]at k;rw [List.any_eq_false.2 λb j=>by rw [k b j];simp]
   rfl
end
section
variable {w w':World} {p:Nat} {M D T E:Nat->Prop} {most:Nat} {l:List aj} {a:Option Addr} {n c:Nat} {L:List (Bx aj)}
theorem oK {a h:Option Addr} {n c i j:Nat} {w:World}:Calls Tryz.prog 249 #[ji m a n c,ji N h i j] w (Ok λk w'=>k= .int .i64 (rf m N)/\ai w w'):=by
 refine vb (PA.mk λu l v o=>PA.mk λp f x q=>λr s=>⟨λ_=>False,?_⟩);have b:ai p r:=s.af;have d:=b.get (f.get o id) id;have e:=b.get q id;refine⟨_,ae d rfl,_,ae e rfl,id,_,ae d rfl,id,_,ae e rfl,id,_,ae d rfl,id,_,ae e rfl,PC.ok fN ?_⟩;rintro _ _ ⟨rfl,rfl⟩;refine⟨_,rfl,ak.refl _,PC.ok fN ?_⟩;rintro _ _ ⟨rfl,rfl⟩;refine⟨_,rfl,ak.refl _,PC.ok fN ?_⟩;rintro _ _ ⟨rfl,rfl⟩;refine⟨_,rfl,ak.refl _,PA.mk λy g z t=>⟨g,PC.ok (Nr t) ?_⟩⟩;rintro _ _ ⟨rfl,rfl⟩;exact⟨_,rfl,ak.refl _,Ok.mk ⟨by rw [Gg],((l.then f).then b).then g⟩⟩
theorem Cx :rf m N<0↔dP m N=true:=by
 unfold rf
 cases dP m N
 ·cases dP N m<;>simp
 ·simp
theorem Bv (y:Row oz.jt 96 w E a n L) (U:RV (L.map (·.x))) {F H:Nat}:
  Calls Tryz.prog 248 #[.slice a n c,ji m d F H,.func (.func 249) #[] #[]] w (Ok λV w'=>∃b,V= .tuple #[.int .i64 ((posOf (λq=>dP q.x m) L:Nat):Int),.bool b]/\ai w w'):=by
 have hl:=y.len;have W:=y.dt;unfold aI at W;have O:∀{j k:Nat} {e l:Bx aj},L[j]? =some e->L[k]? =some l->j<=k->e=l\/dP e.x l.x=true:=λ{j k e l} o r b4=>by
  rcases Nat.lt_or_ge j k with h|h
  ·right
   have z:(L.map (·.x))[j]? =some e.x:=by rw [Q9,o];rfl
   have A:(L.map (·.x))[k]? =some l.x:=by rw [Q9,r];rfl
   obtain⟨X,Y⟩:=Qv.1 z;obtain⟨Z,e2⟩:=Qv.1 A;have:=List.pairwise_iff_getElem.1 U j k X Z h;rw [Y,e2]at this;exact this
  ·obtain rfl:j=k:=oM
   rw [o]at r;exact .inl (XJ r)
 refine cU (PA.mk λa4 P b5 Q=>⟨λR j k w'=>∃p f:Nat,j=p/\k=f/\R=f-p/\p<=f/\f<=n/\(∀b e,b<p->L[b]? =some e->dP e.x m=true)/\(∀b e,f<=b->L[b]? =some e->dP e.x m=false)/\ai a4 w',
  ⟨_,0,n,rfl,rfl,rfl,oM,oM,λb e i=>oM,λb e i o=>by have:=(Qv.1 o).1;omega,ak.refl _⟩,?_⟩)
 rintro R _ _ _ S ⟨p,f,rfl,rfl,rfl,b6,a5,z,A,t⟩;have u:enters Tryz.prog 249=true:=kR
 refine al.dec (λb7 a6 a7=>?_) (λb8 a8 a9=>?_)
 ·have B:ai S a6:=a7.af
  have v:=(P.then t).then B;rw [RT oM];have s:L[(p+f)/2]? =some L[(p+f)/2]:=Qq oM;generalize L[(p+f)/2]=g at s;obtain⟨q,I,es,J,b0,b1,K,rfl,-⟩:=(y.ah v).el _ g s;refine⟨q,I,J,oM,oM,bq (es:=aB g.x g.a g.n g.c) (k:=10) (aV _ _ _ _) rfl (λb i=>by rw [Qx];exact K b i) (ar (aV m d F H) ((t.then B).get Q id) ⟨_,_,_,rfl,u,PC.ok oK ?_⟩)⟩;rintro _ b2 ⟨rfl,C⟩;refine⟨_,rfl,al.dec (λM=>⟨_,?_,(p+f)/2+1,f,aq oM,rfl,rfl,oM,a5,λb l i r=>?_,A,(t.then B).then C⟩) (λM=>⟨_,?_,p,(p+f)/2,rfl,rfl,rfl,oM,oM,z,λb l i r=>?_,(t.then B).then C⟩)⟩
  ·omega
  ·have x:=Cx.1 M
   rcases O r s oM with rfl|N
   ·exact x
   ·exact rY N x
  ·omega
  ·have x:¬dP g.x m=true:=λh=>M (Cx.2 h)
   rcases O s r i with rfl|N
   ·simpa using x
   ·cases h4:dP l.x m
    ·rfl
    ·exact absurd (rY N h4) x
 ·obtain rfl:p=f:=oM
  have T:ai S a8:=a9.af;have v:=(P.then t).then T;have a3:posOf (λq=>dP q.x m) L=p:=yM oM (λb e i o=>z b e i o) (λe o=>A p e (Q4 _) o);rw [a3];refine al.dec (λb3=>?_) (λb3=>Ok.mk ⟨false,rfl,v⟩);have s:L[p]? =some L[p]:=Qq oM;generalize L[p]=g at s;obtain⟨q,I,es,J,b0,b1,K,rfl,-⟩:=(y.ah v).el _ g s;refine⟨q,I,J,oM,oM,bq (es:=aB g.x g.a g.n g.c) (k:=10) (aV _ _ _ _) rfl (λb i=>by rw [Qx];exact K b i) (ar (aV m d F H) ((t.then T).get Q id) ⟨_,_,_,rfl,u,PC.ok oK ?_⟩)⟩;rintro _ b2 ⟨rfl,C⟩;exact⟨_,rfl,Ok.mk ⟨_,rfl,v.then C⟩⟩
theorem RW {g i:Nat} {x:Bx aj} (k:aO oz.jt 60 (λb=>aF a=some b) w a n c L) (l:g<=n) (m:w.heap[i]? =some (.cells (aB x.x x.a x.n x.c).toArray 60 (0,0))) (o:aF a≠some i) (s:L.length<=20000000):
  Calls Tryz.prog 250 #[.slice a n c,.int .i64 (g:Int),.slice (some ⟨i,0,none⟩) 1 1] w (Ok λp w'=>∃e h,p= .slice e (n+1) h/\aO oz.jt 60 (λb=>aF e=some b) w' e (n+1) h (L.take g++x::L.drop g)/\ak (λb=>aF a=some b) w w'/\∀b,aF e=some b->aF a=some b\/w.heap.size<=b):=by
 refine fv (Gh.one (c:=oz.jt) (tb:=4) (x:=x) (D:=λ_=>False) u_ kR ?_ k l m ⟨rfl,trivial⟩ (λb d=>d.elim) o (by unfold aI;omega) (by unfold maxLen;omega) λe h w' t f q r=>Ok.mk ⟨e,h,rfl,aO.alone f,q,λb d=>?_⟩)
 ·intro j w
  rw [run_callFunc_extern Tryz.func297 kR kR kR (e:=Extern.SlicesOverlaps.overlaps #[40,40] #[4]) kR]
 ·rcases r b (f.self b d)with d|d|d
  ·exact .inl d
  ·exact d.elim
  ·exact .inr d
theorem RX {d:Nat} (f:aO oz.jt 60 (λb=>aF a=some b) w a n c L) (g:d<n) (j:n<=20000000):
  Calls Tryz.prog 256 #[.slice a n c,.int .i64 (d:Int),.int .i64 (IntKind.wrap .i64 ((d:Int)+1))] w (Ok λh w'=>h= .slice a (n-1) c/\aO oz.jt 60 (λb=>aF a=some b) w' a (n-1) c (L.eraseIdx d)/\ak (λb=>aF a=some b) w w'):=
 fw (Gi.one (c:=oz.jt) (tz:=0) u_ kR f g (by unfold maxLen;omega) λw' e i=>Ok.mk ⟨rfl,e,i⟩)
theorem Is (g:fM w p M D most l) {e:aj} {en ec:Nat} (P:Row aG 8 w E d en e.aN) (hE:∀b,E b->b<w.heap.size) (he:e.Ok):
  Calls Tryz.prog 189 #[.pointer (some ⟨p,0,none⟩),ji e d en ec] w (Ok λQ w'=>Q= .bool (eI most l e).1/\∃q r,fM w' p q r most (eI most l e).2/\ak M w w'/\(∀b,q b->M b\/w.heap.size<=b)/\∀b,r b->D b\/w.heap.size<=b):=by
 have b3:=g;obtain⟨C,a,n,c,L,g⟩:=g;have d7:L.length=l.length:=by rw [<-g.map,Q8]
 have hn:n=L.length:=g.nC.len dC;have d8:=g.dM p g.mp;have d9:=C.2.le;have k:(L.any λb=>aR b.x==aR e)=l.any (λj=>aR j==aR e):=by rw [<-g.map,List.any_map];rfl
 refine qA (PA.mk λc5 b4 e0 b5=>λR c6=>⟨λ_=>False,?_⟩);have S:ai c5 R:=c6.af;have o:ai w R:=b4.then S;have T:=o.get g.at' id;have no:(eI most l e)=(false,l)->∀U,ai w U->Ok (λQ w'=>Q= .bool (eI most l e).1/\∃q r,fM w' p q r most (eI most l e).2/\ak M w w'/\(∀b,q b->M b\/w.heap.size<=b)/\∀b,r b->D b\/w.heap.size<=b) (.returned (.bool false)) U:=λhq U k1=>
  Ok.mk ⟨by rw [hq],M,D,by rw [hq];exact b3.ah k1,ai.af k1,λb f=>.inl f,λb f=>.inl f⟩
 refine⟨p,0,rfl,_,_,_,ae T rfl,p,0,rfl,_,ae T rfl,al.dec (λe1=>no (by unfold eI;rw [if_pos (.inl oM)]) R o) (λe2=>⟨p,0,rfl,id,_,_,_,ae T rfl,ak.refl _,PC.ok (Ir (E:=λb=>aF a=some b) (((g.nC.ah o).row (bytes:=96) dC (by unfold aI;omega))) (λb f=>by have:=(g.nC.aC b f);have:=o.size;omega) (S.get b5 id)) ?_⟩)⟩;rintro _ b6 ⟨rfl,F⟩;refine⟨_,rfl,F,al.mk (λs=>no (by unfold eI;rw [if_pos (.inr (k▸s))]) b6 (o.then F)) (λs=>?_)⟩;have H:=o.then F;have b7:eI most l e=(true,de e l):=by unfold eI;rw [if_neg (by rw [<-k];rintro(h|h);omega;rw [s]at h;cases h)]
 have c7:∀j∈l,aR j≠aR e:=by
  rw [k]at s;simpa [List.any_eq_false]using s
 have V:=(S.then F).get b5 id;refine⟨_,_,_,ae V rfl,PC.ok (bP (P.ah H) λb f=>by have:=hE b f;have:=H.size;omega) ?_⟩;rintro _ b8 ⟨I,J,K,G,rfl,W,X,Y⟩;have e3:=H.size;have e4:=X.size;refine⟨_,_,_,rfl,PS.mk (X.get V id) (by simp [aB]) λZ a9 e5 c8=>λN b9=>?_⟩;have t:ai Z N:=b9.af;have e6:N.heap.size=Z.heap.size:=by rw [b9.heap]
 have a0:Z.heap[w.heap.size]? =some (.cells (aB e I J K).toArray 60 (0,0)):=c8;have a1:ai w N:=((H.then X).new a9 λb f=>.inr (by have f:b=w.heap.size:=f;omega)).then t;have b0:=g.af a1 (λ_ _ g=>g) λ_ _ g=>g;have c0:RV (L.map (·.x)):=by rw [g.map];exact C.2.Ns
 refine⟨p,0,rfl,_,_,_,ae b0.at' rfl,ar (aV e I J K) (t.get a0 id) (PC.ok (Bv (b0.nC.row (bytes:=96) dC (by unfold aI;omega)) c0) ?_)⟩;rintro _ e7 ⟨a4,rfl,c9⟩;refine⟨_,_,rfl,λd0 d1=>⟨λ_=>False,?_⟩⟩;have u:ai N d0:=c9.then d1.af;have a2:=a1.then u;have c1:=b0.af u (λ_ _ g=>g) λ_ _ g=>g;have i:=u.get (t.get a0 id) id;have d6:=yL (λb:Bx aj=>dP b.x e) L;refine⟨p,0,rfl,id,_,_,_,ae c1.at' rfl,_,_,_,_,_,_,_,_,_,_,_,_,ae i rfl,ae i rfl,ae i rfl,ae i rfl,ae i rfl,ae i rfl,ae i rfl,ae i rfl,ae i rfl,ae i rfl,PA.mk λd2 v e8 d3=>⟨v,?_⟩⟩;have c3:=c1.af v (λ_ _ g=>g) λ_ _ g=>g;have e9:=a2.size;refine PC.ok (RW (x:=⟨e,I,J,K⟩) c3.nC oM d3 (λe=>by have:=g.nC.aC _ e;omega) oM) ?_;rintro _ f2 ⟨a',c',rfl,a3,x,y⟩;have b1:¬aF a=some p:=λe=>(g.ma p e).2 rfl;have g0:=x.size;refine⟨_,_,_,rfl,p,0,rfl,PS.mk (x.get c3.at' b1) sM λd4 O g1 d5=>?_⟩;have z:ak M w d4:=((ai.af (a2.then v)).then (x.mono λb _ f=>(g.ma b f).1)).then (O.mono λb _ e=>by have e:b=p:=e;exact e▸g.mp);refine Ok.mk ⟨by rw [b7],λb=>M b\/aF a'=some b,λb=>D b\/G b,⟨⟨C.1,C.2.add he⟩,a',n+1,c',L.take (posOf (λb=>dP b.x e) L)++⟨e,I,J,K⟩::L.drop (posOf (λb=>dP b.x e) L),d5,?_,?_,?_,?_,.inl g.mp,?_,?_⟩,?_,?_,?_⟩
 ·refine a3.af O λb f e=>?_
  have e:b=p:=e;rcases y b f with h|h
  ·exact b1 (e▸h)
  ·omega
 ·rw [b7]
  have c4:posOf (λj=>dP j e) l=posOf (λb:Bx aj=>dP b.x e) L:=by
   unfold posOf;rw [<-g.map,List.takeWhile_map,Q8];rfl
  show _=de e l;rw [Cy c7,c4,Q3,QY,List.map_take,List.map_drop,g.map]
 ·have b2:∀b,G b->b6.heap.size<=b/\b<b8.heap.size:=λb f=>⟨Y b f,W.aC b f⟩
  intro j m;rcases Q6.1 m with m|m
  ·exact((g.Lu j (List.mem_of_mem_take m)).af z λb f=>(g.dD b f).2).mono λb f=>.inl f
  rcases Q2.1 m with rfl|m
  ·refine⟨(((((W.af a9 λb f e=>?_).ah t).ah (u.then v)).af x λb f e=>?_).af O λb f e=>?_).row (bytes:=8) dC (by rw [<-P.len];exact P.dt)|>.mono λb f=>.inr f,he⟩
   ·have e:b=w.heap.size:=e;have:=b2 b f;have:=ay V;omega
   ·have:=g.nC.aC b e;have:=b2 b f;omega
   ·have e:b=p:=e;have:=b2 b f;omega
  ·exact((g.Lu j (List.mem_of_mem_drop m)).af z λb f=>(g.dD b f).2).mono λb f=>.inl f
 ·intro b f
  have hz:b8.heap.size<=d2.heap.size:=by have:=a9.size;have:=t.size;have:=u.size;have:=v.size;omega
  rcases f with f|f
  ·have h:=g.dD b f
   refine⟨by have:=z.size;omega,λA=>A.elim h.2 λe=>?_⟩;rcases y b e with B|B
   ·exact h.2 (g.ma b B).1
   ·omega
  ·have h:=W.aC b f;have h3:=Y b f
   have g2:=b4.size;refine⟨by have:=x.size;have:=O.size;omega,λA=>?_⟩;rcases A with A|e
   ·have:=g.dM b A;omega
   rcases y b e with B|B
   ·have:=g.nC.aC b B;omega
   ·omega
 ·intro b f
  refine⟨.inr f,λe=>?_⟩;rcases y b f with h|h
  ·exact b1 (e▸h)
  ·omega
 ·intro b f
  rcases f with f|f
  ·have:=g.dM b f;have:=z.size;omega
  ·have:=a3.aC b f;omega
 ·exact z
 ·intro b f
  rcases f with f|f
  ·exact .inl f
  rcases y b f with h|h
  ·exact .inl (g.ma b h).1
  ·exact .inr oM
 ·intro b f
  rcases f with f|f
  ·exact .inl f
  ·exact .inr (by have:=Y b f;omega)
end
end Go.Proofs.YthnilpgpacdmnaaGreatDoor
namespace Go.au
open Go
variable{C a c i l:Nat}{f:Nat->Prop}{d:Option Addr}{h:Program}{j:Type}{g q:TypeId}{b:World}{y:World->Prop}
theorem aO.PB {k:Nat} {e:j->List Value} {p:j->Prop} {hl h1} {m:List j} {x:j} 
  (n:aO (flat k e p hl h1) q f b d a c m) (A:C<m.length) (B:0<k) (E:p x) (F:d=some ⟨i,l,none⟩) (H:gP h g (e x)=true)
  (r:∀o,aO (flat k e p hl h1) q f o d a c (m.set C x)->ak (λi=>aF d=some i) b o->o.heap.size=b.heap.size->y o):xu h g (.pointer (some ⟨i,l+C*k,none⟩)) (.agg (e x).toArray) b y:=by
 have M:=n.len B;obtain⟨cs,D,t,I,u⟩:=n.body;have N:cs.length=a*k:=t.length;have O:(C+1)*k<=a*k:=Q0 _ oM;have J:(C+1)*k=C*k+k:=by rw [X7,Nat.one_mul]
 refine t.store (m:=C*k) F H (by rw [hl];omega) λK L v w=>r K ⟨⟨_,D,L,?_,u⟩,n.self,λi s=>by rw [w];exact n.aC i s⟩ v w;have z:=I.af v λi s=>(u i s).2;rw [hl,<-J,show m.set C x=m.take C++[x]++m.drop (C+1) by rw [XQ,List.singleton_append];exact List.set_eq_take_append_cons_drop .. |>.trans (if_pos A)];exact bu.append (bu.append (z.take C) (bu.one ⟨rfl,E⟩)) (z.drop (C+1))
end Go.au
namespace Go.Proofs.YthnilpgpacdmnaaGreatDoor
open Go.au
set_option linter.unusedVariables false
set_option maxRecDepth 20000
variable{U r:Array Value}{z:FuncId}{a2 f:Nat->Prop}{d:Option Addr}{m:aj}{B:aw}
section
variable {w w':World} {p:Nat} {M D T E:Nat->Prop} {most:Nat} {l:List aj} {a:Option Addr} {n c:Nat} {L:List (Bx aj)}
theorem Lw {pr:aj->Bool} (I:enters Tryz.prog z=true) (o:aO oz.jt 60 (λb=>aF a=some b) w a n c L) (hl:L.length<=20000000)
  (J:∀(b:Bx aj) f,ak (λb=>aF a=some b) w f->Calls Tryz.prog z (r++ #[ji b.x b.a b.n b.c]++U) f (Ok λt w'=>t= .bool (pr b.x)/\ai f w')):
  Calls Tryz.prog 253 #[.slice a n c,.func (.func z) r U] w (Ok λt w'=>∃p,t= .slice a p c/\aO oz.jt 60 (λb=>aF a=some b) w' a p c (L.filter λb=>!pr b.x)/\ak (λb=>aF a=some b) w w'):=by
 have hn:=o.len dC;have b6:=o.jD;have q:∀{f:World} {g:List (Bx aj)},aO oz.jt 60 (λb=>aF a=some b) f a n c g->g.length=L.length->Row oz.jt 96 f (λb=>aF a=some b) a n g:=λ{f g} Z b7=>Z.row dC (by unfold aI;omega);refine eS (PC.ok (yO (E:=λb=>aF a=some b) (L:=L) I (λe f=>(∀b∈L.take e,pr b.x=false)/\ai w f) (λe f=>(∀b∈L.take e,pr b.x=false)/\(∀b,L[e]? =some b->pr b.x=true)/\ai w f) ⟨sM,ak.refl _⟩ (λe f h1=>(q o rfl).ah h1.2) ?_) ?_)
 ·rintro e b f i ⟨j,B⟩
  refine(J b f (ai.af B)).mono ?_;rintro _ w2 ⟨t,rfl,rfl,K⟩;refine Ok.mk ?_
  cases M:pr b.x
  ·refine .inr ⟨rfl,λN h=>?_,B.then K⟩
   rw [Qw,i]at h;rcases Q6.1 h with h|h
   ·exact j N h
   ·simp at h;subst h;exact M
  ·exact .inl ⟨rfl,j,λN h=>by rw [i]at h;cases h;exact M,B.then K⟩
 rintro _ w4 (⟨l,b8,rfl,j,a0,s⟩|⟨rfl,j,s⟩)
 rotate_left
 ·refine⟨_,rfl,al.tt sM (Ok.mk ⟨n,rfl,?_,ai.af s⟩)⟩
  rw [Qz oM]at j;rw [List.filter_eq_self.2 λb i=>by rw [j b i];rfl];exact o.ah s
 have O:L[l]? =some L[l]:=Qq oM;have a8:(L.take (l+1)).filter (λb=>!pr b.x)=L.take l:=by
  rw [Qw,O,List.filter_append,List.filter_eq_self.2 λb i=>by rw [j b i];rfl];simp [a0 _ O]
 refine⟨_,rfl,al.ff sM ⟨λp m e w'=>∃(C k:Nat) (g:List (Bx aj)),m=C/\e=k/\C<k/\k<=n/\p=n-k/\aO oz.jt 60 (λb=>aF a=some b) w' a n c g/\g.length=L.length/\g.take C=(L.take k).filter (λb=>!pr b.x)/\g.drop k=L.drop k/\ak (λb=>aF a=some b) w w',
  ⟨_,l,l+1,L,rfl,aq oM,oM,oM,rfl,o.ah s,rfl,a8.symm,rfl,ai.af s⟩,?_⟩⟩
 rintro p _ _ _ P ⟨m,e,g,rfl,rfl,b9,c0,rfl,u,E,v,Q,x⟩;refine al.dec (λc1=>?_) (λc2=>?_)
 ·have y:L[e]? =some L[e]:=Qq oM
  have R:g[e]? =some L[e]:=by
   have:=congrArg (·[0]?) Q;simp only [List.getElem?_drop,Nat.add_zero]at this;rw [this,y]
  have S:g.drop (e+1)=L.drop (e+1):=by
   have:=congrArg (List.drop 1) Q
   rwa [List.drop_drop,List.drop_drop]at this
  generalize L[e]=d at y R;obtain⟨b,T,es,F,c3,c4,a9,rfl,-⟩:=(q u E).el e d R;refine⟨b,T,F,oM,oM,bq (es:=aB d.x d.a d.n d.c) (k:=10) (aV _ _ _ _) rfl (λa1 ht=>by rw [Qx];exact a9 a1 ht) (PA.mk λc5 b0 c6 b1=>az (aV d.x d.a d.n d.c) b1 rfl λV b2 c7 W=>ar (aV d.x d.a d.n d.c) W ⟨_,_,_,rfl,I,?_⟩)⟩;have X:ai P V:=b0.new b2 λb i=>.inr (by have i:b=P.heap.size:=i;omega);refine PC.ok (J d V (x.ah X)) ?_;rintro _ c8 ⟨rfl,Y⟩;have A:=X.then Y;refine⟨_,rfl,al.not (al.mk (λH=>⟨_,?_,m,e+1,g,rfl,aq oM,oM,oM,rfl,u.ah A,E,?_,S,x.ah A⟩) (λH=>?_))⟩
  ·omega
  ·rw [v,Qw,y,List.filter_append]
   simp [H]
  ·refine ar (aV d.x d.a d.n d.c) (Y.get W id) ⟨b,T,F,oM,oM,?_⟩
   rw [Qx];refine aO.PB (x:=d) (k:=10) (u.ah A) oM dC trivial F (aV d.x d.a d.n d.c) λc9 a7 b3 d0=>⟨_,?_,m+1,e+1,g.set m d,aq oM,aq oM,oM,oM,rfl,a7,by simpa using E,?_,?_,(x.ah A).then b3⟩
   ·omega
   ·rw [Qw (l:=L),y,List.filter_append,<-v,Qw,List.getElem?_set_self oM,List.take_set_of_le (Q4 _)]
    simp [H]
   ·rw [List.drop_set_of_lt oM,S]
 ·obtain rfl:e=n:=oM
  rw [Qz (l:=L) oM]at v;refine⟨oM,oM,?_⟩;rw [Qx];refine yH u_ kR u oM λd1 b4 b5 d2=>⟨oM,oM,Ok.mk ⟨m,rfl,?_,x.then b5⟩⟩
  rw [<-v];exact b4
theorem Lx {b c:Nat} (l:cj w b f B) (n:w.heap[c]? =some (.cells #[.pointer (some ⟨b,0,none⟩)] 82 (0,0))) {o p:Nat}:
  Calls Tryz.prog 251 #[ji m d o p,.pointer (some ⟨c,0,none⟩)] w (Ok λq w'=>q= .bool (B.get (aR m)).isSome/\ai w w'):=by
 refine lF (PA.mk λx a y e=>⟨_,ae (a.get n id) rfl,_,_,ae e rfl,ae e rfl,PC.ok (PD (l.ah a) (aR m)) ?_⟩);rintro _ r ⟨g,h,i,G,rfl,z,A,j⟩;exact bF (qB _ g h i) ⟨_,rfl,PA.mk λC s E t=>az (aV _ g h i) t rfl λF u H I=>Ok.mk ⟨rfl,((a.then j).then s).new u λv k=>.inr (by have k:v=r.heap.size:=k;have:=a.size;have:=j.size;omega)⟩⟩
theorem Ly {g i:Nat} (n:cj w g f B) (o:w.heap[i]? =some (.cells #[.pointer (some ⟨g,0,none⟩)] 82 (0,0))) {h j:Nat}
  (p:Row aG 8 w a2 d h m.aN) (k:∀a,a2 a->a<w.heap.size/\¬f a) (q:m.Ok) (u:B.l.length<=20000000):
  Calls Tryz.prog 254 #[ji m d h j,.pointer (some ⟨i,0,none⟩)] w (Ok λr w'=>r= .bool (decide ((B.add m).1=0))/\∃c,cj w' g c (B.add m).2/\cz f w c w'):=by
 refine lG (PA.mk λv b x s=>⟨_,ae (b.get o id) rfl,ar (aV m d h j) s (PC.ok (tk (n.ah b) (p.ah b) (λa e=>⟨by have:=(k a e).1;omega,(k a e).2⟩) q oM) ?_)⟩);rintro _ y ⟨rfl,c,t,l⟩;have:=b.size;exact⟨_,rfl,Ok.mk ⟨by congr 1,c,t,(ai.af b).then l.af,λa e=>(l.new a e).imp id oM⟩⟩
end
end Go.Proofs.YthnilpgpacdmnaaGreatDoor

