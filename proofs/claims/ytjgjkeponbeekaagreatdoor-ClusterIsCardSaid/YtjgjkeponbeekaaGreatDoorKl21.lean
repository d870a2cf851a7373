import Derived.Test.YtjgjkeponbeekaaGreatDoorKl20
set_option maxHeartbeats 4000000
set_option linter.all false
set_option maxRecDepth 20000
namespace Go.au
open Go Go.WideShapes
variable{K:Bool}{f8:List MemPlace}{a:Nat}{h:Program}{I j:Type}{g:TypeId}{v:Value}{b:World}
def PB{n:TypeId×Value->j}{f:Reach}{d:DataW j}{e:jF I}{i:Array Field}(k:h.underlying g=some (.struct i))(l:Reads h e g)(m:Value.okWide h b f a g v)(o:DataW.Trod n h b 0 (λ_=>true) K g v d f8)(p:lR h g d):∃c cs,v= .agg cs/\e.rep b (In b) c cs.toList:=by
 obtain⟨cs,rfl,-⟩:=okWide_struct k m;obtain⟨P,q⟩:=o;obtain⟨c,r⟩:=l j n b K P cs.toList _ q p;exact⟨c,cs,rfl,r⟩
end Go.au
namespace Go.Proofs.YtjgjkeponbeekaaGreatDoor
section
open Go.au
structure VB (c:bF):Prop where
 ay:aJ c.ay
 vq:aJ c.vq
 bU:aJ c.bU
 chunk:aJ c.chunk
 buffer:aJ c.buffer
 cO:aJ c.cO
 every:aJ c.every
 start:aJ c.start
def VC:jF aN where
 k:=2
 rep:=λh D i cs=>∃n tn b P a c,cs=[.slice n tn b,.slice P a c]/\bf h D i n tn P a
 af:=λ⟨n,tn,b,P,a,c,d,e⟩ j f=>⟨n,tn,b,P,a,c,d,e.af j f⟩
 mono:=λ⟨n,tn,b,P,a,c,d,e⟩ f=>⟨n,tn,b,P,a,c,d,e.mono f⟩
 len:=λ⟨n,tn,b,P,a,c,d,_⟩=>by rw[d];rfl
 one:=λ⟨n,tn,b,P,a,c,d,_⟩ k g=>by rw[d]at g;simp at g;rcases g with rfl|rfl<;>rfl
def W_:jF bF where
 k:=10
 rep:=λj D e cs=>∃n tn b P a c,cs=ep e n tn b P a c/\bf j D e.decl n tn P a/\VB e
 af:=λ⟨n,tn,b,P,a,c,d,f,g⟩ k h=>⟨n,tn,b,P,a,c,d,f.af k h,g⟩
 mono:=λ⟨n,tn,b,P,a,c,d,f,g⟩ h=>⟨n,tn,b,P,a,c,d,f.mono h,g⟩
 len:=λ⟨n,tn,b,P,a,c,d,_,_⟩=>by rw[d];rfl
 one:=λ⟨n,tn,b,P,a,c,d,_,_⟩ l i=>by rw[d]at i;simp[ep]at i;rcases i with rfl|rfl|rfl|rfl|rfl|rfl|rfl|rfl|rfl|rfl<;>rfl
def Xa:jF lx:=flat 7 fB lx.Ok (λ_=>rfl) (λP a n=>by simp[fB]at n;rcases n with rfl|rfl|rfl|rfl|rfl|rfl|rfl<;>rfl)
def KW:Reads ZP iN 188:=λy e z A P cs B f C=>by
 obtain⟨g,E,_,rfl,h,i,n⟩:=DataW.trod_struct (Tryz.underlying188) f;have j:Tryz.prog.cellsOf 188=4:=kR
 have k:cs.length=4:=h.trans j;have l:Tryz.prog.cellsOf 3=1:=kR
 match cs,k with
 |[F,H,I,J],_=>
 match g,i with
 |[K,L,M,N],_=>
  have a:=n 0 _ rfl;have b:=n 1 _ rfl;have c:=n 2 _ rfl;have d:=n 3 _ rfl;simp only[l,List.drop_zero,List.drop_succ_cons,Zw,List.take_zero,List.take_nil,ZJ,ZZ]at a b c d;obtain⟨m,o,-,p⟩:=DataW.trod_int Tryz.underlying3 a;obtain⟨z1,q,-,r⟩:=DataW.trod_int Tryz.underlying3 b;obtain⟨s,t,-,u⟩:=DataW.trod_int Tryz.underlying3 c;obtain⟨v,w,-,x⟩:=DataW.trod_int Tryz.underlying3 d
  cases o;cases q;cases t;cases w
  exact⟨⟨m,z1,s,v⟩,rfl,bd p,bd r,bd u,bd x⟩
def NH:Reads ZP rN 121:=λK e L M P cs N f g=>by
 obtain⟨h,O,_,rfl,i,j,n⟩:=DataW.trod_struct (Tryz.underlying121) f;have k:Tryz.prog.cellsOf 121=4:=kR
 have l:cs.length=4:=i.trans k;have m:Tryz.prog.cellsOf 3=1:=kR
 have o:Tryz.prog.cellsOf 4=1:=kR
 have p:Tryz.prog.cellsOf 119=1:=kR
 match cs,l with
 |[Q,R,S,T],_=>
 match h,j with
 |[U,V,W,q],_=>
  have a:=n 0 _ rfl;have b:=n 1 _ rfl;have c:=n 2 _ rfl;have d:=n 3 _ rfl;simp only[m,o,p,List.drop_zero,List.drop_succ_cons,Zw,List.take_zero,List.take_nil,ZJ,ZZ]at a b c d;obtain⟨r,s,-,t⟩:=DataW.trod_int Tryz.underlying3 a;obtain⟨z1,u,-,v⟩:=DataW.trod_int Tryz.underlying3 b;obtain⟨w,x,-⟩:=DataW.trod_bool Tryz.underlying4 c;have y:lR ZP 119 q.1:=by
   intro z A;refine g z ?_;have B:Tryz.prog.underlying 121=_:=Tryz.underlying121;simp only[DataW.weights,B,QY,List.map_nil,DataW.weightsEach,Q6];right;right;right;left;exact A
  obtain⟨C,E,F,H,I,-,-,J⟩:=open_row (bytes:=32) Tryz.underlying119 kR dC kR (KW) d y
  cases s;cases u;cases x;cases I
  exact⟨⟨r,z1,w,H⟩,C,E,F,rfl,J,bd t,bd v⟩
def NI:Reads ZP mT 118:=λw a x y n cs z b c=>by
 obtain⟨d,A,_,rfl,e,f,g⟩:=DataW.trod_struct (Tryz.underlying118) b;have h:Tryz.prog.cellsOf 118=1:=kR
 have i:cs.length=1:=e.trans h;have j:Tryz.prog.cellsOf 116=1:=kR
 match cs,i with
 |[B],_=>
 match d,f with
 |[k],_=>
  have P:=g 0 _ rfl;simp only[j,List.drop_zero,List.drop_succ_cons,Zw,List.take_zero,List.take_nil,ZJ,ZZ]at P;have l:lR ZP 116 k.1:=by
   intro m o;refine c m ?_;have p:Tryz.prog.underlying 118=_:=Tryz.underlying118;simp only[DataW.weights,p,QY,List.map_nil,DataW.weightsEach,Q6];left;exact o
  obtain⟨q,r,s,t,u,-,-,v⟩:=open_row (bytes:=48) Tryz.underlying116 kR dC kR (NH) P l
  cases u
  exact⟨t,q,r,s,rfl,v⟩
def KX:Reads ZP BB 138:=λC f E F P cs H g I=>by
 obtain⟨h,J,_,rfl,i,j,n⟩:=DataW.trod_struct (Tryz.underlying138) g;have k:Tryz.prog.cellsOf 138=5:=kR
 have l:cs.length=5:=i.trans k;have m:Tryz.prog.cellsOf 3=1:=kR
 match cs,l with
 |[K,L,M,N,O],_=>
 match h,j with
 |[Q,R,S,T,U],_=>
  have a:=n 0 _ rfl;have b:=n 1 _ rfl;have c:=n 2 _ rfl;have d:=n 3 _ rfl;have e:=n 4 _ rfl;simp only[m,List.drop_zero,List.drop_succ_cons,Zw,List.take_zero,List.take_nil,ZJ,ZZ]at a b c d e;obtain⟨o,p,-,q⟩:=DataW.trod_int Tryz.underlying3 a;obtain⟨z1,r,-,s⟩:=DataW.trod_int Tryz.underlying3 b;obtain⟨t,u,-,v⟩:=DataW.trod_int Tryz.underlying3 c;obtain⟨w,x,-,y⟩:=DataW.trod_int Tryz.underlying3 d;obtain⟨z,A,-,B⟩:=DataW.trod_int Tryz.underlying3 e
  cases p;cases r;cases u;cases x;cases A
  exact⟨⟨o,z1,t,w,z⟩,rfl,bd q,bd s,bd v,bd y,bd B⟩
def KY:Reads ZP VC 25:=λH g I J b cs K h c=>by
 obtain⟨i,L,_,rfl,j,k,d⟩:=DataW.trod_struct (Tryz.underlying25) h;have l:Tryz.prog.cellsOf 25=2:=kR
 have m:cs.length=2:=j.trans l;have o:Tryz.prog.cellsOf 22=1:=kR
 have p:Tryz.prog.cellsOf 23=1:=kR
 match cs,m with
 |[M,N],_=>
 match i,k with
 |[q,r],_=>
  have e:=d 0 _ rfl;have f:=d 1 _ rfl;simp only[o,p,List.drop_zero,List.drop_succ_cons,Zw,List.take_zero,List.take_nil,ZJ,ZZ]at e f;have s:lR ZP 22 q.1:=by
   intro n P;refine c n ?_;have a:Tryz.prog.underlying 25=_:=Tryz.underlying25;simp only[DataW.weights,a,QY,List.map_nil,DataW.weightsEach,Q6];left;exact P
  obtain⟨t,u,v,w,x,-,-,y⟩:=open_row (bytes:=24) Tryz.underlying22 kR dC kR (NI) e s;have z:lR ZP 23 r.1:=by
   intro n P;refine c n ?_;have a:Tryz.prog.underlying 25=_:=Tryz.underlying25;simp only[DataW.weights,a,QY,List.map_nil,DataW.weightsEach,Q6];right;left;exact P
  obtain⟨A,B,C,z1,E,-,-,F⟩:=open_row (bytes:=40) Tryz.underlying23 kR dC kR (KX) f z
  cases x;cases E
  exact⟨⟨w,z1⟩,t,u,v,A,B,C,rfl,⟨y,F⟩⟩
def NJ:Reads ZP W_ 27:=λk P l m a cs a0 o p=>by
 obtain⟨q,n2,_,rfl,r,s,n⟩:=DataW.trod_struct (Tryz.underlying27) o;have t:Tryz.prog.cellsOf 27=10:=kR
 have u:cs.length=10:=r.trans t;have v:Tryz.prog.cellsOf 3=1:=kR
 have w:Tryz.prog.cellsOf 25=2:=kR
 match cs,u with
 |[v0,v1,v2,v3,v4,v5,v6,v7,v8,v9],_=>
 match q,s with
 |[y0,y1,y2,y3,y4,y5,y6,y7,x],_=>
  have b:=n 0 _ rfl;have c:=n 1 _ rfl;have d:=n 2 _ rfl;have e:=n 3 _ rfl;have f:=n 4 _ rfl;have g:=n 5 _ rfl;have h:=n 6 _ rfl;have i:=n 7 _ rfl;have j:=n 8 _ rfl;simp only[v,w,List.drop_zero,List.drop_succ_cons,Zw,List.take_zero,List.take_nil,ZJ,ZZ]at b c d e f g h i j;obtain⟨y,z,-,A⟩:=DataW.trod_int Tryz.underlying3 b;obtain⟨z1,B,-,C⟩:=DataW.trod_int Tryz.underlying3 c;obtain⟨E,F,-,H⟩:=DataW.trod_int Tryz.underlying3 d;obtain⟨I,J,-,K⟩:=DataW.trod_int Tryz.underlying3 e;obtain⟨L,M,-,N⟩:=DataW.trod_int Tryz.underlying3 f;obtain⟨O,Q,-,R⟩:=DataW.trod_int Tryz.underlying3 g;obtain⟨S,T,-,U⟩:=DataW.trod_int Tryz.underlying3 h;obtain⟨V,W,-,X⟩:=DataW.trod_int Tryz.underlying3 i;have Y:lR ZP 25 x.1:=by
   intro Z hq;refine p Z ?_;have hu:Tryz.prog.underlying 27=_:=Tryz.underlying27;simp only[DataW.weights,hu,QY,List.map_nil,DataW.weightsEach,Q6];right;right;right;right;right;right;right;right;left;exact hq
  obtain⟨z8,r8⟩:=KY k P l m _ _ _ j Y
  cases z;cases B;cases F;cases J;cases M;cases Q;cases T;cases W
  obtain⟨ta,tn,tc,pa,pn,pc,he,hd⟩:=r8
  cases he
  exact⟨⟨y,z1,E,I,L,O,S,V,z8⟩,ta,tn,tc,pa,pn,pc,rfl,hd,bd A,bd C,bd H,bd K,bd N,bd R,bd U,bd X⟩
def NK:Reads ZP Xa 38:=λL h M N P cs O i Q=>by
 obtain⟨j,R,_,rfl,k,l,n⟩:=DataW.trod_struct (Tryz.underlying38) i;have m:Tryz.prog.cellsOf 38=7:=kR
 have o:cs.length=7:=k.trans m;have p:Tryz.prog.cellsOf 3=1:=kR
 match cs,o with
 |[S,T,U,V,W,X,Y],_=>
 match j,l with
 |[Z,y1,y2,y3,y4,y5,y6],_=>
  have a:=n 0 _ rfl;have b:=n 1 _ rfl;have c:=n 2 _ rfl;have d:=n 3 _ rfl;have e:=n 4 _ rfl;have f:=n 5 _ rfl;have g:=n 6 _ rfl;simp only[p,List.drop_zero,List.drop_succ_cons,Zw,List.take_zero,List.take_nil,ZJ,ZZ]at a b c d e f g;obtain⟨q,r,-,s⟩:=DataW.trod_int Tryz.underlying3 a;obtain⟨z1,t,-,u⟩:=DataW.trod_int Tryz.underlying3 b;obtain⟨v,w,-,x⟩:=DataW.trod_int Tryz.underlying3 c;obtain⟨y,z,-,A⟩:=DataW.trod_int Tryz.underlying3 d;obtain⟨B,C,-,E⟩:=DataW.trod_int Tryz.underlying3 e;obtain⟨F,H,-,w5⟩:=DataW.trod_int Tryz.underlying3 f;obtain⟨I,J,-,K⟩:=DataW.trod_int Tryz.underlying3 g
  cases r;cases t;cases w;cases z;cases C;cases H;cases J
  exact⟨⟨q,z1,v,y,B,F,I⟩,rfl,bd s,bd u,bd x,bd A,bd E,bd K⟩
end
section
open Go.au
def VD:jF (bF×List eS) where
 k:=11
 rep:=λo D i cs=>∃n tn d P a e b c f,cs=ko i.1 n tn d P a e b c f/\bf o D i.1.decl n tn P a/\VB i.1/\Row HP 80 o D b c i.2
 af:=λ⟨n,tn,d,P,a,e,b,c,f,g,j,k,l⟩ p h=>⟨n,tn,d,P,a,e,b,c,f,g,j.af p h,k,l.af p h⟩
 mono:=λ⟨n,tn,d,P,a,e,b,c,f,g,j,k,l⟩ h=>⟨n,tn,d,P,a,e,b,c,f,g,j.mono h,k,l.mono h⟩
 len:=λ⟨n,tn,d,P,a,e,b,c,f,g,_⟩=>by rw[g];rfl
 one:=λ⟨n,tn,d,P,a,e,b,c,f,g,_⟩ q m=>by rw[g]at m;simp[ko,ep]at m;rcases m with rfl|rfl|rfl|rfl|rfl|rfl|rfl|rfl|rfl|rfl|rfl<;>rfl
def KZ:Reads ZP HP 40:=λg P h i a cs L j k=>by
 obtain⟨l,M,_,rfl,m,o,n⟩:=DataW.trod_struct (Tryz.underlying40) j;have p:Tryz.prog.cellsOf 40=10:=kR
 have q:cs.length=10:=m.trans p;have r:Tryz.prog.cellsOf 3=1:=kR
 have s:Tryz.prog.cellsOf 38=7:=kR
 match cs,q with
 |[N,O,Q,R,S,T,U,V,W,X],_=>
 match l,o with
 |[Y,Z,y2,t],_=>
  have b:=n 0 _ rfl;have c:=n 1 _ rfl;have d:=n 2 _ rfl;have e:=n 3 _ rfl;simp only[r,s,List.drop_zero,List.drop_succ_cons,Zw,List.take_zero,List.take_nil,ZJ,ZZ]at b c d e;obtain⟨u,v,-,w⟩:=DataW.trod_int Tryz.underlying3 b;obtain⟨z1,x,-,y⟩:=DataW.trod_int Tryz.underlying3 c;obtain⟨z,A,-,B⟩:=DataW.trod_int Tryz.underlying3 d;have C:lR ZP 38 t.1:=by
   intro E F;refine k E ?_;have H:Tryz.prog.underlying 40=_:=Tryz.underlying40;simp only[DataW.weights,H,QY,List.map_nil,DataW.weightsEach,Q6];right;right;right;left;exact F
  obtain⟨I,J⟩:=NK g P h i _ _ _ e C
  cases v;cases x;cases A
  obtain⟨f,K⟩:=J;simp only[fB,List.cons.injEq,and_true]at f;obtain⟨rfl,rfl,rfl,rfl,rfl,rfl,rfl⟩:=f;exact⟨⟨u,z1,z,I⟩,rfl,bd w,bd y,bd B,K⟩
def Km:Reads ZP VD 30:=λi n j k c cs O l d=>by
 obtain⟨m,Q,_,rfl,o,p,e⟩:=DataW.trod_struct (Tryz.underlying30) l;have q:Tryz.prog.cellsOf 30=11:=kR
 have r:cs.length=11:=o.trans q;have s:Tryz.prog.cellsOf 27=10:=kR
 have t:Tryz.prog.cellsOf 28=1:=kR
 match cs,r with
 |[R,S,T,U,V,W,X,Y,Z,v9,a0],_=>
 match m,p with
 |[u,v],_=>
  have f:=e 0 _ rfl;have g:=e 1 _ rfl;simp only[s,t,List.drop_zero,List.drop_succ_cons,Zw,List.take_zero,List.take_nil,ZJ,ZZ]at f g;have w:lR ZP 27 u.1:=by
   intro P a;refine d P ?_;have b:Tryz.prog.underlying 30=_:=Tryz.underlying30;simp only[DataW.weights,b,QY,List.map_nil,DataW.weightsEach,Q6];left;exact a
  obtain⟨x,y⟩:=NJ i n j k _ _ _ f w;have z:lR ZP 28 v.1:=by
   intro P a;refine d P ?_;have b:Tryz.prog.underlying 30=_:=Tryz.underlying30;simp only[DataW.weights,b,QY,List.map_nil,DataW.weightsEach,Q6];right;left;exact a
  obtain⟨A,B,C,z1,E,-,-,F⟩:=open_row (bytes:=80) Tryz.underlying28 kR dC kR (KZ) g z
  cases E
  obtain⟨H,tn,I,J,K,L,h,M,N⟩:=y;simp only[ep,List.cons.injEq,and_true]at h;obtain⟨rfl,rfl,rfl,rfl,rfl,rfl,rfl,rfl,rfl,rfl⟩:=h;exact⟨(x,z1),H,tn,I,J,K,L,A,B,C,rfl,M,N,F⟩
