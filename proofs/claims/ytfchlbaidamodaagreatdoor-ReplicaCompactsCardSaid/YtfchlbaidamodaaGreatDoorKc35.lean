import Derived.Test.YtfchlbaidamodaaGreatDoorKc32
set_option linter.all false
set_option maxRecDepth 20000
namespace Go.Proofs.YtfchlbaidamodaaGreatDoor
open Go.ax Go.Proofs.Tryz
def RW:Reads ZQ fZ 59:=λa5 u a6 b c cs d v w=>by
 obtain⟨x,n2,_,rfl,y,z,a⟩:=DataW.trod_struct (underlying59) v;have A:ZQ.cellsOf 59=10:=kR;have B:cs.length=10:=y.trans A;have e:ZQ.cellsOf 3=1:=kR;have f:ZQ.cellsOf 39=2:=kR;have g:ZQ.cellsOf 55=1:=kR
 match cs,B with
 |[v0,v1,v2,v3,v4,v5,v6,v7,v8,v9],_=>
 match x,z with
 |[y0,y1,C,y3,y4,y5,y6,y7,y8],_=>
  have h:=a 0 _ rfl;have i:=a 1 _ rfl;have j:=a 2 _ rfl;have k:=a 3 _ rfl;have l:=a 4 _ rfl;have m:=a 5 _ rfl;have n:=a 6 _ rfl;have o:=a 7 _ rfl;have p:=a 8 _ rfl;simp only[e,f,g,List.drop_zero,List.drop_succ_cons,List.take_succ_cons,List.take_zero,List.getElem?_cons_zero,List.getElem?_cons_succ]at h i j k l m n o p;obtain⟨E,n3,_,a7,a8,F,q⟩:=DataW.trod_struct (underlying39) h
  match E,F with
  |[u0,u1],_=>
  have r:=q 0 _ rfl;have s:=q 1 _ rfl;simp only[e,f,g,List.drop_zero,List.drop_succ_cons,List.take_succ_cons,List.take_zero,List.getElem?_cons_zero,List.getElem?_cons_succ]at r s;obtain⟨H,I,-,J⟩:=DataW.trod_int underlying3 r;obtain⟨z1,K,-,L⟩:=DataW.trod_int underlying3 s;obtain⟨M,N,-,O⟩:=DataW.trod_int underlying3 i;obtain⟨P,Q,-,R⟩:=DataW.trod_int underlying3 k;obtain⟨S,T,-,U⟩:=DataW.trod_int underlying3 l;obtain⟨V,W,-,X⟩:=DataW.trod_int underlying3 m;obtain⟨Y,Z,-,w7⟩:=DataW.trod_int underlying3 n;obtain⟨z8,e8,-,w8⟩:=DataW.trod_int underlying3 o;obtain⟨z9,e9,-,w9⟩:=DataW.trod_int underlying3 p;have a0:jW ZQ 55 C.1:=by
   intro a1 hq;refine w a1 ?_;have hu:ZQ.underlying 59=_:=underlying59;simp only[DataW.weights,hu,QY,List.map_nil,DataW.weightsEach,Q6];right;right;left;exact hq
  obtain⟨a3,n4,c4,l4,e3,-,-,t⟩:=open_row (bytes:=8) underlying55 kR dC kR (yC underlying3) j a0;cases I;cases K;cases N;cases e3;cases Q;cases T;cases W;cases Z;cases e8;cases e9;exact⟨⟨H,z1,M,l4,P,S,V,Y,z8,z9⟩,a3,n4,c4,rfl,t,aT J,aT L,aT O,λd hx=>by
   obtain⟨a2,hi⟩:=List.mem_iff_getElem?.1 hx;obtain⟨a9,a4,es,-,-,-,-,hr⟩:=t.el a2 d hi;exact hr.2,aT R,aT U,aT X,aT w7,aT w8,aT w9⟩
end Go.Proofs.YtfchlbaidamodaaGreatDoor
namespace Go.ax
open Go Go.WideShapes
variable{I:Bool}{g1:List MemPlace}{a:Nat}{h:Program}{K j:Type}{g:TypeId}{w:Value}{b:World}
def wM{c:TypeId×Value->j}{k:Reach}{f:DataW j}{i:kM K}{l:Array Field}(m:h.underlying g=some (.struct l))(n:Reads h i g)(o:Value.okWide h b k a g w)(p:DataW.Trod c h b 0 (λ_=>true) I g w f g1)(q:jW h g f):∃e cs,w= .agg cs/\i.rep b (In b) e cs.toList:=by
 obtain⟨cs,rfl,-⟩:=okWide_struct m o;obtain⟨d,r⟩:=p;obtain⟨e,s⟩:=n j c b I d cs.toList _ r q;exact⟨e,cs,rfl,s⟩
end Go.ax
namespace Go.Proofs.YtfchlbaidamodaaGreatDoor
open Go.ax Go.Proofs.Tryz
structure YS (c:cz):Prop where
 bl:aN c.bl
 nY:aN c.nY
 aZ:aN c.aZ
 chunk:aN c.chunk
 buffer:aN c.buffer
 dx:aN c.dx
 every:aN c.every
 start:aN c.start
def XE:kM aR where
 k:=2
 rep:=λj D k cs=>∃a tn d b c e,cs=[.slice a tn d,.slice b c e]/\bh j D k a tn b c
 keep:=λ⟨a,tn,d,b,c,e,f,g⟩ l h=>⟨a,tn,d,b,c,e,f,g.keep l h⟩
 mono:=λ⟨a,tn,d,b,c,e,f,g⟩ h=>⟨a,tn,d,b,c,e,f,g.mono h⟩
 len:=λ⟨a,tn,d,b,c,e,f,_⟩=>by rw[f];rfl
 one:=λ⟨a,tn,d,b,c,e,f,_⟩ m i=>by rw[f]at i;simp at i;rcases i with rfl|rfl<;>rfl
def YT:kM cz where
 k:=10
 rep:=λl D g cs=>∃a tn d b c e,cs=cC g a tn d b c e/\bh l D g.decl a tn b c/\YS g
 keep:=λ⟨a,tn,d,b,c,e,f,h,i⟩ m j=>⟨a,tn,d,b,c,e,f,h.keep m j,i⟩
 mono:=λ⟨a,tn,d,b,c,e,f,h,i⟩ j=>⟨a,tn,d,b,c,e,f,h.mono j,i⟩
 len:=λ⟨a,tn,d,b,c,e,f,_,_⟩=>by rw[f];rfl
 one:=λ⟨a,tn,d,b,c,e,f,_,_⟩ n k=>by rw[f]at k;simp[cC]at k;rcases k with rfl|rfl|rfl|rfl|rfl|rfl|rfl|rfl|rfl|rfl<;>rfl
def XF:kM jS:=flat 7 gJ jS.Ok (λ_=>rfl) (λb c a=>by simp[gJ]at a;rcases a with rfl|rfl|rfl|rfl|rfl|rfl|rfl<;>rfl)
def YU:kM dz where
 k:=5
 rep:=λm D i cs=>∃a b e c d f,cs=cD i a b e c d f/\Row aP 8 m D a b i.vec/\Row fZ 96 m D c d i.events
 keep:=λ⟨a,b,e,c,d,f,g,j,k⟩ n h=>⟨a,b,e,c,d,f,g,j.keep n h,k.keep n h⟩
 mono:=λ⟨a,b,e,c,d,f,g,j,k⟩ h=>⟨a,b,e,c,d,f,g,j.mono h,k.mono h⟩
 len:=λ⟨a,b,e,c,d,f,g,_,_⟩=>by rw[g];rfl
 one:=λ⟨a,b,e,c,d,f,g,_,_⟩ o l=>by rw[g]at l;simp[cD]at l;rcases l with rfl|rfl|rfl|rfl|rfl<;>rfl
def Mn:Reads ZQ gC 125:=λA h B b c cs C i E=>by
 obtain⟨j,F,_,rfl,k,l,a⟩:=DataW.trod_struct (underlying125) i;have m:ZQ.cellsOf 125=4:=kR;have n:cs.length=4:=k.trans m;have o:ZQ.cellsOf 3=1:=kR
 match cs,n with
 |[H,I,J,K],_=>
 match j,l with
 |[L,M,N,O],_=>
  have d:=a 0 _ rfl;have e:=a 1 _ rfl;have f:=a 2 _ rfl;have g:=a 3 _ rfl;simp only[o,List.drop_zero,List.drop_succ_cons,List.take_succ_cons,List.take_zero,List.take_nil,List.getElem?_cons_zero,List.getElem?_cons_succ]at d e f g;obtain⟨p,q,-,r⟩:=DataW.trod_int underlying3 d;obtain⟨z1,s,-,t⟩:=DataW.trod_int underlying3 e;obtain⟨u,v,-,w⟩:=DataW.trod_int underlying3 f;obtain⟨x,y,-,z⟩:=DataW.trod_int underlying3 g;cases q;cases s;cases v;cases y;exact⟨⟨p,z1,u,x⟩,rfl,aT r,aT t,aT w,aT z⟩
def PG:Reads ZQ pT 123:=λM h N b c cs O i j=>by
 obtain⟨k,P,_,rfl,l,m,a⟩:=DataW.trod_struct (underlying123) i;have n:ZQ.cellsOf 123=4:=kR;have o:cs.length=4:=l.trans n;have p:ZQ.cellsOf 3=1:=kR;have q:ZQ.cellsOf 4=1:=kR;have r:ZQ.cellsOf 121=1:=kR
 match cs,o with
 |[Q,R,S,T],_=>
 match k,m with
 |[U,V,W,s],_=>
  have d:=a 0 _ rfl;have e:=a 1 _ rfl;have f:=a 2 _ rfl;have g:=a 3 _ rfl;simp only[p,q,r,List.drop_zero,List.drop_succ_cons,List.take_succ_cons,List.take_zero,List.take_nil,List.getElem?_cons_zero,List.getElem?_cons_succ]at d e f g;obtain⟨t,u,-,v⟩:=DataW.trod_int underlying3 d;obtain⟨z1,w,-,x⟩:=DataW.trod_int underlying3 e;obtain⟨y,z,-⟩:=DataW.trod_bool underlying4 f;have A:jW ZQ 121 s.1:=by
   intro B C;refine j B ?_;have E:ZQ.underlying 123=_:=underlying123;simp only[DataW.weights,E,QY,List.map_nil,DataW.weightsEach,Q6];right;right;right;left;exact C
  obtain⟨F,H,I,J,K,-,-,L⟩:=open_row (bytes:=32) underlying121 kR dC kR (Mn) g A;cases u;cases w;cases z;cases K;exact⟨⟨t,z1,y,J⟩,F,H,I,rfl,L,aT v,aT x⟩
def PH:Reads ZQ lv 130:=λy d z a b cs A e f=>by
 obtain⟨g,B,_,rfl,h,i,j⟩:=DataW.trod_struct (underlying130) e;have k:ZQ.cellsOf 130=1:=kR;have l:cs.length=1:=h.trans k;have m:ZQ.cellsOf 126=1:=kR
 match cs,l with
 |[C],_=>
 match g,i with
 |[n],_=>
  have c:=j 0 _ rfl;simp only[m,List.drop_zero,List.drop_succ_cons,List.take_succ_cons,List.take_zero,List.take_nil,List.getElem?_cons_zero,List.getElem?_cons_succ]at c;have o:jW ZQ 126 n.1:=by
   intro p q;refine f p ?_;have r:ZQ.underlying 130=_:=underlying130;simp only[DataW.weights,r,QY,List.map_nil,DataW.weightsEach,Q6];left;exact q
  obtain⟨s,t,u,v,w,-,-,x⟩:=open_row (bytes:=48) underlying126 kR dC kR (PG) c o;cases w;exact⟨v,s,t,u,rfl,x⟩
def Mo:Reads ZQ wH 128:=λF i H b c cs I j J=>by
 obtain⟨k,K,_,rfl,l,m,a⟩:=DataW.trod_struct (underlying128) j;have n:ZQ.cellsOf 128=5:=kR;have o:cs.length=5:=l.trans n;have p:ZQ.cellsOf 3=1:=kR
 match cs,o with
 |[L,M,N,O,P],_=>
 match k,m with
 |[Q,R,S,T,U],_=>
  have d:=a 0 _ rfl;have e:=a 1 _ rfl;have f:=a 2 _ rfl;have g:=a 3 _ rfl;have h:=a 4 _ rfl;simp only[p,List.drop_zero,List.drop_succ_cons,List.take_succ_cons,List.take_zero,List.take_nil,List.getElem?_cons_zero,List.getElem?_cons_succ]at d e f g h;obtain⟨q,r,-,s⟩:=DataW.trod_int underlying3 d;obtain⟨z1,t,-,u⟩:=DataW.trod_int underlying3 e;obtain⟨v,w,-,x⟩:=DataW.trod_int underlying3 f;obtain⟨y,z,-,A⟩:=DataW.trod_int underlying3 g;obtain⟨B,C,-,E⟩:=DataW.trod_int underlying3 h;cases r;cases t;cases w;cases z;cases C;exact⟨⟨q,z1,v,y,B⟩,rfl,aT s,aT u,aT x,aT A,aT E⟩
def CF:Reads ZQ XE 25:=λJ j K d e cs L k f=>by
 obtain⟨l,M,_,rfl,m,n,g⟩:=DataW.trod_struct (underlying25) k;have o:ZQ.cellsOf 25=2:=kR;have p:cs.length=2:=m.trans o;have q:ZQ.cellsOf 22=1:=kR;have r:ZQ.cellsOf 23=1:=kR
 match cs,p with
 |[N,O],_=>
 match l,n with
 |[s,t],_=>
  have h:=g 0 _ rfl;have i:=g 1 _ rfl;simp only[q,r,List.drop_zero,List.drop_succ_cons,List.take_succ_cons,List.take_zero,List.take_nil,List.getElem?_cons_zero,List.getElem?_cons_succ]at h i;have u:jW ZQ 22 s.1:=by
   intro a b;refine f a ?_;have c:ZQ.underlying 25=_:=underlying25;simp only[DataW.weights,c,QY,List.map_nil,DataW.weightsEach,Q6];left;exact b
  obtain⟨v,w,x,y,z,-,-,A⟩:=open_row (bytes:=24) underlying22 kR dC kR (PH) h u;have B:jW ZQ 23 t.1:=by
   intro a b;refine f a ?_;have c:ZQ.underlying 25=_:=underlying25;simp only[DataW.weights,c,QY,List.map_nil,DataW.weightsEach,Q6];right;left;exact b
  obtain⟨C,E,F,z1,H,-,-,I⟩:=open_row (bytes:=40) underlying23 kR dC kR (Mo) i B;cases z;cases H;exact⟨⟨y,z1⟩,v,w,x,C,E,F,rfl,⟨A,I⟩⟩
def yD:Reads ZQ YT 28:=λn c o b d cs a0 p q=>by
 obtain⟨r,n2,_,rfl,s,t,a⟩:=DataW.trod_struct (underlying28) p;have u:ZQ.cellsOf 28=10:=kR;have v:cs.length=10:=s.trans u;have w:ZQ.cellsOf 3=1:=kR;have x:ZQ.cellsOf 25=2:=kR
 match cs,v with
 |[v0,v1,v2,v3,v4,v5,v6,v7,v8,v9],_=>
 match r,t with
 |[y0,y1,y2,y3,y4,y5,y6,y7,y],_=>
  have e:=a 0 _ rfl;have f:=a 1 _ rfl;have g:=a 2 _ rfl;have h:=a 3 _ rfl;have i:=a 4 _ rfl;have j:=a 5 _ rfl;have k:=a 6 _ rfl;have l:=a 7 _ rfl;have m:=a 8 _ rfl;simp only[w,x,List.drop_zero,List.drop_succ_cons,List.take_succ_cons,List.take_zero,List.take_nil,List.getElem?_cons_zero,List.getElem?_cons_succ]at e f g h i j k l m;obtain⟨z,A,-,B⟩:=DataW.trod_int underlying3 e;obtain⟨z1,C,-,E⟩:=DataW.trod_int underlying3 f;obtain⟨F,H,-,I⟩:=DataW.trod_int underlying3 g;obtain⟨J,K,-,L⟩:=DataW.trod_int underlying3 h;obtain⟨M,N,-,O⟩:=DataW.trod_int underlying3 i;obtain⟨P,Q,-,R⟩:=DataW.trod_int underlying3 j;obtain⟨S,T,-,U⟩:=DataW.trod_int underlying3 k;obtain⟨V,W,-,X⟩:=DataW.trod_int underlying3 l;have Y:jW ZQ 25 y.1:=by
   intro Z hq;refine q Z ?_;have hu:ZQ.underlying 28=_:=underlying28;simp only[DataW.weights,hu,QY,List.map_nil,DataW.weightsEach,Q6];right;right;right;right;right;right;right;right;left;exact hq
  obtain⟨z8,r8⟩:=CF n c o b _ _ _ m Y;cases A;cases C;cases H;cases K;cases N;cases Q;cases T;cases W;obtain⟨ta,tn,tc,pa,pn,pc,he,hd⟩:=r8;cases he;exact⟨⟨z,z1,F,J,M,P,S,V,z8⟩,ta,tn,tc,pa,pn,pc,rfl,hd,aT B,aT E,aT I,aT L,aT O,aT R,aT U,aT X⟩
def FR:Reads ZQ XF 49:=λN k O b c cs P l Q=>by
 obtain⟨m,R,_,rfl,n,o,a⟩:=DataW.trod_struct (underlying49) l;have p:ZQ.cellsOf 49=7:=kR;have q:cs.length=7:=n.trans p;have r:ZQ.cellsOf 3=1:=kR
 match cs,q with
 |[S,T,U,V,W,X,Y],_=>
 match m,o with
 |[Z,y1,y2,y3,y4,y5,y6],_=>
  have d:=a 0 _ rfl;have e:=a 1 _ rfl;have f:=a 2 _ rfl;have g:=a 3 _ rfl;have h:=a 4 _ rfl;have i:=a 5 _ rfl;have j:=a 6 _ rfl;simp only[r,List.drop_zero,List.drop_succ_cons,List.take_succ_cons,List.take_zero,List.take_nil,List.getElem?_cons_zero,List.getElem?_cons_succ]at d e f g h i j;obtain⟨s,t,-,u⟩:=DataW.trod_int underlying3 d;obtain⟨z1,v,-,w⟩:=DataW.trod_int underlying3 e;obtain⟨x,y,-,z⟩:=DataW.trod_int underlying3 f;obtain⟨A,B,-,C⟩:=DataW.trod_int underlying3 g;obtain⟨E,F,-,H⟩:=DataW.trod_int underlying3 h;obtain⟨I,J,-,w5⟩:=DataW.trod_int underlying3 i;obtain⟨K,L,-,M⟩:=DataW.trod_int underlying3 j;cases t;cases v;cases y;cases B;cases F;cases J;cases L;exact⟨⟨s,z1,x,A,E,I,K⟩,rfl,aT u,aT w,aT z,aT C,aT H,aT M⟩
def PI:Reads ZQ YU 67:=λT m U e f cs V n g=>by
 obtain⟨o,W,_,rfl,p,q,a⟩:=DataW.trod_struct (underlying67) n;have r:ZQ.cellsOf 67=5:=kR;have s:cs.length=5:=p.trans r;have t:ZQ.cellsOf 3=1:=kR;have u:ZQ.cellsOf 55=1:=kR;have v:ZQ.cellsOf 50=1:=kR
 match cs,s with
 |[X,Y,Z,v3,v4],_=>
 match o,q with
 |[y0,y1,y2,w,x],_=>
  have h:=a 0 _ rfl;have i:=a 1 _ rfl;have j:=a 2 _ rfl;have k:=a 3 _ rfl;have l:=a 4 _ rfl;simp only[t,u,v,List.drop_zero,List.drop_succ_cons,List.take_succ_cons,List.take_zero,List.take_nil,List.getElem?_cons_zero,List.getElem?_cons_succ]at h i j k l;obtain⟨y,z,-,w0⟩:=DataW.trod_int underlying3 h;obtain⟨z1,A,-,w1⟩:=DataW.trod_int underlying3 i;obtain⟨B,C,-,w2⟩:=DataW.trod_int underlying3 j;have E:jW ZQ 55 w.1:=by
   intro b c;refine g b ?_;have d:ZQ.underlying 67=_:=underlying67;simp only[DataW.weights,d,QY,List.map_nil,DataW.weightsEach,Q6];right;right;right;left;exact c
  obtain⟨F,H,I,J,K,-,-,L⟩:=open_row (bytes:=8) underlying55 kR dC kR (yC underlying3) k E;have M:jW ZQ 50 x.1:=by
   intro b c;refine g b ?_;have d:ZQ.underlying 67=_:=underlying67;simp only[DataW.weights,d,QY,List.map_nil,DataW.weightsEach,Q6];right;right;right;right;left;exact c
  obtain⟨N,O,P,Q,R,-,-,S⟩:=open_row (bytes:=96) underlying50 kR dC kR (RW) l M;cases z;cases A;cases C;cases K;cases R;exact⟨⟨y,z1,B,J,Q⟩,F,H,I,N,O,P,rfl,L,S⟩
def rE:Reads ZQ PJ 72:=λg b h a i cs a0 r j=>by
 obtain⟨s,n2,_,rfl,t,u,c⟩:=DataW.trod_struct (underlying72) r;have v:ZQ.cellsOf 72=15:=kR;have w:cs.length=15:=t.trans v;have x:ZQ.cellsOf 3=1:=kR;have y:ZQ.cellsOf 49=7:=kR;have z:ZQ.cellsOf 67=5:=kR
 match cs,w with
 |[v0,v1,v2,v3,v4,v5,v6,v7,v8,v9,a1,a2,a3,a4,a5],_=>
 match s,u with
 |[y0,y1,y2,A,B],_=>
  have k:=c 0 _ rfl;have l:=c 1 _ rfl;have m:=c 2 _ rfl;have n:=c 3 _ rfl;have o:=c 4 _ rfl;simp only[x,y,z,List.drop_zero,List.drop_succ_cons,List.take_succ_cons,List.take_zero,List.take_nil,List.getElem?_cons_zero,List.getElem?_cons_succ]at k l m n o;obtain⟨C,E,-,F⟩:=DataW.trod_int underlying3 k;obtain⟨z1,H,-,I⟩:=DataW.trod_int underlying3 l;obtain⟨J,K,-,L⟩:=DataW.trod_int underlying3 m;have M:jW ZQ 49 A.1:=by
   intro d e;refine j d ?_;have f:ZQ.underlying 72=_:=underlying72;simp only[DataW.weights,f,QY,List.map_nil,DataW.weightsEach,Q6];right;right;right;left;exact e
  obtain⟨N,O⟩:=FR g b h a _ _ _ n M;have P:jW ZQ 67 B.1:=by
   intro d e;refine j d ?_;have f:ZQ.underlying 72=_:=underlying72;simp only[DataW.weights,f,QY,List.map_nil,DataW.weightsEach,Q6];right;right;right;right;left;exact e
  obtain⟨Q,R⟩:=PI g b h a _ _ _ o P;cases E;cases H;cases K;obtain⟨p,S⟩:=O;obtain⟨T,U,V,W,X,Y,q,Z,he⟩:=R;simp only[gJ,cD,List.cons.injEq,and_true]at p q;obtain⟨rfl,rfl,rfl,rfl,rfl,rfl,rfl⟩:=p;obtain⟨rfl,rfl,rfl,rfl,rfl⟩:=q;exact⟨⟨C,z1,J,N,Q⟩,T,U,V,W,X,Y,rfl,Z,he,aT F,aT I,aT L,S⟩
end Go.Proofs.YtfchlbaidamodaaGreatDoor
