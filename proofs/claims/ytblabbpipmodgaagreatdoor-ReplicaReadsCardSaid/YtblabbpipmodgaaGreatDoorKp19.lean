import Derived.Test.YtblabbpipmodgaaGreatDoorKp18
set_option maxHeartbeats 4000000
set_option linter.all false
set_option maxRecDepth 20000
namespace Go.aw
open Go Go.WideShapes
variable{K:Bool}{f9:List MemPlace}{a:Nat}{h:Program}{I j:Type}{g:TypeId}{u:Value}{b:World}
def OO{P:TypeId×Value->j}{i:Reach}{e:DataW j}{f:ju I}{k:Array Field}(l:h.underlying g=some (.struct k))(m:Reads h f g)(n:Value.okWide h b i a g u)(o:DataW.Trod P h b 0 (λ_=>true) K g u e f9)(p:iP h g e):∃d cs,u= .agg cs/\f.rep b (In b) d cs.toList:=by
 obtain⟨cs,rfl,-⟩:=okWide_struct l n;obtain⟨c,q⟩:=o;obtain⟨d,r⟩:=m j P b K c cs.toList _ q p;exact⟨d,cs,rfl,r⟩
end Go.aw
namespace Go.Proofs.YtblabbpipmodgaaGreatDoor
section
open Go.aw
structure Vr (c:cD):Prop where
 br:aN c.br
 pP:aN c.pP
 bO:aN c.bO
 chunk:aN c.chunk
 buffer:aN c.buffer
 cV:aN c.cV
 every:aN c.every
 start:aN c.start
def Um:ju aR where
 k:=2
 rep:=λi D j cs=>∃P tn c a b d,cs=[.slice P tn c,.slice a b d]/\bf i D j P tn a b
 af:=λ⟨P,tn,c,a,b,d,e,f⟩ k g=>⟨P,tn,c,a,b,d,e,f.af k g⟩
 mono:=λ⟨P,tn,c,a,b,d,e,f⟩ g=>⟨P,tn,c,a,b,d,e,f.mono g⟩
 len:=λ⟨P,tn,c,a,b,d,e,_⟩=>by rw[e];rfl
 one:=λ⟨P,tn,c,a,b,d,e,_⟩ l h=>by rw[e]at h;simp at h;rcases h with rfl|rfl<;>rfl
def Vs:ju cD where
 k:=10
 rep:=λk D f cs=>∃P tn c a b d,cs=dL f P tn c a b d/\bf k D f.decl P tn a b/\Vr f
 af:=λ⟨P,tn,c,a,b,d,e,g,h⟩ l i=>⟨P,tn,c,a,b,d,e,g.af l i,h⟩
 mono:=λ⟨P,tn,c,a,b,d,e,g,h⟩ i=>⟨P,tn,c,a,b,d,e,g.mono i,h⟩
 len:=λ⟨P,tn,c,a,b,d,e,_,_⟩=>by rw[e];rfl
 one:=λ⟨P,tn,c,a,b,d,e,_,_⟩ m j=>by rw[e]at j;simp[dL]at j;rcases j with rfl|rfl|rfl|rfl|rfl|rfl|rfl|rfl|rfl|rfl<;>rfl
def Vt:ju kv:=flat 7 gH kv.Ok (λ_=>rfl) (λa b P=>by simp[gH]at P;rcases P with rfl|rfl|rfl|rfl|rfl|rfl|rfl<;>rfl)
def Vu:ju c_ where
 k:=5
 rep:=λl D h cs=>∃P a d b c e,cs=bS h P a d b c e/\Row aM 8 l D P a h.vec/\Row h_ 96 l D b c h.events
 af:=λ⟨P,a,d,b,c,e,f,i,j⟩ m g=>⟨P,a,d,b,c,e,f,i.af m g,j.af m g⟩
 mono:=λ⟨P,a,d,b,c,e,f,i,j⟩ g=>⟨P,a,d,b,c,e,f,i.mono g,j.mono g⟩
 len:=λ⟨P,a,d,b,c,e,f,_,_⟩=>by rw[f];rfl
 one:=λ⟨P,a,d,b,c,e,f,_,_⟩ n k=>by rw[f]at k;simp[bS]at k;rcases k with rfl|rfl|rfl|rfl|rfl<;>rfl
def JI:Reads XP fF 125:=λy f z A a cs B g C=>by
 obtain⟨h,E,_,rfl,i,j,P⟩:=DataW.trod_struct (Tryz.underlying125) g;have k:Tryz.prog.cellsOf 125=4:=kR
 have l:cs.length=4:=i.trans k;have m:Tryz.prog.cellsOf 3=1:=kR
 match cs,l with
 |[F,H,I,J],_=>
 match h,j with
 |[K,L,M,N],_=>
  have b:=P 0 _ rfl;have c:=P 1 _ rfl;have d:=P 2 _ rfl;have e:=P 3 _ rfl;simp only[m,List.drop_zero,List.drop_succ_cons,Zw,List.take_zero,List.take_nil,ZJ,ZZ]at b c d e;obtain⟨n,o,-,p⟩:=DataW.trod_int Tryz.underlying3 b;obtain⟨z1,q,-,r⟩:=DataW.trod_int Tryz.underlying3 c;obtain⟨s,t,-,u⟩:=DataW.trod_int Tryz.underlying3 d;obtain⟨v,w,-,x⟩:=DataW.trod_int Tryz.underlying3 e
  cases o;cases q;cases t;cases w
  exact⟨⟨n,z1,s,v⟩,rfl,aP p,aP r,aP u,aP x⟩
def MC:Reads XP oq 123:=λK f L M a cs N g h=>by
 obtain⟨i,O,_,rfl,j,k,P⟩:=DataW.trod_struct (Tryz.underlying123) g;have l:Tryz.prog.cellsOf 123=4:=kR
 have m:cs.length=4:=j.trans l;have n:Tryz.prog.cellsOf 3=1:=kR
 have o:Tryz.prog.cellsOf 4=1:=kR
 have p:Tryz.prog.cellsOf 121=1:=kR
 match cs,m with
 |[Q,R,S,T],_=>
 match i,k with
 |[U,V,W,q],_=>
  have b:=P 0 _ rfl;have c:=P 1 _ rfl;have d:=P 2 _ rfl;have e:=P 3 _ rfl;simp only[n,o,p,List.drop_zero,List.drop_succ_cons,Zw,List.take_zero,List.take_nil,ZJ,ZZ]at b c d e;obtain⟨r,s,-,t⟩:=DataW.trod_int Tryz.underlying3 b;obtain⟨z1,u,-,v⟩:=DataW.trod_int Tryz.underlying3 c;obtain⟨w,x,-⟩:=DataW.trod_bool Tryz.underlying4 d;have y:iP XP 121 q.1:=by
   intro z A;refine h z ?_;have B:Tryz.prog.underlying 123=_:=Tryz.underlying123;simp only[DataW.weights,B,QY,List.map_nil,DataW.weightsEach,Q6];right;right;right;left;exact A
  obtain⟨C,E,F,H,I,-,-,J⟩:=open_row (bytes:=32) Tryz.underlying121 kR dC kR (JI) e y
  cases s;cases u;cases x;cases I
  exact⟨⟨r,z1,w,H⟩,C,E,F,rfl,J,aP t,aP v⟩
def MD:Reads XP jO 130:=λw b x y P cs z c d=>by
 obtain⟨e,A,_,rfl,f,g,h⟩:=DataW.trod_struct (Tryz.underlying130) c;have i:Tryz.prog.cellsOf 130=1:=kR
 have j:cs.length=1:=f.trans i;have k:Tryz.prog.cellsOf 126=1:=kR
 match cs,j with
 |[B],_=>
 match e,g with
 |[l],_=>
  have a:=h 0 _ rfl;simp only[k,List.drop_zero,List.drop_succ_cons,Zw,List.take_zero,List.take_nil,ZJ,ZZ]at a;have m:iP XP 126 l.1:=by
   intro n o;refine d n ?_;have p:Tryz.prog.underlying 130=_:=Tryz.underlying130;simp only[DataW.weights,p,QY,List.map_nil,DataW.weightsEach,Q6];left;exact o
  obtain⟨q,r,s,t,u,-,-,v⟩:=open_row (bytes:=48) Tryz.underlying126 kR dC kR (MC) a m
  cases u
  exact⟨t,q,r,s,rfl,v⟩
def JJ:Reads XP uq 128:=λC g E F a cs H h I=>by
 obtain⟨i,J,_,rfl,j,k,P⟩:=DataW.trod_struct (Tryz.underlying128) h;have l:Tryz.prog.cellsOf 128=5:=kR
 have m:cs.length=5:=j.trans l;have n:Tryz.prog.cellsOf 3=1:=kR
 match cs,m with
 |[K,L,M,N,O],_=>
 match i,k with
 |[Q,R,S,T,U],_=>
  have b:=P 0 _ rfl;have c:=P 1 _ rfl;have d:=P 2 _ rfl;have e:=P 3 _ rfl;have f:=P 4 _ rfl;simp only[n,List.drop_zero,List.drop_succ_cons,Zw,List.take_zero,List.take_nil,ZJ,ZZ]at b c d e f;obtain⟨o,p,-,q⟩:=DataW.trod_int Tryz.underlying3 b;obtain⟨z1,r,-,s⟩:=DataW.trod_int Tryz.underlying3 c;obtain⟨t,u,-,v⟩:=DataW.trod_int Tryz.underlying3 d;obtain⟨w,x,-,y⟩:=DataW.trod_int Tryz.underlying3 e;obtain⟨z,A,-,B⟩:=DataW.trod_int Tryz.underlying3 f
  cases p;cases r;cases u;cases x;cases A
  exact⟨⟨o,z1,t,w,z⟩,rfl,aP q,aP s,aP v,aP y,aP B⟩
def JK:Reads XP Um 25:=λH h I J c cs K i d=>by
 obtain⟨j,L,_,rfl,k,l,e⟩:=DataW.trod_struct (Tryz.underlying25) i;have m:Tryz.prog.cellsOf 25=2:=kR
 have n:cs.length=2:=k.trans m;have o:Tryz.prog.cellsOf 22=1:=kR
 have p:Tryz.prog.cellsOf 23=1:=kR
 match cs,n with
 |[M,N],_=>
 match j,l with
 |[q,r],_=>
  have f:=e 0 _ rfl;have g:=e 1 _ rfl;simp only[o,p,List.drop_zero,List.drop_succ_cons,Zw,List.take_zero,List.take_nil,ZJ,ZZ]at f g;have s:iP XP 22 q.1:=by
   intro P a;refine d P ?_;have b:Tryz.prog.underlying 25=_:=Tryz.underlying25;simp only[DataW.weights,b,QY,List.map_nil,DataW.weightsEach,Q6];left;exact a
  obtain⟨t,u,v,w,x,-,-,y⟩:=open_row (bytes:=24) Tryz.underlying22 kR dC kR (MD) f s;have z:iP XP 23 r.1:=by
   intro P a;refine d P ?_;have b:Tryz.prog.underlying 25=_:=Tryz.underlying25;simp only[DataW.weights,b,QY,List.map_nil,DataW.weightsEach,Q6];right;left;exact a
  obtain⟨A,B,C,z1,E,-,-,F⟩:=open_row (bytes:=40) Tryz.underlying23 kR dC kR (JJ) g z
  cases x;cases E
  exact⟨⟨w,z1⟩,t,u,v,A,B,C,rfl,⟨y,F⟩⟩
def ME:Reads XP Vs 29:=λl a m n b cs a0 o p=>by
 obtain⟨q,n2,_,rfl,r,s,P⟩:=DataW.trod_struct (Tryz.underlying29) o;have t:Tryz.prog.cellsOf 29=10:=kR
 have u:cs.length=10:=r.trans t;have v:Tryz.prog.cellsOf 3=1:=kR
 have w:Tryz.prog.cellsOf 25=2:=kR
 match cs,u with
 |[v0,v1,v2,v3,v4,v5,v6,v7,v8,v9],_=>
 match q,s with
 |[y0,y1,y2,y3,y4,y5,y6,y7,x],_=>
  have c:=P 0 _ rfl;have d:=P 1 _ rfl;have e:=P 2 _ rfl;have f:=P 3 _ rfl;have g:=P 4 _ rfl;have h:=P 5 _ rfl;have i:=P 6 _ rfl;have j:=P 7 _ rfl;have k:=P 8 _ rfl;simp only[v,w,List.drop_zero,List.drop_succ_cons,Zw,List.take_zero,List.take_nil,ZJ,ZZ]at c d e f g h i j k;obtain⟨y,z,-,A⟩:=DataW.trod_int Tryz.underlying3 c;obtain⟨z1,B,-,C⟩:=DataW.trod_int Tryz.underlying3 d;obtain⟨E,F,-,H⟩:=DataW.trod_int Tryz.underlying3 e;obtain⟨I,J,-,K⟩:=DataW.trod_int Tryz.underlying3 f;obtain⟨L,M,-,N⟩:=DataW.trod_int Tryz.underlying3 g;obtain⟨O,Q,-,R⟩:=DataW.trod_int Tryz.underlying3 h;obtain⟨S,T,-,U⟩:=DataW.trod_int Tryz.underlying3 i;obtain⟨V,W,-,X⟩:=DataW.trod_int Tryz.underlying3 j;have Y:iP XP 25 x.1:=by
   intro Z hq;refine p Z ?_;have hu:Tryz.prog.underlying 29=_:=Tryz.underlying29;simp only[DataW.weights,hu,QY,List.map_nil,DataW.weightsEach,Q6];right;right;right;right;right;right;right;right;left;exact hq
  obtain⟨z8,r8⟩:=JK l a m n _ _ _ k Y
  cases z;cases B;cases F;cases J;cases M;cases Q;cases T;cases W
  obtain⟨ta,tn,tc,pa,pn,pc,he,hd⟩:=r8
  cases he
  exact⟨⟨y,z1,E,I,L,O,S,V,z8⟩,ta,tn,tc,pa,pn,pc,rfl,hd,aP A,aP C,aP H,aP K,aP N,aP R,aP U,aP X⟩
def MF:Reads XP Vt 49:=λL i M N a cs O j Q=>by
 obtain⟨k,R,_,rfl,l,m,P⟩:=DataW.trod_struct (Tryz.underlying49) j;have n:Tryz.prog.cellsOf 49=7:=kR
 have o:cs.length=7:=l.trans n;have p:Tryz.prog.cellsOf 3=1:=kR
 match cs,o with
 |[S,T,U,V,W,X,Y],_=>
 match k,m with
 |[Z,y1,y2,y3,y4,y5,y6],_=>
  have b:=P 0 _ rfl;have c:=P 1 _ rfl;have d:=P 2 _ rfl;have e:=P 3 _ rfl;have f:=P 4 _ rfl;have g:=P 5 _ rfl;have h:=P 6 _ rfl;simp only[p,List.drop_zero,List.drop_succ_cons,Zw,List.take_zero,List.take_nil,ZJ,ZZ]at b c d e f g h;obtain⟨q,r,-,s⟩:=DataW.trod_int Tryz.underlying3 b;obtain⟨z1,t,-,u⟩:=DataW.trod_int Tryz.underlying3 c;obtain⟨v,w,-,x⟩:=DataW.trod_int Tryz.underlying3 d;obtain⟨y,z,-,A⟩:=DataW.trod_int Tryz.underlying3 e;obtain⟨B,C,-,E⟩:=DataW.trod_int Tryz.underlying3 f;obtain⟨F,H,-,w5⟩:=DataW.trod_int Tryz.underlying3 g;obtain⟨I,J,-,K⟩:=DataW.trod_int Tryz.underlying3 h
  cases r;cases t;cases w;cases z;cases C;cases H;cases J
  exact⟨⟨q,z1,v,y,B,F,I⟩,rfl,aP s,aP u,aP x,aP A,aP E,aP K⟩
def MG:Reads XP Vu 60:=λS k T U d cs V l e=>by
 obtain⟨m,W,_,rfl,n,o,P⟩:=DataW.trod_struct (Tryz.underlying60) l;have p:Tryz.prog.cellsOf 60=5:=kR
 have q:cs.length=5:=n.trans p;have r:Tryz.prog.cellsOf 3=1:=kR
 have s:Tryz.prog.cellsOf 27=1:=kR
 have t:Tryz.prog.cellsOf 50=1:=kR
 match cs,q with
 |[X,Y,Z,v3,v4],_=>
 match m,o with
 |[y0,y1,y2,u,v],_=>
  have f:=P 0 _ rfl;have g:=P 1 _ rfl;have h:=P 2 _ rfl;have i:=P 3 _ rfl;have j:=P 4 _ rfl;simp only[r,s,t,List.drop_zero,List.drop_succ_cons,Zw,List.take_zero,List.take_nil,ZJ,ZZ]at f g h i j;obtain⟨w,x,-,w0⟩:=DataW.trod_int Tryz.underlying3 f;obtain⟨z1,y,-,w1⟩:=DataW.trod_int Tryz.underlying3 g;obtain⟨z,A,-,w2⟩:=DataW.trod_int Tryz.underlying3 h;have B:iP XP 27 u.1:=by
   intro a b;refine e a ?_;have c:Tryz.prog.underlying 60=_:=Tryz.underlying60;simp only[DataW.weights,c,QY,List.map_nil,DataW.weightsEach,Q6];right;right;right;left;exact b
  obtain⟨C,E,F,H,I,-,-,J⟩:=open_row (bytes:=8) Tryz.underlying27 kR dC kR (CU Tryz.underlying3) i B;have K:iP XP 50 v.1:=by
   intro a b;refine e a ?_;have c:Tryz.prog.underlying 60=_:=Tryz.underlying60;simp only[DataW.weights,c,QY,List.map_nil,DataW.weightsEach,Q6];right;right;right;right;left;exact b
  obtain⟨L,M,N,O,Q,-,-,R⟩:=open_row (bytes:=96) Tryz.underlying50 kR dC kR (Ox) j K
  cases x;cases y;cases A;cases I;cases Q
  exact⟨⟨w,z1,z,H,O⟩,C,E,F,L,M,N,rfl,J,R⟩
def He:Reads XP Rg 67:=λe P f g h cs a0 q i=>by
 obtain⟨r,n2,_,rfl,s,t,a⟩:=DataW.trod_struct (Tryz.underlying67) q;have u:Tryz.prog.cellsOf 67=15:=kR
 have v:cs.length=15:=s.trans u;have w:Tryz.prog.cellsOf 3=1:=kR
 have x:Tryz.prog.cellsOf 49=7:=kR
 have y:Tryz.prog.cellsOf 60=5:=kR
 match cs,v with
 |[v0,v1,v2,v3,v4,v5,v6,v7,v8,v9,a1,a2,a3,a4,a5],_=>
 match r,t with
 |[y0,y1,y2,z,A],_=>
  have j:=a 0 _ rfl;have k:=a 1 _ rfl;have l:=a 2 _ rfl;have m:=a 3 _ rfl;have n:=a 4 _ rfl;simp only[w,x,y,List.drop_zero,List.drop_succ_cons,Zw,List.take_zero,List.take_nil,ZJ,ZZ]at j k l m n;obtain⟨B,C,-,E⟩:=DataW.trod_int Tryz.underlying3 j;obtain⟨z1,F,-,H⟩:=DataW.trod_int Tryz.underlying3 k;obtain⟨I,J,-,K⟩:=DataW.trod_int Tryz.underlying3 l;have L:iP XP 49 z.1:=by
   intro b c;refine i b ?_;have d:Tryz.prog.underlying 67=_:=Tryz.underlying67;simp only[DataW.weights,d,QY,List.map_nil,DataW.weightsEach,Q6];right;right;right;left;exact c
  obtain⟨M,N⟩:=MF e P f g _ _ _ m L;have O:iP XP 60 A.1:=by
   intro b c;refine i b ?_;have d:Tryz.prog.underlying 67=_:=Tryz.underlying67;simp only[DataW.weights,d,QY,List.map_nil,DataW.weightsEach,Q6];right;right;right;right;left;exact c
  obtain⟨Q,R⟩:=MG e P f g _ _ _ n O
  cases C;cases F;cases J
  obtain⟨o,S⟩:=N;obtain⟨T,U,V,W,X,Y,p,Z,he⟩:=R;simp only[gH,bS,List.cons.injEq,and_true]at o p;obtain⟨rfl,rfl,rfl,rfl,rfl,rfl,rfl⟩:=o;obtain⟨rfl,rfl,rfl,rfl,rfl⟩:=p;exact⟨⟨B,z1,I,M,Q⟩,T,U,V,W,X,Y,rfl,Z,he,aP E,aP H,aP K,S⟩
end
section
open Go.aw
variable{V p:Array Value}{g1 y:FuncId}{a3 e5 h4:List PanicEntry->XU}{d r:ZH}{u:Value}{a8 b k:World}{J:aR}{e6:sW}
def iu.ah(e:iu b e6 u k)(P:ai k a8):iu b e6 u a8:=by
 obtain⟨f,g,h,i,j,l,m,n,o,G,p,q,r,s,a⟩:=e;exact⟨f,g,h,i,j,l,m,n,o,G,p,q.ah P,r.ah P,s.ah P,λc d=>⟨(a c d).1,by have:=(a c d).2;have:=P.size;omega⟩⟩
def Li{x:sW}(o:∀P,ai b P->ZG y p P (Ok λc a=>iu P x c a/\ai P a))(q:∀P,ai b P->ZG g1 V P (Ok λc a=>iu P x c a/\ai P a)){f:XU}{r:XU}(e:∀a,ai b a->f a):
  PC XP y p b (λc P=>BI (ft XP 46) λx=>c=x/\PC XP g1 V P (λg h=>BI (ft XP 46) λi=>g=i/\PC XP 52 #[x,i] h (λs d=>∃j:Bool,s= .bool j/\an (!j) (r d) (f d)) a3) e5) h4:=by
 refine PC.ok (o b (ak.refl _)) ?_;rintro c P ⟨k,l⟩;have t:=k;obtain⟨u,v,w,z,A,B,C,E,F,G,rfl,-⟩:=k;refine bX (Hf x u v w z A B C E F) ⟨rfl,PC.ok (q P l) ?_⟩;rintro g h ⟨m,n⟩;have H:=m;obtain⟨I,tn,J,K,L,M,N,O,Q,S,rfl,-⟩:=m;refine bX (Hf x I tn J K L M N O Q) ⟨rfl,PC.ok (Au (t.ah n) H) ?_⟩;rintro _ d ⟨rfl,R⟩;exact⟨_,rfl,an.ff rfl (e d ((l.then n).then R))⟩
section
variable {w w' w0:World} {p q:Nat} {F G D:XN} {c e:cD} {self other:Int} {X Y:bI}
def Hk(l:bE w p F c self X)(m:bE w q G e other Y)(n:c.decl=e.decl)(o:X.S.l=Y.S.l){tn A s B:Nat}(v:bf w D J d tn r s):
  ZG 19 #[XL p,XL q,.agg #[.slice d tn A,.slice r s B]] w (Ok λC w'=>C= .bool true/\ai w w'):=by
 have E:=v.aX.dB;have H:=v.yO.dB;unfold aO at E H;refine zQ (PA.mk λb x N y=>?_);have step:∀{P:Nat},P<1000000000000000->IntKind.wrap .i64 ((P:Int)-1+1)=((P+1:Nat):Int)-1:=λ{P} z=>by
  rw[wrap_i64 bb];omega
 refine⟨λg k w'=>∃P:Nat,k=(P:Int)-1/\P<=tn+2/\g=tn+2-P/\ai b w',⟨_,0,rfl,Qj _,rfl,ak.refl _⟩,?_⟩;rintro g _ _ O ⟨P,rfl,z,rfl,t⟩;refine⟨_,_,_,ae (t.get y id) rfl,an.dec (λI=>?_) (λQ=>?_)⟩
 ·refine⟨λg k w'=>∃h:Nat,k=h/\h<=4/\g=4-h/\ai b w',⟨_,0,rfl,Qj _,rfl,t⟩,?_⟩
  rintro g _ _ K ⟨h,rfl,R,rfl,i⟩;have f:=x.then i;refine an.dec (λS=>?_) (λ_=>⟨_,oM,P+1,step oM,oM,rfl,i⟩);refine Li (x:=Cn c.decl X.S.l ((P:Int)-1) h) (λb a=>yC ((l.ah f).ah a)) (λb a=>by rw[n,o];exact yC ((m.ah f).ah a)) λL j=>?_;refine Li (x:=yD c.decl X.S.l ((P:Int)-1) h h) (λb a=>AA (((l.ah f).ah j).ah a) bb) (λb a=>by rw[n,o];exact AA (((m.ah f).ah j).ah a) bb) λM u=>?_;exact⟨_,oM,h+1,aq oM,oM,rfl,(i.then j).then u⟩
 ·refine⟨λg k w'=>∃P:Nat,k=(P:Int)-1/\P<=s+2/\g=s+2-P/\ai b w',⟨_,0,rfl,Qj _,rfl,t⟩,?_⟩
  rintro g _ _ K ⟨P,rfl,z,rfl,i⟩;have f:=x.then i;refine⟨_,_,_,ae (i.get y id) rfl,an.dec (λI=>?_) (λ_=>Ok.mk ⟨rfl,f⟩)⟩;refine Li (x:=wg c.decl X.S.l ((P:Int)-1) (-9223372036854775808)) (λb a=>qC ((l.ah f).ah a)) (λb a=>by rw[n,o];exact qC ((m.ah f).ah a)) λL j=>?_;refine Li (x:=wg c.decl X.S.l ((P:Int)-1) 2) (λb a=>qC (((l.ah f).ah j).ah a)) (λb a=>by rw[n,o];exact qC (((m.ah f).ah j).ah a)) λM u=>?_;exact⟨_,oM,P+1,step oM,oM,rfl,(i.then j).then u⟩
