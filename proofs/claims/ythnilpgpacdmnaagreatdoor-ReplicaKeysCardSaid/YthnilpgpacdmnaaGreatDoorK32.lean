import Derived.Test.YthnilpgpacdmnaaGreatDoorK31
namespace Go.au
open Go Go.WideShapes
variable{K:Bool}{g1:List MemPlace}{a:Nat}{h:Program}{L j:Type}{g:TypeId}{v:Value}{b:World}
theorem GR {c:TypeId×Value->j} {k:Reach} {f:DataW j} {i:jk L} {l:Array Field} (m:h.underlying g=some (.struct l)) (n:Reads h i g)
  (o:Value.okWide h b k a g v) (p:DataW.Trod c h b 0 (λ_=>true) K g v f g1) (q:iF h g f):∃e cs,v= .agg cs/\i.rep b (In b) e cs.toList:=by
 obtain⟨cs,rfl,-⟩:=okWide_struct m o;obtain⟨d,r⟩:=p;obtain⟨e,s⟩:=n j c b K d cs.toList _ r q;exact⟨e,cs,rfl,s⟩
end Go.au
namespace Go.Proofs.YthnilpgpacdmnaaGreatDoor
open Go.au
set_option linter.unusedVariables false
set_option maxRecDepth 20000
structure UI (c:cy):Prop where
 bR:aK c.bR
 ug:aK c.ug
 bN:aK c.bN
 chunk:aK c.chunk
 buffer:aK c.buffer
 cQ:aK c.cQ
 every:aK c.every
 start:aK c.start
def TF:jk aM where
 k:=2
 rep:=λj D k cs=>∃a tn d b c e,cs=[.slice a tn d,.slice b c e]/\aW j D k a tn b c
 af:=λ⟨a,tn,d,b,c,e,f,g⟩ l h=>⟨a,tn,d,b,c,e,f,g.af l h⟩
 mono:=λ⟨a,tn,d,b,c,e,f,g⟩ h=>⟨a,tn,d,b,c,e,f,g.mono h⟩
 len:=λ⟨a,tn,d,b,c,e,f,_⟩=>by rw [f];rfl
 one:=λ⟨a,tn,d,b,c,e,f,_⟩ m i=>by rw [f]at i;simp at i;rcases i with rfl|rfl<;>rfl
def UJ:jk cy where
 k:=10
 rep:=λl D g cs=>∃a tn d b c e,cs=gw g a tn d b c e/\aW l D g.decl a tn b c/\UI g
 af:=λ⟨a,tn,d,b,c,e,f,h,i⟩ m j=>⟨a,tn,d,b,c,e,f,h.af m j,i⟩
 mono:=λ⟨a,tn,d,b,c,e,f,h,i⟩ j=>⟨a,tn,d,b,c,e,f,h.mono j,i⟩
 len:=λ⟨a,tn,d,b,c,e,f,_,_⟩=>by rw [f];rfl
 one:=λ⟨a,tn,d,b,c,e,f,_,_⟩ n k=>by rw [f]at k;simp [gw]at k;rcases k with rfl|rfl|rfl|rfl|rfl|rfl|rfl|rfl|rfl|rfl<;>rfl
def UK:jk iU:=flat 7 fx iU.Ok (λ_=>rfl) (λb c a=>by simp [fx]at a;rcases a with rfl|rfl|rfl|rfl|rfl|rfl|rfl<;>rfl)
def UL:jk cN where
 k:=5
 rep:=λm D i cs=>∃a b e c d f,cs=bH i a b e c d f/\Row aG 8 m D a b i.vec/\Row f_ 96 m D c d i.events
 af:=λ⟨a,b,e,c,d,f,g,j,k⟩ n h=>⟨a,b,e,c,d,f,g,j.af n h,k.af n h⟩
 mono:=λ⟨a,b,e,c,d,f,g,j,k⟩ h=>⟨a,b,e,c,d,f,g,j.mono h,k.mono h⟩
 len:=λ⟨a,b,e,c,d,f,g,_,_⟩=>by rw [g];rfl
 one:=λ⟨a,b,e,c,d,f,g,_,_⟩ o l=>by rw [g]at l;simp [bH]at l;rcases l with rfl|rfl|rfl|rfl|rfl<;>rfl
theorem Jj:Reads Tryz.prog fp 182:=λz g A B b cs C h E=>by
 obtain⟨i,F,_,rfl,j,k,a⟩:=DataW.trod_struct (Tryz.underlying182) h;have l:Tryz.prog.cellsOf 182=4:=kR
 have m:cs.length=4:=j.trans l;have n:Tryz.prog.cellsOf 3=1:=kR
 match cs,m with
 |[H,I,J,K],_=>
 match i,k with
 |[L,M,N,O],_=>
  have c:=a 0 _ rfl;have d:=a 1 _ rfl;have e:=a 2 _ rfl;have f:=a 3 _ rfl;simp only [n,List.drop_zero,List.drop_succ_cons,List.take_succ_cons,List.take_zero,List.take_nil,List.getElem?_cons_zero,List.getElem?_cons_succ]at c d e f;obtain⟨o,p,-,q⟩:=DataW.trod_int Tryz.underlying3 c;obtain⟨z1,r,-,s⟩:=DataW.trod_int Tryz.underlying3 d;obtain⟨t,u,-,v⟩:=DataW.trod_int Tryz.underlying3 e;obtain⟨w,x,-,y⟩:=DataW.trod_int Tryz.underlying3 f
  cases p;cases r;cases u;cases x
  exact⟨⟨o,z1,t,w⟩,rfl,aJ q,aJ s,aJ v,aJ y⟩
theorem Ma:Reads Tryz.prog nQ 110:=λL g M N b cs O h i=>by
 obtain⟨j,P,_,rfl,k,l,a⟩:=DataW.trod_struct (Tryz.underlying110) h;have m:Tryz.prog.cellsOf 110=4:=kR
 have n:cs.length=4:=k.trans m;have o:Tryz.prog.cellsOf 3=1:=kR
 have p:Tryz.prog.cellsOf 4=1:=kR
 have q:Tryz.prog.cellsOf 108=1:=kR
 match cs,n with
 |[Q,R,S,T],_=>
 match j,l with
 |[U,V,W,r],_=>
  have c:=a 0 _ rfl;have d:=a 1 _ rfl;have e:=a 2 _ rfl;have f:=a 3 _ rfl;simp only [o,p,q,List.drop_zero,List.drop_succ_cons,List.take_succ_cons,List.take_zero,List.take_nil,List.getElem?_cons_zero,List.getElem?_cons_succ]at c d e f;obtain⟨s,t,-,u⟩:=DataW.trod_int Tryz.underlying3 c;obtain⟨z1,v,-,w⟩:=DataW.trod_int Tryz.underlying3 d;obtain⟨x,y,-⟩:=DataW.trod_bool Tryz.underlying4 e;have z:iF Tryz.prog 108 r.1:=by
   intro A B;refine i A ?_;have C:Tryz.prog.underlying 110=_:=Tryz.underlying110;simp only [DataW.weights,C,QY,List.map_nil,DataW.weightsEach,Q6];right;right;right;left;exact B
  obtain⟨E,F,H,I,J,-,-,K⟩:=open_row (bytes:=32) Tryz.underlying108 kR dC kR (Jj) f z
  cases t;cases v;cases y;cases J
  exact⟨⟨s,z1,x,I⟩,E,F,H,rfl,K,aJ u,aJ w⟩
theorem Mb:Reads Tryz.prog jE 107:=λx c y z a cs A d e=>by
 obtain⟨f,B,_,rfl,g,h,i⟩:=DataW.trod_struct (Tryz.underlying107) d;have j:Tryz.prog.cellsOf 107=1:=kR
 have k:cs.length=1:=g.trans j;have l:Tryz.prog.cellsOf 105=1:=kR
 match cs,k with
 |[C],_=>
 match f,h with
 |[m],_=>
  have b:=i 0 _ rfl;simp only [l,List.drop_zero,List.drop_succ_cons,List.take_succ_cons,List.take_zero,List.take_nil,List.getElem?_cons_zero,List.getElem?_cons_succ]at b;have n:iF Tryz.prog 105 m.1:=by
   intro o p;refine e o ?_;have q:Tryz.prog.underlying 107=_:=Tryz.underlying107;simp only [DataW.weights,q,QY,List.map_nil,DataW.weightsEach,Q6];left;exact p
  obtain⟨r,s,t,u,v,-,-,w⟩:=open_row (bytes:=48) Tryz.underlying105 kR dC kR (Ma) b n
  cases v
  exact⟨u,r,s,t,rfl,w⟩
theorem Jk:Reads Tryz.prog t_ 119:=λE h F H b cs I i J=>by
 obtain⟨j,K,_,rfl,k,l,a⟩:=DataW.trod_struct (Tryz.underlying119) i;have m:Tryz.prog.cellsOf 119=5:=kR
 have n:cs.length=5:=k.trans m;have o:Tryz.prog.cellsOf 3=1:=kR
 match cs,n with
 |[L,M,N,O,P],_=>
 match j,l with
 |[Q,R,S,T,U],_=>
  have c:=a 0 _ rfl;have d:=a 1 _ rfl;have e:=a 2 _ rfl;have f:=a 3 _ rfl;have g:=a 4 _ rfl;simp only [o,List.drop_zero,List.drop_succ_cons,List.take_succ_cons,List.take_zero,List.take_nil,List.getElem?_cons_zero,List.getElem?_cons_succ]at c d e f g;obtain⟨p,q,-,r⟩:=DataW.trod_int Tryz.underlying3 c;obtain⟨z1,s,-,t⟩:=DataW.trod_int Tryz.underlying3 d;obtain⟨u,v,-,w⟩:=DataW.trod_int Tryz.underlying3 e;obtain⟨x,y,-,z⟩:=DataW.trod_int Tryz.underlying3 f;obtain⟨A,B,-,C⟩:=DataW.trod_int Tryz.underlying3 g
  cases q;cases s;cases v;cases y;cases B
  exact⟨⟨p,z1,u,x,A⟩,rfl,aJ r,aJ t,aJ w,aJ z,aJ C⟩
theorem Jl:Reads Tryz.prog TF 25:=λI i J K d cs L j e=>by
 obtain⟨k,M,_,rfl,l,m,f⟩:=DataW.trod_struct (Tryz.underlying25) j;have n:Tryz.prog.cellsOf 25=2:=kR
 have o:cs.length=2:=l.trans n;have p:Tryz.prog.cellsOf 22=1:=kR
 have q:Tryz.prog.cellsOf 23=1:=kR
 match cs,o with
 |[N,O],_=>
 match k,m with
 |[r,s],_=>
  have g:=f 0 _ rfl;have h:=f 1 _ rfl;simp only [p,q,List.drop_zero,List.drop_succ_cons,List.take_succ_cons,List.take_zero,List.take_nil,List.getElem?_cons_zero,List.getElem?_cons_succ]at g h;have t:iF Tryz.prog 22 r.1:=by
   intro a b;refine e a ?_;have c:Tryz.prog.underlying 25=_:=Tryz.underlying25;simp only [DataW.weights,c,QY,List.map_nil,DataW.weightsEach,Q6];left;exact b
  obtain⟨u,v,w,x,y,-,-,z⟩:=open_row (bytes:=24) Tryz.underlying22 kR dC kR (Mb) g t;have A:iF Tryz.prog 23 s.1:=by
   intro a b;refine e a ?_;have c:Tryz.prog.underlying 25=_:=Tryz.underlying25;simp only [DataW.weights,c,QY,List.map_nil,DataW.weightsEach,Q6];right;left;exact b
  obtain⟨B,C,E,z1,F,-,-,H⟩:=open_row (bytes:=40) Tryz.underlying23 kR dC kR (Jk) h A
  cases y;cases F
  exact⟨⟨x,z1⟩,u,v,w,B,C,E,rfl,⟨z,H⟩⟩
theorem Mc:Reads Tryz.prog UJ 27:=λm b n o c cs a0 p q=>by
 obtain⟨r,n2,_,rfl,s,t,a⟩:=DataW.trod_struct (Tryz.underlying27) p;have u:Tryz.prog.cellsOf 27=10:=kR
 have v:cs.length=10:=s.trans u;have w:Tryz.prog.cellsOf 3=1:=kR
 have x:Tryz.prog.cellsOf 25=2:=kR
 match cs,v with
 |[v0,v1,v2,v3,v4,v5,v6,v7,v8,v9],_=>
 match r,t with
 |[y0,y1,y2,y3,y4,y5,y6,y7,y],_=>
  have d:=a 0 _ rfl;have e:=a 1 _ rfl;have f:=a 2 _ rfl;have g:=a 3 _ rfl;have h:=a 4 _ rfl;have i:=a 5 _ rfl;have j:=a 6 _ rfl;have k:=a 7 _ rfl;have l:=a 8 _ rfl;simp only [w,x,List.drop_zero,List.drop_succ_cons,List.take_succ_cons,List.take_zero,List.take_nil,List.getElem?_cons_zero,List.getElem?_cons_succ]at d e f g h i j k l;obtain⟨z,A,-,B⟩:=DataW.trod_int Tryz.underlying3 d;obtain⟨z1,C,-,E⟩:=DataW.trod_int Tryz.underlying3 e;obtain⟨F,H,-,I⟩:=DataW.trod_int Tryz.underlying3 f;obtain⟨J,K,-,L⟩:=DataW.trod_int Tryz.underlying3 g;obtain⟨M,N,-,O⟩:=DataW.trod_int Tryz.underlying3 h;obtain⟨P,Q,-,R⟩:=DataW.trod_int Tryz.underlying3 i;obtain⟨S,T,-,U⟩:=DataW.trod_int Tryz.underlying3 j;obtain⟨V,W,-,X⟩:=DataW.trod_int Tryz.underlying3 k;have Y:iF Tryz.prog 25 y.1:=by
   intro Z hq;refine q Z ?_;have hu:Tryz.prog.underlying 27=_:=Tryz.underlying27;simp only [DataW.weights,hu,QY,List.map_nil,DataW.weightsEach,Q6];right;right;right;right;right;right;right;right;left;exact hq
  obtain⟨z8,r8⟩:=Jl m b n o _ _ _ l Y
  cases A;cases C;cases H;cases K;cases N;cases Q;cases T;cases W
  obtain⟨ta,tn,tc,pa,pn,pc,he,hd⟩:=r8
  cases he
  exact⟨⟨z,z1,F,J,M,P,S,V,z8⟩,ta,tn,tc,pa,pn,pc,rfl,hd,aJ B,aJ E,aJ I,aJ L,aJ O,aJ R,aJ U,aJ X⟩
theorem CR:Reads Tryz.prog UK 30:=λM j N O b cs P k Q=>by
 obtain⟨l,R,_,rfl,m,n,a⟩:=DataW.trod_struct (Tryz.underlying30) k;have o:Tryz.prog.cellsOf 30=7:=kR
 have p:cs.length=7:=m.trans o;have q:Tryz.prog.cellsOf 3=1:=kR
 match cs,p with
 |[S,T,U,V,W,X,Y],_=>
 match l,n with
 |[Z,y1,y2,y3,y4,y5,y6],_=>
  have c:=a 0 _ rfl;have d:=a 1 _ rfl;have e:=a 2 _ rfl;have f:=a 3 _ rfl;have g:=a 4 _ rfl;have h:=a 5 _ rfl;have i:=a 6 _ rfl;simp only [q,List.drop_zero,List.drop_succ_cons,List.take_succ_cons,List.take_zero,List.take_nil,List.getElem?_cons_zero,List.getElem?_cons_succ]at c d e f g h i;obtain⟨r,s,-,t⟩:=DataW.trod_int Tryz.underlying3 c;obtain⟨z1,u,-,v⟩:=DataW.trod_int Tryz.underlying3 d;obtain⟨w,x,-,y⟩:=DataW.trod_int Tryz.underlying3 e;obtain⟨z,A,-,B⟩:=DataW.trod_int Tryz.underlying3 f;obtain⟨C,E,-,F⟩:=DataW.trod_int Tryz.underlying3 g;obtain⟨H,I,-,w5⟩:=DataW.trod_int Tryz.underlying3 h;obtain⟨J,K,-,L⟩:=DataW.trod_int Tryz.underlying3 i
  cases s;cases u;cases x;cases A;cases E;cases I;cases K
  exact⟨⟨r,z1,w,z,C,H,J⟩,rfl,aJ t,aJ v,aJ y,aJ B,aJ F,aJ L⟩
theorem Md:Reads Tryz.prog UL 42:=λS l T U e cs V m f=>by
 obtain⟨n,W,_,rfl,o,p,a⟩:=DataW.trod_struct (Tryz.underlying42) m;have q:Tryz.prog.cellsOf 42=5:=kR
 have r:cs.length=5:=o.trans q;have s:Tryz.prog.cellsOf 3=1:=kR
 have t:Tryz.prog.cellsOf 39=1:=kR
 have u:Tryz.prog.cellsOf 40=1:=kR
 match cs,r with
 |[X,Y,Z,v3,v4],_=>
 match n,p with
 |[y0,y1,y2,v,w],_=>
  have g:=a 0 _ rfl;have h:=a 1 _ rfl;have i:=a 2 _ rfl;have j:=a 3 _ rfl;have k:=a 4 _ rfl;simp only [s,t,u,List.drop_zero,List.drop_succ_cons,List.take_succ_cons,List.take_zero,List.take_nil,List.getElem?_cons_zero,List.getElem?_cons_succ]at g h i j k;obtain⟨x,y,-,w0⟩:=DataW.trod_int Tryz.underlying3 g;obtain⟨z1,z,-,w1⟩:=DataW.trod_int Tryz.underlying3 h;obtain⟨A,B,-,w2⟩:=DataW.trod_int Tryz.underlying3 i;have C:iF Tryz.prog 39 v.1:=by
   intro b c;refine f b ?_;have d:Tryz.prog.underlying 42=_:=Tryz.underlying42;simp only [DataW.weights,d,QY,List.map_nil,DataW.weightsEach,Q6];right;right;right;left;exact c
  obtain⟨E,F,H,I,J,-,-,K⟩:=open_row (bytes:=8) Tryz.underlying39 kR dC kR (CL Tryz.underlying3) j C;have L:iF Tryz.prog 40 w.1:=by
   intro b c;refine f b ?_;have d:Tryz.prog.underlying 42=_:=Tryz.underlying42;simp only [DataW.weights,d,QY,List.map_nil,DataW.weightsEach,Q6];right;right;right;right;left;exact c
  obtain⟨M,N,O,P,Q,-,-,R⟩:=open_row (bytes:=96) Tryz.underlying40 kR dC kR (NQ) k L
  cases y;cases z;cases B;cases J;cases Q
  exact⟨⟨x,z1,A,I,P⟩,E,F,H,M,N,O,rfl,K,R⟩
theorem GS:Reads Tryz.prog Qd 44:=λf a g h i cs a0 r j=>by
 obtain⟨s,n2,_,rfl,t,u,b⟩:=DataW.trod_struct (Tryz.underlying44) r;have v:Tryz.prog.cellsOf 44=15:=kR
 have w:cs.length=15:=t.trans v;have x:Tryz.prog.cellsOf 3=1:=kR
 have y:Tryz.prog.cellsOf 30=7:=kR
 have z:Tryz.prog.cellsOf 42=5:=kR
 match cs,w with
 |[v0,v1,v2,v3,v4,v5,v6,v7,v8,v9,a1,a2,a3,a4,a5],_=>
 match s,u with
 |[y0,y1,y2,A,B],_=>
  have k:=b 0 _ rfl;have l:=b 1 _ rfl;have m:=b 2 _ rfl;have n:=b 3 _ rfl;have o:=b 4 _ rfl;simp only [x,y,z,List.drop_zero,List.drop_succ_cons,List.take_succ_cons,List.take_zero,List.take_nil,List.getElem?_cons_zero,List.getElem?_cons_succ]at k l m n o;obtain⟨C,E,-,F⟩:=DataW.trod_int Tryz.underlying3 k;obtain⟨z1,H,-,I⟩:=DataW.trod_int Tryz.underlying3 l;obtain⟨J,K,-,L⟩:=DataW.trod_int Tryz.underlying3 m;have M:iF Tryz.prog 30 A.1:=by
   intro c d;refine j c ?_;have e:Tryz.prog.underlying 44=_:=Tryz.underlying44;simp only [DataW.weights,e,QY,List.map_nil,DataW.weightsEach,Q6];right;right;right;left;exact d
  obtain⟨N,O⟩:=CR f a g h _ _ _ n M;have P:iF Tryz.prog 42 B.1:=by
   intro c d;refine j c ?_;have e:Tryz.prog.underlying 44=_:=Tryz.underlying44;simp only [DataW.weights,e,QY,List.map_nil,DataW.weightsEach,Q6];right;right;right;right;left;exact d
  obtain⟨Q,R⟩:=Md f a g h _ _ _ o P
  cases E;cases H;cases K
  obtain⟨p,S⟩:=O;obtain⟨T,U,V,W,X,Y,q,Z,he⟩:=R;simp only [fx,bH,List.cons.injEq,and_true]at p q;obtain⟨rfl,rfl,rfl,rfl,rfl,rfl,rfl⟩:=p;obtain⟨rfl,rfl,rfl,rfl,rfl⟩:=q;exact⟨⟨C,z1,J,N,Q⟩,T,U,V,W,X,Y,rfl,Z,he,aJ F,aJ I,aJ L,S⟩
end Go.Proofs.YthnilpgpacdmnaaGreatDoor
namespace Go.Proofs.YthnilpgpacdmnaaGreatDoor
open Go.au
set_option linter.unusedVariables false
set_option maxRecDepth 20000
variable{U r:Array Value}{g3 z:FuncId}{e:Int}{u:List Int}{a4 g8 i0:List PanicEntry->World->Prop}{a:Nat}{M a3:Prop}{v:Value}{a8 b k:World}{y:World->Prop}{J:aM}{m:aj}{B:aw}{d5:bE}{f0:cy}{f1:pH}
theorem aw.le_top :∀c∈B.l,c.ax<=B.top:=by
 have:∀(b:List aj) (a:Int),a<=b.foldl (λa d=>max a d.ax) a/\∀c∈b,c.ax<=b.foldl (λa d=>max a d.ax) a:=by
  intro b
  induction b with
  |nil=>intro a;simp
  |cons d b f=>
   intro a;obtain⟨h,g⟩:=f (max a d.ax);rw [List.foldl_cons];refine⟨oM,λc e=>?_⟩;rcases Q2.1 e with rfl|e
   ·omega
   ·exact g c e
 exact(this B.l 0).2
theorem Mf (c:∀d∈u,0<=d):gW u []=u:=by
 unfold gW mI;apply List.ext_getElem
 ·simp
 ·intro a f e
  have b:a<u.length:=e;have g:=c u[a] (XY b);simp only [List.getElem_map,List.getElem_range];rw [EF (xs:=u) (i:=(a:Int)) (x:=u[a]) oM (by simp [b]),GU (xs:=[]) sM];omega
theorem aw.Cl.Qh (c:B.Cl) (e:m∈B.l) (f:a<B.n):m.aN.getD a 0<=(B.s_ a:Int):=by
 rcases oP.1 (c.iz m e a f)with j|⟨g,h,-⟩
 ·omega
 ·obtain⟨i,b⟩:=aw.get_some h
  have d:=c.le g i;unfold aR at b;simp only [Prod.mk.injEq]at b;rw [b.1,b.2,Qx]at d;exact d
theorem aw.Cl.next (e:B.Cl) (j:a<B.n) (t:B.l.length<=20000000) (f:m.origin=a) (g:m.seq=(B.s_ a:Int)+1) (k:∀b∈B.l,b.ax<m.ax) (u:1<=m.ax) (i:m.aN=B.vec) (v:0<=m.agg) (w:0<=m.key) (x:1<=m.op/\m.op<=5) (y:0<=m.aT/\m.aT<8) (z:0<=m.field/\m.field<8):
  B.add m=(0,⟨B.n,B.l++[m]⟩):=by
 have A:=B.EG a;have n:cD m B.n=0:=by
  unfold cD;rw [if_neg,if_neg,if_neg oM,if_neg oM]
  ·rw [f,Qx,i,B.iA j,g]
   have:nE ((B.s_ a:Int)+1-1)=B.s_ a:=by
    show IntKind.wrap .i64 _=_;rw [wrap_i64 (by unfold aK;omega)];omega
   rw [this];simp
  ·rw [f,g,i,B.br]
   simp only [not_or];refine⟨oM,oM,oM,oM,sM,?_⟩;simp [aw.vec]
 have o:B.get (aR m)=none:=by
  cases c:B.get (aR m)with
  |none=>rfl
  |some b=>
   obtain⟨p,h⟩:=aw.get_some c;have q:=e.le b p;unfold aR at h;simp only [Prod.mk.injEq]at h;rw [h.1,h.2,f,Qx,g]at q;omega
 have r:∀d,d<B.n->B.iz m d=true:=λd l=>by
  rw [oP,i,B.iA l]
  by_cases C:B.s_ d=0
  ·exact .inl oM
  ·obtain⟨b,c,s⟩:=e.has d (B.s_ d) l oM (Int.le_refl _)
   refine .inr ⟨b,?_,k b c,λE F=>?_⟩
   ·rw [<-s];exact e.ok.get c
   ·obtain⟨-,-,-,-,-,-,H,-⟩:=lN (e.ok.Ul b c)
    rw [B.iA oM];exact e.Qh c oM
 rw [aw.Kv n o (by rw [f,Qx,B.iA j,g]) r,mG];intro b c;have:=k b c;unfold dP;simp;omega
theorem Jn (g:cO J=0) {b c d arg:Int} (a:iI J b c d arg=0):1<=d/\d<=5/\0<=b/\b<8/\0<=c/\c<8:=by
 obtain⟨i,-,-⟩:=jC g;obtain⟨l,m,n,o⟩:=uX i;have e:=a;unfold iI at a
 cases f:J.Br b c with
 |none=>rw [f]at a;simp at a
 |some p=>
  rw [f]at a;simp only at a;obtain⟨q,r,s,t,j,u,v,w⟩:=aM.pG f;have k:=(EH g e (cells:=cP (J.at b)) (by simp [cP])).2.2.2;rw [j]at k;split at a
  ·simp at a
  ·rename_i h
   simp only [Bool.or_eq_true,not_or,Bool.not_eq_true,Bool.not_eq_eq_eq_not,Bool.not_true,Bool.not_false]at h;have:=bj.1 (by simpa using h.1:within d 1 5=true);omega
theorem UM [Decidable M] [Decidable a3] {c d e b:aj×Bool×Int} (a:(if M then c else if a3 then d else e)=b) (f:c.2.2≠0) (g:d.2.2≠0) (h:b.2.2=0):e=b:=by
 by_cases i:M
 ·rw [if_pos i]at a;rw [a]at f;exact absurd h f
 rw [if_neg i]at a
 by_cases j:a3
 ·rw [if_pos j]at a;rw [a]at g;exact absurd h g
 rw [if_neg j]at a;exact a
structure Ss (c:cy) (me:Int) (X:bE) (x:iU):Prop where
 no:(bI c me X x).1≠0->(bI c me X x).2.2.S=X.S
 Uj:(bI c me X x).1=0->(bI c me X x).2.2.S.l.length=X.S.l.length->x.key≠0/\(bI c me X x).2.2.S=X.S
 new:(bI c me X x).1=0->(bI c me X x).2.2.S.l.length≠X.S.l.length->∃e:aj,(bI c me X x).2.2.S.l=X.S.l++[e]/\aR e=(bI c me X x).2.1/\aR e=(me,(X.S.s_ me.toNat:Int)+1)/\
  (x.key≠0->bI c me (bI c me X x).2.2 x=(0,aR e,(bI c me X x).2.2))
theorem Qi {x:iU} (s:kH f0 e) (v:d5.S.Cl) (C:d5.S.n=f0.bR.toNat) (E:d5.S.l.length<=20000000):Ss f0 e d5 x:=by
 obtain⟨Z,a6⟩:=s.Oi;obtain⟨a7,a8,a9⟩:=s.bR;obtain⟨m,t⟩:∃m:Nat,e=m:=⟨e.toNat,oM⟩
 have w:m<d5.S.n:=oM
 cases o:d5.log with
 |none=>
  have c:bI f0 e d5 x=(15,(0,0),d5):=by unfold bI;rw [o]
  refine⟨λ_=>by rw [c],λb=>?_,λb=>?_⟩<;>(rw [c]at b;simp at b)
 |some a0=>
 obtain⟨a,f⟩:∃a,mg f0.decl d5.S (cg f0.decl d5.S.l) e f0.start x=a:=⟨_,rfl⟩
 have c:bI f0 e d5 x=(if a.2.2≠0 then(a.2.2,(0,0),d5)else if a.2.1 then(if(cR f0 d5 [a.1]).1≠0 then((cR f0 d5 [a.1]).1,(0,0),(cR f0 d5 [a.1]).2)else(0,aR a.1,(cR f0 d5 [a.1]).2))else(0,aR a.1,d5)):=by
  unfold bI;rw [o,<-f]
 have b0:=f;rw [mh]at f
 by_cases g:a.2.2≠0
 ·rw [if_pos g]at c
  refine⟨λ_=>by rw [c],λb=>?_,λb=>?_⟩<;>(rw [c]at b;exact absurd b g)
 rw [if_neg g]at c;have g:a.2.2=0:=Classical.not_not.1 g
 by_cases h:eA f0.decl x≠0
 ·rw [if_pos h]at f;rw [<-f]at g;exact absurd g h
 rw [if_neg h]at f;have h:eA f0.decl x=0:=Classical.not_not.1 h
 cases k:d5.S.keyed x.key with
 |some F=>
  rw [k]at f;simp only at f;subst f;have c:bI f0 e d5 x=(0,aR F,d5):=by rw [c];rfl
  refine⟨λb=>absurd (by rw [c]) b,λ_ _=>⟨?_,by rw [c]⟩,λ_ b=>absurd (by rw [c]) b⟩;intro H;unfold aw.keyed at k;have:=List.find?_some k;rw [H]at this;simp at this
 |none=>
  rw [k]at f;simp only at f;have f:=UM f sM sM g;have I:a.2.1=true:=by rw [<-f]at g⊢;simpa using g
  rw [if_pos I]at c
  by_cases d:(cR f0 d5 [a.1]).1≠0
  ·rw [if_pos d]at c
   have n:(cR f0 d5 [a.1]).2.S=d5.S:=by
    unfold cR at d⊢;rw [o]at d⊢;dsimp only at d⊢;split
    ·rfl
    rename_i l;rw [if_neg l]at d;split
    ·rfl
    rename_i p;rw [if_neg p]at d;exact absurd rfl d
   refine⟨λ_=>by rw [c];exact n,λb=>?_,λb=>?_⟩<;>(rw [c]at b;exact absurd b d)
  rw [if_neg d]at c;have J:∃y,(cR f0 d5 [a.1]).2.log=some y/\(cR f0 d5 [a.1]).2.S=ef f0 d5.S [a.1]:=by
   unfold cR at d⊢;rw [o]at d⊢;dsimp only at d⊢;split
   ·rename_i l;rw [if_pos l]at d;exact absurd l d
   rename_i l;rw [if_neg l]at d;split
   ·rename_i p;rw [if_pos p]at d;exact absurd p d
   ·exact⟨_,rfl,rfl⟩
  obtain⟨y,K,L⟩:=J;have j:(aQ x e d5.S.vec (max d5.S.top f0.start)).1=0:=by rw [<-f]at g;exact g
  have i:a.1=(aQ x e d5.S.vec (max d5.S.top f0.start)).2:=by rw [<-f]
  have M:∀q∈d5.S.vec,0<=q:=λq r=>by
   unfold aw.vec at r;obtain⟨a1,-,rfl⟩:=Xk.1 r;omega
  have z:eJ d5.S.vec e=d5.S.s_ m:=by
   rw [EF (x:=(d5.S.s_ m:Int)) oM (by rw [t,Qx];exact d5.S.jv w)];omega
  unfold aQ at j i;dsimp only at j i
  by_cases A:e<0\/(d5.S.vec.length:Int)<=e\/max d5.S.top f0.start<0
  ·rw [if_pos A]at j;cases j
  rw [if_neg A]at j i
  by_cases B:eJ d5.S.vec e=9223372036854775807\/max d5.S.top f0.start=9223372036854775807
  ·rw [if_pos B]at j;cases j
  rw [if_neg B]at i;dsimp only at i;unfold eA at h;split at h
  ·cases h
  rename_i N;obtain⟨O,P,Q,R,S,T⟩:=Jn s.decl h;have U:d5.S.add a.1=(0,⟨d5.S.n,d5.S.l++[a.1]⟩):=by
   have b1:=d5.S.Al;rw [i];exact v.next w E t (by dsimp only;rw [z]) (λq r=>by have:=aw.le_top q r;dsimp only;omega) (by dsimp only;omega) (Mf M) (by dsimp only;omega) (by dsimp only;omega) ⟨O,P⟩ ⟨Q,R⟩ ⟨S,T⟩
  have n:(cR f0 d5 [a.1]).2.S=⟨d5.S.n,d5.S.l++[a.1]⟩:=by
   rw [L,Am v C];show(d5.S.add a.1).2=_;rw [U]
  have V:aR a.1=(e,(d5.S.s_ e.toNat:Int)+1):=by rw [i];unfold aR;dsimp only;rw [z,t,Qx]
  refine⟨λb=>absurd (by rw [c]) b,λ_ b=>?_,λ_ _=>⟨a.1,by rw [c];exact congrArg aw.l n,by rw [c],V,λW=>?_⟩⟩
  ·rw [c]at b
   have b:(cR f0 d5 [a.1]).2.S.l.length=d5.S.l.length:=b;rw [n]at b;simp at b
  ·rw [c]
   dsimp only;generalize b2:(cR f0 d5 [a.1]).2=u at*;have X:u.S.keyed x.key=some a.1:=by
    rw [n];unfold aw.keyed at k⊢;rw [List.find?_append,k];simp only [Option.none_or];have:a.1.key=x.key:=by rw [i]
    simp [this,W]
   have Y:mg f0.decl u.S (cg f0.decl u.S.l) e f0.start x=(a.1,false,0):=by
    rw [mh,if_neg (by unfold eA;rw [if_neg N];simpa using h),X]
   unfold bI;rw [K];simp only;rw [Y];simp
theorem g_.ah (f:g_ b f1 v k) (a:ai k a8):g_ b f1 v a8:=by
 obtain⟨g,h,i,j,l,m,n,o,p,G,q,r,s,t,c⟩:=f;exact⟨g,h,i,j,l,m,n,o,p,G,q,r.ah a,s.ah a,t.ah a,λd e=>⟨(c d e).1,by have:=(c d e).2;have:=a.size;omega⟩⟩
theorem KJ {x:pH} (o:∀a,ai b a->Calls Tryz.prog z r a (Ok λd c=>g_ a x d c/\ai a c)) (p:∀a,ai b a->Calls Tryz.prog g3 U a (Ok λd c=>g_ a x d c/\ai a c)) {q:World->Prop} (f:∀c,ai b c->y c):
  PC Tryz.prog z r b (λd a=>xC (dT Tryz.prog 55) λx=>d=x/\PC Tryz.prog g3 U a (λg h=>xC (dT Tryz.prog 55) λi=>g=i/\PC Tryz.prog 43 #[x,i] h (λs e=>∃j:Bool,s= .bool j/\al (!j) (q e) (y e)) a4) g8) i0:=by
 refine PC.ok (o b (ak.refl _)) ?_;rintro d a ⟨k,l⟩;have t:=k;obtain⟨u,v,w,A,B,C,E,F,H,G,rfl,-⟩:=k;refine bF (Aq x u v w A B C E F H) ⟨rfl,PC.ok (p a l) ?_⟩;rintro g h ⟨m,n⟩;have I:=m;obtain⟨J,tn,K,L,M,N,O,P,Q,S,rfl,-⟩:=m;refine bF (Aq x J tn K L M N O P Q) ⟨rfl,PC.ok (Ap (t.ah n) I) ?_⟩;rintro _ e ⟨rfl,R⟩;exact⟨_,rfl,al.ff rfl (f e ((l.then n).then R))⟩
section
variable {w w' w0:World} {p q:Nat} {F G D:Nat->Prop} {c e:cy} {self other:Int} {X Y:bE}
theorem GY (l:bz w p F c self X) (m:bz w q G e other Y) (n:c.decl=e.decl) (o:X.S.l=Y.S.l) {u v:Option Addr} {tn B r C:Nat} (x:aW w D J u tn v r):
  Calls Tryz.prog 13 #[.pointer (some ⟨p,0,none⟩),.pointer (some ⟨q,0,none⟩),.agg #[.slice u tn B,.slice v r C]] w (Ok λE w'=>E= .bool true/\ai w w'):=by
 have H:=x.aT.dt;have I:=x.yF.dt;unfold aI at H I;refine zF (PA.mk λd y O z=>?_);have step:∀{a:Nat},a<1000000000000000->IntKind.wrap .i64 ((a:Int)-1+1)=((a+1:Nat):Int)-1:=λ{a} A=>by
  rw [wrap_i64 (by unfold aK;omega)];omega
 refine⟨λg k w'=>∃a:Nat,k=(a:Int)-1/\a<=tn+2/\g=tn+2-a/\ai d w',⟨_,0,rfl,Qj _,rfl,ak.refl _⟩,?_⟩;rintro g _ _ P ⟨a,rfl,A,rfl,s⟩;refine⟨_,_,_,ae (s.get z id) rfl,al.dec (λK=>?_) (λQ=>?_)⟩
 ·refine⟨λg k w'=>∃h:Nat,k=h/\h<=4/\g=4-h/\ai d w',⟨_,0,rfl,Qj _,rfl,s⟩,?_⟩
  rintro g _ _ L ⟨h,rfl,R,rfl,i⟩;have f:=y.then i;refine al.dec (λS=>?_) (λ_=>⟨_,oM,a+1,step oM,oM,rfl,i⟩);refine KJ (x:=Cf c.decl X.S.l ((a:Int)-1) h) (λd b=>yu ((l.ah f).ah b)) (λd b=>by rw [n,o];exact yu ((m.ah f).ah b)) λM j=>?_;refine KJ (x:=yv c.decl X.S.l ((a:Int)-1) h h) (λd b=>Aw (((l.ah f).ah j).ah b) (by unfold aK;omega)) (λd b=>by rw [n,o];exact Aw (((m.ah f).ah j).ah b) (by unfold aK;omega)) λN t=>?_;exact⟨_,oM,h+1,aq oM,oM,rfl,(i.then j).then t⟩
 ·refine⟨λg k w'=>∃a:Nat,k=(a:Int)-1/\a<=r+2/\g=r+2-a/\ai d w',⟨_,0,rfl,Qj _,rfl,s⟩,?_⟩
  rintro g _ _ L ⟨a,rfl,A,rfl,i⟩;have f:=y.then i;refine⟨_,_,_,ae (i.get z id) rfl,al.dec (λK=>?_) (λ_=>Ok.mk ⟨rfl,f⟩)⟩;refine KJ (x:=vX c.decl X.S.l ((a:Int)-1) (-9223372036854775808)) (λd b=>qo ((l.ah f).ah b)) (λd b=>by rw [n,o];exact qo ((m.ah f).ah b)) λM j=>?_;refine KJ (x:=vX c.decl X.S.l ((a:Int)-1) 2) (λd b=>qo (((l.ah f).ah j).ah b)) (λd b=>by rw [n,o];exact qo (((m.ah f).ah j).ah b)) λN t=>?_;exact⟨_,oM,a+1,step oM,oM,rfl,(i.then j).then t⟩
end
end Go.Proofs.YthnilpgpacdmnaaGreatDoor
