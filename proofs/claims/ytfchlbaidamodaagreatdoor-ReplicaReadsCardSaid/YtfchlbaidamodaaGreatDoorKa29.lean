import Derived.Test.YtfchlbaidamodaaGreatDoorKa28
set_option linter.all false
set_option maxRecDepth 20000
namespace Go.Proofs.YtfchlbaidamodaaGreatDoor
open Go.ax
variable{c8:List dz}{a c:Nat}{d:Option Addr}{v:Value}{b:World}
section
variable {w w':World} {p:Nat} {F D E:Nat->Prop} {S:aq} {m:dz} {va ea:Option Addr} {vn vc en ec:Nat}
theorem bB.IS (f:bB b c8 v w) (d:ai w' b):bB w' c8 v w:=by
 obtain⟨g,h,i,j,D,k,l,m,n,e,o,p⟩:=f;have:=d.size;exact⟨g,h,i,j,D,k,l,m,n,λa c=>⟨by have:=(e a c).1;omega,(e a c).2⟩,λa c=>by have:=o a c;omega,d.then p⟩
theorem bB.len (e:bB b c8 (.slice d a c) w):a=c8.length:=by
 obtain⟨i,j,k,l,D,f,g,h,-⟩:=e
 cases f
 rw [g.len dC,<-h,Q8]
theorem bB.sl (a:bB b c8 v w):∃c d e,v= .slice c d e:=by
 obtain⟨g,h,i,j,D,f,-⟩:=a;exact⟨_,_,_,f⟩
theorem Ks (h:cV w p F S) (hl:S.l.length<=20000000) (Z:Row aP 8 w D va vn m.vec) {d a:Int}:
  Calls ZQ 54 #[.pointer (some ⟨p,0,none⟩),QH d,kD m va vn vc ea en ec,QH a] w (Ok (bB w (mE S d m a))):=by
 have hS:=h.1;have hN:=hS.n;refine Ci (PA.mk λe q f7 y=>⟨λw'=>e=w'/\(m.kind=1\/m.kind=2),⟨_,ae y rfl,al.dw (λr=>⟨_,ae y rfl,al.dw (λg=>Ok.mk ?_) (λg=>⟨rfl,.inr g⟩)⟩) (λr=>⟨rfl,.inl r⟩)⟩,?_⟩)
 ·unfold mE;rw [if_pos ⟨r,g⟩];exact(bB.nil e).IS q
 rintro _ _ ⟨rfl,hk⟩;have b9:¬(m.kind≠1/\m.kind≠2):=oM
 obtain⟨t,L⟩:∃t,t=S.missing m.vec (max 1 (min a 32)):=⟨_,rfl⟩
 have b4:(if(if 32<a then 32 else a)>1 then(if 32<a then 32 else a)else 1)=max 1 (min a 32):=by split<;>split<;>omega
 obtain⟨i,H⟩:∃i:List dz,i=if 0<t.length then [⟨3,0,0,[],t⟩]else []:=⟨_,rfl⟩
 have g0:i.length<=1:=by rw [H];split<;>simp
 refine⟨λk l n w'=>bB e i (.slice k l n) w'/\ai e w',⟨_,_,_,ae y rfl,?_⟩,?_⟩
 ·rw [b4]
  refine PC.ok (zN (h.af q) hl (Z.af q)) ?_;rw [<-L];rintro _ g1 ⟨b7,n2,z,G,rfl,M,I,hG⟩;have g2:=M.len dC;have e0:=M.aF;refine⟨_,_,_,rfl,al.dec (λf4=>PA.mk λg3 N g4 e1=>?_) (λhz=>⟨?_,I⟩)⟩
  rotate_left
  ·rw [H,if_neg oM]
   exact(bB.nil e).af I
  have g5:t.length<=20000000:=by
   rw [L];unfold aq.missing;rw [Qy];have:=List.length_filter_le (λj:ah=>decide (max 0 (fH m.vec j.origin)<j.seq)) S.l;omega
  refine bB.push (m:=⟨3,0,0,[],t⟩) (E:=G) ((bB.nil e).af (I.then N)) OJ ⟨eE _ _,(M.af N).row dC (by unfold aQ;omega)⟩ (λb c=>⟨by have:=hG b c;omega,by have:=e0 b c;omega,λj=>by cases j⟩) e1 sM λa' c' g6 c0 e2=>⟨_,_,_,rfl,?_,?_⟩
  ·rw [H,if_pos oM];exact c0
  ·exact(I.then N).new e2 λb c=>(by cases c)
 rintro J on oc _ e3 ⟨O,P⟩;have a0:=q.then P;have e4:=P.size;refine PC.ok (mi (h.af a0)) ?_;rintro _ v ⟨a3,n3,c3,G3,rfl,c4,c6,c7⟩;have g7:=a0.size;have c8:=c4.aF;have c9:Row aP 8 v G3 a3 n3 S.vec:=c4.row dC (by rw [S.b_];unfold aQ;omega);obtain⟨f,x⟩:∃f:List dz,f=if m.kind=1/\(sk m.vec S.vec=2\/sk m.vec S.vec=3)then [⟨2,0,0,S.vec,[]⟩]else []:=⟨_,rfl⟩
 have g8:f.length<=1:=by rw [x];split<;>simp
 have A:=P.then c6;have Q:∀b,aI J=some b->b<e3.heap.size:=λb c=>by
  obtain⟨a1,n1,u,a2,D,o,g,-⟩:=O
  cases o
  exact g.aF b c
 refine⟨_,_,_,rfl,λk l n w'=>bB e (i++f) (.slice k l n) w'/\w'.heap[w.heap.size]? =some (.cells (cD m va vn vc ea en ec).toArray 67 (0,0))/\ai e w',⟨_,_,_,ae (A.get y id) rfl,PC.ok (OP ((Z.af (q.then A)).uv) c9.uv) ?_⟩,?_⟩
 ·rintro _ _ ⟨rfl,rfl⟩
  have R:=A.get y id;have a4:=O.af c6;have s:∀b,aI J=some b->e.heap.size<=b:=λb c=>by
   obtain⟨a1,n1,u,a2,D,o,g,B,h4,h5,T,h7⟩:=O
   cases o
   exact T b c
  have no:f=[]->bB e (i++f) (.slice J on oc) v/\v.heap[w.heap.size]? =some (.cells (cD m va vn vc ea en ec).toArray 67 (0,0))/\ai e v:=λc=>⟨by rw [c,List.append_nil];exact a4,R,A⟩
  have C:∀{ε:Value->World->Prop} {U:Option Addr->Nat->Nat->World->Prop},f=[⟨2,0,0,S.vec,[]⟩]->(∀k l n w',bB e (i++f) (.slice k l n) w'/\w'.heap[w.heap.size]? =some (.cells (cD m va vn vc ea en ec).toArray 67 (0,0))/\ai e w'->U k l n w')->
    PA v (.cells #[QH 2,QH 0,QH 0,.slice a3 n3 c3,.slice none 0 0] 67) λd0=>aH ZQ (Builtin.append_ #[63,63] 63 #[.slice J on oc,.slice (some ⟨v.heap.size,0,none⟩) 1 1]) d0 (λe5 d1=>∃(a5:Option Addr) (a6:Nat) (a7:Nat),e5= .slice a5 a6 a7/\U a5 a6 a7 d1) ε:=λ{ε U} c V=>by
   refine PA.mk λd0 K g9 e6=>bB.push (m:=⟨2,0,0,S.vec,[]⟩) (E:=G3) (a4.af K) OJ ⟨c9.af K,eE _ _⟩ (λb c=>⟨by have:=c7 b c;omega,by have:=c8 b c;omega,λj=>by have:=Q b j;have:=c7 b c;omega⟩) e6 oM λa' c' d1 d2 d3=>⟨_,_,_,rfl,V _ _ _ _ ⟨by rw [c];exact d2,d3.get (K.get R id) λj=>?_,?_⟩⟩
   ·have:=s _ j;omega
   ·exact(A.then K).new d3 λb c=>.inr (s b c)
  refine⟨_,rfl,_,ae R rfl,al.dX (λr=>al.dX (λg=>C (by rw [x,if_pos ⟨r,.inl g⟩]) λk l n w' h=>h) (λg=>al.dX (λB=>C (by rw [x,if_pos ⟨r,.inr B⟩]) λk l n w' h=>h) (λB=>no (by rw [x,if_neg];rintro⟨-,h|h⟩;exact g h;exact B h)))) (λr=>no (by rw [x,if_neg λh=>r h.1]))⟩
 rintro e7 h8 h9 _ e8 ⟨E,W,a8⟩;have d4:=q.then a8;have e9:=a8.size;have a9:=E.len;have f5:(i++f).length<=2:=by rw [QX];omega
 have b0:∀{X:List dz},(if(i++f).isEmpty then [yN S d m.ck]else(i++f).map λb5=>{b5 with ck:=d,qF:=m.ck})=X->mE S d m a=X:=λ{X} hq=>by
  rw [<-hq];unfold mE;rw [if_neg b9,<-L];rw [H,x];have p1:(decide (sk m.vec S.vec=2\/sk m.vec S.vec=3))=decide (sk m.vec S.vec=2\/sk m.vec S.vec=3):=rfl
  by_cases u:0<t.length<;>by_cases z:m.kind=1/\(sk m.vec S.vec=2\/sk m.vec S.vec=3)
  ·simp [u,z]
  ·simp [u,z]
  ·simp [u,z]
  ·simp [u,z]
 refine al.dX (λh0=>⟨_,ae W rfl,PC.ok (Ki (h.af d4)) ?_⟩) (λh0=>⟨_,ae W rfl,PC.ok (OR E oM) ?_⟩)
 ·have o:i++f=[]:=QW oM
  rintro _ i0 ⟨b8,n5,c5,G5,rfl,d5,d6,d7⟩;have d8:=d5.aF;rw [o]at E;refine⟨_,_,_,_,_,_,_,_,_,rfl,PA.mk λi1 Y i2 f2=>?_⟩;have b1:∀b,aI e7=some b->e.heap.size<=b/\b<e8.heap.size:=λb c=>by
   obtain⟨a1,n1,u,a2,D,o,g,B,h4,h5,T,h7⟩:=E
   cases o
   exact⟨T b c,g.aF b c⟩
  refine bB.push (m:=yN S d m.ck) (E:=G5) (E.af (d7.then Y)) OJ ⟨(d5.af Y).row dC (by show S.vec.length*8<=aQ;rw [S.b_];unfold aQ;omega),eE _ _⟩ (λb c=>⟨by have:=d6 b c;have:=d4.size;omega,by have:=d8 b c;omega,λj=>by have:=(b1 b j).2;have:=d6 b c;omega⟩) f2 sM λa' c' i3 d9 f3=>⟨_,_,_,rfl,_,ae (f3.get ((d7.then Y).get W id) λj=>by have:=(b1 _ j).1;omega) rfl,?_⟩
  refine PC.ok (OR d9 sM) ?_;rintro b6 i4 b2;obtain⟨k,l,n,rfl⟩:=b2.sl;refine⟨_,_,_,rfl,Ok.mk ?_⟩;rw [b0 (if_pos (by rw [o];rfl))];exact b2.IS q
 ·rintro b6 i5 b3
  obtain⟨k,l,n,rfl⟩:=b3.sl;refine⟨_,_,_,rfl,Ok.mk ?_⟩;rw [b0 (if_neg (by
   intro o;have:i++f=[]:=by simpa using o
   rw [this]at a9;simp at a9;omega))]
  exact b3.IS q
end
section
variable {w w':World} {D Fs Fv:Nat->Prop} {s v:Nat} {S:aq} {V:bk} {d:aR} {c:jS} {origin start:Int}
def xp (w:World) (a:ah×Bool×Int) (e:Value) (w':World):Prop:=∃c d f G,e= .tuple #[kK a.1 c d f,.bool a.2.1,QH a.2.2]/\Row aP 8 w' G c d a.1.aK/\(∀b,G b->w.heap.size<=b/\b<w'.heap.size)/\ai w w'
theorem nZ (d:aR) (s:aq) (v:bk) (origin start:Int) (c:jS):kV d s v origin start c=if fB d c≠0 then(sY,false,fB d c)else
  match s.keyed c.key with
  |some a=>(a,false,0)
  |none=>if¬(c.expect= -1\/c.expect=((v.state c.bd c.agg).getD ⟨0,[]⟩).version)then(sY,false,11)else
   if xL (d.at c.bd) (match v.state c.bd c.agg with|some b=>b.cells|none=>dG (d.at c.bd)) c.field c.op c.arg≠0 then(sY,false,10)else
   ((a_ c origin s.vec (max s.top start)).2,decide ((a_ c origin s.vec (max s.top start)).1=0),(a_ c origin s.vec (max s.top start)).1):=rfl
theorem EZ {ta pa:Option Addr} {tn tc pn pc:Nat} (hT:eM w) (hd:bh w D d ta tn pa pn) (hD:∀a,D a->a<w.heap.size) (j0:dd d=0) (hs:cV w s Fs S) (j1:S.l.length<=20000000) (hv:cT w v Fv V) (j2:V.decl=d)
  (o4:start<=9223372036854775807) (o1:S.top<=9223372036854775807):
  Calls ZQ 42 #[.agg #[.slice ta tn tc,.slice pa pn pc],.pointer (some ⟨s,0,none⟩),.pointer (some ⟨v,0,none⟩),QH origin,QH start,uu c] w (Ok (xp w (kV d S V origin start c))):=by
 refine yt (PA.mk λw1 k1 s1 g1=>PA.mk λw2 k2 s2 g2=>PA.mk λw3 k3 s3 g3=>?_);have t:=(k1.then k2).then k3;have gd:=k3.get (k2.get g1 id) id;have gc:=k3.get g2 id;have z:∀{A:World} {no:Int},ai w3 A->kV d S V origin start c=(sY,false,no)->xJ ZQ 59 (.pointer (some ⟨w2.heap.size,0,none⟩)) (kK sY none 0 0) A λu=>ow ZQ 59 (.pointer (some ⟨w2.heap.size,0,none⟩)) u λr=>Ok (xp w (kV d S V origin start c)) (.returned (.tuple #[r,.bool false,QH no])) u:=λ{A no} h4 R=>
  aD (bg sY none 0 0) (h4.get g3 id) rfl λu k5 s5 g5=>aw (bg sY none 0 0) g5 (Ok.mk ⟨none,0,0,λ_=>False,by rw [R],by rw [R];exact Row.nil _ _,λa b=>b.elim,(t.then h4).new k5 λa b=>.inr oM⟩)
 refine⟨_,_,_,_,_,_,ae gd rfl,ae gd rfl,aw (BF c) gc (PC.ok (En (hT.af t) (hd.af t) λa b=>by have:=hD a b;omega) ?_)⟩;rintro _ A ⟨rfl,T⟩;refine⟨_,rfl,al.dw (λU=>z T (by rw [nZ,if_pos U])) (λe5=>⟨_,ae (T.get gc id) rfl,PC.ok (QM (hs.af (t.then T)) j1) ?_⟩)⟩;rintro _ u ⟨W,X,Y,G5,rfl,e6,e7,k5⟩;have b6:=T.then k5;have o5:=b6.size;have B:∀{r:ah×Bool×Int},(match S.keyed c.key with
  |some m=>(m,false,0)
  |none=>if¬(c.expect= -1\/c.expect=((V.state c.bd c.agg).getD ⟨0,[]⟩).version)then(sY,false,11)else
   if xL (d.at c.bd) (match V.state c.bd c.agg with|some C=>C.cells|none=>dG (d.at c.bd)) c.field c.op c.arg≠0 then(sY,false,10)else
   ((a_ c origin S.vec (max S.top start)).2,decide ((a_ c origin S.vec (max S.top start)).1=0),(a_ c origin S.vec (max S.top start)).1))=r->kV d S V origin start c=r:=λ{r} hr=>by
  rw [nZ,if_neg (by simpa using e5)];exact hr
 refine cu (sW _ W X Y) ⟨_,rfl,PA.mk λw6 k6 s6 g6=>aD (bg _ W X Y) g6 rfl λn k7 s7 g7=>al.mk (λhk=>?_) (λhk=>?_)⟩
 ·obtain⟨m,R⟩:=Option.isSome_iff_exists.1 hk
  rw [R]at e6 g7 B;have b2:ai u n:=k6.new k7 λa b=>.inr oM;refine aw (bg _ W X Y) g7 (aD (bg _ W X Y) (b2.get (b6.get g3 id) id) rfl λw8 k8 s8 g8=>aw (bg _ W X Y) g8 (Ok.mk ⟨W,X,Y,G5,?_,?_,λa b=>?_,?_⟩))
  ·rw [B rfl];rfl
  ·rw [B rfl]
   exact(e6.af b2).keep k8 λa b m=>by have:=e7 a b;have:=t.size;have:=T.size;omega
  ·have:=e7 a b;have:=t.size;have:=T.size;omega
  ·exact((t.then b6).then b2).new k8 λa b=>.inr oM
 have d2:S.keyed c.key=none:=by simpa using hk
 rw [d2]at B;have b2:ai u n:=k6.new k7 λa b=>.inr oM;have M:=b6.then b2;have o6:=M.size;have b7:=t.then M;have e8:jY d c.bd c.field c.op c.arg=0:=by
  have:=e5;unfold fB at this;split at this
  ·simp at this
  ·exact this
 have j3:V.decl.at c.bd=d.at c.bd:=by rw [j2]
 obtain⟨hV,b0,hq⟩:=hv;have a6:(match V.state c.bd c.agg with|some C=>C.cells|none=>dG (d.at c.bd)).length=(d.at c.bd).length:=by
  unfold bk.state
  cases hs:ay V.fj (c.bd,c.agg)with
  |none=>simp [dG]
  |some s=>rw [<-j3];exact hV.st _ (cF hs)
 obtain⟨c4,t0,t1,o7⟩:=HN j0 e8 a6;obtain⟨E,e9⟩:∃E:Nat,c.bd=E:=⟨c.bd.toNat,oM⟩
 have j4:d.at c.bd=d.types.getD E []:=by
  unfold aR.at;rw [if_pos (bO.2 ⟨t0,oM⟩),e9,Qx]
 obtain⟨tb,qF,es,j5,o8,o2,j6,fa,fn,fc,rfl,b3⟩:=(hd.af b7).bd.el E d.types[E] sM;have b3:Row pT 48 n D fa fn (d.at c.bd):=by
  rw [j4];have:d.types.getD E []=d.types[E]:=by simp [QQ,show E<d.types.length by omega]
  rw [this];exact b3
 have o9:=(hd.af b7).bd.len;have c7:=j6 0 dC;have f2:lv.k=1:=rfl;rw [f2,Nat.mul_one]at c7;have j7:=M.get gd id;have f3:=M.get gc id;refine⟨_,_,_,ae j7 rfl,_,ae f3 rfl,tb,qF,j5,t0,oM,fa,fn,fc,by rw [e9,Qx];exact c7,PA.mk λw8 k8 s8 g8=>PS.mk g8 sM λw9 k9 s9 g9=>?_⟩;have Z:ai n w9:=k8.new k9 λa b=>.inr oM;have d3:=Z.get f3 id;have d4:cT w v Fv V:=⟨hV,b0,hq⟩
 refine⟨_,ae d3 rfl,_,ae d3 rfl,PC.ok (ox (d4.af (b7.then Z))) ?_⟩;rintro _ d5 ⟨ca,cn,cc,j8,rfl,f4,o3,N⟩;have b4:=Z.then N;have f5:=b7.then b4;have p0:=b4.size;obtain⟨F,hX⟩:∃F,F=(match V.state c.bd c.agg with|some C=>C.cells|none=>dG (d.at c.bd)):=⟨_,rfl⟩
 rw [<-hX]at c4 a6 B;refine⟨_,_,_,_,_,rfl,PA.mk λp1 j9 p2 k0=>PS.mk k0 sM λp3 l0 p4 l3=>PS.mk l3 sM λf7 l4 p5 g0=>?_⟩;have a5:ai d5 f7:=(j9.new l0 λa b=>.inr oM).new l4 λa b=>.inr oM;have l5:f7.heap[n.heap.size]? =some (.cells #[.slice fa fn fc] 130 (0,0)):=a5.get (N.get g9 id) id;have c8:=f4.af a5;refine⟨λw'=>ai d5 w'/\∃ca cn cc G,w'.heap[d5.heap.size]? =some (.cells #[QH ((V.state c.bd c.agg).getD IB).version,.slice ca cn cc] 42 (0,0))/\Row fL 32 w' G ca cn F,?_,?_⟩
 ·refine al.not (al.mk (λl6=>⟨a5,ca,cn,cc,j8,g0,?_⟩) (λl7=>⟨_,_,_,ae l5 rfl,PC.ok (Jd (t:=d.at c.bd) rfl b3.len (by rw [b3.len];omega)) ?_⟩))
  ·obtain⟨C,hx⟩:=Option.isSome_iff_exists.1 l6
   rw [hx]at c8 hX;have b8:F=C.cells:=hX;rw [b8];exact c8.row dC (by show C.cells.length*32<=aQ;rw [<-b8,a6];unfold aQ;omega)
  ·rintro _ p6 ⟨b1,n6,c6,G6,rfl,l8,d6,l9⟩
   have p7:=d6.size;refine⟨_,_,_,rfl,PS.mk (d6.get g0 id) sM λp8 g4 p9 m0=>⟨(a5.then d6).new g4 λa b=>.inr oM,b1,n6,c6,G6,m0,?_⟩⟩;have hn:V.state c.bd c.agg=none:=by simpa using l7
   rw [hn]at hX;have b8:F=dG (d.at c.bd):=hX;rw [b8];exact(l8.keep g4 λa b m=>by have:=l9 a b;omega).row dC (by unfold aQ dG;simp;omega)
 rintro _ m1 ⟨m2,q0,q1,q2,G2,h3,h5⟩;refine PA.mk λh8 d7 q3 m3=>?_;have H:=m2.then d7;have m4:=H.size;have c9:=f5.then H;have h9:=d7.get h3 id;have i0:=H.get (N.get d3 id) id;have i1:=H.get (N.get g9 id) id;have i2:=(((M.then Z).then N).then H).get g3 id;have o:∀{A:World} {no:Int},ai h8 A->kV d S V origin start c=(sY,false,no)->xJ ZQ 59 (.pointer (some ⟨w2.heap.size,0,none⟩)) (kK sY none 0 0) A λu=>ow ZQ 59 (.pointer (some ⟨w2.heap.size,0,none⟩)) u λr=>Ok (xp w (kV d S V origin start c)) (.returned (.tuple #[r,.bool false,QH no])) u:=λ{A no} h4 R=>z (((M.then Z).then N).then (H.then h4)) R;refine⟨λa9 c5 w'=>∃I:Nat,c5=I/\I<=2/\a9=2-I/\ai h8 w'/\(1<=I->c.expect= -1\/c.expect=((V.state c.bd c.agg).getD ⟨0,[]⟩).version)/\(2<=I->xL (d.at c.bd) F c.field c.op c.arg=0),⟨_,0,rfl,oM,rfl,aj.refl _,λh=>oM,λh=>oM⟩,?_⟩;rintro a9 _ _ J ⟨I,rfl,hj,rfl,k,d8,m5⟩;have d0:=k.get h9 id;have a0:=k.get i0 id;have i3:=k.get i1 id;have d1:=k.get m3 id;refine al.dec (λq4=>⟨m1.heap.size,0,rfl,oM,oM,?_⟩) (λq5=>?_)
 ·have m6:I=0\/I=1:=oM
  rcases m6 with rfl|rfl
  ·refine⟨_,ae d1 rfl,_,_,_,rfl,kR,PC.ok (φ:=λv w'=>v= QH (if c.expect= -1\/c.expect=((V.state c.bd c.agg).getD ⟨0,[]⟩).version then 0 else 11)/\J=w') (uX ⟨_,ae a0 rfl,al.dX (λh1=>Ok.mk ⟨by rw [if_pos (.inl h1)],rfl⟩) (λh1=>⟨_,ae a0 rfl,_,ae d0 rfl,al.dX (λh2=>Ok.mk ⟨by rw [if_pos (.inr h2)],rfl⟩) (λh2=>Ok.mk ⟨by rw [if_neg (by rintro(h|h);exact h1 h;exact h2 h)],rfl⟩)⟩)⟩) ?_⟩
   rintro _ _ ⟨rfl,rfl⟩
   by_cases hx:c.expect= -1\/c.expect=((V.state c.bd c.agg).getD ⟨0,[]⟩).version
   ·rw [if_pos hx]
    exact⟨_,rfl,al.ff rfl ⟨_,oM,1,rfl,oM,rfl,k,λ_=>hx,λh=>oM⟩⟩
   ·rw [if_neg hx]
    exact⟨_,rfl,al.tt rfl (o k (B (by rw [if_pos hx])))⟩
  ·refine⟨_,ae d1 rfl,_,_,_,rfl,kR,PC.ok (φ:=λv w'=>v= QH (xL (d.at c.bd) F c.field c.op c.arg)/\ai J w') (uZ ⟨_,_,_,ae i3 rfl,_,_,_,ae d0 rfl,_,ae a0 rfl,_,ae a0 rfl,_,ae a0 rfl,PC.ok (Jc c4 ((b3.af (b4.then H)).af k) ((h5.af d7).af k)) ?_⟩) ?_⟩
   ·rintro _ m7 ⟨rfl,b9⟩
    exact⟨_,rfl,Ok.mk ⟨rfl,b9⟩⟩
   ·rintro _ m7 ⟨rfl,b9⟩
    refine⟨_,rfl,al.dw (λU=>o (k.then b9) (B ?_)) (λh0=>⟨_,oM,2,rfl,oM,rfl,k.then b9,λ_=>d8 oM,λ_=>h0⟩)⟩;have m8:xL (d.at c.bd) F c.field c.op c.arg=10:=by
     rw [Ha]at U⊢;split at U
     ·simp at U
     ·rename_i hq;rw [if_neg hq]
    rw [if_neg (λh=>h (d8 oM)),if_pos U,m8]
 have i4:=B (r:=((a_ c origin S.vec (max S.top start)).2,decide ((a_ c origin S.vec (max S.top start)).1=0),(a_ c origin S.vec (max S.top start)).1)) (by rw [if_neg (λh=>h (d8 oM)),if_neg (by rw [m5 oM];simp)]);have K:(if start>S.top then start else S.top)=max S.top start:=by split<;>omega
 have c0:(if start>S.top then start else S.top)<=9223372036854775807:=by split<;>omega
 refine⟨λeb eo no w'=>eo=0/\no=(a_ c origin S.vec (max S.top start)).1/\ai J w'/\∃a2 a3 a7 G,w'.heap[eb]? =some (.cells (aE (a_ c origin S.vec (max S.top start)).2 a2 a3 a7).toArray 59 (0,0))/\Row aP 8 w' G a2 a3 (a_ c origin S.vec (max S.top start)).2.aK/\∀a,G a->J.heap.size<=a/\a<w'.heap.size,?_,?_⟩
 rotate_left
 ·rintro eb _ no _ q6 ⟨rfl,rfl,d9,e,f,g,q,ge,x,i⟩
  have i5:=d9.get (k.get i2 id) id;have zk:=k.size;have q7:=d9.size;have zw:=t.size;refine aw (bg _ e f g) ge (aD (bg _ e f g) i5 rfl λq8 i6 q9 m9=>aw (bg _ e f g) m9 (Ok.mk ⟨e,f,g,q,?_,?_,λa b=>?_,?_⟩))
  ·rw [i4];rfl
  ·rw [i4];exact x.keep i6 λa b m=>by have:=i a b;omega
  ·have:=i a b;omega
  ·exact(((c9.then k).then d9)).new i6 λa b=>.inr oM
 ·intro O i7
  have e0:ai J O:=i7.keep;have r0:O.heap.size=J.heap.size:=by rw [i7.heap]
  have i8:=e0.get a0 id;have a4:=hs.af ((c9.then k).then e0);have zk:=k.size;have hn:=hs.1.n;have c1:S.vec.length<=20000000:=by rw [S.b_];omega
  have c2:S.vec.length*8<=aQ:=by unfold aQ;omega
  have y:∀{wE w6 n:World} {a1:Nat} {e:Option Addr} {f g:Nat} {q:Nat->Prop},ai O wE->Row aP 8 wE q e f (a_ c origin S.vec (max S.top start)).2.aK->(∀a,q a->O.heap.size<=a/\a<wE.heap.size/\a≠a1)->ai wE w6->O.heap.size<=a1->aj (λa=>a=a1) w6 n->n.heap.size=w6.heap.size->n.heap[a1]? =some (.cells (aE (a_ c origin S.vec (max S.top start)).2 e f g).toArray 59 (0,0))->
    (λ(eb eo:Nat) (no:Int) (w':World)=>eo=0/\no=(a_ c origin S.vec (max S.top start)).1/\ai J w'/\∃a2 a3 a7 G,w'.heap[eb]? =some (.cells (aE (a_ c origin S.vec (max S.top start)).2 a2 a3 a7).toArray 59 (0,0))/\Row aP 8 w' G a2 a3 (a_ c origin S.vec (max S.top start)).2.aK/\∀a,G a->J.heap.size<=a/\a<w'.heap.size) a1 0 (a_ c origin S.vec (max S.top start)).1 n:=λ{wE w6 n a1 e f g q} hE hr hG h6 hg h7 r3 n0=>by
   have z6:=h6.size;exact⟨rfl,rfl,((e0.then hE).then h6).new h7 λa b=>.inr oM,e,f,g,q,n0,(hr.af h6).keep h7 λa b m=>(hG a b).2.2 m,λa b=>by have:=hG a b;omega⟩
  have zc:¬(O.heap.size<=w1.heap.size):=by
   have h1:=((((k3.then M).then Z).then N).then H).size;omega
  refine⟨λa=>O.heap.size<=a,zc,aw (BF c) i8 ⟨PC.ok (mi a4) ?_,PA.mk λr4 c3 r5 n1=>⟨ai.keep c3,PC.ok (mi (a4.af c3)) ?_⟩⟩⟩
  ·rintro _ n2 ⟨av,nv,cv,a8,rfl,b5,l,n3⟩
   have n4:=l.size;refine⟨_,_,_,rfl,ai.keep l,PC.ok (Iy (a4.af l)) ?_,PA.mk λn8 L n9 e1=>⟨ai.keep L,PC.ok (Iy ((a4.af l).af L)) ?_⟩⟩
   ·rintro _ _ ⟨rfl,rfl⟩
    refine⟨_,rfl,aj.refl _,?_,?_⟩
    ·rw [K]
     refine PC.ok (jL (b5.row dC c2) (by rw [<-K];exact c0) c1) ?_;rintro _ e2 ⟨e,f,g,q,rfl,x,i,j⟩;have e3:=j.size;exact cu (sW _ e f g) ⟨_,rfl,ai.keep j,PA.mk λr6 i9 r7 o0=>⟨ai.keep i9,aD (bg _ e f g) o0 rfl λe4 p P Q=>⟨p.mono λa _ m=>oM,y (l.then j) x (λa b=>⟨by have:=i a b;omega,(i a b).2,by have:=i a b;omega⟩) i9 oM p P Q⟩⟩⟩
    ·refine PA.mk λn8 L n9 e1=>⟨ai.keep L,?_⟩
     rw [K];refine PC.ok (jL ((b5.af L).row dC c2) (by rw [<-K];exact c0) c1) ?_;rintro _ e2 ⟨e,f,g,q,rfl,x,i,j⟩;have e3:=j.size;exact cu (sW _ e f g) ⟨_,rfl,ai.keep j,aD (bg _ e f g) (j.get e1 id) rfl λe4 p P Q=>⟨p.mono λa _ m=>oM,y ((l.then L).then j) x (λa b=>⟨by have:=i a b;omega,(i a b).2,by have:=i a b;omega⟩) (aj.refl _) oM p P Q⟩⟩
   ·rintro _ _ ⟨rfl,rfl⟩
    refine⟨_,rfl,aj.refl _,?_⟩;rw [K];refine PC.ok (jL ((b5.af L).row dC c2) (by rw [<-K];exact c0) c1) ?_;rintro _ e2 ⟨e,f,g,q,rfl,x,i,j⟩;have e3:=j.size;exact cu (sW _ e f g) ⟨_,rfl,ai.keep j,aD (bg _ e f g) (j.get e1 id) rfl λe4 p P Q=>⟨p.mono λa _ m=>oM,y ((l.then L).then j) x (λa b=>⟨by have:=i a b;omega,(i a b).2,by have:=i a b;omega⟩) (aj.refl _) oM p P Q⟩⟩
  ·rintro _ n2 ⟨av,nv,cv,a8,rfl,b5,l,n3⟩
   have n4:=l.size;refine⟨_,_,_,rfl,ai.keep l,PC.ok (Iy ((a4.af c3).af l)) ?_⟩;rintro _ _ ⟨rfl,rfl⟩;refine⟨_,rfl,aj.refl _,?_⟩;rw [K];refine PC.ok (jL (b5.row dC c2) (by rw [<-K];exact c0) c1) ?_;rintro _ e2 ⟨e,f,g,q,rfl,x,i,j⟩;have e3:=j.size;exact cu (sW _ e f g) ⟨_,rfl,ai.keep j,aD (bg _ e f g) ((l.then j).get n1 id) rfl λe4 p P Q=>⟨p.mono λa _ m=>oM,y ((c3.then l).then j) x (λa b=>⟨by have:=i a b;omega,(i a b).2,by have:=i a b;omega⟩) (aj.refl _) oM p P Q⟩⟩
end
structure ko where
 ta:Option Addr
 tn:Nat
 tc:Nat
 pa:Option Addr
 pn:Nat
 pc:Nat
 dp:Nat
 lp:Option Addr
 sp:Nat
 bp:Nat
 wp:Nat
 tp:Nat
abbrev ko.cells (a:ko) (b:cz) (c:Int):Array Value:= #[QH b.bl,QH b.nY,QH b.aZ,QH b.chunk,QH b.buffer,QH b.dx,QH b.every,QH b.start,.slice a.ta a.tn a.tc,.slice a.pa a.pn a.pc,QH c,
 .pointer (some ⟨a.dp,0,none⟩),.pointer a.lp,.pointer (some ⟨a.sp,0,none⟩),.pointer (some ⟨a.bp,0,none⟩),.pointer (some ⟨a.wp,0,none⟩),.pointer (some ⟨a.tp,0,none⟩)]
def DL (d:World) (G:Nat->Prop) (e:Nat) (f:Option Addr) (D:ak) (b:Option cY):Prop:=
 ∃c,aW d e c D/\(∀a,c a->G a)/\match b with
  |none=>f=none
  |some g=>g.aX≠[]/\∃h i,f=some ⟨h,0,none⟩/\jr d e h i g/\∀a,i a->G a/\¬c a
def Mw (d:World) (G:Nat->Prop) (e:Nat) (a:Nat) (f:List ah):Prop:=∃c D,ij d e c D a f/\(∀b,c b->G b)/\∀b,D b->G b
def mf (e:Nat) (f:Array Value) (b:ko) (d:cz) (c:bw) (g:List ah):Nat->World->(Nat->Prop)->Prop
 |0=>λa G=>G e/\a.heap[e]? =some (.cells f 99 (0,0))
 |1=>λa G=>bh a G d.decl b.ta b.tn b.pa b.pn
 |2=>λa G=>DL a G b.dp b.lp c.D c.log
 |3=>λa G=>cV a b.sp G c.S/\c.S.Cl/\c.S.n=d.bl.toNat
 |4=>λa G=>dF a b.bp G d.decl d.every.toNat g
 |5=>λa G=>Mw a G b.wp d.buffer.toNat c.waits
 |6=>λa G=>eG a b.tp G c.fP
 |_=>λ_ _=>True
variable{U r:Array Value}{C:List ah}{f:Nat->Prop}{b1:cY}
section
variable {w w' w0:World} {p:Nat} {F G T:Nat->Prop} {cls:Nat->Nat} {h:ko} {c:cz} {self:Int} {X:bw} {dp:Nat} {lp:Option Addr} {D:ak} {log:Option cY}
theorem DL.keep (h:DL w G dp lp D log) (c:aj T w w') (d:∀a,G a->¬T a):DL w' G dp lp D log:=by
 obtain⟨i,j,e,f⟩:=h;refine⟨i,j.keep c λa b=>d a (e a b),e,?_⟩
 cases log with
 |none=>exact f
 |some p=>
  obtain⟨k,l,m,n,o,g⟩:=f;exact⟨k,l,m,n,o.keep c λa b=>d a (g a b).1,g⟩
theorem cj :vC (mf p r h c X C):=by
 intro k w w' G T a d b
 match k,a with
 |0,a=>exact⟨a.1,d.get a.2 (b p a.1)⟩
 |1,a=>exact bh.keep a d b
 |2,a=>exact DL.keep a d b
 |3,a=>exact⟨cV.keep a.1 d b,a.2⟩
 |4,a=>exact dF.keep a d b
 |5,a=>obtain⟨j,D,l,g,i⟩:=a;exact⟨j,D,l.keep d (λe f=>b e (g e f)) λe f=>b e (i e f),g,i⟩
 |6,a=>exact eG.keep a d b
 |k+7,a=>trivial
structure kU (c:cz) (me:Int):Prop where
 right:gG c me=true
 decl:dd c.decl=0
 Zw:aN c.aZ
 every:aN c.every
 start:aN c.start
structure Env (w0 w:World) (F:Nat->Prop):Prop where
 oH:eM w0
 laid:Laid w0
 gr:ai w0 w
 aF:∀b,F b->w0.heap.size<=b
theorem Env.Ec (h:Env w0 w F) (c:de F w f w'):Env w0 w' f:=⟨h.oH,h.laid,h.gr.new c.keep λa b=>.inr (h.aF a b),λa b=>(c.new a b).elim (h.aF a) λd=>by have:=h.gr.size;omega⟩
theorem Env.af (h:Env w0 w F) (a:ai w w'):Env w0 w' F:=⟨h.oH,h.laid,h.gr.then a,h.aF⟩
abbrev c_ (w:World) (F:Nat->Prop) (cls:Nat->Nat) (p:Nat) (h:ko) (c:cz) (self:Int) (X:bw):Prop:=bS w F cls (mf p (h.cells c self) h c X X.S.l)
def bP (w:World) (p:Nat) (F:Nat->Prop) (c:cz) (self:Int) (X:bw):Prop:=kU c self/\∃h cls,c_ w F cls p h c self X
theorem c_.af (a:c_ w F cls p h c self X) (b:ai w w'):c_ w' F cls p h c self X:=bS.af a cj b
theorem c_.bG (a:c_ w F cls p h c self X):w.heap[p]? =some (.cells (h.cells c self) 99 (0,0)):=(a.at' 0).2
theorem c_.Kp (a:c_ w F cls p h c self X):F p/\cls p=0:=(a.at' 0).1
theorem bP.keep (b:bP w p F c self X) (d:aj T w w') (e:∀a,F a->¬T a):bP w' p F c self X:=by
 obtain⟨f,h,cls,g⟩:=b;exact⟨f,h,cls,bS.keep g cj d e⟩
theorem bP.af (a:bP w p F c self X) (b:ai w w'):bP w' p F c self X:=a.keep b λ_ _ h=>h
theorem bP.aF (b:bP w p F c self X):∀a,F a->a<w.heap.size:=by obtain⟨e,h,cls,d⟩:=b;exact d.aF
theorem c_.store {d:ko} (a:bS w F cls (mf p r d c X C)) (f:aj (·=p) w w') (g:w'.heap[p]? =some (.cells U 99 (0,0))):bS w' F cls (mf p U d c X C):=by
 refine bS.same a cj (k:=0) (f.mono λh _ b=>by have b:h=p:=b;exact b▸(a.at' 0).1) ⟨(a.at' 0).1,g⟩ λe G i j=>?_;rcases e with _|_|_|_|_|_|_|e<;>first|exact j|exact absurd rfl i
theorem DL.Qo (i:DL w G dp lp D (some b1)) (e:Env w0 w G) (n:∀a,G a->a<w.heap.size):∃d,lp=some ⟨d,0,none⟩/\b1.aX≠[]/\cQ w0 w dp d b1 D (λa=>a<w.heap.size/\¬G a):=by
 obtain⟨j,k,g,l,d,m,rfl,h,f⟩:=i;refine⟨d,rfl,l,m,⟨j,k,e.gr,λa b=>⟨e.aF a (g a b),λc=>?_⟩,λa b=>?_⟩,h,λa b=>⟨e.aF a (f a b).1,λc=>c.2 (f a b).1⟩⟩
 ·rcases c with c|c
  ·exact c.2 (g a b)
  ·exact(f a c).2 b
 ·rcases b with b|b
  ·exact b.1
  ·exact h.aF a b
theorem DL.nY (e:DL w G dp lp D log) (c:Env w0 w G):bf w0 w dp D (λa=>a<w.heap.size/\¬G a):=by
 obtain⟨f,g,d,-⟩:=e;exact⟨f,g,c.gr,λa b=>⟨c.aF a (d a b),λh=>h.2 (d a b)⟩,λa b=>b.1⟩
theorem DL.Ii {Y:Nat->Prop} (n:cQ w0 w' dp a b1 D (λb=>(b<w.heap.size/\¬G b)\/Y b)) (o:aj (et λb=>b<w.heap.size/\¬G b) w w') (p:b1.aX≠[]):∃e,DL w' e dp (some ⟨a,0,none⟩) D (some b1)/\de G w e w'/\(∀b,e b->b<w'.heap.size)/\∀b,e b->¬Y b:=by
 obtain⟨h,⟨i,j,s,f,t⟩,k,l⟩:=n;have g:∀b,¬(b<w.heap.size/\¬G b)->G b\/w.heap.size<=b:=λb c=>by
  rcases Nat.lt_or_ge b w.heap.size with d|d
  ·exact .inl (Classical.byContradiction λq=>c ⟨d,q⟩)
  ·exact .inr d
 refine⟨λb=>i b\/h b,⟨i,j,λb c=>.inl c,p,a,h,rfl,k,λb c=>⟨.inr c,λr=>(f b r).2 (.inr c)⟩⟩,⟨o.mono λb u c=>(g b c).resolve_right oM,λb c=>?_⟩,λb c=>?_,λb c m=>?_⟩
 ·rcases c with c|c
  ·exact g b λd=>(f b c).2 (.inl (.inl d))
  ·exact g b λd=>(l b c).2 (.inl d)
 ·exact c.elim (j.aF b) (k.aF b)
 ·rcases c with c|c
  ·exact(f b c).2 (.inl (.inr m))
  ·exact(l b c).2 (.inr m)
theorem DL.OG {Y:Nat->Prop} (i:bf w0 w' dp D (λa=>(a<w.heap.size/\¬G a)\/Y a)) (j:aj (et λa=>a<w.heap.size/\¬G a) w w'):∃d,DL w' d dp none D none/\de G w d w'/\(∀a,d a->a<w'.heap.size)/\∀a,d a->¬Y a:=by
 obtain⟨e,f,m,g,n⟩:=i;have h:∀a,¬(a<w.heap.size/\¬G a)->G a\/w.heap.size<=a:=λa b=>by
  rcases Nat.lt_or_ge a w.heap.size with c|c
  ·exact .inl (Classical.byContradiction λk=>b ⟨c,k⟩)
  ·exact .inr c
 exact⟨e,⟨e,f,λa b=>b,rfl⟩,⟨j.mono λa o b=>(h a b).resolve_right oM,λa b=>h a λc=>(g a b).2 (.inl c)⟩,λa b=>f.aF a b,λa b l=>(g a b).2 (.inr l)⟩
end
theorem Kx {D:ak} (b:b1.aX≠[]):(aG b1 D).2.1.aX≠[]:=by
 have d:∀a:ak,(m_ b1 a).2.1.aX≠[]:=by
  intro a;unfold m_;dsimp only;split
  ·exact b
  ·split
   ·exact b
   ·simp
 have c:∀a:ak,(bF b1 a).2.1.aX≠[]:=by
  intro a;unfold bF;dsimp only;split
  ·exact b
  ·exact d _
 unfold aG;dsimp only;split
 ·exact c D
 ·split
  ·exact b
  ·exact c _
theorem Il {D:ak} {l:List ah} (a:b1.aX≠[]):(az b1 D l).2.1.aX≠[]:=by
 unfold az;dsimp only;have b:(if b1.size<=b1.bytes then aG b1 D else(0,b1,D)).2.1.aX≠[]:=by
  split
  ·exact Kx a
  ·exact a
 generalize(if b1.size<=b1.bytes then aG b1 D else(0,b1,D))=c at b⊢;split
 ·exact a
 split
 ·exact a
 split
 ·exact b
 split
 ·exact b
 ·exact b
theorem Im (g:Row fZ 96 b f d a C):∀c∈C,c.Ok:=λc h=>by
 obtain⟨e,i,rfl⟩:=List.getElem_of_mem h;obtain⟨k,l,m,-,-,-,-,n,o,p,-,-,j⟩:=g.el e C[e] (Qq i);exact j
theorem aq.Ky:∀{l:List ah} {S:aq} {a:ah},a∈S.l->a∈(S.eI l).l
 |[],S,a,b=>b
 |e::l,S,a,b=>aq.Ky (l:=l) (S:=(S.add e).2) (by
  rcases S.gg e with⟨-,c⟩|⟨d,-⟩
  ·rw [c];exact b
  ·rw [d];exact(cX e S.l).mem_iff.2 (QJ _ b))
variable{J:Bool}{e m:Int}{u:List Int}{a0 f1:List PanicEntry->World->Prop}{H:Nat×Nat}{M:Prop}{j:Type}{g:TypeId}{L:aR}{N n:ah}{A:aq}{d4:bk}{d6:cz}{d5:jS}
theorem lJ (b:A.Cl) (c:A.n=d6.bl.toNat) (a:List ah):dZ d6 A a=A.eI a:=by
 unfold dZ;rw [aq.BE,<-c,b.VI]
section
variable {w w' w0:World} {p:Nat} {F E T:Nat->Prop} {cls:Nat->Nat} {h:ko} {c:cz} {self:Int} {X:bw} {evs:List ah} {ea:Option Addr} {en ec:Nat}
theorem kU.bl (a:kU c self):c.bl=(c.bl.toNat:Int)/\c.bl.toNat<=64/\1<=c.bl.toNat:=by
 have:=a.right;unfold gG within at this;simp only [QK,decide_eq_true_eq]at this;omega
theorem Kz (t:c_ w F cls p h c self X) (b0:kU c self) (hr:Row fZ 96 w E ea en evs) (u:∀a,E a->a<w.heap.size) (hl:X.S.l.length+evs.length<=20000000):
  Calls ZQ 93 #[.pointer (some ⟨p,0,none⟩),.slice ea en ec] w (Ok λa0 w'=>∃M e,a0= .pointer (some ⟨M,0,none⟩)/\cV w' M e (dZ c X.S evs)/\(∀a,e a->w.heap.size<=a)/\ai w w'):=by
 obtain⟨b1,b2,c5⟩:=b0.bl;have fz:=(t.at' 3).1;refine oP ⟨p,0,rfl,_,ae t.bG rfl,?_⟩;rw [b1];refine PC.ok (GX b2) ?_;rintro _ w7 ⟨v,l,rfl,N,x,m⟩;have i:=c_.af t m;refine⟨_,rfl,p,0,rfl,_,ae i.bG rfl,PC.ok (sD (fz.af m) oM) ?_⟩;rintro _ c6 ⟨a2,y,c1,G,rfl,j,z,n⟩;have O:=N.aF;have c7:=j.aF;have z7:=m.size;have c8:=z.size;have P:=m.then z;refine⟨_,_,_,rfl,AZ j Eg (hr.af P) (λa b=>⟨by have:=u a b;omega,λA=>by have:=u a b;have:=n a (j.self a A);omega⟩) (by unfold aQ;omega) (by unfold maxLen;omega) λa' c' o Q B C b3 _=>⟨_,_,_,rfl,?_⟩⟩;have b4:=B.len dC;have c9:=C.size;rw [QX]at b4;have a3:Row fZ 96 o Q a' (y+en) (X.S.l++evs):=B.row dC (by rw [QX];unfold aQ;omega);have R:=B.aF;have S:∀a,Q a->¬l a:=λa b q=>by
  have f:=x a q;have h6:=O a q;rcases b3 a b with i|i|i
  ·have:=n a i;omega
  ·have:=u a i;omega
  ·omega
 have a4:ai w o:=P.new C λa b=>.inr (by have:=n a (j.self a b);omega);have a5:=(N.af z).keep C λa b A=>by have:=O a b;have:=n a (j.self a A);omega
 refine⟨λT H w'=>∃(d:Nat) (e:Nat->Prop),H=d/\d<=y+en/\T=y+en-d/\cV w' v e ((⟨c.bl.toNat,[]⟩:aq).eI ((X.S.l++evs).take d))/\(∀a,e a->l a\/o.heap.size<=a)/\aj l o w',⟨_,0,l,rfl,Qj _,rfl,a5,λa b=>.inl b,aj.refl _⟩,?_⟩;rintro T _ _ U ⟨d,e,rfl,hj,rfl,I,r,s⟩;have d0:=s.size;refine al.dec (λd1=>?_) (λd2=>?_)
 ·obtain⟨g,V⟩:∃g,(X.S.l++evs)[d]? =some g:=⟨_,Qq (by rw [QX];omega)⟩
  obtain⟨a,a1,es,ha,d3,d4,b5,J,K,L,rfl,b6,a7⟩:=(a3.keep s S).el d g V;refine⟨a,a1,ha,oM,oM,br (es:=aE g J K L) (k:=10) (bg _ _ _ _) rfl (λH ht=>by rw [Qx];exact b5 H ht) (PA.mk λd5 b7 d6 b8=>aD (bg g J K L) b8 rfl λb9 c0 d7 c2=>aw (bg g J K L) c2 ?_)⟩;have k:ai U b9:=b7.new c0 λa b=>.inr (by have b:a=U.heap.size:=b;omega);have W:=aq.np ((X.S.l++evs).take d) ⟨c.bl.toNat,[]⟩;rw [Qy,QX]at W;simp only [List.length_nil]at W;refine PC.ok (vH (I.af k) (b6.af k) (λa b=>⟨by have:=R a b;have:=k.size;omega,λq=>?_⟩) a7 oM) ?_
  ·rcases r a q with f|f
   ·exact S a b f
   ·have:=R a b;omega
  rintro _ c3 ⟨rfl,Y,c4,Z⟩;refine⟨_,rfl,_,oM,d+1,Y,an oM,oM,rfl,?_,λa b=>?_,(s.af k).new Z.keep λa b=>r a b⟩
  ·rw [Qw,V]
   show cV c3 v Y (aq.eI _ ((X.S.l++evs).take d++[g]));rw [aq.nq];exact c4
  ·rcases Z.new a b with f|f
   ·exact r a f
   ·have:=k.size;exact .inr oM
 ·rw [Qz (by rw [QX];omega)]at I
  exact Ok.mk ⟨v,e,rfl,I,λa b=>(r a b).elim (x a) λf=>oM,a4.new s λa b=>.inr (x a b)⟩
end
section
variable {w w' w0:World} {p:Nat} {F E T:Nat->Prop} {cls:Nat->Nat} {h:ko} {c:cz} {self:Int} {X:bw} {evs lB:List ah} {ea:Option Addr} {en ec:Nat}
theorem Env.sub (b:Env w0 w F) (c:∀a,f a->F a):Env w0 w f:=⟨b.oH,b.laid,b.gr,λa d=>b.aF a (c a d)⟩
theorem SS (a:A.OK) (c:n∈A.l) (d:N∈A.l) (e:aO n=aO N):n=N:=by
 have b:=a.get c;have f:=a.get d;rw [e,f]at b;exact(XJ b).symm
theorem DF (x:bS w F cls (mf p (h.cells c self) h c X lB)) (m:Env w0 w F) (R:∀(y:Nat) (n o:ah),lB[y]? =some n->X.S.l[y]? =some o->aO n=aO o->n=o) (z:X.S.l.length<=20000000)
  {κ:Value->World->Prop} (q:∀w' i b,c_ w' i b p h c self X->de F w i w'->κ (QH 0) w'):
  ∀pH,bE w pH->∃r:Nat->Prop,(∃s A,(some ⟨p,0,none⟩:Option Addr)=some ⟨s,A,none⟩/\(¬r s/\(∃(B:Option Addr),pH.cell? ⟨s,A+14,none⟩=some (.pointer B)/\(∃C E,(some ⟨p,0,none⟩:Option Addr)=some ⟨C,E,none⟩/\(∃(H:Option Addr),pH.cell? ⟨C,E+13,none⟩=some (.pointer H)/\
   PC ZQ 41 #[.pointer H] pH (λS e=>∃(I:Option Addr) (J:Nat) (K:Nat),S= .slice I J K/\(aj r pH e/\PC ZQ 76 #[.pointer B,.slice I J K] e (λT j=>∃(U:Int),T= QH U/\(aj r e j/\κ (QH 0) j)) a0)) f1))))):=by
 intro pH V;have t:ai w pH:=V.keep;have l:=bS.af x cj t;have L:=(l.at' 0).2;refine⟨λa=>F a/\cls a=4,p,0,rfl,λW=>?_,_,ae L rfl,p,0,rfl,_,ae L rfl,PC.ok (sD (show cV pH h.sp (λa=>F a/\cls a=3) X.S from(l.at' 3).1) z) ?_⟩
 ·have:=W.2
  have Y:=(show(F p/\cls p=0)/\_ from x.at' 0).1.2;rw [Y]at this;cases this
 rintro _ e ⟨a2,a3,cc,G,rfl,u,g,Z⟩;have b5:=g.size;have a6:=l.aF;have M:=bS.af l cj g;have a8:=u.jx;have a1:dF e h.bp (λa=>F a/\cls a=4) c.decl c.every.toNat lB:=M.at' 4;refine⟨_,_,_,rfl,ai.keep g,PC.ok (IJ a1 m.oH ((m.gr.then t).then g) (λa f=>m.aF a f.1) (u.row dC (by unfold aQ;omega)) a8 (λa f=>⟨u.aF a f,λhf=>by have:=a6 a hf.1;have:=Z a f;omega⟩) z R) ?_⟩;rintro _ j ⟨k,rfl,G4,N,O⟩;obtain⟨i,b,v,d,-,-⟩:=M.Ec cj (k:=4) (G':=G4) (C2:=mf p (h.cells c self) h c X X.S.l) O N.aF N λP G hj hc=>by
  rcases P with _|_|_|_|_|_|_|P<;>first|exact hc|exact absurd rfl hj
 have Q:ai w e:=t.then g;exact⟨_,rfl,O.keep,q j i b v ⟨(ai.keep Q).then d.keep,λa f=>(d.new a f).imp id λh1=>by have:=Q.size;omega⟩⟩
theorem Kq (y:c_ w F cls p h c self X) (c1:kU c self) (z:Env w0 w F) {V:cY} (b3:X.log=some V) (Y:Row fZ 96 w E ea en evs) (Z:∀b,E b->b<w.heap.size/\¬(F b/\cls b=2)) (hl:X.S.l.length+evs.length<=20000000):
  Calls ZQ 43 #[.pointer (some ⟨p,0,none⟩),.slice ea en ec] w (Ok λA w'=>A= QH (bU c X evs).1/\∃B s f,c_ w' s f p B c self (bU c X evs).2/\de F w s w'/\B.wp=h.wp):=by
 obtain⟨e,D,c2,a,k⟩:=X;simp only at b3 hl;subst b3;obtain⟨hS,C,hn⟩:=(show cV w h.sp (λb=>F b/\cls b=3) e/\e.Cl/\e.n=c.bl.toNat from y.at' 3)
 have c3:=y.aF;obtain⟨e1,H,I,a0⟩:=DL.Qo (show DL w (λb=>F b/\cls b=2) h.dp h.lp D (some V)from y.at' 2) (z.sub λb d=>d.1) λb d=>c3 b d.1;have c4:=Im Y;have a2:∀b,E b->b<w.heap.size:=λb d=>(Z b d).1;refine oL ⟨p,0,rfl,_,ae y.bG rfl,?_⟩;rw [H];refine PC.ok (MG z.laid a0 I Y a2 oM) ?_;rintro _ w7 ⟨rfl,a1,k7⟩;have J:=Il (D:=D) (l:=evs) I;have t:∀{a3},(if(az V D evs).1≠0 then((az V D evs).1,({S:=e,D:=(az V D evs).2.2,log:=some (az V D evs).2.1,waits:=a,fP:=k}:bw))else
   if((az V D evs).2.2.sync (az V D evs).2.1.last).1≠0 then(((az V D evs).2.2.sync (az V D evs).2.1.last).1,{S:=e,D:=((az V D evs).2.2.sync (az V D evs).2.1.last).2,log:=some (az V D evs).2.1,waits:=a,fP:=k})else
   (0,{S:=dZ c e evs,D:=((az V D evs).2.2.sync (az V D evs).2.1.last).2,log:=some (az V D evs).2.1,waits:=a,fP:=k}))=a3->bU c ⟨e,D,some V,a,k⟩ evs=a3:=λ{a3} hq=>hq
 generalize e2:az V D evs=ap at a1 J t;obtain⟨e3,u,D7⟩:=ap;simp only at a1 J t;obtain⟨G7,K,a4,a5,-⟩:=DL.Ii (Y:=λ_=>False) (a1.mono λb d=>d.elim id False.elim) k7 J;obtain⟨F7,m,L,g,-,-,c5⟩:=y.Ec cj (k:=2) (G':=G7) (C2:=mf p (h.cells c self) h c ⟨e,D7,some u,a,k⟩ e.l) a4 a5 (by rw [<-H]at K;exact K) λn G M N=>by
  rcases n with _|_|_|_|_|_|_|n<;>first|exact N|exact absurd rfl M
 refine⟨_,rfl,al.dw (λa6=>Ok.mk ?_) (λh0=>?_)⟩
 ·rw [t (if_pos a6)]
  exact⟨rfl,h,F7,m,L,g,rfl⟩
 simp only at h0;have c6:=z.Ec g;obtain⟨q2,o,-,v⟩:=DL.Qo (show DL w7 (λb=>F7 b/\m b=2) h.dp h.lp D7 (some u)from L.at' 2) (c6.sub λb d=>d.1) λb d=>L.aF b d.1;refine⟨p,0,rfl,_,ae (L.at' 0).2 rfl,?_⟩;rw [o];refine PC.ok (J_ z.laid v J) ?_;rintro _ b4 ⟨rfl,a7,c7⟩;generalize e4:D7.sync u.last=sy at a7 t;obtain⟨s1,S⟩:=sy;simp only at a7 t;obtain⟨a8,q,j,O,-⟩:=DL.Ii (Y:=λ_=>False) (a7.mono λb d=>d.elim id False.elim) c7 J;obtain⟨P,x,i,l,-,a9,T⟩:=L.Ec cj (k:=2) (G':=a8) (C2:=mf p (h.cells c self) h c ⟨e,S,some u,a,k⟩ e.l) j O (by rw [<-o]at q;exact q) λn G M N=>by
  rcases n with _|_|_|_|_|_|_|n<;>first|exact N|exact absurd rfl M
 have b0:=g.trans l;refine⟨_,rfl,al.dw (λa6=>Ok.mk ?_) (λh1=>?_)⟩
 ·rw [t ((if_neg (by simpa using h0)).trans (if_pos a6))]
  exact⟨rfl,h,P,x,i,b0,rfl⟩
 simp only at h1;have c8:=t ((if_neg (by simpa using h0)).trans (if_neg (by simpa using h1)));rw [c8];have c9:Row fZ 96 b4 E ea en evs:=by
  refine(Y.keep a4.keep λb d=>(Z b d).2).keep j.keep λb d hf=>?_;rcases a4.new b (c5▸hf)with h5|h5
  ·exact(Z b d).2 h5
  ·have:=a2 b d;omega
 refine PC.ok (Kz i c1 c9 (λb d=>by have:=a2 b d;have:=b0.keep.size;omega) hl) ?_;rintro _ d0 ⟨U,F2,rfl,b5,d1,d2⟩;have d3:(dZ c e evs).n=c.bl.toNat:=aq.RJ _ _;have b1:=lJ C hn evs;have b6:(dZ c e evs).Cl:=by rw [b1];exact aq.Cl.eI C c4
 obtain⟨F3,Q,b7,r,d4,-⟩:=i.fr cj (k:=3) (w':=d0) (G':=F2) (C2:=mf p (h.cells c self) {h with sp:=U} c ⟨dZ c e evs,S,some u,a,k⟩ e.l) (ai.keep d2) (λb d=>.inr (d1 b d)) b5.aF ⟨b5,b6,d3⟩ λn G M N=>by
  rcases n with _|_|_|_|_|_|_|n<;>first|exact N|exact absurd rfl M
 refine⟨_,rfl,p,0,rfl,PS.mk (b7.at' 0).2 sM λb8 b9 e5 d5=>?_⟩;have d6:bS b8 F3 Q (mf p (({h with sp:=U}:ko).cells c self) {h with sp:=U} c ⟨dZ c e evs,S,some u,a,k⟩ e.l):=c_.store b7 b9 d5;have d7:de P b4 F3 b8:=⟨r.keep.then (b9.mono λb _ R=>by have R:b=p:=R;rw [R];exact(i.at' 0).1.1),r.new⟩
 have c0:=b0.trans d7;have d8:∀W∈e.l,W∈(dZ c e evs).l:=λW hx=>by rw [b1];exact aq.Ky hx
 have d9:(dZ c e evs).l.length<=20000000:=by rw [b1];exact Xx (aq.np _ _) hl
 exact DF d6 (z.Ec c0) (λe6 W e7 hx hy R=>SS b6.ok (d8 W (QZ hx)) (QZ hy) R) d9 (κ:=λA w'=>Ok (λA w'=>A= QH 0/\∃B s f,c_ w' s f p B c self ⟨dZ c e evs,S,some u,a,k⟩/\de F w s w'/\B.wp=h.wp) (.returned A) w')
  λw' s f b2 e0=>Ok.mk ⟨rfl,{h with sp:=U},s,f,b2,c0.trans e0,rfl⟩
end
theorem DD {D:ak} {size:Int} (a:(aM D size).no=0):(aM D size).V.aX≠[]:=by
 revert a
 unfold aM;generalize cZ (told D) [] (dY D size) D=d;unfold gj;split
 ·rename_i c;intro a;exact absurd a c
 split
 ·intro a;exact tY a
 rename_i b;split
 ·intro _;exact b
 ·intro _;exact b
abbrev yQ (a:ko) (b:cz) (c:Int) (d e f:Option Addr):Array Value:= #[QH b.bl,QH b.nY,QH b.aZ,QH b.chunk,QH b.buffer,QH b.dx,QH b.every,QH b.start,.slice a.ta a.tn a.tc,.slice a.pa a.pn a.pc,QH c,
 .pointer (some ⟨a.dp,0,none⟩),.pointer d,.pointer e,.pointer f,.pointer (some ⟨a.wp,0,none⟩),.pointer (some ⟨a.tp,0,none⟩)]
def recC (e:Nat) (f:Array Value) (b:ko) (d:cz) (c:bw) (g:Bool):Nat->World->(Nat->Prop)->Prop
 |0=>λa G=>G e/\a.heap[e]? =some (.cells f 99 (0,0))
 |1=>λa G=>bh a G d.decl b.ta b.tn b.pa b.pn
 |2=>λa G=>DL a G b.dp b.lp c.D c.log
 |3=>λa G=>g=true->cV a b.sp G c.S/\c.S.Cl/\c.S.n=d.bl.toNat
 |5=>λa G=>Mw a G b.wp d.buffer.toNat c.waits
 |6=>λa G=>eG a b.tp G c.fP
 |_=>λ_ _=>True
section
variable {w w' w0:World} {p:Nat} {F E T:Nat->Prop} {cls:Nat->Nat} {h:ko} {c:cz} {self:Int} {X:bw} {evs lB:List ah} {ea:Option Addr} {en ec:Nat}
theorem iw :vC (recC p r h c X J):=by
 intro k w w' G T a d b
 match k,a with
 |0,a=>exact⟨a.1,d.get a.2 (b p a.1)⟩
 |1,a=>exact bh.keep a d b
 |2,a=>exact DL.keep a d b
 |3,a=>exact λg=>⟨cV.keep (a g).1 d b,(a g).2⟩
 |4,a=>trivial
 |5,a=>obtain⟨l,D,m,i,j⟩:=a;exact⟨l,D,m.keep d (λe f=>b e (i e f)) λe f=>b e (j e f),i,j⟩
 |6,a=>exact eG.keep a d b
 |k+7,a=>trivial
theorem zO {z1 z2 z3:Option Addr} (T:bS w F cls (recC p (yQ h c self z1 z2 z3) h c X false)) (M:kU c self) (B:Env w0 w F):
  Calls ZQ 38 #[.pointer (some ⟨p,0,none⟩)] w (Ok λC w'=>C= QH (eR c X).1/\(eR c X).2.S.l.length<=16777216/\∃U r f,c_ w' r f p U c self (eR c X).2/\de F w r w'):=by
 obtain⟨f7,d1,j4⟩:=M.bl;have g0:=T.aF;have V:F p/\cls p=0:=(T.at' 0).1;have i9:1<=c.every:=by
  have:=M.right;unfold gG at this;simp only [QK,decide_eq_true_eq]at this;omega
 refine lX λw3 d3=>?_;have W:ai w w3:=d3.keep;have N:=bS.af T iw W;have O:=(N.at' 0).2;refine⟨λ_=>False,p,0,rfl,_,ae O rfl,p,0,rfl,id,_,_,_,_,_,_,ae O rfl,ae O rfl,p,0,rfl,id,_,ae O rfl,?_⟩;rw [f7];refine PC.ok (GX d1) ?_;rintro _ d2 ⟨g,F2,rfl,Y,d4,E⟩;have a9:=W.then E;have d5:=bS.af N iw E;refine⟨_,rfl,E,PC.ok (Rr M.decl M.every ((B.oH.af B.gr).af a9) (show bh d2 (λa=>F a/\cls a=1) c.decl h.ta h.tn h.pa h.pn from d5.at' 1) λa b=>d5.aF a b.1) ?_⟩;rintro _ g1 ⟨j,F4,rfl,Z,d6,b7⟩;have y3:=W.size;have j5:=E.size;have j6:=b7.size;rw [show(max 1 c.every).toNat=c.every.toNat by congr 1;omega]at Z;have j0:=Y.aF;obtain⟨Fa,d7,H,b0,g2,-⟩:=N.II iw (k:=3) (w':=d2) (G':=F2) (C2:=recC p (yQ h c self z1 z2 z3) {h with sp:=g} c {X with S:=⟨c.bl.toNat,[]⟩} true) (ai.keep E) (λa b n=>by have:=d4 a b;have:=g0 a n;omega) Y.aF (λ_=>⟨Y,aq.Cl.new d1,rfl⟩) λd G k l=>by
  rcases d with _|_|_|_|_|_|_|d<;>first|exact l|exact absurd rfl k
 obtain⟨v,s,b8,b1,g4,-⟩:=H.II iw (k:=4) (w':=g1) (G':=F4) (C2:=mf p (yQ h c self z1 z2 z3) {h with sp:=g,bp:=j} c {X with S:=⟨c.bl.toNat,[]⟩} []) (ai.keep b7) (λa b n=>by have:=d6 a b;have:=H.aF a n;omega) Z.aF Z λd G k l=>by
  rcases d with _|_|_|_|_|_|_|d<;>first|exact l|exact l rfl|exact absurd rfl k
 have e1:∀a,v a->F a\/w.heap.size<=a:=λa b=>by
  rcases g4 a b with m|m
  ·rcases g2 a m.1 with h6|h6
   ·exact .inl h6.1
   ·exact .inr (by have:=d4 a h6;omega)
  ·exact .inr (by have:=d6 a m;omega)
 refine⟨_,rfl,p,0,rfl,PS.mk (b8.at' 0).2 sM λj7 d8 j8 g5=>⟨p,0,rfl,PS.mk g5 sM λb9 d9 j9 g6=>λc0 g7=>?_⟩⟩;have j1:v p/\s p=0:=(b8.at' 0).1;have e0:ai b9 c0:=g7.keep;have g8:bS b9 v s (mf p (yQ h c self z1 (some ⟨g,0,none⟩) (some ⟨j,0,none⟩)) {h with sp:=g,bp:=j} c {X with S:=⟨c.bl.toNat,[]⟩} []):=c_.store b8 (d8.then d9) g6;have b2:de F w v b9:=⟨((ai.keep a9).af b7).then ((d8.then d9).mono λa _ i=>by have i:a=p:=i;rw [i];exact V.1),e1⟩
 have I:=bS.af g8 cj e0;have P:de F w v c0:=⟨b2.keep.af e0,b2.new⟩
 have e4:=B.Ec P;have e2:=(I.at' 0).2;have g9:=DL.nY (show DL c0 (λa=>v a/\s a=2) h.dp h.lp X.D X.log from I.at' 2) (e4.sub λa b=>b.1);refine⟨p,0,rfl,_,ae e2 rfl,p,0,rfl,_,ae e2 rfl,PC.ok (Jp B.laid g9) ?_⟩;have a0:∀{e},(if(aM X.D c.aZ).no≠0 then((aM X.D c.aZ).no,{X with D:=(aM X.D c.aZ).D,log:=none,S:=⟨c.bl.toNat,[]⟩})
   else(0,{X with D:=(aM X.D c.aZ).D,log:=some (aM X.D c.aZ).V,S:=(⟨c.bl.toNat,[]⟩:aq).eI (aM X.D c.aZ).out}))=e->eR c X=e:=λ{e} hq=>hq
 have b3:=DD (D:=X.D) (size:=c.aZ);generalize aM X.D c.aZ=e at a0 b3;rintro _ h4 (⟨J,rfl,e8,c2⟩|⟨J,t,e9,a1,cc,G,rfl,c3,h7,c2,hG,hq,j2⟩)
 ·obtain⟨G2,c4,a2,c5,-⟩:=DL.OG (Y:=λ_=>False) (e8.mono λa b=>b.elim id False.elim) c2
  obtain⟨u,Q,x,a3,-,-⟩:=I.Ec cj (k:=2) (G':=G2) (C2:=mf p (yQ h c self z1 (some ⟨g,0,none⟩) (some ⟨j,0,none⟩)) {h with sp:=g,bp:=j,lp:=none} c {X with S:=⟨c.bl.toNat,[]⟩,D:=e.D,log:=none} []) a2 c5 (by
    obtain⟨Fd,h1,h2,N⟩:=c4;exact⟨Fd,h1,h2,rfl⟩) λd G k l=>by
   rcases d with _|_|_|_|_|_|_|d<;>first|exact l|exact absurd rfl k
  refine⟨_,_,_,_,_,rfl,p,0,rfl,PS.mk (x.at' 0).2 sM λy z e3 c6=>al.dw (λ_=>Ok.mk ?_) (λh0=>absurd h0 J)⟩;rw [a0 (if_pos J)];refine⟨rfl,Qj _,{h with sp:=g,bp:=j,lp:=none},u,Q,c_.store x z c6,?_⟩;have K:=P.trans a3;exact⟨K.keep.then (z.mono λa _ i=>by have i:a=p:=i;rw [i];exact V.1),K.new⟩
 ·obtain⟨G2,c4,a2,c5,hY⟩:=DL.Ii h7 c2 (b3 J)
  obtain⟨u,Q,x,a3,h8,-⟩:=I.Ec cj (k:=2) (G':=G2) (C2:=mf p (yQ h c self z1 (some ⟨g,0,none⟩) (some ⟨j,0,none⟩)) {h with sp:=g,bp:=j,lp:=some ⟨t,0,none⟩} c {X with S:=⟨c.bl.toNat,[]⟩,D:=e.D,log:=some e.V} []) a2 c5 c4 λd G k l=>by
   rcases d with _|_|_|_|_|_|_|d<;>first|exact l|exact absurd rfl k
  refine⟨_,_,_,_,_,rfl,p,0,rfl,PS.mk (x.at' 0).2 sM λy z e3 c6=>al.dw (λh0=>absurd rfl h0) (λ_=>?_)⟩;have f0:bS y u Q (mf p (({h with sp:=g,bp:=j,lp:=some ⟨t,0,none⟩}:ko).cells c self) {h with sp:=g,bp:=j,lp:=some ⟨t,0,none⟩} c {X with S:=⟨c.bl.toNat,[]⟩,D:=e.D,log:=some e.V} []):=c_.store x z c6;have K:=P.trans a3;have b4:de F w u y:=⟨K.keep.then (z.mono λa _ i=>by have i:a=p:=i;rw [i];exact V.1),K.new⟩
  have j3:=P.keep.size;have c7:∀a,G a->¬u a:=λa b n=>by
   rcases h8 a n with m|m
   ·have:=I.aF a m.1;have:=hG a b;omega
   ·exact hY a m b
  have h9:∀a,G a->a≠p:=λa b i=>c7 a b (i▸(x.at' 0).1.1);have b5:=c3.aF;have k0:=c3.len dC;have b6:Row fZ 96 y G e9 a1 e.out:=qz.row (((c3.keep z λa b i=>h9 a b i)).row dC (by unfold aQ;omega));have k1:y.heap.size=h4.heap.size:=e3;rw [a0 (if_neg (by simpa using J))];have f9:=Im b6;refine⟨λc1 a4 w'=>∃(d:Nat) (R:Nat->Prop) (e5:Nat->Nat),a4=d/\d<=a1/\c1=a1-d/\bS w' R e5 (mf p (({h with sp:=g,bp:=j,lp:=some ⟨t,0,none⟩}:ko).cells c self) {h with sp:=g,bp:=j,lp:=some ⟨t,0,none⟩} c {X with S:=(⟨c.bl.toNat,[]⟩:aq).eI (e.out.take d),D:=e.D,log:=some e.V} [])/\de u y R w',
   ⟨_,0,u,Q,rfl,Qj _,rfl,f0,de.refl _ _⟩,?_⟩
  rintro c1 _ _ e6 ⟨d,R,e5,rfl,k,rfl,c8,A⟩;have i0:∀a,G a->¬R a:=λa b n=>by
   rcases A.new a n with m|m
   ·exact c7 a b m
   ·have:=b5 a b;omega
  have c9:=aq.np (e.out.take d) ⟨c.bl.toNat,[]⟩;rw [Qy]at c9;simp only [List.length_nil]at c9;refine al.dec (λk2=>?_) (λk4=>?_)
  ·obtain⟨o,S⟩:∃o,e.out[d]? =some o:=⟨_,Qq oM⟩
   obtain⟨a,f1,es,ha,k5,k6,i1,xa,xn,xc,rfl,i2,d0⟩:=(b6.keep A.keep c7).el d o S;refine⟨a,f1,ha,oM,oM,br (es:=aE o xa xn xc) (k:=10) (bg _ _ _ _) rfl (λa4 ht=>by rw [Qx];exact i1 a4 ht) (PA.mk λk7 i3 k8 i4=>aD (bg o xa xn xc) i4 rfl λk9 i5 l0 i6=>λi7 e7=>?_)⟩;have L:ai e6 i7:=(i3.new i5 λa b=>.inr (by have b:a=e6.heap.size:=b;omega)).then e7.keep;have a5:=bS.af c8 cj L;have l3:=A.keep.size;obtain⟨f3,f4,f5⟩:=a5.at' 3;refine⟨p,0,rfl,_,ae (a5.at' 0).2 rfl,aw (bg o xa xn xc) ((e7.keep (S:=λ_=>False)).get i6 id) (PC.ok (vH f3 (i2.af L) (λa b=>⟨by have:=b5 a b;have:=L.size;omega,λn=>i0 a b n.1⟩) d0 (by show((⟨c.bl.toNat,[]⟩:aq).eI (e.out.take d)).l.length<_;omega)) ?_)⟩;rintro _ l4 ⟨rfl,F8,f2,f6⟩;have i8:((⟨c.bl.toNat,[]⟩:aq).eI (e.out.take (d+1)))=(((⟨c.bl.toNat,[]⟩:aq).eI (e.out.take d)).add o).2:=by
    rw [Qw,S];exact aq.nq ..
   obtain⟨F9,a6,a7,q,-⟩:=a5.Ec cj (k:=3) (G':=F8) (C2:=mf p (({h with sp:=g,bp:=j,lp:=some ⟨t,0,none⟩}:ko).cells c self) {h with sp:=g,bp:=j,lp:=some ⟨t,0,none⟩} c {X with S:=(⟨c.bl.toNat,[]⟩:aq).eI (e.out.take (d+1)),D:=e.D,log:=some e.V} []) f6 f2.aF (by rw [i8];exact⟨f2,f4.add d0,(aq.Vd _ _).trans f5⟩) λd G k l=>by
    rcases d with _|_|_|_|_|_|_|d<;>first|exact l|exact absurd rfl k
   exact⟨_,rfl,_,oM,d+1,F9,a6,an oM,oM,rfl,a7,A.trans ⟨(ai.keep L).then q.keep,λa b=>(q.new a b).imp id λh1=>by have:=L.size;omega⟩⟩
  ·rw [Qz oM]at c8 c9
   exact DF c8 (B.Ec (b4.trans A)) (λg3 o h3 S=>by simp at S) (by show((⟨c.bl.toNat,[]⟩:aq).eI e.out).l.length<=_;omega) (κ:=λC w'=>Ok (λC w'=>C= QH 0/\((⟨c.bl.toNat,[]⟩:aq).eI e.out).l.length<=16777216/\∃U r f,c_ w' r f p U c self {X with S:=(⟨c.bl.toNat,[]⟩:aq).eI e.out,D:=e.D,log:=some e.V}/\de F w r w') (.returned C) w')
    λw' r f a8 f8=>Ok.mk ⟨rfl,oM,_,r,f,a8,(b4.trans A).trans f8⟩
end
structure ve where
 code:Int
 id:Int×Int
 st:mV
 Wv:List df
 rows:List ep
 more:Bool
def n_ (a:ve) (b:Option Addr) (c d:Nat) (e:Option Addr) (f g:Nat) (h:Option Addr) (i j:Nat):List Value:=
 [QH a.code,QH a.id.1,QH a.id.2,QH a.st.version,.slice b c d,.slice e f g,.slice h i j,.bool a.more]
theorem lR (a:ve) (b:Option Addr) (c d:Nat) (e:Option Addr) (f g:Nat) (h:Option Addr) (i j:Nat):jg ZQ 46 (n_ a b c d e f g h i j)=true:=kR
def ju (j:World) (a:ve) (k:Value) (b:World):Prop:=∃(d:Option Addr) (e l:Nat) (f:Option Addr) (g m:Nat) (h:Option Addr) (i n:Nat) (G:Nat->Prop),k= .agg (n_ a d e l f g m h i n).toArray/\
 Row fL 32 b G d e a.st.cells/\Row Ab 120 b G f g a.Wv/\Row IN 24 b G h i a.rows/\∀c,G c->j.heap.size<=c/\c<b.heap.size
abbrev pN (a:Int):ve:=⟨a,(0,0),⟨0,[]⟩,[],[],false⟩
abbrev OH (id:Int×Int):ve:=⟨0,id,⟨0,[]⟩,[],[],false⟩
structure jS.Ok (x:jS):Prop where
 bd:aN x.bd
 agg:aN x.agg
 field:aN x.field
 op:aN x.op
 arg:aN x.arg
 key:aN x.key
variable{f2:ve}
section
variable {w w' w0:World} {p:Nat} {F E T:Nat->Prop} {cls:Nat->Nat} {h:ko} {c:cz} {self:Int} {X:bw} {evs lB:List ah} {ea:Option Addr} {en ec:Nat}
theorem ju.plain (a:f2.st.cells=[]) (b:f2.Wv=[]) (c:f2.rows=[]):ju w f2 (.agg (n_ f2 none 0 0 none 0 0 none 0 0).toArray) w':=
 ⟨none,0,0,none,0,0,none,0,0,λ_=>False,rfl,by rw [a];exact eE _ _,by rw [b];exact eE _ _,by rw [c];exact eE _ _,λe d=>d.elim⟩
theorem row_one {a:kM j} {bytes b:Nat} {w:World} {f:j} {D:Nat->Prop} (h:w.heap[b]? =some (.cells r g H)) (i:a.rep w D f r.toList) (k:bytes<=1000):Row a bytes w (λc=>c=b\/D c) (some ⟨b,0,none⟩) 1 [f]:=by
 have o:=a.len i;refine⟨rfl,by unfold aQ;omega,λd p e=>?_⟩;obtain rfl:d=0:=by
  rcases d with _|d
  ·rfl
  ·simp at e
 simp at e;subst e;refine⟨b,0,r.toList,rfl,aC h,.inl rfl,λl m=>?_,a.mono i λc k=>.inr k⟩;have n:l<r.size:=by rw [<-o]at m;simpa using m
 rw [ae h (v:=r[l]) (by simp [n])];simp [n]
theorem Ww (k:A.OK) {M:Int} (f:0<=M) (g:∀a∈A.l,a.aA<=M):A.top<=M:=by
 have:∀(c:List ah) (b:Int),b<=M->(∀a∈c,a.aA<=M)->c.foldl (λb a=>max b a.aA) b<=M:=by
  intro c
  induction c with
  |nil=>intro b d _;exact d
  |cons a c h=>
   intro b d e;refine h _ ?_ λi j=>e i (QJ _ j);have:=e a (QV ..);show max b a.aA<=M;omega
 exact this A.l 0 f g
theorem MW [Decidable M] {a b:ah×Bool×Int} (c:a.1.Ok) (d:b.1.Ok):(if M then a else b).1.Ok:=by
 split
 ·exact c
 ·exact d
theorem KA (a:d5.Ok) (f:aN e) (h:aN m) (b:∀g∈u,aN g):(a_ d5 e u m).2.Ok:=by
 have i:=DG b e;unfold a_;dsimp only
 by_cases c:e<0\/(u.length:Int)<=e\/m<0
 ·rw [if_pos c];exact DH
 rw [if_neg c]
 by_cases d:fH u e=9223372036854775807\/m=9223372036854775807
 ·rw [if_pos d];exact DH
 rw [if_neg d];refine⟨f,?_,?_,Gw b sM,a.bd,a.agg,a.field,a.op,a.arg,a.key⟩
 ·show aN (fH u e+1);unfold aN at*;omega
 ·show aN (m+1);unfold aN at*;omega
theorem UJ (f:A.l.length<=20000000):∀b∈A.vec,aN b:=λb d=>by
 obtain⟨e,a,rfl⟩:=List.getElem_of_mem d;rw [A.b_]at a;have c:=A.my a;rw [Qq (by rw [A.b_];exact a)]at c;rw [XJ c];have:=A.Mq e;unfold aN;omega
theorem OI (a:A.OK):aN A.top:=by
 have d:=Ww a (M:=9223372036854775807) oM λb c=>by have:=(a.ok b c).aA;unfold aN at this;omega
 have e:=A.CL;unfold aN;omega
theorem Ol (b:d5.Ok) (a:A.OK) (c:aN e) (i:aN m) (d:A.l.length<=20000000):(kV L A d4 e m d5).1.Ok:=by
 have f:aN (max A.top m):=by
  have j:=OI a;unfold aN at*;omega
 rw [nZ];refine MW DH ?_
 cases g:A.keyed d5.key with
 |some h=>exact a.ok h (List.mem_of_find?_eq_some g)
 |none=>exact MW DH (MW DH (KA b c f (UJ d)))
end
end Go.Proofs.YtfchlbaidamodaaGreatDoor
