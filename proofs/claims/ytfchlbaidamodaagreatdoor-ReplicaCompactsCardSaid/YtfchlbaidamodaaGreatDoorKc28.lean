import Derived.Test.YtfchlbaidamodaaGreatDoorKc27
set_option linter.all false
set_option maxRecDepth 100000
namespace Go.Proofs.YtfchlbaidamodaaGreatDoor
open Go.ax
def NP(g:aR)(b:List ah):∀a∈(eN g b).rows,a.rows.length<=b.length:=by
 have:∀(b:List ah) (c:kL) (d:Nat),(∀a∈c.rows,a.rows.length<=d)->∀a∈(b.foldl kL.add c).rows,a.rows.length<=d+b.length:=by
  intro b
  induction b with
  |nil=>intro c d h a e;exact h a e
  |cons f b m=>
   intro c d h a e;have:=m (c.add f) (d+1) (λi j=>?_) a e
   ·simp only[Xq];omega
   ·obtain⟨k,l,rfl⟩:=Xk.1 (show i∈c.rows.map λa=>a.add (c.view.add f).1 (tI ((c.view.add f).2.state f.bd f.agg) a.p)from j)
    have o:=h k l;unfold ef.add;dsimp only;split
    ·omega
    ·split
     ·omega
     ·exact Xx (yU ..) oM
 intro a e;have:=this b (kL.new g) 0 (λi j=>by
  obtain⟨k,l,rfl⟩:=Xk.1 (show i∈g.projs.map λn=>(⟨n,[]⟩:ef)from j);exact Q4 0) a e
 omega
def jm(b:aR)(c:List ah)(a:Int):List ep:=if a<0 then []else match(eN b c).rows[a.toNat]? with
 |none=>[]
 |some d=>d.list
variable{e m:Int}
section
variable {w w':World} {p:Nat} {F T D:Nat->Prop} {d:aR} {every:Nat} {l:List ah}
def Lj(s:dF w p F d every l):
  Calls ZQ 391 #[ZX p,QH e,QH m] w (Ok λt w'=>∃c f g G,t= .tuple #[.agg #[QH (((cG d l).state e m).getD IB).version,.slice c f g],.bool ((cG d l).state e m).isSome]/\aV fL 84 G w' c f g (((cG d l).state e m).getD IB).cells/\(∀a,G a->w.heap.size<=a)/\ai w w'):=by
 obtain⟨z,A,u,rfl,j⟩:=s;refine sU (PA.mk λB h C v=>⟨p,0,rfl,_,ae (eH.af j h).bG rfl,PC.ok (ox ((eH.af j h).at' 3)) ?_⟩);rintro _ E ⟨c,f,g,G,rfl,x,k,i⟩;have H:=i.size;refine⟨_,_,_,_,_,rfl,PS.mk (i.get v id) sM λI n J y=>PS.mk y sM λK o L q=>⟨_,_,_,_,ae q rfl,ae q rfl,Ok.mk ⟨c,f,g,G,rfl,?_,λa b=>?_,?_⟩⟩⟩
 ·exact x.keep (n.then o) λa b r=>by have r:a=w.heap.size:=r;have:=k a b;omega
 ·have:=k a b;omega
 ·exact(h.then i).new (n.then o) λa b=>.inr (by have b:a=w.heap.size:=b;omega)
def GR(b:dF w p F d every l):Calls ZQ 389 #[ZX p] w (Ok (qD Ab 160 w (cG d l).entries)):=by
 obtain⟨c,j,e,rfl,a⟩:=b;refine pP ⟨p,0,rfl,_,ae a.bG rfl,PC.ok (GS (a.at' 3) (xE d l c.2.2.2).1) ?_⟩;rintro _ k ⟨f,g,h,G,rfl,i⟩;exact⟨_,_,_,rfl,Ok.mk ⟨f,g,h,G,rfl,i⟩⟩
def OY(k:dF w p F d every l):Calls ZQ 390 #[ZX p,QH e] w (Ok λm w'=>qD IN 268 w (jm d l e) m w'/\vE (jm d l e)):=by
 obtain⟨n,C,o,rfl,b⟩:=k;have E:=cU.len (b.at' 4);refine uj (al.dec (λh=>Ok.mk ⟨⟨none,0,0,λ_=>False,rfl,?_,aj.refl _,λq c=>c.elim⟩,?_⟩) (λf=>⟨p,0,rfl,_,_,_,ae b.bG rfl,al.dec (λr=>Ok.mk ⟨⟨none,0,0,λ_=>False,rfl,?_,aj.refl _,λq c=>c.elim⟩,?_⟩) (λr=>?_)⟩))
 ·unfold jm;rw[if_pos h];exact aV.nil _
 ·unfold jm;rw[if_pos h];exact List.Pairwise.nil
 ·unfold jm;rw[if_neg f,Q7 oM];exact aV.nil _
 ·unfold jm;rw[if_neg f,Q7 oM];exact List.Pairwise.nil
 ·obtain⟨a,rfl⟩:∃a:Nat,e=a:=⟨e.toNat,oM⟩
  have g:(eN d l).rows[a]? =some (eN d l).rows[a]:=Qq oM;have i:(eN d l).rows[a]∈(eN d l).rows:=XY oM;have s:jm d l (a:Int)=(eN d l).rows[a].list:=by unfold jm;rw[if_neg f,Qx,g]
  rw[s];generalize(eN d l).rows[a]=t at g i;obtain⟨u,H,I,v,x,j,-⟩:=cU.elem (b.at' 4) g;refine⟨p,0,rfl,_,_,_,ae b.bG rfl,u,0,v,oM,oM,_,by rw[Qx];exact x,PC.ok (OZ j (Xx (NP d l t i) n.2.2.2)) ?_⟩;rintro _ J ⟨y,z,A,G,rfl,B⟩;exact⟨_,_,_,rfl,Ok.mk ⟨⟨y,z,A,G,rfl,B⟩,j.Ac⟩⟩
end
def Fy{a:ah}:∀{l:List ah},(∀x∈l,aO x≠aO a)->dO a l=l.take (posOf (λx=>fg x a) l)++a::l.drop (posOf (λx=>fg x a) l)
 |[],_=>rfl
 |x::l,c=>by
  have d:=c x (QV ..);unfold dO posOf;rw[List.takeWhile_cons]
  by_cases b:fg x a=true
  ·rw[if_pos b,if_neg (by rw[ns b];simp)]
   have:=Fy (l:=l) λe f=>c e (QJ _ f);rw[this];simp[posOf]
  ·rw[if_neg b,if_pos ((GY d).resolve_left b)]
   rfl
structure qO (most:Nat) (l:List ah):Prop where
 Rz:VF l
 ids:(l.map aO).Nodup
 ok:∀e∈l,e.Ok
 le:l.length<=most
def qO.nil(a:Nat):qO a []:=⟨List.Pairwise.nil,sM,sM,Qj _⟩
variable{X r:Array Value}{z:FuncId}{B e6:List ah}{a:Nat}{F:Nat×Nat}{d:Option Addr}{g:TypeId}{l:ah}
def qO.add(d:qO a B)(h:l.Ok):qO a (dQ a B l).2:=by
 unfold dQ;split
 ·exact d
 rename_i f;rw[not_or]at f;have g:∀b∈B,aO b≠aO l:=by
  have:=f.2;simp only[List.any_eq_true,beq_iff_eq,not_exists,not_and]at this;exact this
 have e:=cX l B;refine⟨xK d.Rz g,?_,λb c=>?_,by rw[e.length_eq,Xq];omega⟩
 ·refine(e.map aO).nodup_iff.2 ?_
  rw[QY,List.nodup_cons];exact⟨λi=>by obtain⟨b,c,j⟩:=Xk.1 i;exact g b c j,d.ids⟩
 ·rcases Q2.1 (e.mem_iff.1 c)with rfl|c
  ·exact h
  ·exact d.ok b c
def qO.sub(b:qO a B)(c:e6.Sublist B):qO a e6:=
 ⟨b.Rz.sublist c,b.ids.sublist (c.map aO),λd e=>b.ok d (c.subset e),Xx c.length_le b.le⟩
def tK{b:aq}:∀{a:List ah},(∀e∈a,(b.add e).1≠0)->cP b a=none
 |[],_=>rfl
 |e::a,c=>by
  unfold cP;rw[if_neg (c e (QV ..)),tK λd f=>c d (QJ _ f)];rfl
def tL{c:aq}:∀{a:List ah} {i:Nat} {e:ah},(∀x∈a.take i,(c.add x).1≠0)->a[i]? =some e->(c.add e).1=0->cP c a=some (e,(c.add e).2,a.eraseIdx i)
 |[],i,e,_,b,_=>by simp at b
 |x::a,0,e,d,b,f=>by
  simp at b;subst b;unfold cP;rw[if_pos f];rfl
 |x::a,i+1,e,d,b,f=>by
  unfold cP;rw[if_neg (d x sM),tL (i:=i) (e:=e) (λg h=>d g (by simp[h])) (by simpa using b) f]
  rfl
def cD(a:dz)(b:Option Addr)(c d:Nat)(e:Option Addr)(f g:Nat):List Value:=[QH a.kind,QH a.ck,QH a.qF,.slice b c d,.slice e f g]
abbrev kD(a:dz)(b:Option Addr)(c d:Nat)(e:Option Addr)(f g:Nat):Value:=.agg (cD a b c d e f g).toArray
def j_(a:dz)(b:Option Addr)(c d:Nat)(e:Option Addr)(f g:Nat):jg ZQ 67 (cD a b c d e f g)=true:=kR
def XG(a:dz)(b:Option Addr)(c d:Nat)(e:Option Addr)(f g:Nat):TF (fe ZQ 67) (kD a b c d e f g)=true:=kR
section
variable {w w':World} {D E F:Nat->Prop} {m:dz} {va ea:Option Addr} {vn vc en ec N:Nat} {chunk:Int} {p:Nat} {S:aq}
def MK(d:Row aP 8 w D va vn m.vec)(k:Row fZ 96 w E ea en m.events):Calls ZQ 105 #[kD m va vn vc ea en ec,QH (N:Int)] w (Ok λl w'=>l= QH (iu m N)/\ai w w'):=by
 have v:=d.len;have x:=k.len;have n:=d.d_;refine Hr (PA.mk λy e z f=>⟨_,_,_,ae f rfl,al.dec (λo=>Ok.mk ⟨?_,e⟩) (λo=>⟨_,_,_,ae f rfl,al.dw (λp=>Ok.mk ⟨?_,e⟩) (λp=>⟨_,_,_,ae f rfl,λh q w'=>∃a:Nat,q=a/\a<=vn/\h=vn-a/\((m.vec.take a).any λb=>decide (b<0))=false/\ai w w',⟨_,0,rfl,Qj _,rfl,sM,e⟩,?_⟩)⟩)⟩)
 ·unfold iu;rw[if_pos oM]
 ·unfold iu;rw[if_neg oM,if_pos oM]
 rintro h _ _ A ⟨a,rfl,B,rfl,g,c⟩;refine al.dec (λC=>?_) (λF=>Ok.mk ⟨?_,c⟩)
 ·obtain⟨r,s,b,t,i,-,u⟩:=(d.af c).mh (i:=a) oM
  refine⟨r,s,t,oM,oM,b,u,al.dec (λj=>Ok.mk ⟨?_,c⟩) (λj=>⟨_,oM,a+1,an (by unfold aQ at n;omega),oM,rfl,?_,c⟩)⟩
  ·unfold iu;rw[if_neg oM,if_neg oM,if_pos (List.any_eq_true.2 ⟨b,QZ i,by simpa using j⟩)]
  ·rw[Qw,i,List.any_append,g];simp;omega
 ·rw[Qz oM]at g
  unfold iu;rw[if_neg oM,if_neg oM,if_neg (by rw[g];simp)]
def zG{e:Type}{a:e->Int}:∀{b:List e} {f:Nat} {c:e},(∀y∈b.take f,a y=0)->b[f]? =some c->a c≠0->cO a b=a c
 |y::b,0,c,_,d,g=>by
  simp at d;subst d;unfold cO;rw[if_pos (by simpa using g)]
 |y::b,f+1,c,h,d,g=>by
  have i:a y=0:=h y sM;unfold cO
  rw[i];simp only[bne_self_eq_false,Bool.false_eq_true,if_false];exact zG (λj k=>h j (QJ _ k)) (by simpa using d) g
def Dw{b:Type}{c:b->Int}:∀{a:List b},(∀y∈a,c y=0)->cO c a=0
 |[],_=>rfl
 |y::a,d=>by
  unfold cO
  rw[d y (QV ..)];simpa using Dw λe f=>d e (QJ _ f)
def ML(u:Row aP 8 w D va vn m.vec)(j:Row fZ 96 w E ea en m.events)(v:N<4611686018427387904):Calls ZQ 104 #[kD m va vn vc ea en ec,QH (N:Int),QH chunk] w (Ok λx w'=>x= QH (ez m N chunk)/\ai w w'):=by
 have W:=u.len;have X:=j.len;have y:=j.d_;refine Hq (PA.mk λY c Z d=>⟨_,_,_,ae d rfl,al.dec (λz=>Ok.mk ⟨?_,c⟩) (λz=>⟨_,_,_,ae d rfl,al.dec (λA=>Ok.mk ⟨?_,c⟩) (λA=>⟨_,_,_,ae d rfl,al.dec (λB=>Ok.mk ⟨?_,c⟩) (λB=>⟨_,_,_,ae d rfl,λo k w'=>∃a:Nat,k=a/\a<=en/\o=en-a/\(∀b∈m.events.take a,dh b N=0)/\ai w w',⟨_,0,rfl,Qj _,rfl,sM,c⟩,?_⟩)⟩)⟩)⟩)
 ·unfold ez;rw[if_pos oM]
 ·unfold ez;rw[if_neg oM,if_pos (.inl oM)]
 ·unfold ez;rw[if_neg oM,if_pos (.inr oM)]
 rintro o _ _ C ⟨a,rfl,hj,rfl,e,f⟩;have p:ez m N chunk=cO (λF=>dh F N) m.events:=by unfold ez;rw[if_neg oM,if_neg oM]
 refine al.dec (λa4=>?_) (λa5=>Ok.mk ⟨?_,f⟩)
 ·obtain⟨q,I,es,J,K,a6,r,g,h,i,rfl,s,L⟩:=(j.af f).el a m.events[a] (Qq oM)
  have l:m.events[a]? =some m.events[a]:=Qq oM;generalize m.events[a]=b at r s L l;refine⟨q,I,J,oM,oM,br (es:=aE b g h i) (k:=10) (bg b g h i) rfl (λk M=>r k M) (PA.mk λw3 O s3 P=>aD (bg b g h i) P rfl λQ R s4 S=>aw (bg b g h i) S ?_)⟩;have n:ai C Q:=O.new R λq K=>.inr oM;refine PC.ok (zj (s.af n) v) ?_;rintro _ w5 ⟨rfl,t⟩;refine⟨_,rfl,al.dw (λT=>Ok.mk ⟨by rw[p,zG e l T],(f.then n).then t⟩) (λU=>⟨_,oM,a+1,an (by unfold aQ at y;omega),oM,rfl,λV H=>?_,(f.then n).then t⟩)⟩;rw[Qw,l]at H;rcases Q6.1 H with H|H
  ·exact e V H
  ·simp at H;subst H;exact U
 ·rw[Qz oM]at e
  rw[p,Dw e]
def zH(k:cV w p F S){b a:Int}:Calls ZQ 95 #[ZX p,QH b,QH a] w (Ok λl w'=>∃va vn vc G,l=kD (lj S b a) va vn vc none 0 0/\aV aP 3 G w' va vn vc S.vec/\(∀a,G a->w.heap.size<=a)/\ai w w'):=by
 refine Ex (PA.mk λq h r m=>PC.ok (mi (k.af h)) ?_);rintro _ s ⟨d,e,f,G,rfl,n,g,i⟩;have t:=g.size;refine⟨_,_,_,rfl,aD (j_ (lj S b a) d e f none 0 0) (g.get m id) rfl λu j v o=>aw (j_ (lj S b a) d e f none 0 0) o (Ok.mk ⟨d,e,f,G,rfl,n.keep j λa c x=>?_,λa c=>?_,(h.then g).new j λa c=>.inr oM⟩)⟩
 ·have:=i a c;omega
 ·have:=i a c;omega
def Ki(k:cV w p F S){b a:Int}:Calls ZQ 107 #[ZX p,QH b,QH a] w (Ok λl w'=>∃va vn vc G,l=kD (yN S b a) va vn vc none 0 0/\aV aP 3 G w' va vn vc S.vec/\(∀a,G a->w.heap.size<=a)/\ai w w'):=by
 refine LK (PA.mk λq h r m=>PC.ok (mi (k.af h)) ?_);rintro _ s ⟨d,e,f,G,rfl,n,g,i⟩;have t:=g.size;refine⟨_,_,_,rfl,aD (j_ (yN S b a) d e f none 0 0) (g.get m id) rfl λu j v o=>aw (j_ (yN S b a) d e f none 0 0) o (Ok.mk ⟨d,e,f,G,rfl,n.keep j λa c x=>?_,λa c=>?_,(h.then g).new j λa c=>.inr oM⟩)⟩
 ·have:=i a c;omega
 ·have:=i a c;omega
def Gq{cs:Array Value}{c:Nat×Nat}(d:w.heap[a]? =some (.cells cs g c))(f:cs[0]? =some (QH (N:Int))):Calls ZQ 103 #[QH e,ZX a] w (Ok λh w'=>h= .bool (decide (0<=e)&&decide (e<N))/\w=w'):=by
 refine Ez (al.dec (λb=>⟨_,ae d f,Ok.mk ⟨?_,rfl⟩⟩) (λb=>Ok.mk ⟨?_,rfl⟩))
 ·rw[decide_eq_true (show 0<=e from b)];rfl
 ·rw[Xv (show¬0<=e from b)];rfl
def Qd(p:Row aP 8 w D va vn m.vec)(q:Row fZ 96 w E ea en m.events)(x:N<4611686018427387904):Calls ZQ 51 #[kD m va vn vc ea en ec,QH (N:Int),QH chunk] w (Ok λi w'=>i= QH (dJ m N chunk)/\ai w w'):=by
 refine Jh (PA.mk λy z K A=>PA.mk λj r L k=>?_);have d:=r.get A id;have a:=z.then r;refine⟨λB w'=>B=(!(decide (0<=m.ck)&&decide (m.ck<N))|| !(decide (0<=m.qF)&&decide (m.qF<N))||m.ck==m.qF)/\j=w',?_,?_⟩
 ·refine⟨_,ae d rfl,_,_,_,rfl,kR,PC.ok (Gq (N:=N) k rfl) ?_⟩
  rintro _ _ ⟨rfl,rfl⟩;refine⟨_,rfl,al.not (al.mk (λb=>⟨_,ae d rfl,_,_,_,rfl,kR,PC.ok (Gq (N:=N) k rfl) ?_⟩) (λb=>⟨by rw[b];rfl,rfl⟩))⟩;rintro _ _ ⟨rfl,rfl⟩;refine⟨_,rfl,al.not (al.mk (λc=>⟨_,ae d rfl,_,ae d rfl,by rw[b,c];rfl,rfl⟩) (λc=>⟨by rw[b,c];rfl,rfl⟩))⟩
 rintro l _ _ ⟨C,rfl⟩;have g:dJ m N chunk=if m.kind=3 then(if l then 1 else ez m N chunk)else if m.kind=1\/m.kind=2\/m.kind=4 then(if l then 1 else iu m N)else 2:=by rw[C];rfl
 have e:∀{s:List PanicEntry->World->Prop},(if l then 1 else iu m N)=dJ m N chunk->al l (Ok (λi w'=>i= QH (dJ m N chunk)/\ai w w') (.returned (QH 1)) j) (ow ZQ 67 (ZX w.heap.size) j λF=>(∃(t:Int),j.cell? ⟨y.heap.size,0,none⟩=some (QH t)/\PC ZQ 105 #[F,QH t] j (λH I=>∃(u:Int),H= QH u/\Ok (λi w'=>i= QH (dJ m N chunk)/\ai w w') (.returned (QH u)) I) s)):=λ{s} v=>by
  refine al.mk (λh=>Ok.mk ⟨by rw[<-v,h];rfl,a⟩) (λh=>aw (j_ m va vn vc ea en ec) d ⟨_,ae k rfl,PC.ok (MK (p.af a) (q.af a)) ?_⟩);rintro _ J ⟨rfl,n⟩;exact⟨_,rfl,Ok.mk ⟨by rw[<-v,h];rfl,a.then n⟩⟩
 refine⟨_,ae d rfl,al.dX (λf=>al.not (al.mk (λh=>?_) (λh=>aw (j_ m va vn vc ea en ec) d ⟨_,ae k rfl,PC.ok (ML (p.af a) (q.af a) x) ?_⟩))) (λf=>al.dX (λb=>al.tt (by simpa using b) (e ?_)) (λb=>al.dX (λc=>al.tt (by simpa using c) (e ?_)) (λc=>al.dX (λo=>e ?_) (λo=>Ok.mk ⟨?_,a⟩))))⟩
 ·exact al.tt h (Ok.mk ⟨by rw[g,if_pos f,h];rfl,a⟩)
 ·rintro _ J ⟨rfl,n⟩
  exact⟨_,rfl,Ok.mk ⟨by rw[g,if_pos f,h];rfl,a.then n⟩⟩
 ·rw[g,if_neg f,if_pos (show m.kind=1\/m.kind=2\/m.kind=4 from .inl b)]
 ·rw[g,if_neg f,if_pos (show m.kind=1\/m.kind=2\/m.kind=4 from .inr (.inl c))]
 ·rw[g,if_neg f,if_pos (show m.kind=1\/m.kind=2\/m.kind=4 from .inr (.inr o))]
 ·rw[g,if_neg f,if_neg (by rintro(h|h|h);exact b h;exact c h;exact o h)]
end
structure Rw (w:World) (p:Nat) (M D:Nat->Prop) (most:Nat) (l:List ah) (a:Option Addr) (n c:Nat) (L:List (Bx ah)):Prop where
 at':w.heap[p]? =some (.cells #[QH (most:Int),.slice a n c] 146 (0,0))
 pG:aV qE.k_ 59 (λb=>aI a=some b) w a n c L
 map:L.map (·.x)=l
 Pa:∀b∈L,qE.In w D b
 dD:∀b,D b->b<w.heap.size/\¬M b
 mp:M p
 ma:∀b,aI a=some b->M b/\b≠p
 dM:∀b,M b->b<w.heap.size
def ij(c:World)(d:Nat)(e D:Nat->Prop)(a:Nat)(b:List ah):Prop:=(a<=256/\qO a b)/\∃f g h i,Rw c d e D a b f g h i
section
variable {w w':World} {p:Nat} {M D T E:Nat->Prop} {most:Nat} {l:List ah} {a:Option Addr} {n c:Nat} {L:List (Bx ah)}
def Rw.keep(d:Rw w p M D most l a n c L)(f:aj T w w')(g:∀b,M b->¬T b)(h:∀b,D b->¬T b):Rw w' p M D most l a n c L:=
 ⟨f.get d.at' (g _ d.mp),d.pG.keep f λb e=>g b (d.ma b e).1,d.map,λb e=>(d.Pa b e).keep f h,λb e=>⟨Qk (d.dD b e).1 f.size,(d.dD b e).2⟩,d.mp,d.ma,λb e=>Qk (d.dM b e) f.size⟩
def ij.keep(d:ij w p M D most l)(e:aj T w w')(f:∀b,M b->¬T b)(g:∀b,D b->¬T b):ij w' p M D most l:=by
 obtain⟨h,a,n,c,L,d⟩:=d;exact⟨h,a,n,c,L,d.keep e f g⟩
def ij.af(a:ij w p M D most l)(b:ai w w'):ij w' p M D most l:=a.keep b (λ_ _ a=>a) λ_ _ a=>a
def xH:jP ZQ 50 59 qE.k_.k 96:=Eg
def Lk(h:0<=e/\e<=256):Calls ZQ 36 #[QH e] w (Ok λd w'=>∃p,d= ZX p/\ij w' p (·=p) (λ_=>False) e.toNat []/\w.heap.size<=p/\p<w'.heap.size/\ai w w'):=by
 refine GV (PA.mk λf g i c=>Ok.mk ⟨w.heap.size,rfl,⟨⟨oM,qO.nil _⟩,none,0,0,[],?_,(aV.nil f).mono (λb a=>a.elim) (λb a=>by cases a),rfl,sM,λb a=>a.elim,rfl,λb a=>(by cases a),λb a=>by have a:b=w.heap.size:=a;omega⟩,Q4 _,oM,g⟩);have:(if(if 256<e then 256 else e)>0 then(if 256<e then 256 else e)else 0)=((e.toNat:Nat):Int):=by split<;>split<;>omega
 rw[this]at c;exact c
def vG(e:ij w p M D most l):Calls ZQ 62 #[ZX p] w (Ok λg w'=>g= .tuple #[]/\ij w' p M (λ_=>False) most []/\aj M w w'):=by
 obtain⟨h,a,n,c,L,e⟩:=e;refine pQ ⟨p,0,rfl,PS.mk e.at' sM λi j k m=>Ok.mk ⟨rfl,⟨⟨h.1,qO.nil _⟩,none,0,0,[],m,(aV.nil i).mono (λd b=>b.elim) (λd b=>by cases b),rfl,sM,λd b=>b.elim,e.mp,λd b=>(by cases b),λd b=>by rw[k];exact e.dM d b⟩,j.mono λd _ f=>by have f:d=p:=f;exact f▸e.mp⟩⟩
def Bs(s:enters ZQ z=true)(d:Nat->World->Prop)(o:Nat->World->Prop)(i:d 0 w)(j:∀b g,d b g->Row qE.k_ 96 g E a n L)(t:∀b e g,L[b]? =some e->d b g->Calls ZQ z (r++ #[kK e.x e.a e.n e.c]++X) g (Ok λh w'=>(h= .bool true/\o b w')\/(h= .bool false/\d (b+1) w'))):
  Calls ZQ 237 #[.slice a n c,.func (.func z) r X] w (Ok λh w'=>(∃b,b<n/\h= QH (b:Int)/\o b w')\/(h= QH (-1)/\d n w')):=by
 have H:=(j 0 w i).len;have u:=(j 0 w i).d_;unfold aQ at u;refine fR ⟨λp k w'=>∃b:Nat,k=b/\b<=n/\p=n-b/\d b w',⟨_,0,rfl,Qj _,rfl,i⟩,?_⟩;rintro p _ _ q ⟨b,rfl,I,rfl,l⟩;refine al.dec (λJ=>?_) (λK=>?_)
 ·have v:b<L.length:=oM
  have m:L[b]? =some L[b]:=Qq v;generalize L[b]=f at m;obtain⟨e,x,M,y,N,O,A,rfl,-⟩:=(j b q l).el b f m;refine⟨e,x,y,oM,oM,br (es:=aE f.x f.a f.n f.c) (k:=10) (bg _ _ _ _) rfl (λk B=>by rw[Qx];exact A k B) ⟨_,_,_,rfl,s,PC.ok (t b f q m l) ?_⟩⟩;rintro _ P (⟨rfl,C⟩|⟨rfl,F⟩)
  ·exact⟨_,rfl,al.tt rfl (Ok.mk (.inl ⟨b,oM,rfl,C⟩))⟩
  ·exact⟨_,rfl,al.ff rfl ⟨_,oM,b+1,an oM,oM,rfl,F⟩⟩
 ·obtain rfl:b=n:=oM
  exact Ok.mk (.inr ⟨rfl,l⟩)
def IW{b:ah}{h i:Nat}{c:Nat}{e:ah}{j:Option Addr}{k l:Nat}(f:w.heap[c]? =some (.cells (aE e j k l).toArray 59 F)):
  Calls ZQ 229 #[kK b d h i,ZX c] w (Ok λm w'=>m= .bool (aO b==aO e)/\ai w w'):=by
 refine pR (PA.mk λn a o g=>⟨_,_,ae g rfl,ae g rfl,_,_,ae (a.get f id) rfl,ae (a.get f id) rfl,NN.eql ⟨_,rfl,Ok.mk ⟨rfl,a⟩⟩⟩)
def Ll(m:Row qE.k_ 96 w E a n L)(x:∀b,E b->b<w.heap.size){o:Nat}{g:ah}{r s:Nat}(t:w.heap[o]? =some (.cells (aE g d r s).toArray 59 F)):
  Calls ZQ 228 #[.slice a n c,.func (.func 229) #[] #[ZX o]] w (Ok λp w'=>p= .bool (L.any λb=>aO b.x==aO g)/\ai w w'):=by
 have y:=m.len;refine fA (PC.ok (Bs (E:=E) kR (λh i=>(∀b∈L.take h,(aO b.x==aO g)=false)/\ai w i) (λh i=>(L.any λb=>aO b.x==aO g)=true/\ai w i) ⟨sM,aj.refl _⟩ (λh i j=>m.af j.2) ?_) ?_)
 ·rintro h b i k ⟨l,e⟩
  refine(IW (e.get t id)).mono ?_;rintro _ z ⟨p,rfl,rfl,q⟩;refine Ok.mk ?_
  cases j:aO b.x==aO g
  ·refine .inr ⟨rfl,λu f=>?_,e.then q⟩
   rw[Qw,k]at f;rcases Q6.1 f with f|f
   ·exact l u f
   ·simp at f;subst f;exact j
  ·exact .inl ⟨rfl,List.any_eq_true.2 ⟨b,QZ k,j⟩,e.then q⟩
 ·rintro _ A (⟨h,B,rfl,v,e⟩|⟨rfl,l,e⟩)
  ·exact⟨_,rfl,Ok.mk ⟨by rw[v,decide_eq_true oM],e⟩⟩
  ·refine⟨_,rfl,Ok.mk ⟨?_,e⟩⟩
   rw[Qz oM]at l;rw[List.any_eq_false.2 λb k=>by rw[l b k];simp]
   rfl
end
section
variable {w w':World} {p:Nat} {M D T E:Nat->Prop} {most:Nat} {l:List ah} {a:Option Addr} {n c:Nat} {L:List (Bx ah)}
def qP{f g:ah}{a j:Option Addr}{n c k l:Nat}{w:World}:Calls ZQ 231 #[kK f a n c,kK g j k l] w (Ok λm w'=>m= QH (tJ f g)/\ai w w'):=by
 refine xI (PA.mk λv o x p=>PA.mk λq h y r=>λs t=>⟨λ_=>False,?_⟩);have b:ai q s:=t.keep;have d:=b.get (h.get p id) id;have e:=b.get r id;refine⟨_,ae d rfl,_,ae e rfl,id,_,ae d rfl,id,_,ae e rfl,id,_,ae d rfl,id,_,ae e rfl,PC.ok il ?_⟩;rintro _ _ ⟨rfl,rfl⟩;refine⟨_,rfl,aj.refl _,PC.ok il ?_⟩;rintro _ _ ⟨rfl,rfl⟩;refine⟨_,rfl,aj.refl _,PC.ok il ?_⟩;rintro _ _ ⟨rfl,rfl⟩;refine⟨_,rfl,aj.refl _,PA.mk λz i A u=>⟨i,PC.ok (Ry u) ?_⟩⟩;rintro _ _ ⟨rfl,rfl⟩;exact⟨_,rfl,aj.refl _,Ok.mk ⟨by rw[IX],((o.then h).then b).then i⟩⟩
def Fw{a b:ah}:tJ a b<0↔fg a b=true:=by
 unfold tJ
 cases fg a b
 ·cases fg b a<;>simp
 ·simp
def Ej(y:Row qE.k_ 96 w E a n L)(U:VF (L.map (·.x))){j:ah}{F H:Nat}:
  Calls ZQ 230 #[.slice a n c,kK j d F H,.func (.func 231) #[] #[]] w (Ok λV w'=>∃b,V= .tuple #[QH ((posOf (λq=>fg q.x j) L:Nat):Int),.bool b]/\ai w w'):=by
 have hl:=y.len;have W:=y.d_;unfold aQ at W;have O:∀{k l:Nat} {e m:Bx ah},L[k]? =some e->L[l]? =some m->k<=l->e=m\/fg e.x m.x=true:=λ{k l e m} o r b4=>by
  rcases Nat.lt_or_ge k l with h|h
  ·right
   have z:(L.map (·.x))[k]? =some e.x:=by rw[Q9,o];rfl
   have A:(L.map (·.x))[l]? =some m.x:=by rw[Q9,r];rfl
   obtain⟨X,Y⟩:=Qv.1 z;obtain⟨Z,e2⟩:=Qv.1 A;have:=List.pairwise_iff_getElem.1 U k l X Z h;rw[Y,e2]at this;exact this
  ·obtain rfl:k=l:=oM
   rw[o]at r;exact .inl (XJ r)
 refine dL (PA.mk λa4 P b5 Q=>⟨λR k l w'=>∃p f:Nat,k=p/\l=f/\R=f-p/\p<=f/\f<=n/\(∀b e,b<p->L[b]? =some e->fg e.x j=true)/\(∀b e,f<=b->L[b]? =some e->fg e.x j=false)/\ai a4 w',
  ⟨_,0,n,rfl,rfl,rfl,oM,oM,λb e i=>oM,λb e i o=>by have:=(Qv.1 o).1;omega,aj.refl _⟩,?_⟩)
 rintro R _ _ _ S ⟨p,f,rfl,rfl,rfl,b6,a5,z,A,t⟩;have u:enters ZQ 231=true:=kR
 refine al.dec (λb7 a6 a7=>?_) (λb8 a8 a9=>?_)
 ·have B:ai S a6:=a7.keep
  have v:=(P.then t).then B;rw[VD oM];have s:L[(p+f)/2]? =some L[(p+f)/2]:=Qq oM;generalize L[(p+f)/2]=g at s;obtain⟨q,I,es,J,b0,b1,K,rfl,-⟩:=(y.af v).el _ g s;refine⟨q,I,J,oM,oM,br (es:=aE g.x g.a g.n g.c) (k:=10) (bg _ _ _ _) rfl (λb i=>by rw[Qx];exact K b i) (aw (bg j d F H) ((t.then B).get Q id) ⟨_,_,_,rfl,u,PC.ok qP ?_⟩)⟩;rintro _ b2 ⟨rfl,C⟩;refine⟨_,rfl,al.dec (λM=>⟨_,?_,(p+f)/2+1,f,an oM,rfl,rfl,oM,a5,λb m i r=>?_,A,(t.then B).then C⟩) (λM=>⟨_,?_,p,(p+f)/2,rfl,rfl,rfl,oM,oM,z,λb m i r=>?_,(t.then B).then C⟩)⟩
  ·omega
  ·have x:=Fw.1 M
   rcases O r s oM with rfl|N
   ·exact x
   ·exact uq N x
  ·omega
  ·have x:¬fg g.x j=true:=λh=>M (Fw.2 h)
   rcases O s r i with rfl|N
   ·simpa using x
   ·cases h4:fg m.x j
    ·rfl
    ·exact absurd (uq N h4) x
 ·obtain rfl:p=f:=oM
  have T:ai S a8:=a9.keep;have v:=(P.then t).then T;have a3:posOf (λq=>fg q.x j) L=p:=Bq oM (λb e i o=>z b e i o) (λe o=>A p e (Q4 _) o);rw[a3];refine al.dec (λb3=>?_) (λb3=>Ok.mk ⟨false,rfl,v⟩);have s:L[p]? =some L[p]:=Qq oM;generalize L[p]=g at s;obtain⟨q,I,es,J,b0,b1,K,rfl,-⟩:=(y.af v).el _ g s;refine⟨q,I,J,oM,oM,br (es:=aE g.x g.a g.n g.c) (k:=10) (bg _ _ _ _) rfl (λb i=>by rw[Qx];exact K b i) (aw (bg j d F H) ((t.then T).get Q id) ⟨_,_,_,rfl,u,PC.ok qP ?_⟩)⟩;rintro _ b2 ⟨rfl,C⟩;exact⟨_,rfl,Ok.mk ⟨_,rfl,v.then C⟩⟩
def VG{g i:Nat}{x:Bx ah}(k:aV qE.k_ 59 (λb=>aI a=some b) w a n c L)(l:g<=n)(m:w.heap[i]? =some (.cells (aE x.x x.a x.n x.c).toArray 59 (0,0)))(o:aI a≠some i)(s:L.length<=20000000):
  Calls ZQ 232 #[.slice a n c,QH (g:Int),.slice (ZZ i) 1 1] w (Ok λp w'=>∃e h,p= .slice e (n+1) h/\aV qE.k_ 59 (λb=>aI e=some b) w' e (n+1) h (L.take g++x::L.drop g)/\aj (λb=>aI a=some b) w w'/\∀b,aI e=some b->aI a=some b\/w.heap.size<=b):=by
 refine gH (IY.one (c:=qE.k_) (tb:=4) (x:=x) (D:=λ_=>False) xH kR ?_ k l m ⟨rfl,trivial⟩ (λb d=>d.elim) o (by unfold aQ;omega) (by unfold maxLen;omega) λe h w' t f q r=>Ok.mk ⟨e,h,rfl,aV.alone f,q,λb d=>?_⟩)
 ·intro j w
  rw[run_callFunc_extern Tryz.func285 kR kR kR (e:=Extern.SlicesOverlaps.overlaps #[50,50] #[4]) kR]
 ·rcases r b (f.self b d)with d|d|d
  ·exact .inl d
  ·exact d.elim
  ·exact .inr d
def VH{d:Nat}(f:aV qE.k_ 59 (λb=>aI a=some b) w a n c L)(g:d<n)(j:n<=20000000):
  Calls ZQ 238 #[.slice a n c,QH (d:Int),QH (IntKind.wrap .i64 ((d:Int)+1))] w (Ok λh w'=>h= .slice a (n-1) c/\aV qE.k_ 59 (λb=>aI a=some b) w' a (n-1) c (L.eraseIdx d)/\aj (λb=>aI a=some b) w w'):=
 gI (IZ.one (c:=qE.k_) (tz:=0) xH kR f g (by unfold maxLen;omega) λw' e i=>Ok.mk ⟨rfl,e,i⟩)
def Lm(g:ij w p M D most l){e:ah}{en ec:Nat}(P:Row aP 8 w E d en e.aK)(hE:∀b,E b->b<w.heap.size)(he:e.Ok):
  Calls ZQ 166 #[ZX p,kK e d en ec] w (Ok λQ w'=>Q= .bool (dQ most l e).1/\∃q r,ij w' p q r most (dQ most l e).2/\aj M w w'/\(∀b,q b->M b\/w.heap.size<=b)/\∀b,r b->D b\/w.heap.size<=b):=by
 have b3:=g;obtain⟨C,a,n,c,L,g⟩:=g;have d7:L.length=l.length:=by rw[<-g.map,Q8]
 have hn:n=L.length:=g.pG.len dC;have d8:=g.dM p g.mp;have d9:=C.2.le;have k:(L.any λb=>aO b.x==aO e)=l.any (λj=>aO j==aO e):=by rw[<-g.map,List.any_map];rfl
 refine sV (PA.mk λc5 b4 e0 b5=>λR c6=>⟨λ_=>False,?_⟩);have S:ai c5 R:=c6.keep;have o:ai w R:=b4.then S;have T:=o.get g.at' id;have no:(dQ most l e)=(false,l)->∀U,ai w U->Ok (λQ w'=>Q= .bool (dQ most l e).1/\∃q r,ij w' p q r most (dQ most l e).2/\aj M w w'/\(∀b,q b->M b\/w.heap.size<=b)/\∀b,r b->D b\/w.heap.size<=b) (.returned (.bool false)) U:=λhq U k1=>
  Ok.mk ⟨by rw[hq],M,D,by rw[hq];exact b3.af k1,ai.keep k1,λb f=>.inl f,λb f=>.inl f⟩
 refine⟨p,0,rfl,_,_,_,ae T rfl,p,0,rfl,_,ae T rfl,al.dec (λe1=>no (by unfold dQ;rw[if_pos (.inl oM)]) R o) (λe2=>⟨p,0,rfl,id,_,_,_,ae T rfl,aj.refl _,PC.ok (Ll (E:=λb=>aI a=some b) (((g.pG.af o).row (bytes:=96) dC (by unfold aQ;omega))) (λb f=>by have:=(g.pG.aF b f);have:=o.size;omega) (S.get b5 id)) ?_⟩)⟩;rintro _ b6 ⟨rfl,F⟩;refine⟨_,rfl,F,al.mk (λs=>no (by unfold dQ;rw[if_pos (.inr (k▸s))]) b6 (o.then F)) (λs=>?_)⟩;have H:=o.then F;have b7:dQ most l e=(true,dO e l):=by unfold dQ;rw[if_neg (by rw[<-k];rintro(h|h);omega;rw[s]at h;cases h)]
 have c7:∀j∈l,aO j≠aO e:=by
  rw[k]at s;simpa[List.any_eq_false]using s
 have V:=(S.then F).get b5 id;refine⟨_,_,_,ae V rfl,PC.ok (cH (P.af H) λb f=>by have:=hE b f;have:=H.size;omega) ?_⟩;rintro _ b8 ⟨I,J,K,G,rfl,W,X,Y⟩;have e3:=H.size;have e4:=X.size;refine⟨_,_,_,rfl,PS.mk (X.get V id) (by simp[aE]) λZ a9 e5 c8=>λN b9=>?_⟩;have t:ai Z N:=b9.keep;have e6:N.heap.size=Z.heap.size:=by rw[b9.heap]
 have a0:Z.heap[w.heap.size]? =some (.cells (aE e I J K).toArray 59 (0,0)):=c8;have a1:ai w N:=((H.then X).new a9 λb f=>.inr (by have f:b=w.heap.size:=f;omega)).then t;have b0:=g.keep a1 (λ_ _ g=>g) λ_ _ g=>g;have c0:VF (L.map (·.x)):=by rw[g.map];exact C.2.Rz
 refine⟨p,0,rfl,_,_,_,ae b0.at' rfl,aw (bg e I J K) (t.get a0 id) (PC.ok (Ej (b0.pG.row (bytes:=96) dC (by unfold aQ;omega)) c0) ?_)⟩;rintro _ e7 ⟨a4,rfl,c9⟩;refine⟨_,_,rfl,λd0 d1=>⟨λ_=>False,?_⟩⟩;have u:ai N d0:=c9.then d1.keep;have a2:=a1.then u;have c1:=b0.keep u (λ_ _ g=>g) λ_ _ g=>g;have i:=u.get (t.get a0 id) id;have d6:=Bp (λb:Bx ah=>fg b.x e) L;refine⟨p,0,rfl,id,_,_,_,ae c1.at' rfl,_,_,_,_,_,_,_,_,_,_,_,_,ae i rfl,ae i rfl,ae i rfl,ae i rfl,ae i rfl,ae i rfl,ae i rfl,ae i rfl,ae i rfl,ae i rfl,PA.mk λd2 v e8 d3=>⟨v,?_⟩⟩;have c3:=c1.keep v (λ_ _ g=>g) λ_ _ g=>g;have e9:=a2.size;refine PC.ok (VG (x:=⟨e,I,J,K⟩) c3.pG oM d3 (λe=>by have:=g.pG.aF _ e;omega) oM) ?_;rintro _ f2 ⟨a',c',rfl,a3,x,y⟩;have b1:¬aI a=some p:=λe=>(g.ma p e).2 rfl;have f3:=x.size;refine⟨_,_,_,rfl,p,0,rfl,PS.mk (x.get c3.at' b1) sM λd4 O f4 d5=>?_⟩;have z:aj M w d4:=((ai.keep (a2.then v)).then (x.mono λb _ f=>(g.ma b f).1)).then (O.mono λb _ e=>by have e:b=p:=e;exact e▸g.mp);refine Ok.mk ⟨by rw[b7],λb=>M b\/aI a'=some b,λb=>D b\/G b,⟨⟨C.1,C.2.add he⟩,a',n+1,c',L.take (posOf (λb=>fg b.x e) L)++⟨e,I,J,K⟩::L.drop (posOf (λb=>fg b.x e) L),d5,?_,?_,?_,?_,.inl g.mp,?_,?_⟩,?_,?_,?_⟩
 ·refine a3.keep O λb f e=>?_
  have e:b=p:=e;rcases y b f with h|h
  ·exact b1 (e▸h)
  ·omega
 ·rw[b7]
  have c4:posOf (λj=>fg j e) l=posOf (λb:Bx ah=>fg b.x e) L:=by
   unfold posOf;rw[<-g.map,List.takeWhile_map,Q8];rfl
  show _=dO e l;rw[Fy c7,c4,Q3,QY,List.map_take,List.map_drop,g.map]
 ·have b2:∀b,G b->b6.heap.size<=b/\b<b8.heap.size:=λb f=>⟨Y b f,W.aF b f⟩
  intro j m;rcases Q6.1 m with m|m
  ·exact((g.Pa j (List.mem_of_mem_take m)).keep z λb f=>(g.dD b f).2).mono λb f=>.inl f
  rcases Q2.1 m with rfl|m
  ·refine⟨(((((W.keep a9 λb f e=>?_).af t).af (u.then v)).keep x λb f e=>?_).keep O λb f e=>?_).row (bytes:=8) dC (by rw[<-P.len];exact P.d_)|>.mono λb f=>.inr f,he⟩
   ·have e:b=w.heap.size:=e;have:=b2 b f;have:=aC V;omega
   ·have:=g.pG.aF b e;have:=b2 b f;omega
   ·have e:b=p:=e;have:=b2 b f;omega
  ·exact((g.Pa j (List.mem_of_mem_drop m)).keep z λb f=>(g.dD b f).2).mono λb f=>.inl f
 ·intro b f
  have hz:b8.heap.size<=d2.heap.size:=by have:=a9.size;have:=t.size;have:=u.size;have:=v.size;omega
  rcases f with f|f
  ·have h:=g.dD b f
   refine⟨by have:=z.size;omega,λA=>A.elim h.2 λe=>?_⟩;rcases y b e with B|B
   ·exact h.2 (g.ma b B).1
   ·omega
  ·have h:=W.aF b f;have h3:=Y b f
   have f5:=b4.size;refine⟨by have:=x.size;have:=O.size;omega,λA=>?_⟩;rcases A with A|e
   ·have:=g.dM b A;omega
   rcases y b e with B|B
   ·have:=g.pG.aF b B;omega
   ·omega
 ·intro b f
  refine⟨.inr f,λe=>?_⟩;rcases y b f with h|h
  ·exact b1 (e▸h)
  ·omega
 ·intro b f
  rcases f with f|f
  ·have:=g.dM b f;have:=z.size;omega
  ·have:=a3.aF b f;omega
 ·exact z
 ·intro b f
  rcases f with f|f
  ·exact .inl f
  rcases y b f with h|h
  ·exact .inl (g.ma b h).1
  ·exact .inr oM
 ·intro b f
  rcases f with f|f
  ·exact .inl f
  ·exact .inr (by have:=Y b f;omega)
end
end Go.Proofs.YtfchlbaidamodaaGreatDoor
namespace Go.ax
open Go
variable{E a c i n:Nat}{f:Nat->Prop}{d:Option Addr}{h:Program}{j:Type}{g q:TypeId}{b:World}{y:World->Prop}
def aV.TJ{k:Nat}{e:j->List Value}{p:j->Prop}{hl h1}{l:List j}{x:j}(m:aV (flat k e p hl h1) q f b d a c l)(A:E<l.length)(B:0<k)(C:p x)(F:d=some ⟨i,n,none⟩)(H:jg h g (e x)=true)(r:∀o,aV (flat k e p hl h1) q f o d a c (l.set E x)->aj (λi=>aI d=some i) b o->o.heap.size=b.heap.size->y o):xJ h g (.pointer (some ⟨i,n+E*k,none⟩)) (.agg (e x).toArray) b y:=by
 have M:=m.len B;obtain⟨cs,D,t,I,u⟩:=m.body;have N:cs.length=a*k:=t.length;have O:(E+1)*k<=a*k:=Q0 _ oM;have J:(E+1)*k=E*k+k:=by rw[X7,Nat.one_mul]
 refine t.store (m:=E*k) F H (by rw[hl];omega) λK L v w=>r K ⟨⟨_,D,L,?_,u⟩,m.self,λi s=>by rw[w];exact m.aF i s⟩ v w;have z:=I.keep v λi s=>(u i s).2;rw[hl,<-J,show l.set E x=l.take E++[x]++l.drop (E+1) by rw[XQ,List.singleton_append];exact List.set_eq_take_append_cons_drop .. |>.trans (if_pos A)];exact bT.append (bT.append (z.take E) (bT.one ⟨rfl,C⟩)) (z.drop (E+1))
end Go.ax
namespace Go.Proofs.YtfchlbaidamodaaGreatDoor
open Go.ax
variable{X r:Array Value}{z:FuncId}{a4 f:Nat->Prop}{d:Option Addr}{H:aq}
section
variable {w w':World} {p:Nat} {M D T E:Nat->Prop} {most:Nat} {l:List ah} {a:Option Addr} {n c:Nat} {L:List (Bx ah)}
def Pb{pr:ah->Bool}(I:enters ZQ z=true)(o:aV qE.k_ 59 (λb=>aI a=some b) w a n c L)(hl:L.length<=20000000)(J:∀(b:Bx ah) f,aj (λb=>aI a=some b) w f->Calls ZQ z (r++ #[kK b.x b.a b.n b.c]++X) f (Ok λt w'=>t= .bool (pr b.x)/\ai f w')):
  Calls ZQ 235 #[.slice a n c,.func (.func z) r X] w (Ok λt w'=>∃p,t= .slice a p c/\aV qE.k_ 59 (λb=>aI a=some b) w' a p c (L.filter λb=>!pr b.x)/\aj (λb=>aI a=some b) w w'):=by
 have hn:=o.len dC;have b6:=o.jx;have q:∀{f:World} {g:List (Bx ah)},aV qE.k_ 59 (λb=>aI a=some b) f a n c g->g.length=L.length->Row qE.k_ 96 f (λb=>aI a=some b) a n g:=λ{f g} Z b7=>Z.row dC (by unfold aQ;omega);refine fN (PC.ok (Bs (E:=λb=>aI a=some b) (L:=L) I (λe f=>(∀b∈L.take e,pr b.x=false)/\ai w f) (λe f=>(∀b∈L.take e,pr b.x=false)/\(∀b,L[e]? =some b->pr b.x=true)/\ai w f) ⟨sM,aj.refl _⟩ (λe f h1=>(q o rfl).af h1.2) ?_) ?_)
 ·rintro e b f i ⟨j,B⟩
  refine(J b f (ai.keep B)).mono ?_;rintro _ w2 ⟨t,rfl,rfl,K⟩;refine Ok.mk ?_
  cases M:pr b.x
  ·refine .inr ⟨rfl,λN h=>?_,B.then K⟩
   rw[Qw,i]at h;rcases Q6.1 h with h|h
   ·exact j N h
   ·simp at h;subst h;exact M
  ·exact .inl ⟨rfl,j,λN h=>by rw[i]at h;cases h;exact M,B.then K⟩
 rintro _ w4 (⟨l,b8,rfl,j,a0,s⟩|⟨rfl,j,s⟩)
 rotate_left
 ·refine⟨_,rfl,al.tt sM (Ok.mk ⟨n,rfl,?_,ai.keep s⟩)⟩
  rw[Qz oM]at j;rw[List.filter_eq_self.2 λb i=>by rw[j b i];rfl];exact o.af s
 have O:L[l]? =some L[l]:=Qq oM;have a8:(L.take (l+1)).filter (λb=>!pr b.x)=L.take l:=by
  rw[Qw,O,List.filter_append,List.filter_eq_self.2 λb i=>by rw[j b i];rfl];simp[a0 _ O]
 refine⟨_,rfl,al.ff sM ⟨λp m e w'=>∃(C k:Nat) (g:List (Bx ah)),m=C/\e=k/\C<k/\k<=n/\p=n-k/\aV qE.k_ 59 (λb=>aI a=some b) w' a n c g/\g.length=L.length/\g.take C=(L.take k).filter (λb=>!pr b.x)/\g.drop k=L.drop k/\aj (λb=>aI a=some b) w w',
  ⟨_,l,l+1,L,rfl,an oM,oM,oM,rfl,o.af s,rfl,a8.symm,rfl,ai.keep s⟩,?_⟩⟩
 rintro p _ _ _ P ⟨m,e,g,rfl,rfl,b9,c0,rfl,u,E,v,Q,x⟩;refine al.dec (λc1=>?_) (λc2=>?_)
 ·have y:L[e]? =some L[e]:=Qq oM
  have R:g[e]? =some L[e]:=by
   have:=congrArg (·[0]?) Q;simp only[List.getElem?_drop,Nat.add_zero]at this;rw[this,y]
  have S:g.drop (e+1)=L.drop (e+1):=by
   have:=congrArg (List.drop 1) Q
   rwa [List.drop_drop,List.drop_drop]at this
  generalize L[e]=d at y R;obtain⟨b,T,es,F,c3,c4,a9,rfl,-⟩:=(q u E).el e d R;refine⟨b,T,F,oM,oM,br (es:=aE d.x d.a d.n d.c) (k:=10) (bg _ _ _ _) rfl (λa1 ht=>by rw[Qx];exact a9 a1 ht) (PA.mk λc5 b0 c6 b1=>aD (bg d.x d.a d.n d.c) b1 rfl λU b2 c7 V=>aw (bg d.x d.a d.n d.c) V ⟨_,_,_,rfl,I,?_⟩)⟩;have W:ai P U:=b0.new b2 λb i=>.inr (by have i:b=P.heap.size:=i;omega);refine PC.ok (J d U (x.af W)) ?_;rintro _ c8 ⟨rfl,Y⟩;have A:=W.then Y;refine⟨_,rfl,al.not (al.mk (λH=>⟨_,?_,m,e+1,g,rfl,an oM,oM,oM,rfl,u.af A,E,?_,S,x.af A⟩) (λH=>?_))⟩
  ·omega
  ·rw[v,Qw,y,List.filter_append]
   simp[H]
  ·refine aw (bg d.x d.a d.n d.c) (Y.get V id) ⟨b,T,F,oM,oM,?_⟩
   rw[Qx];refine aV.TJ (x:=d) (k:=10) (u.af A) oM dC trivial F (bg d.x d.a d.n d.c) λc9 a7 b3 d0=>⟨_,?_,m+1,e+1,g.set m d,an oM,an oM,oM,oM,rfl,a7,by simpa using E,?_,?_,(x.af A).then b3⟩
   ·omega
   ·rw[Qw (l:=L),y,List.filter_append,<-v,Qw,List.getElem?_set_self oM,List.take_set_of_le (Q4 _)]
    simp[H]
   ·rw[List.drop_set_of_lt oM,S]
 ·obtain rfl:e=n:=oM
  rw[Qz (l:=L) oM]at v;refine⟨oM,oM,?_⟩;rw[Qx];refine Bm xH kR u oM λd1 b4 b5 d2=>⟨oM,oM,Ok.mk ⟨m,rfl,?_,x.then b5⟩⟩
  rw[<-v];exact b4
def Pc{c e:Nat}(m:cV w c f H)(n:w.heap[e]? =some (.cells #[ZX c] 96 (0,0))){b:ah}{o p:Nat}:
  Calls ZQ 233 #[kK b d o p,ZX e] w (Ok λq w'=>q= .bool (H.get (aO b)).isSome/\ai w w'):=by
 refine nj (PA.mk λx a y g=>⟨_,ae (a.get n id) rfl,_,_,ae g rfl,ae g rfl,PC.ok (TK (m.af a) (aO b)) ?_⟩);rintro _ r ⟨h,i,j,G,rfl,z,A,k⟩;exact cu (sW _ h i j) ⟨_,rfl,PA.mk λB s C t=>aD (bg _ h i j) t rfl λE u F I=>Ok.mk ⟨rfl,((a.then k).then s).new u λv l=>.inr (by have l:v=r.heap.size:=l;have:=a.size;have:=k.size;omega)⟩⟩
def Pd{h j:Nat}(n:cV w h f H)(o:w.heap[j]? =some (.cells #[ZX h] 96 (0,0))){b:ah}{i k:Nat}(p:Row aP 8 w a4 d i b.aK)(l:∀a,a4 a->a<w.heap.size/\¬f a)(q:b.Ok)(u:H.l.length<=20000000):
  Calls ZQ 236 #[kK b d i k,ZX j] w (Ok λr w'=>r= .bool (decide ((H.add b).1=0))/\∃e,cV w' h e (H.add b).2/\de f w e w'):=by
 refine nk (PA.mk λv c x s=>⟨_,ae (c.get o id) rfl,aw (bg b d i k) s (PC.ok (vH (n.af c) (p.af c) (λa g=>⟨by have:=(l a g).1;omega,(l a g).2⟩) q oM) ?_)⟩);rintro _ y ⟨rfl,e,t,m⟩;have:=c.size;exact⟨_,rfl,Ok.mk ⟨by congr 1,e,t,(ai.keep c).then m.keep,λa g=>(m.new a g).imp id oM⟩⟩
end
end Go.Proofs.YtfchlbaidamodaaGreatDoor

namespace Go.Proofs.YtfchlbaidamodaaGreatDoor
open Go.ax
variable{f:Nat->Prop}{d:Option Addr}{b:World}{H:aq}
section
variable {w w':World} {p:Nat} {M D E:Nat->Prop} {most:Nat} {l:List ah} {a:Option Addr} {n c:Nat} {L:List (Bx ah)}
structure TA (w:World) (p:Nat) (M:Nat->Prop) (most:Nat) (a:Option Addr) (c s tb:Nat) (T:aq) (nc:Nat) (Lc:List (Bx ah)) (oa:Option Addr) (on oc:Nat) (Lo:List (Bx ah)) (w1:World):Prop where
 set:∃F1,cV w1 s F1 T/\(∀b,F1 b->w.heap.size<=b/\b≠tb)/\∀b,aI oa=some b->w.heap.size<=b/\¬F1 b/\b≠tb
 ptr:w1.heap[tb]? =some (.cells #[ZX s] 96 (0,0))
 buf:w1.heap[p]? =some (.cells #[QH (most:Int),.slice a nc c] 146 (0,0))
 pG:aV qE.k_ 59 (λb=>aI a=some b) w1 a nc c Lc
 out:aV qE.k_ 59 (λb=>aI oa=some b) w1 oa on oc Lo
 keep:aj M w w1
def yW(j:Rw w p M D most l a n c L){s m:Nat}{k:Nat}{h:List (Bx ah)}{t u:Nat}{v:List (Bx ah)}(J:TA w p M most a c s m H k h d t u v b)(P:∀e∈h,e∈L)(R:H.l.length<=20000000)(a6:h.length<=20000000):
  Calls ZQ 237 #[.slice a k c,.func (.func 236) #[] #[ZX m]] b (Ok λB w'=>
   (B= QH (-1)/\(∀e∈h,(H.add e.x).1≠0)/\TA w p M most a c s m H k h d t u v w')\/
   (∃i e,i<k/\B= QH (i:Int)/\h[i]? =some e/\(∀y∈h.take i,(H.add y.x).1≠0)/\(H.add e.x).1=0/\TA w p M most a c s m (H.add e.x).2 k h d t u v w')):=by
 have S:=j.dM p j.mp;have a7:=J.pG.len dC;have T:∀e,aI a=some e->e<w.heap.size:=λe f=>j.dM e (j.ma e f).1;refine(Bs (E:=λe=>aI a=some e) (L:=h) kR (λi o=>(∀e∈h.take i,(H.add e.x).1≠0)/\TA w p M most a c s m H k h d t u v o) (λi o=>∃e,h[i]? =some e/\(∀y∈h.take i,(H.add y.x).1≠0)/\(H.add e.x).1=0/\TA w p M most a c s m (H.add e.x).2 k h d t u v o) ⟨sM,J⟩
  (λi o g=>g.2.pG.row dC (by unfold aQ;omega)) ?_).mono ?_
 ·rintro i e o f ⟨K,g⟩
  obtain⟨U,V,z,C⟩:=g.set;have N:=(j.Pa e (P e (QZ f))).keep g.keep λe f=>(j.dD e f).2;have z2:=g.keep.size;refine(Pd V g.ptr N.1 (λe f=>⟨by have:=(j.dD e f).1;omega,λq=>by have:=(j.dD e f).1;have:=(z e q).1;omega⟩) N.2 R).mono ?_;rintro _ W ⟨B,rfl,rfl,X,Y,r⟩;have O:∀e,e<w.heap.size->¬U e:=λe f q=>by have:=(z e q).1;omega
  have Z:=aC g.ptr;have F:∀e,aI d=some e->e<o.heap.size:=λe f=>g.out.aF e f;have I:TA w p M most a c s m (H.add e.x).2 k h d t u v W:=⟨⟨X,Y,λe f=>(r.new e f).elim (z e) λA=>⟨oM,oM⟩,λe f=>⟨(C e f).1,λq=>(r.new e q).elim (C e f).2.1 λA=>by have:=F e f;omega,(C e f).2.2⟩⟩,
   r.keep.get g.ptr λq=>(z _ q).2 rfl,r.keep.get g.buf (O p S),g.pG.keep r.keep λe f=>O e (T e f),g.out.keep r.keep λe f=>(C e f).2.1,g.keep.new r.keep λe f=>.inr (z e f).1⟩
  refine Ok.mk ?_
  by_cases x:(H.add e.x).1=0
  ·exact .inl ⟨by rw[decide_eq_true x],e,f,K,x,I⟩
  ·refine .inr ⟨by rw[Xv x],λy Q=>?_,?_⟩
   ·rw[Qw,f]at Q
    rcases Q6.1 Q with Q|Q
    ·exact K y Q
    ·simp at Q;subst Q;exact x
   ·rcases H.gg e.x with⟨-,A⟩|⟨A,-⟩
    ·rw[A]at I;exact I
    ·rw[A]at x;exact absurd rfl x
 ·rintro _ o ⟨B,rfl,hv⟩
  rcases hv with⟨i,hj,rfl,e,E,g,h3,h4⟩|⟨rfl,E,g⟩
  ·exact Ok.mk (.inr ⟨i,e,hj,rfl,E,g,h3,h4⟩)
  ·rw[Qz oM]at E
   exact Ok.mk (.inl ⟨rfl,E,g⟩)
def GW(d7:ij w p M D most l){b3:Nat}(hs:cV w b3 f H)(g2:H.Cl)(k1:H.l.length<=19000000):
  Calls ZQ 167 #[ZX p,ZX b3] w (Ok λd9 w'=>∃r A E m,d9= .slice r A E/\aV qE.k_ 59 (λb=>aI r=some b) w' r A E m/\m.map (·.x)=(bI H l).1/\(∀b∈m,qE.In w' D b)/\(∀b,aI r=some b->w.heap.size<=b)/\
   ij w' p M D most (bI H l).2/\aj M w w'):=by
 obtain⟨W,a,n,c,L,h⟩:=d7;have g3:=h.dM p h.mp;have X:∀b,aI a=some b->b<w.heap.size:=λb d=>h.dM b (h.ma b d).1;have k2:L.length=l.length:=by rw[<-h.map,Q8]
 have h2:l.length<=256:=Xx W.2.le W.1;have hN:=hs.1.n;refine pS (PC.ok (mi hs) ?_);rintro _ w4 ⟨va,vn,vc,Fv,rfl,g5,k4,k3⟩;have d1:=g5.len dC;rw[H.b_]at d1;subst d1;refine⟨_,_,_,rfl,PC.ok (GX hN) ?_⟩;rintro _ B ⟨F,F2,rfl,d2,d3,k7⟩;have z4:=k4.size;have z7:=k7.size;refine⟨_,rfl,PA.mk λw9 k9 s9 g9=>PS.mk g9 sM λg6 g7 k5 g8=>?_⟩;have a1:ai B g6:=k9.new g7 λb d=>.inr (by have d:b=B.heap.size:=d;omega);have b4:=(k4.then k7).then a1;have Y:=d2.aF;refine PC.ok (sD (hs.af b4) oM) ?_;rintro _ Z ⟨ea,en,ec,G,rfl,b9,a6,hG⟩;have k6:=b9.len dC;have k8:=a1.size;have l0:=a6.size;have e6:Row fZ 96 Z G ea en H.l:=b9.row dC (by unfold aQ;omega);have h4:Z.heap[B.heap.size]? =some (.cells #[ZX F] 96 (0,0)):=a6.get g8 id;have d5:=b9.aF;refine⟨_,_,_,rfl,λR a2 w'=>∃(g:Nat) (S:Nat->Prop),a2=g/\g<=en/\R=en-g/\cV w' F S ((⟨H.n,[]⟩:aq).eI (H.l.take g))/\(∀b,S b->F2 b\/Z.heap.size<=b)/\aj F2 Z w',⟨_,0,F2,rfl,Qj _,rfl,d2.af (a1.then a6),λb d=>.inl d,aj.refl _⟩,?_⟩;rintro R _ _ a7 ⟨g,S,rfl,hj,rfl,a8,a9,T⟩;have l3:=T.size;have c0:=T.get h4 λI=>by have:=Y _ I;omega
 refine al.dec (λl4=>?_) (λl5=>?_)
 ·have N:H.l[g]? =some H.l[g]:=Qq oM
  generalize H.l[g]=O at N;have e7:=e6.keep T λb d I=>by have:=Y _ I;have:=hG b d;omega
  obtain⟨b,f0,es,ha,l6,l7,c1,xa,xn,xc,rfl,h6,f1⟩:=e7.el g O N;refine⟨b,f0,ha,oM,oM,br (es:=aE O xa xn xc) (k:=10) (bg _ _ _ _) rfl (λa2 ht=>by rw[Qx];exact c1 a2 ht) (PA.mk λl8 h7 l9 h8=>aD (bg O xa xn xc) h8 rfl λh9 i1 m1 i3=>?_)⟩;have P:ai a7 h9:=h7.new i1 λb d=>.inr (by have d:b=a7.heap.size:=d;omega);have c2:=aq.np (H.l.take g) ⟨H.n,[]⟩;rw[Qy]at c2;simp only[List.length_nil]at c2;refine⟨_,ae (P.get c0 id) rfl,aw (bg O xa xn xc) i3 (PC.ok (vH (a8.af P) (h6.af P) (λb d=>⟨by have:=d5 b d;have:=P.size;omega,λI=>?_⟩) f1 oM) ?_)⟩
  ·rcases a9 b I with k|k
   ·have:=Y _ k;have:=hG b d;omega
   ·have:=d5 b d;omega
  rintro _ i4 ⟨rfl,F3,i5,d8⟩;refine⟨_,rfl,_,oM,g+1,F3,an oM,oM,rfl,?_,λb d=>?_,?_⟩
  ·rw[Qw,N]
   show cV i4 F F3 (aq.eI _ (H.l.take g++[O]));rw[aq.nq];exact i5
  ·rcases d8.new b d with k|k
   ·exact a9 b k
   ·have:=P.size;exact .inr oM
  ·exact(T.af P).new d8.keep λb d=>a9 b d
 rw[Qz oM,g2.VI]at a8;have b5:ai w a7:=(b4.then a6).new T λb d=>.inr (by have:=d3 b d;omega);have c3:=h.keep b5 (λ_ _ h=>h) λ_ _ h=>h;have t:∀b,S b->w.heap.size<=b/\b≠B.heap.size:=λb d=>by
  rcases a9 b d with k|k
  ·have:=d3 b k;have:=Y b k;omega
  ·omega
 refine⟨p,0,rfl,_,_,_,ae c3.at' rfl,PC.ok (Pb (pr:=λe=>(H.get (aO e)).isSome) kR c3.pG oM λb w1 hk=>?_) ?_⟩
 ·refine Pc (a8.keep hk λb d e=>?_) (hk.get c0 λe=>?_)
  ·have:=X b e;have:=(t b d).1;omega
  ·have:=X _ e;omega
 rintro _ m2 ⟨m0,rfl,f5,e0⟩;have b0:¬aI a=some p:=λe=>(h.ma p e).2 rfl;refine⟨_,_,_,rfl,p,0,rfl,PS.mk (e0.get c3.at' b0) sM λe1 e2 m3 e3=>⟨p,0,rfl,_,_,_,ae e3 rfl,?_⟩⟩;obtain⟨u,z⟩:∃u,u=L.filter λb=>!(H.get (aO b.x)).isSome:=⟨_,rfl⟩
 have a3:aj (λb=>aI a=some b\/b=p) a7 e1:=(e0.mono λb _ d=>.inl d).then (e2.mono λb _ d=>.inr d);have VJ:∀b,aI a=some b\/b=p->b<w.heap.size:=λb d=>d.elim (X b) λe=>e▸g3;have e4:TA w p M most a c F B.heap.size H m0 u none 0 0 [] e1:=by
  refine⟨⟨S,a8.keep a3 λb d e=>by have:=VJ b e;have:=(t b d).1;omega,t,λb d=>by cases d⟩,a3.get c0 λe=>by have:=VJ _ e;omega,e3,?_,(aV.nil _).mono (λb d=>d.elim) λb d=>(by cases d),?_⟩
  ·rw[z];exact f5.keep e2 λb d e=>b0 (by have e:b=p:=e;rw[<-e];exact d)
  ·exact(ai.keep b5).then (a3.mono λb _ d=>d.elim (λe=>(h.ma b e).1) λe=>e▸h.mp)
 have b6:∀b∈u,b∈L:=λb d=>by rw[z]at d;exact(List.mem_filter.1 d).1
 have a4:u.map (·.x)=l.filter λe=>(H.get (aO e)).isNone:=by
  rw[z,<-h.map,List.filter_map]
  congr 1
  refine List.filter_congr λb d=>?_;show(!(H.get (aO b.x)).isSome)=(H.get (aO b.x)).isNone
  cases H.get (aO b.x)<;>rfl
 have b7:u.length<=L.length:=by rw[z];exact List.length_filter_le ..
 refine PC.ok (yW h e4 b6 oM oM) ?_;rintro i6 m4 b8;obtain⟨i0,i7⟩:∃v:Int,i6= QH v:=by
  rcases b8 with⟨o,-⟩|⟨g,b,-,o,-⟩
  ·exact⟨_,o⟩
  ·exact⟨_,o⟩
 subst i7;refine⟨_,rfl,λR r A E v w'=>∃(s:aq) (i m:List (Bx ah)) (C U:Nat),R=i.length/\(∀b∈i,b∈L)/\(∀b∈m,b∈L)/\(i.map (·.x)).Sublist l/\i.length<=U/\s.l.length+i.length<=H.l.length+L.length/\i.length<=L.length/\m.length+i.length<=L.length/\C=i.length/\
   cW (U+1) s (i.map (·.x)) (m.map (·.x))=bI H l/\
   ((v= -1/\(∀b∈i,(s.add b.x).1≠0)/\TA w p M most a c F B.heap.size s C i r A E m w')\/
    (∃g b,g<C/\v=(g:Int)/\i[g]? =some b/\(∀x∈i.take g,(s.add x.x).1≠0)/\(s.add b.x).1=0/\TA w p M most a c F B.heap.size (s.add b.x).2 C i r A E m w')),?_,?_⟩
 ·have i8:=e4.pG.len dC
  refine⟨_,H,u,[],m0,u.length,rfl,b6,sM,by rw[a4];exact List.filter_sublist,Q4 _,oM,b7,by simpa using b7,i8,?_,?_⟩
  ·rw[a4]
   show cW (u.length+1) H _ []=_;unfold bI;rw[<-a4];show _=cW ((u.map (·.x)).length+1) H _ [];rw[Q8]
  ·rcases b8 with⟨o,J,K⟩|⟨g,b,o,J,K⟩
   ·exact .inl ⟨by simpa using o,J,K⟩
   ·exact .inr ⟨g,b,o,by simpa using J,K⟩
 rintro R r A E v _ i9 ⟨s,i,m,C,U,rfl,a5,c5,e5,hk,m5,j9,k0,m6,c6,j0⟩;rcases j0 with⟨rfl,c4,j⟩|⟨g,b,hj,rfl,d,c4,f7,j⟩
 ·refine al.ff sM (Ok.mk ⟨r,A,E,m,rfl,j.out,?_,λb d=>(h.Pa b (c5 b d)).keep j.keep λb d=>(h.dD b d).2,λb d=>by obtain⟨F1,-,-,k⟩:=j.set;exact(k b d).1,⟨⟨W.1,?_⟩,a,C,c,i,j.buf,j.pG,?_,λb d=>(h.Pa b (a5 b d)).keep j.keep λb d=>(h.dD b d).2,λb d=>⟨by have:=(h.dD b d).1;have:=j.keep.size;omega,(h.dD b d).2⟩,h.mp,h.ma,λb d=>by have:=h.dM b d;have:=j.keep.size;omega⟩,j.keep⟩)
  all_goals
   have f8:bI H l=(m.map (·.x),i.map (·.x)):=by
    rw[<-c6];unfold cW;rw[tK λe he=>by obtain⟨b,d,rfl⟩:=Xk.1 he;exact c4 b d]
   rw[f8]
  exact W.2.sub e5
 ·have j1:g<i.length:=oM
  have m7:=j;obtain⟨F1,e8,e9,b1⟩:=j.set;have m8:=j.keep.size;have c2:=s.AU b.x;obtain⟨gb,go,es,ha,m9,n0,c1,rfl,-⟩:=(j.pG.row (bytes:=96) dC (by unfold aQ;omega)).el g b d;have e:=λv (hi:v<10)=>c1 v hi;refine al.dec (λ_=>⟨p,0,rfl,_,_,_,ae j.buf rfl,gb,go,ha,oM,oM,_,_,_,_,_,_,_,_,_,_,_,_,e 0 dC,e 1 dC,e 2 dC,e 3 dC,e 4 dC,e 5 dC,e 6 dC,e 7 dC,e 8 dC,e 9 dC,PA.mk λj2 f2 n1 j3=>?_⟩) (λhn=>oM);have n2:=j.out.len dC;refine fh (c:=qE.k_) (x:=b) (D:=λ_=>False) (j.out.af f2) xH j3 ⟨rfl,trivial⟩ (λb d=>d.elim) (by unfold aQ;omega) (by unfold maxLen;omega) λV b2 f3 Fo c9 j4 j5=>⟨_,_,_,rfl,p,0,rfl,?_⟩
  have f9:=c9.alone;have d0:∀b,aI V=some b->aI r=some b\/j2.heap.size<=b:=λb d=>(j5 b (c9.self b d)).imp id λh=>h.resolve_left id;have q:∀b,aI r=some b->w.heap.size<=b:=λb d=>(b1 b d).1;have Q:aj (λb=>aI r=some b) i9 f3:=(ai.keep f2).then j4;have f4:=Q.get j.buf λe=>by have:=q _ e;omega
  have g4:=j.pG.keep Q λb d e=>by have:=q _ e;have:=X b d;omega
  have n3:=Q.size;refine⟨_,_,_,ae f4 rfl,PC.ok (VH g4 hj oM) ?_⟩;rintro _ n4 ⟨rfl,h0,c7⟩;have n8:=c7.size;refine⟨_,_,_,rfl,p,0,rfl,PS.mk (c7.get f4 b0) sM λf6 g0 n9 g1=>⟨p,0,rfl,_,_,_,ae g1 rfl,?_⟩⟩;have o0:(i.eraseIdx g).length=i.length-1:=List.length_eraseIdx_of_lt j1;have a0:aj (λb=>aI a=some b\/b=p) f3 f6:=(c7.mono λb _ d=>.inl d).then (g0.mono λb _ d=>.inr d);have c8:∀b,w.heap.size<=b->¬(aI a=some b\/b=p):=λb d e=>by have:=VJ b e;omega
  have j6:TA w p M most a c F B.heap.size (s.add b.x).2 (C-1) (i.eraseIdx g) V (A+1) b2 (m++[b]) f6:=by
   refine⟨⟨F1,(e8.keep Q λb d e=>(b1 b e).2.1 d).keep a0 λb d=>c8 b (e9 b d).1,e9,λb d=>?_⟩,a0.get (Q.get j.ptr λe=>(b1 _ e).2.2 rfl) (c8 _ oM),g1,h0.keep g0 λb d e=>b0 (by have e:b=p:=e;rw[<-e];exact d),f9.keep a0 λb d=>c8 b ?_,?_⟩
   ·rcases d0 b d with k|k
    ·exact b1 b k
    ·have hd:=e8.aF
     have o1:=aC j.ptr;exact⟨oM,λI=>by have:=hd b I;omega,oM⟩
   ·rcases d0 b d with k|k
    ·exact q b k
    ·omega
   ·exact(j.keep.new Q λb d=>.inr (q b d)).then (a0.mono λb _ d=>d.elim (λe=>(h.ma b e).1) λe=>e▸h.mp)
  have d4:∀x∈i.eraseIdx g,x∈L:=λx y=>a5 x ((List.eraseIdx_sublist ..).subset y);refine PC.ok (yW h j6 d4 oM oM) ?_;rintro j7 o2 d6;obtain⟨i2,j8⟩:∃v:Int,j7= QH v:=by
   rcases d6 with⟨o,-⟩|⟨g,b,-,o,-⟩
   ·exact⟨_,o⟩
   ·exact⟨_,o⟩
  subst j8;have h1:∃k',U=k'+1:=⟨U-1,oM⟩
  obtain⟨k',rfl⟩:=h1;refine⟨_,rfl,(i.eraseIdx g).length,oM,(s.add b.x).2,i.eraseIdx g,m++[b],C-1,k',rfl,d4,?_,?_,oM,oM,oM,by simp;omega,oM,?_,?_⟩
  ·intro x y
   rcases Q6.1 y with y|y
   ·exact c5 x y
   ·simp at y;subst y;exact a5 x (QZ d)
  ·exact((List.eraseIdx_sublist ..).map _).trans e5
  ·rw[<-c6]
   conv=>rhs;unfold cW
   rw[tL (i:=g) (e:=b.x) (λO N=>by rw[<-List.map_take]at N;obtain⟨x,y,rfl⟩:=Xk.1 N;exact c4 x y) (by rw[Q9,d];rfl) f7];show _=cW (k'+1) (s.add b.x).2 ((i.map (·.x)).eraseIdx g) (m.map (·.x)++[b.x]);rw[map_eraseIdx,Q3];rfl
  ·rcases d6 with⟨o,J,K⟩|⟨g,b,o,J,K⟩
   ·exact .inl ⟨by simpa using o,J,K⟩
   ·exact .inr ⟨g,b,o,by simpa using J,K⟩
end
def Ch:fS:=⟨[],[(3,[]),(7,[(9,.slice none 0 0)]),(11,[(9,.slice none 0 0)])],[],[],[]⟩
variable{t:Ending->World->Prop}{C V b1 e m:Int}{c8:List dz}{a c:Nat}{c0 p:Option Addr}{h:Program}{j:Type}{g q:TypeId}{o u:Value->World->Prop}
def Ci{x y D z:Nat}(R:PA b (.cells #[.ii m,.ii C,.ii V,.slice p x y,.slice c0 D z] 67) λc=>(∃l:World->Prop,((rI c (ab_ b 0) λS=>al (S !=1) ((rI c (ab_ b 0) λT=>al (T !=2) (rt t ((.slice none 0 0)) c) (l c))) (l c)))/\∀(d8:Nat->Value) (n:World),l n->(∃o:Option Addr->Nat->Nat->World->Prop,((rS n (ab_ b (0+3)) λU W X=>PC_ 55 #[.pointer d,.slice U W X,.ii (if(if 32<b1 then 32 else b1)>1 then(if 32<b1 then 32 else b1)else 1)] n (kS_ λY A Z q=>al (decide ((A:Int)>0)) (PA q (.cells #[.ii 3,.ii 0,.ii 0,.slice none 0 0,.slice Y A Z] 67) λa3=>PR_ (ap_ 63 (.slice none 0 0) (.slice (some (ab_ q 0)) 1 1)) a3 (kS_ λa4 a5 a6 a7=>o a4 a5 a6 a7) (pV t)) (o none 0 0 q)) (pE t)))/\∀(f:Option Addr) (g:Nat) (h:Nat) (d9:Nat->Value) (G:World),o f g h G->PC_ 46 #[.pointer d] G (kS_ λr s u B=>(∃i:Option Addr->Nat->Nat->World->Prop,((rS B (ab_ b (0+3)) λa8 a9 b0=>PC_ 109 #[.slice a8 a9 b0,.slice r s u] B (kI_ λE a=>(rI a (ab_ b 0) λa0=>al (a0==1) (al (E==2) (PA a (.cells #[.ii 2,.ii 0,.ii 0,.slice r s u,.slice none 0 0] 67) λb2=>PR_ (ap_ 63 (.slice f g h) (.slice (some (ab_ a 0)) 1 1)) b2 (kS_ λb3 b4 b5 b6=>i b3 b4 b5 b6) (pV t)) (al (E==3) (PA a (.cells #[.ii 2,.ii 0,.ii 0,.slice r s u,.slice none 0 0] 67) λb7=>PR_ (ap_ 63 (.slice f g h) (.slice (some (ab_ a 0)) 1 1)) b7 (kS_ λb8 b9 a1 c1=>i b8 b9 a1 c1) (pV t)) (i f g h a))) (i f g h a))) (pE t)))/\∀(v:Option Addr) (k:Nat) (w:Nat) (e0:Nat->Value) (j:World),i v k w j->al ((k:Int)==0) ((rI j (ab_ b (0+1)) λc2=>PC_ 107 #[.pointer d,.ii e,.ii c2] j (λc3 F=>∃H I J K L M N O P,c3= .agg #[.ii H,.ii I,.ii J,.slice K L M,.slice N O P]/\PA F (.cells #[.ii H,.ii I,.ii J,.slice K L M,.slice N O P] 67) λc4=>PR_ (ap_ 63 (.slice v k w) (.slice (some (ab_ F 0)) 1 1)) c4 (kS_ λc5 c6 c7 Q=>(rI Q (ab_ b (0+1)) λc8=>PC_ 110 #[.ii e,.ii c8,.slice c5 c6 c7] Q (kS_ λc9 d0 d1 d2=>rt t ((.slice c9 d0 d1)) d2) (pE t))) (pV t)) (pE t))) ((rI j (ab_ b (0+1)) λd3=>PC_ 110 #[.ii e,.ii d3,.slice v k w] j (kS_ λd4 d5 d6 d7=>rt t ((.slice d4 d5 d6)) d7) (pE t))))) (pE t)))):Calls ZQ 54 #[.pointer d,.ii e,.agg #[.ii m,.ii C,.ii V,.slice p x y,.slice c0 D z],.ii b1] b t:=DC Ch Tryz.func54 rfl R
def LN:fS:=⟨[(2,[(10,QH 0)])],[],[],[],[]⟩
def LO(k:(∃h:Nat->Int->World->Prop,(∃g,h g 0 b)/\∀(g:Nat) (f:Int) (s:Nat->Value) (i:World),h g f i->al (decide (f<(a:Int))) ((ix_ d f a λl n=>PS i (ad l (n+Int.toNat f*5+1)) (.ii e) λo=>(ix_ d f a λp q=>PS o (ad p (q+Int.toNat f*5+2)) (.ii m) λr=>(∃j,j<g/\h j (IntKind.wrap .i64 (f+1)) r)))) (rt t ((.slice d a c)) i))):Calls ZQ 110 #[.ii e,.ii m,.slice d a c] b t:=DC LN Tryz.func110 rfl k
structure IC where
 m:dz
 va:Option Addr
 vn:Nat
 vc:Nat
 ea:Option Addr
 en:Nat
 ec:Nat
def UG:kM IC:=flat 5 (λa=>cD a.m a.va a.vn a.vc a.ea a.en a.ec) (λ_=>True) (λ_=>rfl) (λc d b=>by
 simp only[cD,Q2,List.not_mem_nil,or_false]at b;rcases b with rfl|rfl|rfl|rfl|rfl<;>rfl)
def IC.In(b:World)(D:Nat->Prop)(a:IC):Prop:=Row aP 8 b D a.va a.vn a.m.vec/\Row fZ 96 b D a.ea a.en a.m.events
def OJ:jP ZQ 63 67 UG.k 72:=⟨kR,kR,dC⟩
def bB(d:World)(h:List dz)(i:Value)(c:World):Prop:=
 ∃(b:Option Addr) (f g:Nat) (e:List IC) (D:Nat->Prop),i= .slice b f g/\aV UG 67 (λa=>aI b=some a) c b f g e/\e.map (·.m)=h/\(∀a∈e,a.In c D)/\(∀a,D a->d.heap.size<=a/\a<c.heap.size/\aI b≠some a)/\(∀a,aI b=some a->d.heap.size<=a)/\ai d c
section
variable {w w':World} {p:Nat} {F D:Nat->Prop} {S:aq} {a:Option Addr} {n c:Nat}
def IC.In.keep{a:IC}(b:a.In w D)(c:aj f w w')(d:∀a,D a->¬f a):a.In w' D:=⟨b.1.keep c d,b.2.keep c d⟩
def IC.In.mono{a:IC}(b:a.In w D)(c:∀a,D a->f a):a.In w f:=⟨b.1.mono c,b.2.mono c⟩
def eE{a:kM j}{bytes:Nat}(w:World)(D:Nat->Prop):Row a bytes w D none 0 []:=⟨rfl,sM,λc d b=>by simp at b⟩
def bB.nil(w:World):bB w [] (.slice none 0 0) w:=⟨none,0,0,[],λ_=>False,rfl,(aV.nil w).mono (λb a=>a.elim) (λb a=>(by cases a)),rfl,sM,λb a=>a.elim,λb a=>(by cases a),aj.refl _⟩
def bB.af{i:Value}(g:bB b c8 i w)(f:ai w w'):bB b c8 i w':=by
 obtain⟨a,n,c,j,D,k,l,m,o,h,p,q⟩:=g;exact⟨a,n,c,j,D,k,l.af f,m,λd e=>(o d e).keep f λ_ _ g=>g,λd e=>⟨(h d e).1,by have:=f.size;have:=(h d e).2.1;omega,(h d e).2.2⟩,p,q.then f⟩
def bB.push(x:bB b c8 (.slice a n c) w)(M:jP h g 67 UG.k 72){m:dz}{j k:Option Addr}{l p r s A:Nat}{N:Nat×Nat}{E:Nat->Prop}(O:(⟨m,j,l,p,k,r,s⟩:IC).In w E)(B:∀d,E d->b.heap.size<=d/\d<w.heap.size/\aI a≠some d)(P:w.heap[A]? =some (.cells (cD m j l p k r s).toArray 67 N))(V:c8.length<=1000)(y:∀f i w',bB b (c8++[m]) (.slice f (n+1) i) w'->aj (λd=>aI a=some d) w w'->o (.slice f (n+1) i) w'):
  aH h (Builtin.append_ #[g,g] q #[.slice a n c,.slice (ZZ A) 1 1]) w o u:=by
 obtain⟨W,X,Y,z,D,Q,R,C,S,F,H,I⟩:=x
 cases Q
 have Z:z.length=c8.length:=by rw[<-C,Q8]
 refine fh (c:=UG) (x:=⟨m,j,l,p,k,r,s⟩) (D:=λ_=>False) R M P ⟨rfl,trivial⟩ (λd e=>e.elim) (by unfold aQ;omega) (by unfold maxLen;omega) λf i w' F' t v T=>?_;have J:∀d,aI f=some d->aI a=some d\/w.heap.size<=d:=λd e=>(T d (t.self d e)).imp id λx=>x.resolve_left id;have a0:=v.size;have z7:=I.size;refine y f i w' ⟨f,n+1,i,z++[⟨m,j,l,p,k,r,s⟩],λd=>D d\/E d,rfl,(show aV UG 67 (λd=>aI f=some d) w' f (n+1) i (z++[⟨m,j,l,p,k,r,s⟩])from t.alone),by rw[Q3,C];rfl,λd e=>?_,λd e=>?_,λd e=>?_,I.new v λd e=>.inr (H d e)⟩ v
 ·rcases Q6.1 e with e|e
  ·exact((S d e).keep v λd e=>(F d e).2.2).mono λd e=>.inl e
  ·simp at e;subst e
   exact(O.keep v λd e=>(B d e).2.2).mono λd e=>.inr e
 ·have K:b.heap.size<=d/\d<w.heap.size/\aI a≠some d:=e.elim (F d) (B d)
  exact⟨K.1,oM,λU=>(J d U).elim K.2.2 oM⟩
 ·rcases J d e with L|L
  ·exact H d L
  ·omega
def OR(A:bB b c8 (.slice a n c) w)(P:c8.length<=1000):
  Calls ZQ 110 #[QH e,QH m,.slice a n c] w (Ok λB w'=>bB b (c8.map λp=>{p with ck:=e,qF:=m}) B w'):=by
 obtain⟨Q,R,S,f,D,C,t,y,E,q,z,F⟩:=A
 cases C
 have T:f.length=c8.length:=by rw[<-y,Q8]
 have U:=t.len dC;obtain⟨h,k⟩:∃h:IC->IC,h=λg=>{g with m:={g.m with ck:=e,qF:=m}}:=⟨_,rfl⟩
 refine LO ⟨λp i w'=>∃d:Nat,i=d/\d<=n/\p=n-d/\aV UG 67 (λg=>aI a=some g) w' a n c ((f.take d).map h++f.drop d)/\aj (λg=>aI a=some g) w w',⟨_,0,rfl,Qj _,rfl,by simpa using t,aj.refl _⟩,?_⟩;rintro p _ _ V ⟨d,rfl,W,rfl,u,r⟩;refine al.dec (λX=>?_) (λY=>?_)
 ·have s:f[d]? =some f[d]:=Qq oM
  have l:∃o,a=ZZ o:=by
   obtain⟨cs,D,H,-⟩:=t.body;rcases H.cases with⟨_,Z,_,_⟩|⟨o,I,rfl,_⟩
   ·omega
   ·exact⟨o,rfl⟩
  obtain⟨o,l⟩:=l;have v:((f.take d).map h++f.drop d)[d]? =some f[d]:=by
   rw[X8 (by simp;omega)];simp[Qy,X2 (show d<=f.length by omega)]
  generalize f[d]=i at s v;have J:d<((f.take d).map h++f.drop d).length:=(Qv.1 v).1;refine⟨o,0,l,oM,oM,?_⟩;rw[Qx];refine aV.set (x':={i with m:={i.m with ck:=e}}) (j:=1) u v dC rfl l λa3 K L a4=>⟨o,0,l,oM,oM,?_⟩
  refine aV.set (x:={i with m:={i.m with ck:=e}}) (x':=h i) (j:=2) K (by rw[List.getElem?_set_self J]) dC (by rw[k];rfl) l λa5 x M a6=>⟨_,?_,d+1,an oM,oM,rfl,?_,(r.then L).then M⟩
  ·omega
  ·rw[List.set_set]at x
   have N:((f.take d).map h++f.drop d).set d (h i)=(f.take (d+1)).map h++f.drop (d+1):=by
    have O:((f.take d).map h).length=d:=by simp;omega
    rw[Qw,s,Q3,XQ,List.set_append,if_neg oM,O,Nat.sub_self,X4 (show d<f.length by omega)];rfl
   rw[N]at x;exact x
 ·obtain rfl:d=n:=oM
  rw[Qz oM,List.drop_eq_nil_of_le oM,List.append_nil]at u;refine Ok.mk ⟨a,d,c,f.map h,D,rfl,u,?_,λg j=>?_,λg j=>⟨(q g j).1,by have:=r.size;have:=(q g j).2.1;omega,(q g j).2.2⟩,z,F.new r λg j=>.inr (z g j)⟩
  ·rw[<-y,List.map_map,List.map_map,k];rfl
  ·obtain⟨i,s,rfl⟩:=Xk.1 j
   have:=(E i s).keep r λg j=>(q g j).2.2;rw[k];exact this
end
end Go.Proofs.YtfchlbaidamodaaGreatDoor
