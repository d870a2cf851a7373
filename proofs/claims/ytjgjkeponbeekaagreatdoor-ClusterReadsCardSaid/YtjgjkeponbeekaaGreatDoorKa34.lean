import Derived.Test.YtjgjkeponbeekaaGreatDoorKa33
set_option linter.all false
set_option maxHeartbeats 4000000
set_option maxRecDepth 100000
namespace Go.Proofs.YtjgjkeponbeekaaGreatDoor
open Go.ar
variable{A e m:Int}{a0:List PanicEntry->World->Prop}{h5:World->World->Prop}
section
variable {w w' w0 w1 w2 wb:World} {p i k g:Nat} {F F1 F' G G' T D:Nat->Prop} {c:bP} {X:dS} {s:fG} {x:gA} {v:Value}
def Ej(w:World)(g:Nat)(F:Nat->Prop)(x:gA):Prop:=∃(b:Option Addr) (c d:Nat) (e:Option Addr) (f h:Nat) (i:Option Addr) (j k:Nat) (G:Nat->Prop),w.heap[g]? =some (.cells (fg x b c d e f h i j k).toArray 53 (0,0))/\Row ei 32 w G b c x.st.cells/\(∀a,G a->a<w.heap.size/\¬F a)/\¬F g
def Ej.gv(e:Ej w g F x)(b:bK F w F' w'):Ej w' g F' x:=by
 obtain⟨j,k,l,m,n,o,p,q,r,G,h,s,d,i⟩:=e;have t:=b.af.size;have u:=ax h;exact⟨j,k,l,m,n,o,p,q,r,G,b.af.get h i,s.af b.af λa c=>(d a c).2,λa c=>⟨by have:=(d a c).1;omega,λf=>(b.new a f).elim (d a c).2 λe=>by have:=(d a c).1;omega⟩,λf=>(b.new g f).elim i λe=>oM⟩
def Ej.get(a:Ej w g F x):∃cs:Array Value,w.heap[g]? =some (.cells cs 53 (0,0))/\cs[0]? =some (XH x.code)/\cs[1]? =some (XH x.id.1)/\cs[2]? =some (XH x.id.2):=by
 obtain⟨c,d,e,f,h,i,j,k,l,G,b,m,n,o⟩:=a;exact⟨_,b,rfl,rfl,rfl⟩
def tJ(B:bY w0 w p F c X)(H:fH k X)(I:k<=999)(J:s.Ok)(h:∀a e F',w.heap.size<=a.heap.size->bY w0 e p F' c (cE c X s).2->fH (k+1) (cE c X s).2->bK F w F' e->Ej e a.heap.size F' (cE c X s).1->h5 a e):
  PC XP 13 #[ZQ p,iN s] w (λv a=>pI (cJ XP 53) λx=>v=x/\PA a (.cells #[XH 0,XH 0,XH 0,XH 0,.slice none 0 0,.slice none 0 0,.slice none 0 0,.bool false] 53) λw2=>mg XP 53 (ZQ a.heap.size) x w2 λe=>h5 a e) a0:=by
 have O:=B.env.gr.size;refine PC.ok (zY B H I J) ?_;rintro _ a ⟨F',⟨i,j,l,m,n,o,q,r,t,G,rfl,K,P,Q,u⟩,g,y,C⟩;have E:=g.aB;have L:=C.af.size;refine bN (Lt _ i j l m n o q r t) ⟨rfl,PA.mk λw2 z R M=>az (gK _ i j l m n o q r t) M rfl λe A S N=>h a e F' L ?_ y ?_ ?_⟩
 ·exact(g.ah z).af A (λd f b=>by have b:d=a.heap.size:=b;have:=E d f;omega) λd b=>by have b:d=a.heap.size:=b;omega
 ·exact(C.ah z).last A λd b=>by have b:d=a.heap.size:=b;omega
 ·exact⟨i,j,l,m,n,o,q,r,t,G,N,(K.ah z).af A λd f b=>by have b:d=a.heap.size:=b;have:=(u d f).2.1;omega,λd f=>⟨by have:=(u d f).2.1;omega,(u d f).2.2⟩,λb=>by have:=E _ b;omega⟩
def ky(a:(decide (-1000000<=e)&&decide (e<=1000000)&&(decide (-1000000<=m)&&decide (m<=1000000))&&(decide (-1000000<=A)&&decide (A<=1000000)))=true):fG.Ok ⟨e,m,A,kU⟩:=by
 simp only[QK,decide_eq_true_eq]at a;exact⟨by show aH e;unfold aH;omega,by show aH m;unfold aH;omega,by show aH A;unfold aH;omega,i10 rfl,i10 rfl,i10 rfl,i10 rfl,i10 rfl,i10 rfl⟩
def Od{a arg:Int}:Calls XP 25 #[XH a,XH arg] w (Ok λv w'=>v=vO ⟨0,a,0,1,arg,-1,0⟩/\ai w w'):=
 Hs (PA.mk λw1 c h d=>az (xl ⟨0,a,0,1,arg,-1,0⟩) d rfl λw2 e i f=>au (xl ⟨0,a,0,1,arg,-1,0⟩) f (Ok.mk ⟨rfl,c.new e λg b=>.inr (by have b:g=w.heap.size:=b;omega)⟩))
set_option maxHeartbeats 2000000 in
def Hh(Y:eA w0)(Z:Laid w0)(h0:ai w0 w):Calls XP 8 #[] w (Ok λv w'=>v= .bool true/\ai w w'):=by
 obtain⟨X,a0,i,a1,a2,g,a3,s,a4,e0,e1,e2,e3,e4,e5,e6,e7,e8,q1,q2,q3,q4,q5,q6,q7,q8,q9,a6,a7,a8⟩:=Oc;refine AG (PC.ok IT ?_);rintro _ w2 ⟨ta,tn,tc,pa,pn,pc,G2,rfl,a9,b0,t⟩;refine bN (Vf (fD 2) ta tn tc pa pn pc) ⟨rfl,PC.ok (EH (c:=fD 2) Y Z (h0.then t) a9 (λi n=>(b0 i n).2) (i10 rfl) (i10 rfl) (i10 rfl)) ?_⟩;rintro v5 w5 u;unfold JA at u;rw[e0]at u;obtain⟨k5,⟨b1,-⟩|⟨-,p,F,rfl,A,hF,B⟩⟩:=u
 ·exact absurd rfl b1
 dsimp only at A B;generalize fD 2=c2 at*;have b2:=t.then k5;have b3:∀i,F i->w.heap.size<=i:=λi n=>by have:=hF i n;have:=t.size;omega
 refine⟨_,_,rfl,al.dB (λc=>absurd rfl c) (λ_=>e_ Tryz.underlying33 ⟨_,rfl,al.ff rfl (PC.ok Od ?_)⟩)⟩;rintro _ w7 ⟨rfl,C⟩;refine⟨_,_,_,_,_,_,_,rfl,?_⟩;have b4:=b2.then C;refine tJ (k:=0) (s:=⟨1,0,0,⟨0,0,0,1,3,-1,0⟩⟩) (A.ah C) B oM ⟨i10 rfl,i10 rfl,i10 rfl,i10 rfl,i10 rfl,i10 rfl,i10 rfl,i10 rfl,i10 rfl⟩ λwa w8 Fa za E H e d=>?_;rw[e1]at E H d;refine tJ (s:=⟨2,1,0,kU⟩) E H oM (ky rfl) λwb w9 Fb zb I J K f=>?_;rw[e2]at I J f;have d:=d.gv K;have e:=e.trans K;refine tJ (s:=⟨3,0,0,kU⟩) I J oM (ky rfl) λwd c8 Fd zd L M x b=>?_;rw[e3]at L M b;have d:=d.gv x;have f:=f.gv x;have e:=e.trans x;refine tJ (s:=⟨3,0,0,kU⟩) L M oM (ky rfl) λwf c9 Ff zf N O r a=>?_;rw[e4]at N O a;have d:=d.gv r;have f:=f.gv r;have b:=b.gv r;have e:=e.trans r;refine tJ (s:=⟨10,1,0,kU⟩) N O oM (ky rfl) λwg d0 Fg zg P Q o j=>?_;rw[e5]at P Q j;have d:=d.gv o;have f:=f.gv o;have b:=b.gv o;have a:=a.gv o;have e:=e.trans o;refine tJ (s:=⟨3,9,0,kU⟩) P Q oM (ky rfl) λwn d1 Fn zn R S m h=>?_;rw[e6]at R S h;have d:=d.gv m;have f:=f.gv m;have b:=b.gv m;have a:=a.gv m;have j:=j.gv m;have e:=e.trans m;refine tJ (s:=⟨2,1,1,kU⟩) R S oM (ky rfl) λws d2 Fs zs T U l is=>?_;rw[e7]at T U is;have d:=d.gv l;have f:=f.gv l;have b:=b.gv l;have a:=a.gv l;have j:=j.gv l;have h:=h.gv l;have e:=e.trans l;refine PC.ok (zY (s:=⟨6,0,0,kU⟩) T U oM (ky rfl)) ?_;rintro _ b5 ⟨Ft,⟨sa,sn,sc,ea,en,ec,ra,rn,rc,-,rfl,-⟩,y,b6,k⟩;rw[e8]at y b6;have d:=d.gv k;have f:=f.gv k;have b:=b.gv k;have a:=a.gv k;have j:=j.gv k;have h:=h.gv k;have is:=is.gv k;have e:=e.trans k;refine bN (Lt _ sa sn sc ea en ec ra rn rc) ⟨rfl,?_⟩;obtain⟨za,z,b7,b8,c1⟩:=d.get;obtain⟨zb,yb,c3,-⟩:=f.get;obtain⟨zd,yd,c4,-⟩:=b.get;obtain⟨zf,yf,c5,-⟩:=a.get;obtain⟨zn,yn,c6,-⟩:=h.get;obtain⟨zs,ys,c7,-⟩:=is.get;obtain⟨d3,d4,d5,d6,WT,d7,d8,d9,e9,Gg,V,W,-,-⟩:=j;have f2:=W.len;obtain⟨b9,o9,f3,f5,f6,rfl,f8,-,a5,-⟩:=mi (i:=0) W oM;have q:ai w b5:=b4.new e.af λi n=>.inr (b3 i n);refine⟨_,_,ae z b8,ae z c1,aG.mk FD ⟨_,rfl,al.tt (by rw[q1,q2];rfl) ⟨_,ae z b7,al.dA (λ_=>⟨_,ae yb c3,al.dA (λ_=>⟨_,ae yd c4,al.dA (λ_=>⟨_,ae yf c5,al.dA (λ_=>⟨_,_,_,ae V rfl,al.dA (λ_=>⟨_,_,_,ae V rfl,b9,o9,rfl,oM,oM,_,a5,al.dA (λ_=>⟨_,ae yn c6,al.dA (λ_=>⟨_,ae ys c7,al.dA (λ_=>?_) (λc=>absurd a6 c)⟩) (λc=>absurd q9 c)⟩) (λc=>absurd q8 c)⟩) (λc=>absurd oM c)⟩) (λc=>absurd q6 c)⟩) (λc=>absurd q5 c)⟩) (λc=>absurd q4 c)⟩) (λc=>absurd q3 c)⟩⟩⟩;refine PC.ok (RB y) ?_;rintro _ _ ⟨rfl,rfl⟩;refine⟨_,rfl,al.dA (λ_=>PC.ok (sN y) ?_) (λc=>absurd a7 c)⟩;rintro _ _ ⟨rfl,rfl⟩;refine⟨_,rfl,Ok.mk ⟨?_,q⟩⟩;rw[a8];rfl
end
def jQ(a:bP)(b:Option Addr)(tn c:Nat)(d:Option Addr)(e f:Nat)(g:Option Addr)(h i:Nat):List Value:=dU a b tn c d e f++[.slice g h i]
abbrev Lx(a:bP)(b:Option Addr)(tn c:Nat)(d:Option Addr)(e f:Nat)(g:Option Addr)(h i:Nat):Value:=.agg (jQ a b tn c d e f g h i).toArray
def TB(a:bP)(b:Option Addr)(tn c:Nat)(d:Option Addr)(e f:Nat)(g:Option Addr)(h i:Nat):gH XP 30 (jQ a b tn c d e f g h i)=true:=kR
def Hg:jo fG:=flat 10 mC fG.Ok (λ_=>rfl) (λb c a=>by simp[mC,gP]at a;rcases a with rfl|rfl|rfl|rfl|rfl|rfl|rfl|rfl|rfl|rfl<;>rfl)
variable{M:Value->Prop}
section
variable {w w' w0 w1 w2 wb:World} {p q i k g:Nat} {F F1 F' G G' T D E:Nat->Prop} {c:bP} {X Y:dS} {s:fG} {x:gA} {v:Value} {ta pa la:Option Addr} {tn tc pn pc ln lc:Nat} {l:List fG}
def JD(h:bb w D c.decl ta tn pa pn)(i:Row Hg 80 w E la ln l):
  Calls XP 7 #[Lx c ta tn tc pa pn pc la ln lc] w (Ok λv w'=>(∃b:Bool,v= .bool b/\(b=false->l.length<=300))/\ai w w'):=by
 have j:=i.len;refine EI (PA.mk λw1 f k d=>⟨_,_,_,_,_,_,ae d rfl,ae d rfl,PC.ok (JE (h.ah f)) ?_⟩);rintro _ w2 ⟨⟨b,rfl⟩,g⟩;have a:=f.then g;have e:=g.get d id;exact⟨_,rfl,al.mk (λ_=>Ok.mk ⟨⟨_,rfl,sM⟩,a⟩) (λ_=>⟨_,_,_,ae e rfl,al.dec (λ_=>Ok.mk ⟨⟨_,rfl,sM⟩,a⟩) (λm=>⟨_,ae e rfl,al.dec (λ_=>⟨_,ae e rfl,Ok.mk ⟨⟨_,rfl,λ_=>oM⟩,a⟩⟩) (λ_=>Ok.mk ⟨⟨_,rfl,λ_=>oM⟩,a⟩)⟩)⟩)⟩
def OX(c:eA w0)(d:Laid w0)(a:ai w0 w):PC XP 8 #[] w (λv w2=>∃b:Bool,v= .bool b/\Ok (λv w'=>v= .bool true/\ai w0 w') (.returned (.bool b)) w2) a0:=by
 refine PC.ok (Hh c d a) ?_;rintro _ w' ⟨rfl,k⟩;exact⟨_,rfl,Ok.mk ⟨rfl,a.then k⟩⟩
def Ly(b:w.heap[g]? =some (.cells (jQ c ta tn tc pa pn pc la ln lc).toArray 30 (0,0)))(d:M (vN c ta tn tc pa pn pc)):il XP 27 (ZQ g) w M:=
 Lu (es:=dU c ta tn tc pa pn pc) (He c ta tn tc pa pn pc) b (λa e=>by rcases a with _|_|_|_|_|_|_|_|_|_|a<;>first|rfl|exact absurd e (by simp[dU])) d
def OY(e:Row Hg 80 w E la ln l){j:Nat}(f:j<ln):∃a b s,la=some ⟨a,b,none⟩/\a<w.heap.size/\E a/\l[j]? =some s/\s.Ok/\∀c:Value->Prop,c (iN s)->il XP 40 (.pointer (some ⟨a,b+j*10,none⟩)) w c:=by
 obtain⟨a,b,s,q,g,h,i,k,m,rfl,n⟩:=e.yV (i:=j) f;exact⟨a,b,s,g,h,i,k,n,λc d=>bA (es:=mC s) (k:=10) (Jk s) rfl (λo p=>m o p) d⟩
def dO.af(f:dO w1 x v w)(c:ak T w w')(g:∀a,w1.heap.size<=a->a<w.heap.size->¬T a):dO w1 x v w':=by
 obtain⟨h,i,j,k,l,m,n,o,p,G,q,r,s,t,d⟩:=f;have e:∀a,G a->¬T a:=λa b=>g a (d a b).1 (d a b).2;exact⟨h,i,j,k,l,m,n,o,p,G,q,r.af c e,s.af c e,t.af c e,λa b=>⟨(d a b).1,Qk (d a b).2 c.size⟩⟩
def OZ(b:dO w1 x v w)(c:M v):pI (cJ XP 53) λa=>v=a/\M a:=by
 obtain⟨d,e,f,g,h,i,j,k,l,G,rfl,-⟩:=b;exact bN (Lt x d e f g h i j k l) ⟨rfl,c⟩
structure mG (w0 w:World) (p q:Nat) (F G:Nat->Prop) (c:bP) (X Y:dS):Prop where
 a:bY w0 w p F c X
 b:bY w0 w q G c Y
 ap:∀b,F b->¬G b
def mG.ah(a:mG w0 w p q F G c X Y)(b:ai w w'):mG w0 w' p q F G c X Y:=⟨a.a.ah b,a.b.ah b,a.ap⟩
def mG.SO(b:mG w0 w p q F G c X Y){e:dS}(i:bY w0 w' p F' c e)(f:bK F w F' w'):mG w0 w' p q F' G c e Y:=
 ⟨i,b.b.af f.af (λa d j=>b.ap a j d) λa d=>b.a.env.aB a d,λa d g=>(f.new a d).elim (λh=>b.ap a h g) λh=>by have:=b.b.aB a g;omega⟩
def mG.UN(d:mG w0 w p q F G c X Y){e:dS}(a:bY w0 w' q G' c e)(f:bK G w G' w'):mG w0 w' p q F G' c X e:=
 ⟨d.a.af f.af (λb a h=>d.ap b a h) λb a=>d.b.env.aB b a,a,λb a i=>(f.new b i).elim (λg=>d.ap b a g) λg=>by have:=d.a.aB b a;omega⟩
end
def pd:ft:=⟨[(12,[(13,XH 0)]),(21,[(15,XH 0)])],[],[18],[],[(18,⟨[0,0,2,0,12,16,33,0,0,256,0,1536,2048,4288,8256,16384,49152,65536,196608,65536,851968,1376256,2162688],[8388607,8388607,8388605,8388607,8388595,8388591,8388574,8388607,8388607,8388351,8388607,8387071,8386559,8384383,8380351,8372223,8355839,8323071,8191999,8323071,7798783,7012351,6225919],[0,0,1,0,0,1,2,0,0,1,0,0,1,2,2,0,0,0,2,0,2,0,0]⟩)]⟩
variable{s:Ending->World->Prop}{C a b5 c i k:Nat}{d d1 r:Option Addr}{b:World}{y:World->Prop}
def oH{K L D M N G O P v o w:Int}(Y:PA b (.cells #[.ii K,.ii L,.ii D,.ii M,.ii N,.ii G,.ii O,.ii P,.slice d a c,.slice r i k,.slice d1 C b5] 30) λQ=>(Ld 30 (ab_ b 0) Q λZ=>PC_ 7 #[Z] Q (kB λa3 x=>al a3 (PC_ 8 #[] x (kB λa4 a5=>rt s ((.bool a4)) a5) (pE s)) ((Ld 27 (ab_ b 0) x λa6=>PC_ 9 #[a6] x (λa7 R=>∃e y,a7= .tuple #[.pointer e,.ii y]/\(Ld 27 (ab_ b 0) R λa8=>PC_ 9 #[a8] R (λa9 z=>∃l S,a9= .tuple #[.pointer l,.ii S]/\al (y !=S) (rt s ((.bool false)) z) (al (y !=0) (PC_ 8 #[] z (kB λb0 b1=>rt s ((.bool b0)) b1) (pE s)) (PR_ (eq_ .eql 33 (.tmp 37) (.const (.pointer none)) (.pointer e) (.pointer none)) z (kB λb2 T=>al b2 (rt s ((.bool false)) T) (PR_ (eq_ .eql 33 (.tmp 40) (.const (.pointer none)) (.pointer l) (.pointer none)) T (kB λb3 j=>al b3 (rt s ((.bool false)) j) ((rI j (ab_ b 0) λb4=>al (decide (b4<1)) (rt s ((.bool false)) j) ((rI j (ab_ b 0) λa0=>al (decide (a0>64)) (rt s ((.bool false)) j) ((∃A:Nat->Int->World->Prop,(∃p,A p 0 j)/\∀(p:Nat) (f:Int) (e8:Nat->Value) (m:World),A p f m->(rS m (ab_ b (0+10)) λe9 b6 f0=>al (decide (f<(b6:Int))) ((rI m (ab_ b 0) λb7=>PC_ 15 #[.ii f,.ii b7] m (kI_ λB b8=>PC_ 13 #[.pointer e,.agg #[.ii 10,.ii B,.ii 0,.ii v,.ii o,.ii 0,.ii 0,.ii 0,.ii 0,.ii 0]] b8 (kX_ 53 λf1 b9=>PC_ 13 #[.pointer e,.agg #[.ii 9,.ii B,.ii w,.ii v,.ii o,.ii 0,.ii 0,.ii 0,.ii 0,.ii 0]] b9 (kX_ 53 λf2 c0=>PC_ 13 #[.pointer e,.agg #[.ii 11,.ii B,.ii w,.ii 0,.ii 0,.ii o,.ii 0,.ii 0,.ii 0,.ii 0]] c0 (kX_ 53 λf3 c1=>(∀g,bd c1 g->∃h:Nat->Prop,(rS g (ab_ b (0+10)) λc2 c3 f4=>(ix_ c2 f c3 λc4 c5=>(Ld 40 (ad c4 (c5+Int.toNat f*10)) g λc6=>(¬h b.heap.size/\(rS g (ab_ b (0+10)) λc7 c8 f5=>(ix_ c7 f c8 λU c9=>(¬h U/\(Ld 40 (ad U (c9+Int.toNat f*10)) g λd0=>PC_ 13 #[.pointer e,c6] g (kX_ 53 λa1 E=>(ak h g E/\PC_ 13 #[.pointer l,d0] E (kX_ 53 λd2 F=>(ak h E F/\PC_ 16 #[a1,d2] F (kB λd3 q=>(ak h F q/\al (!d3) (rt s ((.bool false)) q) (PC_ 12 #[.pointer e] q (kI_ λd4 H=>(ak h q H/\PC_ 12 #[.pointer l] H (kI_ λd5 I=>(ak h H I/\al (d4 !=d5) (rt s ((.bool false)) I) ((∃V,V<p/\A V (IntKind.wrap .i64 (f+1)) I)))) (pZ s))) (pZ s)))) (pZ s))) (pZ s))) (pZ s))))))))))) (pE s)) (pE s)) (pE s)) (pE s))) ((∃J:Nat->Int->World->Prop,(∃t,J t 0 m)/\∀(t:Nat) (n:Int) (f6:Nat->Value) (u:World),J t n u->(rI u (ab_ b 0) λd6=>al (decide (n<d6)) (PC_ 18 #[.pointer e,.ii n] u (kS_ λd7 d8 d9 e0=>PC_ 18 #[.pointer l,.ii n] e0 (kS_ λe1 e2 e3 e4=>PC_ 17 #[.slice d7 d8 d9,.slice e1 e2 e3] e4 (kB λe5 W=>al (!e5) (rt s ((.bool false)) W) ((∃X,X<t/\J X (IntKind.wrap .i64 (n+1)) W))) (pE s)) (pE s)) (pE s)) (PC_ 8 #[] u (kB λe6 e7=>rt s ((.bool e6)) e7) (pE s))))))))))))) (pV s))) (pV s)))) (pE s))) (pE s)))) (pE s))):Calls XP 4 #[.agg #[.ii K,.ii L,.ii D,.ii M,.ii N,.ii G,.ii O,.ii P,.slice d a c,.slice r i k,.slice d1 C b5],.ii v,.ii o,.ii w] b s:=DC pd Tryz.func4 rfl Y
section
variable {w w' w0 w1 w2 wb:World} {p q i k g:Nat} {F F1 F' G G' T D E:Nat->Prop} {c:bP} {X Y:dS} {s:fG} {x:gA} {v:Value} {ta pa la:Option Addr} {tn tc pn pc ln lc:Nat} {l:List fG}
def JF(b:mG w0 w p q F G c X Y)(f:fH k X)(g:k<=999)(h:s.Ok)(i:s.kind=9\/s.kind=10\/s.kind=11)(a:∀w' F',mG w0 w' p q F' G c X Y->bK F w F' w'->y w'):
  PC XP 13 #[ZQ p,iN s] w (λv w'=>pI (cJ XP 53) λx=>v=x/\y w') a0:=by
 refine PC.ok (zY b.a f g h) ?_;rintro v w' ⟨F',j,d,-,e⟩;rw[JG i]at d;exact OZ j.at' (a w' F' (b.SO d e) e)
set_option maxHeartbeats 2000000 in
def sO(r:eA w)(t:Laid w)(Z:bb w D c.decl ta tn pa pn)(hD:∀a,D a->a<w.heap.size)(hl:Row Hg 80 w E la ln l)(hE:∀a,E a->a<w.heap.size)(hs:aH c.bM)(b7:aH c.every)(b8:aH c.start)(ht:aH e)(b0:aH m)(b9:aH A):
  Calls XP 4 #[Lx c ta tn tc pa pn pc la ln lc,XH e,XH m,XH A] w (Ok λv w'=>v= .bool true/\ai w w'):=by
 have g9:=hl.len;refine oH (PA.mk λw1 k1 s1 g1=>au (TB c ta tn tc pa pn pc la ln lc) g1 (PC.ok (JD (Z.ah k1) (hl.ah k1)) ?_));rintro _ w3 ⟨⟨f0,rfl,e1⟩,N⟩;have u:=k1.then N;have c1:=N.get g1 id;refine⟨_,rfl,al.mk (λ_=>OX r t u) (λe2=>?_)⟩;have f1:=e1 e2;refine Ly c1 (PC.ok (EH r t u (Z.ah u) (λa b=>by have:=hD a b;have:=u.size;omega) hs b7 b8) ?_);rintro v5 w5 ⟨O,h5⟩;have y:=u.then O;have c2:=O.get c1 id;have f:∀{κ:Value->World->Prop} {ε:List PanicEntry->World->Prop},(∀v w',JA w w5 c v w'->κ v w')->il XP 27 (ZQ w.heap.size) w5 λx=>PC XP 9 #[x] w5 κ ε:=λ{κ ε} d=>Ly c2 (PC.ok (EH r t y (Z.ah y) (λa b=>by have:=hD a b;have:=y.size;omega) hs b7 b8) d);rcases h5 with⟨c3,rfl⟩|⟨hz,p,F,rfl,hA,hF,c4⟩
 ·refine⟨_,_,rfl,f ?_⟩
  rintro v7 P ⟨n,⟨-,rfl⟩|⟨d,-⟩⟩
  ·exact⟨_,_,rfl,al.dB (λd=>absurd rfl d) (λ_=>al.dB (λ_=>OX r t (y.then n)) (λd=>absurd d c3))⟩
  ·exact absurd d c3
 refine⟨_,_,rfl,f ?_⟩;rintro v7 P ⟨n,⟨d,-⟩|⟨-,q,G,rfl,hB,hG,-⟩⟩
 ·exact absurd hz d
 have Q:=y.then n;have R:=n.get c2 id;obtain⟨-,h0,h3,-⟩:=hA.len;have e4:=hA.aB;have z1:w.heap.size<w1.heap.size:=oM
 have z3:=N.size;have z5:=O.size;refine⟨_,_,rfl,al.dB (λd=>absurd rfl d) (λ_=>al.dB (λd=>absurd rfl d) (λ_=>e_ Tryz.underlying33 ⟨_,rfl,al.ff rfl (e_ Tryz.underlying33 ⟨_,rfl,al.ff rfl ⟨_,ae R rfl,al.dec (λd=>oM) (λ_=>⟨_,ae R rfl,al.dec (λd=>oM) (λ_=>?_)⟩)⟩⟩)⟩))⟩;have c5:mG w P p q F G c (zZ c).2 (zZ c).2:=⟨hA.ah n,hB,λa hf hg=>by have:=e4 a hf;have:=hG a hg;omega⟩
 generalize(zZ c).2=X0 at c5 c4;refine⟨λz a0 w'=>∃(j:Nat) (S G2:Nat->Prop) (X:dS),a0=j/\j<=ln/\z=ln-j/\mG w w' p q S G2 c X X/\fH j X/\ak (λa=>w1.heap.size<=a) P w'/\(∀a,S a->w1.heap.size<=a)/\∀a,G2 a->w1.heap.size<=a,
  ⟨_,0,F,G,X0,rfl,Qj _,rfl,c5,c4,ak.refl _,λa b=>by have:=hF a b;omega,λa b=>by have:=hG a b;omega⟩,?_⟩
 rintro z _ _ w8 ⟨j,S,G2,X,rfl,hj,rfl,c6,o,B,c7,b1⟩;have z7:=Q.size;have h4:=((N.then O).then n).size;have h6:=B.size;have c8:ai w w8:=Q.new B λa b=>.inr (by have b:w1.heap.size<=a:=b;omega);have b2:=B.get R oM;refine⟨_,_,_,ae b2 rfl,al.dec (λe5=>?_) (λe6=>?_)⟩
 ·refine⟨_,ae b2 rfl,PC.ok (O_ (by unfold aH;omega)) ?_⟩
  rintro _ _ ⟨rfl,rfl⟩;have hp:=z_ (k:=(j:Int)) (n:=c.aD) oM;generalize pick (j:Int) c.aD=T at hp;have b4:aH T:=by unfold aH;omega
  refine⟨_,rfl,JF (s:=⟨10,T,0,⟨e,m,0,0,0,0,0⟩⟩) c6 o oM ⟨i10 rfl,b4,i10 rfl,ht,b0,i10 rfl,i10 rfl,i10 rfl,i10 rfl⟩ (.inr (.inl rfl)) λw9 F9 C v9=>?_⟩;refine JF (s:=⟨9,T,A,⟨e,m,0,0,0,0,0⟩⟩) C o oM ⟨i10 rfl,b4,b9,ht,b0,i10 rfl,i10 rfl,i10 rfl,i10 rfl⟩ (.inl rfl) λe7 e8 c9 e9=>?_;refine JF (s:=⟨11,T,A,⟨0,0,m,0,0,0,0⟩⟩) c9 o oM ⟨i10 rfl,b4,b9,i10 rfl,i10 rfl,b0,i10 rfl,i10 rfl,i10 rfl⟩ (.inr (.inr rfl)) λd0 b5 d1 f2=>?_;intro H f3;have U:ai d0 H:=f3.af;have a6:bK S w8 b5 H:=((v9.trans e9).trans f2).ah U;have V:∀a,b5 a->w1.heap.size<=a:=λa b=>(a6.new a b).elim (c7 a) λd=>by have:=c8.size;have:=B.size;omega
  have W:ak (λa=>w1.heap.size<=a) P H:=B.then (a6.af.mono λa _ b=>c7 a b);have a1:=d1.ah U;have a7:=W.get R oM;have kE:ak (λa=>w1.heap.size<=a) w H:=(ai.af Q).then W;obtain⟨a,a5,s,I,c0,a2,d2,i,J⟩:=OY (hl.af kE λa b d=>by have:=hE a b;omega) (j:=j) oM;have g3:=hE a a2;have n0:¬w1.heap.size<=w.heap.size:=oM
  have n1:¬w1.heap.size<=a:=oM
  refine⟨λa=>w1.heap.size<=a,_,_,_,ae a7 rfl,a,a5,I,oM,oM,?_⟩;rw[Qx];refine J _ ⟨n0,_,_,_,ae a7 rfl,a,a5,I,oM,oM,n1,?_⟩;refine J _ (PC.ok (zY a1.a o oM i) ?_);rintro va h7 ⟨f5,a8,d3,d4,K⟩;have a9:=a1.SO d3 K;refine OZ a8.at' ⟨K.af.mono λa _ b=>V a b,PC.ok (zY a9.b o oM i) ?_⟩;rintro vb h8 ⟨f6,b3,d5,g4,L⟩;have d6:=a9.UN d5 L;have f8:=a1.b.aB;have d7:=a8.at'.af L.af λa h h2 hg=>by have:=f8 a hg;omega
  refine OZ b3.at' ⟨L.af.mono λa _ b=>b1 a b,PC.ok (Aa d7 b3.at') ?_⟩;rintro _ h9 ⟨rfl,b6⟩;have a3:=d6.ah b6;refine⟨_,rfl,ai.af b6,al.ff rfl (PC.ok (sN a3.a) ?_)⟩;rintro _ _ ⟨rfl,rfl⟩;refine⟨_,rfl,ak.refl _,PC.ok (sN a3.b) ?_⟩;rintro _ _ ⟨rfl,rfl⟩;have g5:=W.size;have g6:=K.af.size;have i0:=Q.size;refine⟨_,rfl,ak.refl _,al.dB (λd=>absurd rfl d) (λ_=>⟨_,oM,j+1,f5,f6,_,aq oM,oM,rfl,a3,d4,((W.then (K.af.mono λa _ b=>V a b)).then (L.af.mono λa _ b=>b1 a b)).then (ai.af b6),λa b=>(K.new a b).elim (V a) λd=>oM,λa b=>(L.new a b).elim (b1 a) λd=>oM⟩)⟩
 ·refine⟨λz a0 w'=>∃j:Nat,a0=j/\j<=c.aD.toNat/\z=c.aD.toNat-j/\ai w8 w',⟨_,0,rfl,Qj _,rfl,ak.refl _⟩,?_⟩
  rintro z _ _ w9 ⟨M,rfl,he,rfl,Y⟩;have g0:=Y.get b2 id;have C:=c6.ah Y;obtain⟨g7,-⟩:=C.a.len;have a4:∀k∈X.aD,k.S.l.length<=17000000:=λk g=>by have:=(o.aD k g).evs;omega
  refine⟨_,ae g0 rfl,al.dec (λe5=>?_) (λe6=>OX r t (c8.then Y))⟩;have g:eD X.aD (M:Int)=some X.aD[M]:=by rw[Da];exact Qq oM
  have g2:=a4 X.aD[M] (XY oM);generalize X.aD[M]=k at g g2;refine PC.ok (zW C.a λk g=>by have:=a4 k g;omega) ?_;rintro _ e7 (⟨d,-⟩|⟨R1,h,i1,i2,i3,e8,rfl,d9,d8,g8⟩)
  ·rw[g]at d;cases d
  rw[g]at h;injection h with h;subst h;refine⟨_,_,_,rfl,PC.ok (zW (C.ah d8).b λk g=>by have:=a4 k g;omega) ?_⟩;rintro _ d0 (⟨d,-⟩|⟨R1,h,i4,i5,i6,b5,rfl,e3,e0,V⟩)
  ·rw[g]at d;cases d
  rw[g]at h;injection h with h;subst h;refine⟨_,_,_,rfl,PC.ok (Ab ((d9.ah e0).row dC (by unfold aK;omega)) (e3.row dC (by unfold aK;omega))) ?_⟩;rintro _ H ⟨rfl,U⟩;exact⟨_,rfl,al.ff sM ⟨_,oM,M+1,aq oM,oM,rfl,((Y.then d8).then e0).then U⟩⟩
end
end Go.Proofs.YtjgjkeponbeekaaGreatDoor
namespace Go.ar
open Go Go.WideShapes
variable{I:Bool}{f9:List MemPlace}{a:Nat}{h:Program}{J j:Type}{g:TypeId}{v:Value}{b:World}
def Pb{c:TypeId×Value->j}{k:Reach}{f:DataW j}{i:jo J}{l:Array Field}(m:h.underlying g=some (.struct l))(n:Reads h i g)(o:Value.okWide h b k a g v)(p:DataW.Trod c h b 0 (λ_=>true) I g v f f9)(q:ll h g f):∃e cs,v= .agg cs/\i.rep b (In b) e cs.toList:=by
 obtain⟨cs,rfl,-⟩:=okWide_struct m o;obtain⟨d,r⟩:=p;obtain⟨e,s⟩:=n j c b I d cs.toList _ r q;exact⟨e,cs,rfl,s⟩
end Go.ar
namespace Go.Proofs.YtjgjkeponbeekaaGreatDoor
open Go.ar
structure Vc (c:bP):Prop where
 aD:aH c.aD
 uM:aH c.uM
 bM:aH c.bM
 chunk:aH c.chunk
 buffer:aH c.buffer
 cP:aH c.cP
 every:aH c.every
 start:aH c.start
def Vd:jo aM where
 k:=2
 rep:=λj D k cs=>∃a tn d b c e,cs=[.slice a tn d,.slice b c e]/\bb j D k a tn b c
 af:=λ⟨a,tn,d,b,c,e,f,g⟩ l h=>⟨a,tn,d,b,c,e,f,g.af l h⟩
 mono:=λ⟨a,tn,d,b,c,e,f,g⟩ h=>⟨a,tn,d,b,c,e,f,g.mono h⟩
 len:=λ⟨a,tn,d,b,c,e,f,_⟩=>by rw[f];rfl
 one:=λ⟨a,tn,d,b,c,e,f,_⟩ m i=>by rw[f]at i;simp at i;rcases i with rfl|rfl<;>rfl
def WD:jo bP where
 k:=10
 rep:=λl D g cs=>∃a tn d b c e,cs=dU g a tn d b c e/\bb l D g.decl a tn b c/\Vc g
 af:=λ⟨a,tn,d,b,c,e,f,h,i⟩ m j=>⟨a,tn,d,b,c,e,f,h.af m j,i⟩
 mono:=λ⟨a,tn,d,b,c,e,f,h,i⟩ j=>⟨a,tn,d,b,c,e,f,h.mono j,i⟩
 len:=λ⟨a,tn,d,b,c,e,f,_,_⟩=>by rw[f];rfl
 one:=λ⟨a,tn,d,b,c,e,f,_,_⟩ n k=>by rw[f]at k;simp[dU]at k;rcases k with rfl|rfl|rfl|rfl|rfl|rfl|rfl|rfl|rfl|rfl<;>rfl
def WE:jo lF:=flat 7 gP lF.Ok (λ_=>rfl) (λb c a=>by simp[gP]at a;rcases a with rfl|rfl|rfl|rfl|rfl|rfl|rfl<;>rfl)
def Kq:Reads XP ix 188:=λz g A B b cs C h E=>by
 obtain⟨i,F,_,rfl,j,k,a⟩:=DataW.trod_struct (Tryz.underlying188) h;have l:Tryz.prog.cellsOf 188=4:=kR
 have m:cs.length=4:=j.trans l;have n:Tryz.prog.cellsOf 3=1:=kR
 match cs,m with
 |[H,I,J,K],_=>
 match i,k with
 |[L,M,N,O],_=>
  have c:=a 0 _ rfl;have d:=a 1 _ rfl;have e:=a 2 _ rfl;have f:=a 3 _ rfl;simp only[n,List.drop_zero,List.drop_succ_cons,List.take_succ_cons,List.take_zero,List.take_nil,List.getElem?_cons_zero,List.getElem?_cons_succ]at c d e f;obtain⟨o,p,-,q⟩:=DataW.trod_int Tryz.underlying3 c;obtain⟨z1,r,-,s⟩:=DataW.trod_int Tryz.underlying3 d;obtain⟨t,u,-,v⟩:=DataW.trod_int Tryz.underlying3 e;obtain⟨w,x,-,y⟩:=DataW.trod_int Tryz.underlying3 f
  cases p;cases r;cases u;cases x
  exact⟨⟨o,z1,t,w⟩,rfl,aX q,aX s,aX v,aX y⟩
def Nc:Reads XP rk 121:=λL g M N b cs O h i=>by
 obtain⟨j,P,_,rfl,k,l,a⟩:=DataW.trod_struct (Tryz.underlying121) h;have m:Tryz.prog.cellsOf 121=4:=kR
 have n:cs.length=4:=k.trans m;have o:Tryz.prog.cellsOf 3=1:=kR
 have p:Tryz.prog.cellsOf 4=1:=kR
 have q:Tryz.prog.cellsOf 119=1:=kR
 match cs,n with
 |[Q,R,S,T],_=>
 match j,l with
 |[U,V,W,r],_=>
  have c:=a 0 _ rfl;have d:=a 1 _ rfl;have e:=a 2 _ rfl;have f:=a 3 _ rfl;simp only[o,p,q,List.drop_zero,List.drop_succ_cons,List.take_succ_cons,List.take_zero,List.take_nil,List.getElem?_cons_zero,List.getElem?_cons_succ]at c d e f;obtain⟨s,t,-,u⟩:=DataW.trod_int Tryz.underlying3 c;obtain⟨z1,v,-,w⟩:=DataW.trod_int Tryz.underlying3 d;obtain⟨x,y,-⟩:=DataW.trod_bool Tryz.underlying4 e;have z:ll XP 119 r.1:=by
   intro A B;refine i A ?_;have C:Tryz.prog.underlying 121=_:=Tryz.underlying121;simp only[DataW.weights,C,QY,List.map_nil,DataW.weightsEach,Q6];right;right;right;left;exact B
  obtain⟨E,F,H,I,J,-,-,K⟩:=open_row (bytes:=32) Tryz.underlying119 kR dC kR (Kq) f z
  cases t;cases v;cases y;cases J
  exact⟨⟨s,z1,x,I⟩,E,F,H,rfl,K,aX u,aX w⟩
def Nd:Reads XP mj 118:=λx c y z a cs A d e=>by
 obtain⟨f,B,_,rfl,g,h,i⟩:=DataW.trod_struct (Tryz.underlying118) d;have j:Tryz.prog.cellsOf 118=1:=kR
 have k:cs.length=1:=g.trans j;have l:Tryz.prog.cellsOf 116=1:=kR
 match cs,k with
 |[C],_=>
 match f,h with
 |[m],_=>
  have b:=i 0 _ rfl;simp only[l,List.drop_zero,List.drop_succ_cons,List.take_succ_cons,List.take_zero,List.take_nil,List.getElem?_cons_zero,List.getElem?_cons_succ]at b;have n:ll XP 116 m.1:=by
   intro o p;refine e o ?_;have q:Tryz.prog.underlying 118=_:=Tryz.underlying118;simp only[DataW.weights,q,QY,List.map_nil,DataW.weightsEach,Q6];left;exact p
  obtain⟨r,s,t,u,v,-,-,w⟩:=open_row (bytes:=48) Tryz.underlying116 kR dC kR (Nc) b n
  cases v
  exact⟨u,r,s,t,rfl,w⟩
def Kr:Reads XP AW 138:=λE h F H b cs I i J=>by
 obtain⟨j,K,_,rfl,k,l,a⟩:=DataW.trod_struct (Tryz.underlying138) i;have m:Tryz.prog.cellsOf 138=5:=kR
 have n:cs.length=5:=k.trans m;have o:Tryz.prog.cellsOf 3=1:=kR
 match cs,n with
 |[L,M,N,O,P],_=>
 match j,l with
 |[Q,R,S,T,U],_=>
  have c:=a 0 _ rfl;have d:=a 1 _ rfl;have e:=a 2 _ rfl;have f:=a 3 _ rfl;have g:=a 4 _ rfl;simp only[o,List.drop_zero,List.drop_succ_cons,List.take_succ_cons,List.take_zero,List.take_nil,List.getElem?_cons_zero,List.getElem?_cons_succ]at c d e f g;obtain⟨p,q,-,r⟩:=DataW.trod_int Tryz.underlying3 c;obtain⟨z1,s,-,t⟩:=DataW.trod_int Tryz.underlying3 d;obtain⟨u,v,-,w⟩:=DataW.trod_int Tryz.underlying3 e;obtain⟨x,y,-,z⟩:=DataW.trod_int Tryz.underlying3 f;obtain⟨A,B,-,C⟩:=DataW.trod_int Tryz.underlying3 g
  cases q;cases s;cases v;cases y;cases B
  exact⟨⟨p,z1,u,x,A⟩,rfl,aX r,aX t,aX w,aX z,aX C⟩
def Ks:Reads XP Vd 25:=λI i J K d cs L j e=>by
 obtain⟨k,M,_,rfl,l,m,f⟩:=DataW.trod_struct (Tryz.underlying25) j;have n:Tryz.prog.cellsOf 25=2:=kR
 have o:cs.length=2:=l.trans n;have p:Tryz.prog.cellsOf 22=1:=kR
 have q:Tryz.prog.cellsOf 23=1:=kR
 match cs,o with
 |[N,O],_=>
 match k,m with
 |[r,s],_=>
  have g:=f 0 _ rfl;have h:=f 1 _ rfl;simp only[p,q,List.drop_zero,List.drop_succ_cons,List.take_succ_cons,List.take_zero,List.take_nil,List.getElem?_cons_zero,List.getElem?_cons_succ]at g h;have t:ll XP 22 r.1:=by
   intro a b;refine e a ?_;have c:Tryz.prog.underlying 25=_:=Tryz.underlying25;simp only[DataW.weights,c,QY,List.map_nil,DataW.weightsEach,Q6];left;exact b
  obtain⟨u,v,w,x,y,-,-,z⟩:=open_row (bytes:=24) Tryz.underlying22 kR dC kR (Nd) g t;have A:ll XP 23 s.1:=by
   intro a b;refine e a ?_;have c:Tryz.prog.underlying 25=_:=Tryz.underlying25;simp only[DataW.weights,c,QY,List.map_nil,DataW.weightsEach,Q6];right;left;exact b
  obtain⟨B,C,E,z1,F,-,-,H⟩:=open_row (bytes:=40) Tryz.underlying23 kR dC kR (Kr) h A
  cases y;cases F
  exact⟨⟨x,z1⟩,u,v,w,B,C,E,rfl,⟨z,H⟩⟩
def Nf:Reads XP WD 27:=λm b n o c cs a0 p q=>by
 obtain⟨r,n2,_,rfl,s,t,a⟩:=DataW.trod_struct (Tryz.underlying27) p;have u:Tryz.prog.cellsOf 27=10:=kR
 have v:cs.length=10:=s.trans u;have w:Tryz.prog.cellsOf 3=1:=kR
 have x:Tryz.prog.cellsOf 25=2:=kR
 match cs,v with
 |[v0,v1,v2,v3,v4,v5,v6,v7,v8,v9],_=>
 match r,t with
 |[y0,y1,y2,y3,y4,y5,y6,y7,y],_=>
  have d:=a 0 _ rfl;have e:=a 1 _ rfl;have f:=a 2 _ rfl;have g:=a 3 _ rfl;have h:=a 4 _ rfl;have i:=a 5 _ rfl;have j:=a 6 _ rfl;have k:=a 7 _ rfl;have l:=a 8 _ rfl;simp only[w,x,List.drop_zero,List.drop_succ_cons,List.take_succ_cons,List.take_zero,List.take_nil,List.getElem?_cons_zero,List.getElem?_cons_succ]at d e f g h i j k l;obtain⟨z,A,-,B⟩:=DataW.trod_int Tryz.underlying3 d;obtain⟨z1,C,-,E⟩:=DataW.trod_int Tryz.underlying3 e;obtain⟨F,H,-,I⟩:=DataW.trod_int Tryz.underlying3 f;obtain⟨J,K,-,L⟩:=DataW.trod_int Tryz.underlying3 g;obtain⟨M,N,-,O⟩:=DataW.trod_int Tryz.underlying3 h;obtain⟨P,Q,-,R⟩:=DataW.trod_int Tryz.underlying3 i;obtain⟨S,T,-,U⟩:=DataW.trod_int Tryz.underlying3 j;obtain⟨V,W,-,X⟩:=DataW.trod_int Tryz.underlying3 k;have Y:ll XP 25 y.1:=by
   intro Z hq;refine q Z ?_;have hu:Tryz.prog.underlying 27=_:=Tryz.underlying27;simp only[DataW.weights,hu,QY,List.map_nil,DataW.weightsEach,Q6];right;right;right;right;right;right;right;right;left;exact hq
  obtain⟨z8,r8⟩:=Ks m b n o _ _ _ l Y
  cases A;cases C;cases H;cases K;cases N;cases Q;cases T;cases W
  obtain⟨ta,tn,tc,pa,pn,pc,he,hd⟩:=r8
  cases he
  exact⟨⟨z,z1,F,J,M,P,S,V,z8⟩,ta,tn,tc,pa,pn,pc,rfl,hd,aX B,aX E,aX I,aX L,aX O,aX R,aX U,aX X⟩
def Ng:Reads XP WE 38:=λM j N O b cs P k Q=>by
 obtain⟨l,R,_,rfl,m,n,a⟩:=DataW.trod_struct (Tryz.underlying38) k;have o:Tryz.prog.cellsOf 38=7:=kR
 have p:cs.length=7:=m.trans o;have q:Tryz.prog.cellsOf 3=1:=kR
 match cs,p with
 |[S,T,U,V,W,X,Y],_=>
 match l,n with
 |[Z,y1,y2,y3,y4,y5,y6],_=>
  have c:=a 0 _ rfl;have d:=a 1 _ rfl;have e:=a 2 _ rfl;have f:=a 3 _ rfl;have g:=a 4 _ rfl;have h:=a 5 _ rfl;have i:=a 6 _ rfl;simp only[q,List.drop_zero,List.drop_succ_cons,List.take_succ_cons,List.take_zero,List.take_nil,List.getElem?_cons_zero,List.getElem?_cons_succ]at c d e f g h i;obtain⟨r,s,-,t⟩:=DataW.trod_int Tryz.underlying3 c;obtain⟨z1,u,-,v⟩:=DataW.trod_int Tryz.underlying3 d;obtain⟨w,x,-,y⟩:=DataW.trod_int Tryz.underlying3 e;obtain⟨z,A,-,B⟩:=DataW.trod_int Tryz.underlying3 f;obtain⟨C,E,-,F⟩:=DataW.trod_int Tryz.underlying3 g;obtain⟨H,I,-,w5⟩:=DataW.trod_int Tryz.underlying3 h;obtain⟨J,K,-,L⟩:=DataW.trod_int Tryz.underlying3 i
  cases s;cases u;cases x;cases A;cases E;cases I;cases K
  exact⟨⟨r,z1,w,z,C,H,J⟩,rfl,aX t,aX v,aX y,aX B,aX F,aX L⟩
end Go.Proofs.YtjgjkeponbeekaaGreatDoor
namespace Go.Proofs.YtjgjkeponbeekaaGreatDoor
open Go.ar
def Ve:jo (bP×List fG) where
 k:=11
 rep:=λp D k cs=>∃a tn f b c g d e h,cs=jQ k.1 a tn f b c g d e h/\bb p D k.1.decl a tn b c/\Vc k.1/\Row Hg 80 p D d e k.2
 af:=λ⟨a,tn,f,b,c,g,d,e,h,i,l,m,n⟩ q j=>⟨a,tn,f,b,c,g,d,e,h,i,l.af q j,m,n.af q j⟩
 mono:=λ⟨a,tn,f,b,c,g,d,e,h,i,l,m,n⟩ j=>⟨a,tn,f,b,c,g,d,e,h,i,l.mono j,m,n.mono j⟩
 len:=λ⟨a,tn,f,b,c,g,d,e,h,i,_⟩=>by rw[i];rfl
 one:=λ⟨a,tn,f,b,c,g,d,e,h,i,_⟩ r o=>by rw[i]at o;simp[jQ,dU]at o;rcases o with rfl|rfl|rfl|rfl|rfl|rfl|rfl|rfl|rfl|rfl|rfl<;>rfl
def Kt:Reads XP Hg 40:=λi b j k c cs M l m=>by
 obtain⟨n,N,_,rfl,o,p,a⟩:=DataW.trod_struct (Tryz.underlying40) l;have q:Tryz.prog.cellsOf 40=10:=kR
 have r:cs.length=10:=o.trans q;have s:Tryz.prog.cellsOf 3=1:=kR
 have t:Tryz.prog.cellsOf 38=7:=kR
 match cs,r with
 |[O,P,Q,R,S,T,U,V,W,X],_=>
 match n,p with
 |[Y,Z,y2,u],_=>
  have d:=a 0 _ rfl;have e:=a 1 _ rfl;have f:=a 2 _ rfl;have g:=a 3 _ rfl;simp only[s,t,List.drop_zero,List.drop_succ_cons,List.take_succ_cons,List.take_zero,List.take_nil,List.getElem?_cons_zero,List.getElem?_cons_succ]at d e f g;obtain⟨v,w,-,x⟩:=DataW.trod_int Tryz.underlying3 d;obtain⟨z1,y,-,z⟩:=DataW.trod_int Tryz.underlying3 e;obtain⟨A,B,-,C⟩:=DataW.trod_int Tryz.underlying3 f;have E:ll XP 38 u.1:=by
   intro F H;refine m F ?_;have I:Tryz.prog.underlying 40=_:=Tryz.underlying40;simp only[DataW.weights,I,QY,List.map_nil,DataW.weightsEach,Q6];right;right;right;left;exact H
  obtain⟨J,K⟩:=Ng i b j k _ _ _ g E
  cases w;cases y;cases B
  obtain⟨h,L⟩:=K;simp only[gP,List.cons.injEq,and_true]at h;obtain⟨rfl,rfl,rfl,rfl,rfl,rfl,rfl⟩:=h;exact⟨⟨v,z1,A,J⟩,rfl,aX x,aX z,aX C,L⟩
def JH:Reads XP Ve 30:=λk a l m e cs P n f=>by
 obtain⟨o,Q,_,rfl,p,q,g⟩:=DataW.trod_struct (Tryz.underlying30) n;have r:Tryz.prog.cellsOf 30=11:=kR
 have s:cs.length=11:=p.trans r;have t:Tryz.prog.cellsOf 27=10:=kR
 have u:Tryz.prog.cellsOf 28=1:=kR
 match cs,s with
 |[R,S,T,U,V,W,X,Y,Z,v9,a0],_=>
 match o,q with
 |[v,w],_=>
  have h:=g 0 _ rfl;have i:=g 1 _ rfl;simp only[t,u,List.drop_zero,List.drop_succ_cons,List.take_succ_cons,List.take_zero,List.take_nil,List.getElem?_cons_zero,List.getElem?_cons_succ]at h i;have x:ll XP 27 v.1:=by
   intro b c;refine f b ?_;have d:Tryz.prog.underlying 30=_:=Tryz.underlying30;simp only[DataW.weights,d,QY,List.map_nil,DataW.weightsEach,Q6];left;exact c
  obtain⟨y,z⟩:=Nf k a l m _ _ _ h x;have A:ll XP 28 w.1:=by
   intro b c;refine f b ?_;have d:Tryz.prog.underlying 30=_:=Tryz.underlying30;simp only[DataW.weights,d,QY,List.map_nil,DataW.weightsEach,Q6];right;left;exact c
  obtain⟨B,C,E,z1,F,-,-,H⟩:=open_row (bytes:=80) Tryz.underlying28 kR dC kR (Kt) i A
  cases F
  obtain⟨I,tn,J,K,L,M,j,N,O⟩:=z;simp only[dU,List.cons.injEq,and_true]at j;obtain⟨rfl,rfl,rfl,rfl,rfl,rfl,rfl,rfl,rfl,rfl⟩:=j;exact⟨(y,z1),I,tn,J,K,L,M,B,C,E,rfl,N,O,H⟩
end Go.Proofs.YtjgjkeponbeekaaGreatDoor
