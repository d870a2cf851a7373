import Derived.Test.YtfchlbaidamodaaGreatDoorKc10
import Derived.Maps.RangeRun
import Derived.Laws.RangeAny
set_option linter.all false
set_option maxRecDepth 100000
namespace Go.ax
open Go
def Mm(a:UInt8):IntKind.wrap .i64 (a.toNat:Int)=a.toNat:=wrap_i64 (by have:=a.toNat_lt;unfold aN;omega)
def lT(a:UInt8):Nat:=if 16<a.toNat then a.toNat-16 else a.toNat
def MQ(b:UInt8):(IntKind.wrap .i64 (ml .u8 (b.toNat:Int) 16)<=8/\((b.toNat:Int)≠16)↔lT b<=8)/\(lT b<=8->IntKind.wrap .i64 (ml .u8 (b.toNat:Int) 16)=(lT b:Int)/\BL .u8 (b.toNat:Int) 16=if 16<b.toNat then 16 else 0):=by
 have c:(List.range 256).all (λa=>decide ((IntKind.wrap .i64 (ml .u8 (a:Int) 16)<=8/\((a:Int)≠16)↔(if 16<a then a-16 else a)<=8)/\((if 16<a then a-16 else a)<=8->IntKind.wrap .i64 (ml .u8 (a:Int) 16)=((if 16<a then a-16 else a:Nat):Int)/\BL .u8 (a:Int) 16=if 16<a then 16 else 0)))=true:=by decide+kernel
 have:=List.all_eq_true.1 c b.toNat (List.mem_range.2 b.toNat_lt);exact XV this
def MR{a d:Nat}(e:a<72057594037927936)(f:d<256):Rg .u64 (Jn .u64 (a:Int) 8) (IntKind.wrap .u64 (d:Int))=((a*256+d:Nat):Int):=by
 have b:Jn .u64 (a:Int) 8=((a*256:Nat):Int):=by
  unfold Jn;have:min (Int.toNat 8) (IntKind.bits .u64)=8:=dC
  rw[this,wrap_u64];have:((2:Int) ^ 8)=256:=dC
  rw[this];omega
 rw[b,Gs oM];unfold Rg;show IntKind.wrap .u64 ((BitVec.ofInt 64 ((a*256:Nat):Int)|||BitVec.ofInt 64 (d:Int)).toNat:Int)=_;have c:a*256|||d=a*256+d:=by
  have:=(Nat.shiftLeft_add_eq_or_of_lt (a:=a) (i:=8) (b:=d) oM).symm
  rwa [Nat.shiftLeft_eq]at this
 rw[BitVec.ofInt_natCast,BitVec.ofInt_natCast,BitVec.toNat_or,BitVec.toNat_ofNat,BitVec.toNat_ofNat,Nat.mod_eq_of_lt oM,Nat.mod_eq_of_lt oM,c,Gs oM]
variable{v:List UInt8}{a:Nat}{c2:UInt8}
def FN(b:v[a]? =some c2):gO (v.take (a+1))=gO (v.take a)*256+c2.toNat:=by
 rw[Qw,b];exact zM _ _
def oW(a:List UInt8){j m:Nat}(b:j<=m):gO (a.take j)<256 ^ m:=by
 have c:=OC (a.take j);have d:256 ^(a.take j).length<=256 ^ m:=Nat.pow_le_pow_right oM (by simp;omega);omega
def MS(a:¬lT c2<=8):rdNum (c2::v)=(5,0,0):=by
 unfold rdNum lT at*;simp only;rw[if_pos oM]
def Km(b:lT c2<=8)(a:v.length<lT c2):rdNum (c2::v)=(4,0,0):=by
 unfold rdNum lT at*;simp only;rw[if_neg oM,if_pos a]
def Qm(c:lT c2<=8)(a:¬v.length<lT c2)(b:(0<lT c2/\v.head? =some 0)\/(¬16<c2.toNat/\2 ^ 63<=gO (v.take (lT c2)))\/(16<c2.toNat/\2 ^ 63<gO (v.take (lT c2)))):rdNum (c2::v)=(5,0,0):=by
 unfold rdNum lT at*;simp only;rw[if_neg oM,if_neg a,if_pos b]
def DA(c:lT c2<=8)(a:¬v.length<lT c2)(b:¬((0<lT c2/\v.head? =some 0)\/(¬16<c2.toNat/\2 ^ 63<=gO (v.take (lT c2)))\/(16<c2.toNat/\2 ^ 63<gO (v.take (lT c2))))):
  rdNum (c2::v)=(0,if 16<c2.toNat then-(gO (v.take (lT c2)):Int)else gO (v.take (lT c2)),lT c2+1):=by
 unfold rdNum lT at*;simp only;rw[if_neg oM,if_neg a,if_neg b]
end Go.ax
namespace Go.Proofs.YtfchlbaidamodaaGreatDoor
open Go.ax
structure fF (w:World) (p:Nat) (F:Nat->Prop) (r:g_):Prop where
 body:∃a n cap G,w.heap[p]? =some (.cells #[.slice a n cap,QH (r.pos:Int),QH r.sO] 340 (0,0))/\aV gq 5 G w a n cap r.bytes/\(∀b,G b->F b/\b≠p)
 self:F p
 aF:∀b,F b->b<w.heap.size
 fit:r.Fit
 d_:r.bytes.length<=aQ
variable{r:Array Value}{I:Bool}{z:FuncId}{e:Int}{a1:List PanicEntry->World->Prop}{v:List UInt8}{a c i:Nat}{f:Nat->Prop}{d:Option Addr}{o u:Value->World->Prop}{b k:World}{Q:g_}
def fF.keep{S e:Nat->Prop}(d:fF b a e Q)(f:aj S b k)(i:∀c,e c->¬S c):fF k a e Q:=by
 obtain⟨l,m,g,G,n,o,j⟩:=d.body;exact⟨⟨l,m,g,G,f.get n (i _ d.self),o.keep f (λc h=>i c (j c h).1),j⟩,d.self,λc h=>Qk (d.aF c h) f.size,d.fit,d.d_⟩
def fF.af(c:fF b a f Q)(d:ai b k):fF k a f Q:=c.keep d λ_ _ c=>c
def fF.fr{g w':World}{h r':g_}(j:fF g a f h){G:Nat->Prop}(m:aV gq 5 G g d c i h.bytes)(k:∀b,G b->f b/\b≠a)(l:aj (·=a) g w')(n:w'.heap[a]? =some (.cells #[.slice d c i,QH (r'.pos:Int),QH r'.sO] 340 (0,0)))(e:r'.bytes=h.bytes)(o:r'.Fit):fF w' a f r':=
 ⟨⟨d,c,i,G,n,by rw[e];exact m.keep l λb e=>(k b e).2,k⟩,j.self,λb e=>Qk (j.aF b e) l.size,o,by rw[e];exact j.d_⟩
def FM{D:Nat->Prop}(f:Row gq 1 b D d a v)(p:∀e,D e->e<b.heap.size):
  Calls ZQ 183 #[.slice d a c] b (Ok λq l=>∃m n,q= ZX m/\fF l m n ⟨v,0,0⟩/\ai b l/\∀e,n e->b.heap.size<=e):=by
 have r:=f.len;have s:=f.d_;refine Jj (AZ (aV.nil b) ur f (λe i=>⟨p e i,by simp[aI]⟩) (by simp;omega) (by unfold aQ at s;unfold maxLen;simp;omega) λg t j A u w _ x=>?_);refine⟨_,_,_,rfl,PA.mk λB k C y=>?_⟩;have o:ai b j:=w.mono λe _ f=>by simp[aI]at f
 have h:=u.alone;rw[List.nil_append]at h;have z:∀e,aI g=some e->b.heap.size<=e:=λe f=>(x e f).elim (λi=>i.elim) id;refine Ok.mk ⟨j.heap.size,λe=>e=j.heap.size\/aI g=some e,rfl,⟨⟨g,_,t,λe=>aI g=some e,y,h.af k,λe f=>⟨.inr f,?_⟩⟩,.inl rfl,?_,⟨Qj _,.inl rfl⟩,by rw[<-r];omega⟩,o.then k,?_⟩
 ·have:=h.aF e f;omega
 ·rintro e (rfl|f)
  ·omega
  ·have:=h.aF e f;have:=k.size;omega
 ·rintro e (rfl|f)
  ·exact o.size
  ·exact z e f
def Vw(a:Int):List PanicEntry:=[{v:=.iface 376 (QH a),recovered:=false}]
def gy(a:I=true->o (.tuple #[]) b)(c:I=false->a1 (Vw e) b):
  PC ZQ 301 #[.bool I,QH e] b o a1:=by
 cases I
 ·refine yZ (al.tt rfl ?_)
  exact aH.panics (v:=.iface 376 (QH e)) rfl (c rfl)
 ·exact yZ (al.ff rfl (a rfl))
def Wu(d:World)(c:Nat)(e:Nat->Prop)(a:g_)(no:Int)(h:Value->World->Prop)(i:Nat):Ending->World->Prop:=λf b=>
 ((no=0/\fF b c e ⟨a.bytes,a.pos+i,a.sO⟩/\∃g,f= .returned g/\h g b)\/(no≠0/\f= .panicked (Vw no)/\∃j,fF b c e ⟨a.bytes,j,a.sO⟩))/\aj (·=c) d b/\b.heap.size=d.heap.size
def PC.red{no:Int}(g:Calls ZQ z r b (Wu b a f Q no o c))(l:no=0->∀e d,fF d a f ⟨Q.bytes,Q.pos+c,Q.sO⟩->o e d->aj (·=a) b d->d.heap.size=b.heap.size->u e d)(m:no≠0->∀d,(∃n,fF d a f ⟨Q.bytes,n,Q.sO⟩)->aj (·=a) b d->d.heap.size=b.heap.size->a1 (Vw no) d):PC ZQ z r b u a1:=
 g.mono λq d ⟨g,j,k⟩=>by
  rcases g with⟨h,i,e,rfl,p⟩|⟨h,rfl,i⟩
  ·exact l h e d i p j k
  ·exact m h d i j k
def OF{m:Nat}(e:fF b a f Q)(N:m<=2147483647):
  Calls ZQ 302 #[ZX a,QH (m:Int)] b (Wu b a f Q (if m<=Q.bytes.length-Q.pos then 0 else 4) (λy z=>∃g A,y= .slice g m A/\Row gq 1 z f g m ((Q.bytes.drop Q.pos).take m)) m):=by
 obtain⟨g,r,c,G,B,i,l⟩:=e.body;have O:=e.fit.pos;have C:=e.d_;have P:=i.len dC;have E:=i.jx;unfold aQ at C;refine uT λs t=>?_;have j:ai b s:=t.keep;have k:=j.get B id;have u:s.heap.size=b.heap.size:=by rw[t.heap]
 refine⟨a,0,rfl,g,r,c,ae k rfl,a,0,rfl,_,ae k rfl,gy (λd=>?_) (λd=>?_)⟩
 ·have d:=XV d
  rw[wrap_i64 (by unfold aN;omega)]at d;refine⟨rfl,a,0,rfl,_,ae k rfl,a,0,rfl,PS.mk k sM λF H I h=>?_⟩;have J:IntKind.wrap .i64 ((Q.pos:Int)+(m:Int))=((Q.pos+m:Nat):Int):=by rw[wrap_i64 (by unfold aN;omega)];omega
  rw[J]at h;have K:IntKind.wrap .i64 (((Q.pos+m:Nat):Int)-(m:Int))=(Q.pos:Int):=by rw[wrap_i64 (by unfold aN;omega)];omega
  refine⟨a,0,rfl,g,r,c,ae h rfl,a,0,rfl,_,ae h rfl,a,0,rfl,_,ae h rfl,?_⟩;rw[K];refine⟨oM,oM,oM,λn v=>?_⟩;have w:ai F n:=v.keep;have o:aj (·=a) b n:=((j.keep).then H).af w;have L:fF n a f ⟨Q.bytes,Q.pos+m,Q.sO⟩:=e.fr (r':=⟨Q.bytes,Q.pos+m,Q.sO⟩) i l o (w.get h id) rfl ⟨by show Q.pos+m<=Q.bytes.length;omega,e.fit.sO⟩;refine⟨.inl ⟨if_pos oM,L,_,rfl,cM g Q.pos c 1,c-Q.pos,?_⟩,o,by rw[v.heap,I,u]⟩;simp only[Qx];rw[show Q.pos+m-Q.pos=m by omega];refine⟨rfl,?_⟩;have p:=(i.row (bytes:=1) dC (by unfold aQ;omega)).part (lo:=Q.pos) (hi:=Q.pos+m) (cap:=c) oM oM E;rw[show Q.pos+m-Q.pos=m by omega]at p;have M:(Q.bytes.take (Q.pos+m)).drop Q.pos=(Q.bytes.drop Q.pos).take m:=by rw[List.drop_take];congr 1;omega
  rw[M]at p;exact((p.keep o λq d=>(l q d).2)).mono λq d=>(l q d).1
 ·intro _ _
  have d:=Xy d;rw[wrap_i64 (by unfold aN;omega)]at d;have x:¬m<=Q.bytes.length-Q.pos:=oM
  refine⟨.inr ⟨by rw[if_neg x];decide,by rw[if_neg x],Q.pos,?_⟩,j.keep,u⟩;exact e.af j
def Gv(N:fF b a f Q):
  Calls ZQ 256 #[ZX a] b (Wu b a f Q Q.num.1 (λu h=>u= QH Q.num.2.1) Q.num.2.2):=by
 have y:=N.fit.pos;have s:(Q.bytes.drop Q.pos).length=Q.bytes.length-Q.pos:=XZ ..;generalize t:Q.bytes.drop Q.pos=B at s;have Z:Q.num=rdNum B:=by unfold g_.num;rw[t]
 rw[Z];refine qp (PC.red (OF (m:=1) N oM) ?_ ?_)
 rotate_left
 ·intro m z C v w
  have:¬1<=Q.bytes.length-Q.pos:=λk=>m (if_pos k);rw[if_neg this];have:B=[]:=QW oM;subst this;exact⟨.inr ⟨dC,rfl,C⟩,v,w⟩
 rintro m _ z O ⟨a1,c1,rfl,P⟩ v w;have R:1<=Q.bytes.length-Q.pos:=by
  by_cases k:1<=Q.bytes.length-Q.pos
  ·exact k
  ·rw[if_neg k]at m;cases m
 rw[t]at P
 match B,t,s with
 |[],t,s=>simp at s;omega
 |c::g,t,s=>
 have b1:g.length=Q.bytes.length-Q.pos-1:=by simp at s;omega
 have a7:Q.bytes.drop (Q.pos+1)=g:=by rw[<-List.drop_drop,t];rfl
 obtain⟨b5,o6,o,rfl,p,_,d⟩:=P.mh (i:=0) oM;obtain rfl:c=o:=by simpa using p
 obtain⟨E,a8⟩:=MQ c;refine⟨_,_,_,rfl,b5,o6,rfl,oM,oM,_,d,?_⟩;refine⟨λh=>lT c<=8/\h=z,?_,?_⟩
 ·have l:¬lT c<=8->∀h,h=z->Wu b a f Q (rdNum (c::g)).1 (λu h=>u= QH (rdNum (c::g)).2.1) (rdNum (c::g)).2.2 (.panicked (Vw 5)) h:=by
   rintro q h rfl;rw[MS q];exact⟨.inr ⟨dC,rfl,Q.pos+1,O⟩,v,w⟩
  refine al.dec (λF=>gy (λe=>⟨rfl,?_,rfl⟩) (λe=>l ?_ _ rfl)) (λF=>gy (λe=>(by cases e)) λ_=>l ?_ _ rfl)
  ·exact E.1 ⟨F,by simpa using e⟩
  ·intro q
   have:=(E.2 q).2;simp only[bne_eq_false_iff_eq]at e;exact this e
  ·intro q
   exact F (E.2 q).1
 rintro _ z ⟨x,rfl⟩;obtain⟨q,a9⟩:=a8 x;rw[q];refine PC.red (OF (m:=lT c) O oM) ?_ ?_
 rotate_left
 ·intro m n C H I
  have hn:¬lT c<=Q.bytes.length-(Q.pos+1):=λk=>m (if_pos k);rw[if_neg hn,Km x oM];exact⟨.inr ⟨dC,rfl,C⟩,v.then H,I.trans w⟩
 rintro m _ n S ⟨a2,c2,rfl,A⟩ H I;have b2:lT c<=g.length:=by
  by_cases k:lT c<=Q.bytes.length-(Q.pos+1)
  ·omega
  ·simp only at m;rw[if_neg k]at m;cases m
 change Row gq 1 n f a2 (lT c) ((Q.bytes.drop (Q.pos+1)).take (lT c))at A
 rw[a7]at A;have T:fF n a f ⟨Q.bytes,Q.pos+(lT c+1),Q.sO⟩:=by have:=S;rwa [show Q.pos+(lT c+1)=Q.pos+1+lT c by omega]
 have J:aj (·=a) b n:=v.then H;have K:=I.trans w;have l:((0<lT c/\g.head? =some 0)\/(¬16<c.toNat/\2 ^ 63<=gO (g.take (lT c)))\/(16<c.toNat/\2 ^ 63<gO (g.take (lT c))))->∀h,h=n->Wu b a f Q (rdNum (c::g)).1 (λu h=>u= QH (rdNum (c::g)).2.1) (rdNum (c::g)).2.2 (.panicked (Vw 5)) h:=by
  rintro e h rfl;rw[Qm x oM e];exact⟨.inr ⟨dC,rfl,_,S⟩,J,K⟩
 refine⟨_,_,_,rfl,λh=>¬(0<lT c/\g.head? =some 0)/\h=n,?_,?_⟩
 ·refine al.dX (λk=>gy (λ_=>⟨rfl,λd=>oM,rfl⟩) (λe=>by cases e)) (λk=>?_)
  have y:0<lT c:=oM
  obtain⟨L,M,o,rfl,p,_,d⟩:=A.mh (i:=0) y;have U:g.head? =some o:=by
   rw[Xw,if_pos y]at p;rw[List.head?_eq_getElem?];exact p
  refine⟨L,M,rfl,oM,oM,_,d,gy (λe=>⟨rfl,λd=>?_,rfl⟩) (λe=>l (.inl ⟨y,?_⟩) _ rfl)⟩
  ·rw[U]at d
   have:=d.2;simp only[Q1]at this;subst this;simp at e
  ·rw[U]
   have:(o.toNat:Int)=0:=by simpa using e
   exact congrArg some (UInt8.toNat_inj.1 (by
                         have:o.toNat=0:=oM
                         rw[this];rfl))
 rintro _ n ⟨V,rfl⟩;refine⟨λW X i h=>∃j:Nat,j<=lT c/\i=j/\W=lT c-j/\h=n/\X=(gO (g.take j):Int),⟨_,0,Qj _,rfl,rfl,rfl,rfl⟩,?_⟩;rintro W X i _ n ⟨j,hj,rfl,rfl,rfl,rfl⟩;refine al.dec (λh1=>?_) (λh1=>?_)
 ·have Y:j<lT c:=oM
  obtain⟨L,M,o,rfl,p,_,d⟩:=A.mh (i:=j) Y;rw[Xw,if_pos Y]at p;refine⟨L,M,rfl,oM,oM,_,d,_,oM,j+1,oM,an oM,rfl,rfl,?_⟩;have b0:=oW g (j:=j) (m:=7) oM;rw[MR (by
            have:(256:Nat) ^ 7=72057594037927936:=dC
            omega) o.toNat_lt,FN p]
 ·obtain rfl:j=lT c:=oM
  have b0:=oW g (j:=lT c) (m:=8) oM;have b3:(256:Nat) ^ 8=18446744073709551616:=dC
  have b4:(2:Nat) ^ 63=9223372036854775808:=dC
  rw[a9];refine al.dX (λk=>?_) (λk=>?_)
  ·have r:¬16<c.toNat:=by intro d;rw[if_pos d]at k;cases k
   refine gy (λe=>⟨rfl,?_⟩) (λe=>l (.inr (.inl ⟨r,?_⟩)) _ rfl)
   ·have e:=XV e
    rw[DA x oM (λd=>d.elim V λd=>d.elim (λd=>oM) λd=>r d.1),if_neg r];exact⟨.inl ⟨rfl,T,_,rfl,by rw[wrap_i64 (by unfold aN;omega)]⟩,J,K⟩
   ·have e:=Xy e
    omega
  ·have r:16<c.toNat:=by
    by_cases d:16<c.toNat
    ·exact d
    ·rw[if_neg d]at k;exact absurd rfl k
   refine gy (λe=>⟨rfl,?_⟩) (λe=>l (.inr (.inr ⟨r,?_⟩)) _ rfl)
   ·have e:=XV e
    rw[DA x oM (λd=>d.elim V λd=>d.elim (λd=>d.1 r) λd=>oM),if_pos r];refine⟨.inl ⟨rfl,T,_,rfl,?_⟩,J,K⟩;have e1:IntKind.wrap .i64 (IntKind.wrap .u64 (0-(gO (g.take (lT c)):Int)))= -(gO (g.take (lT c)):Int):=by
     unfold IntKind.wrap;simp[IntKind.signed,IntKind.bits];omega
    rw[e1]
   ·have e:=Xy e
    omega
end Go.Proofs.YtfchlbaidamodaaGreatDoor
namespace Go.Proofs.YtfchlbaidamodaaGreatDoor
open Go.ax
def wi:fS:=⟨[],[],[],[],[(0,⟨[0,0,2,4,8,0,0,64,128,256,512,1056,2048,4112,8192,32767,65535,98303],[262143,262143,262141,262139,262135,262143,262143,262079,262015,261887,261631,261087,260095,258031,253951,262142,229375,180223],[0,0,0,0,1,0,0,0,0,1,0,0,0,0,2,0,0,2]⟩)]⟩
variable{t:Ending->World->Prop}{e:Int}{d:Option Addr}{b:World}
def wj(A:(∀c,bE b c->(∃h i,d=some ⟨h,i,none⟩/\(∃(j:Option Addr) (B:Nat) (f:Nat),c.cell? ⟨h,i,none⟩=some (.slice j B f)/\
   (∃k l,d=some ⟨k,l,none⟩/\(∃(C:Option Addr) (a:Nat) (E:Nat),c.cell? ⟨k,l,none⟩=some (.slice C a E)/\((0:Int)<=(if(if((a:Nat):Int)<e then((a:Nat):Int)else e)>0 then(if((a:Nat):Int)<e then((a:Nat):Int)else e)else 0)/\
   ((if(if((a:Nat):Int)<e then((a:Nat):Int)else e)>0 then(if((a:Nat):Int)<e then((a:Nat):Int)else e)else 0):Int)<=((f:Nat):Int)/\
   PC ZQ 174 #[.slice j (Int.toNat (if(if((a:Nat):Int)<e then((a:Nat):Int)else e)>0 then(if((a:Nat):Int)<e then((a:Nat):Int)else e)else 0)) f] c (λF H=>
   ∃(m:Option Addr) (n:Nat) (o:Nat),F= .slice m n o/\(∃p q,d=some ⟨p,q,none⟩/\PS H ⟨p,q,none⟩ (.slice m n o) λr=>
   (∃s u,d=some ⟨s,u,none⟩/\(∃(I:Option Addr) (v:Nat) (J:Nat),r.cell? ⟨s,u,none⟩=some (.slice I v J)/\
   (∃w x,d=some ⟨w,x,none⟩/\PS r ⟨w,x+1,none⟩ (QH ((v:Nat):Int)) λK=>(∃y z,d=some ⟨y,z,none⟩/\
   PS K ⟨y,z+2,none⟩ (.bool true) λL=>t (.returned (.tuple #[])) L)))))) (λM g=>∀(_:cy) (_:dq),t (.panicked M) g)))))))):
  Calls ZQ 123 #[.pointer d,QH e] b t:=
 gl wi mixed Tryz.func123 rfl (Nat.le_of_ble_eq_true kR) kR (Eq.mp kR A)
end Go.Proofs.YtfchlbaidamodaaGreatDoor
namespace Go.ax
open Go
def ay{a b:Type}[BEq a](d:List (a×b))(c:a):Option b:=match d with
 |[]=>none
 |(e,f)::g=>if c==e then some f else ay g c
def aJ{a c:Type}[BEq a](g:List (a×c))(b:a)(d:c):List (a×c):=match g with
 |[]=>[(b,d)]
 |(e,h)::f=>if b==e then(b,d)::f else(e,h)::aJ f b d
def bV{a b:Type}[BEq a](f:List (a×b))(c:a):List (a×b):=match f with
 |[]=>[]
 |(d,g)::e=>if c==d then e else(d,g)::bV e c
variable{e4:Array MapEntry}{a c:Nat}{h:Program}{K j:Type}{e3:TypeDesc}{A c4 f7 g q:TypeId}{e5:TypeInfo}{c3 w:Value}{o u:Value->World->Prop}{b k:World}{y:World->Prop}
def bu[BEq j][LawfulBEq j](f:List (j×K))(b a:j)(h:K):ay (aJ f b h) a=if a==b then some h else ay f a:=by
 induction f with
 |nil=>simp[aJ,ay]
 |cons i m k=>
  obtain⟨d,n⟩:=i;unfold aJ
  by_cases c:b==d
  ·rw[if_pos c]
   have g:b=d:=by simpa using c
   subst g;unfold ay;split<;>rfl
  ·rw[if_neg c]
   unfold ay
   by_cases e:a==d
   ·rw[if_pos e]
    have g:a=d:=by simpa using e
    subst g;have:(a==b)=false:=by
     cases l:a==b
     ·rfl
     ·exfalso;apply c;have:a=b:=by simpa using l
      simp[this]
    rw[this];simp[ay,c]
   ·rw[if_neg e];rw[k];simp[ay,e]
def Tidy{a b:Type}(c:List (a×b)):Prop:=(c.map (·.1)).Nodup
def SK[BEq j][LawfulBEq j]{b:List (j×K)}{a:j}{e:K}{c:j}:c∈(aJ b a e).map (·.1)↔c=a\/c∈b.map (·.1):=by
 induction b with
 |nil=>simp[aJ]
 |cons f k g=>
  obtain⟨d,l⟩:=f;unfold aJ
  by_cases h:a==d
  ·rw[if_pos h]
   have i:a=d:=by simpa using h
   subst i;simp
  ·rw[if_neg h]
   simp only[QY,Q2,g];constructor
   ·rintro(h|h|h)<;>simp[h]
   ·rintro(h|h|h)<;>simp[h]
def Tidy.aJ{a g:Type}[BEq a][LawfulBEq a]{d:List (a×g)}(b:Tidy d)(e:a)(i:g):Tidy (aJ d e i):=by
 unfold Tidy at*
 induction d with
 |nil=>simp[ax.aJ]
 |cons j m k=>
  obtain⟨h,n⟩:=j;simp only[QY,List.nodup_cons]at b;unfold ax.aJ
  by_cases c:e==h
  ·rw[if_pos c]
   have l:e=h:=by simpa using c
   subst l;simpa using b
  ·rw[if_neg c]
   simp only[QY,List.nodup_cons];refine⟨λf=>?_,k b.2⟩;rcases SK.1 f with rfl|f
   ·simp at c
   ·exact b.1 f
def SL[BEq j][LawfulBEq j]{b:List (j×K)}{d c:j}(a:c∈(bV b d).map (·.1)):c∈b.map (·.1):=by
 induction b with
 |nil=>simp[bV]at a
 |cons e g f=>
  obtain⟨h,i⟩:=e;unfold bV at a;split at a
  ·simp only[QY,Q2];exact .inr a
  ·simp only[QY,Q2]at a⊢
   rcases a with a|a
   ·exact .inl a
   ·exact .inr (f a)
def Tidy.bV{a d:Type}[BEq a][LawfulBEq a]{c:List (a×d)}(b:Tidy c)(e:a):Tidy (bV c e):=by
 unfold Tidy at*
 induction c with
 |nil=>simp[ax.bV]
 |cons f i g=>
  obtain⟨j,k⟩:=f;simp only[QY,List.nodup_cons]at b;unfold ax.bV;split
  ·exact b.2
  ·simp only[QY,List.nodup_cons]
   exact⟨λh=>b.1 (SL h),g b.2⟩
def nU[BEq j][LawfulBEq j]{c:List (j×K)}{a:j}:ay c a=none↔a∉c.map (·.1):=by
 induction c with
 |nil=>simp[ay]
 |cons e h f=>
  obtain⟨d,i⟩:=e;unfold ay
  by_cases b:a==d
  ·have g:a=d:=by simpa using b
   rw[if_pos b];subst g;simp
  ·rw[if_neg b,f]
   have:a≠d:=by rintro rfl;simp at b
   simp[this]
def gh[BEq j][LawfulBEq j]{d:List (j×K)}(i:Tidy d)(b a:j):ay (bV d b) a=if a==b then none else ay d a:=by
 induction d with
 |nil=>simp[bV,ay]
 |cons k n l=>
  obtain⟨e,o⟩:=k;have g:=i;simp only[Tidy,QY,List.nodup_cons]at g;unfold bV
  by_cases f:b==e
  ·rw[if_pos f]
   have h:b=e:=by simpa using f
   subst h
   by_cases c:a==b
   ·have:a=b:=by simpa using c
    subst this;simp only[beq_self_eq_true,if_true];exact nU.2 g.1
   ·rw[if_neg c]
    simp[ay,c]
  ·rw[if_neg f]
   unfold ay
   by_cases c:a==e
   ·have h:a=e:=by simpa using c
    subst h;have:(a==b)=false:=by
     cases m:a==b
     ·rfl
     ·exfalso;apply f;have:a=b:=by simpa using m
      simp[this]
    simp[this]
   ·rw[if_neg c,if_neg c];exact l g.2
def cF[BEq j][LawfulBEq j]{b:List (j×K)}{c:j}{d:K}(a:ay b c=some d):(c,d)∈b:=by
 induction b with
 |nil=>simp[ay]at a
 |cons e k f=>
  obtain⟨g,l⟩:=e;unfold ay at a;split at a
  ·rename_i h
   have i:c=g:=by simpa using h
   subst i
   cases a
   simp
  ·exact QJ _ (f a)
def fG[BEq j][LawfulBEq j]{a:List (j×K)}{c:j}{d:K}{b:j×K}(h:b∈aJ a c d):b=(c,d)\/b∈a:=by
 induction a with
 |nil=>simpa[aJ]using h
 |cons e g f=>
  obtain⟨i,k⟩:=e;unfold aJ at h;split at h
  ·rcases Q2.1 h with h|h
   ·exact .inl h
   ·exact .inr (QJ _ h)
  ·rcases Q2.1 h with h|h
   ·exact .inr (h▸QV ..)
   ·rcases f h with h|h
    ·exact .inl h
    ·exact .inr (QJ _ h)
def gN[BEq j][LawfulBEq j]{a:List (j×K)}{c:j}{b:j×K}(h:b∈bV a c):b∈a:=by
 induction a with
 |nil=>simp[bV]at h
 |cons d f e=>
  obtain⟨g,i⟩:=d;unfold bV at h;split at h
  ·exact QJ _ h
  ·rcases Q2.1 h with h|h
   ·exact h▸QV ..
   ·exact QJ _ (e h)
def rp[BEq j][LawfulBEq j]{a:List (j×K)}(c:Tidy a){k:j}{v:K}(d:(k,v)∈a):ay a k=some v:=by
 induction a with
 |nil=>cases d
 |cons e i f=>
  obtain⟨g,l⟩:=e;simp only[Tidy,QY,List.nodup_cons]at c;unfold ay;rcases Q2.1 d with b|b
  ·cases b;simp
  ·have:k≠g:=by
    intro h;exact c.1 (Xk.2 ⟨(k,v),b,h⟩)
   rw[if_neg (by simpa using this)];exact f c.2 b
def yU[BEq j](a:List (j×K))(b:j)(c:K):(aJ a b c).length<=a.length+1:=by
 induction a with
 |nil=>simp[aJ]
 |cons d e f=>
  unfold aJ;split
  ·simp
  ·simp;omega
def Jz[BEq j](a:List (j×K))(b:j):(bV a b).length<=a.length:=by
 induction a with
 |nil=>simp[bV]
 |cons c d e=>
  unfold bV;split
  ·simp
  ·simp;omega
def fJ{a b c:Type}(d:b->c->Prop):List (a×b)->List (a×c)->Prop
 |[],[]=>True
 |(e,f)::g,(h,i)::j=>e=h/\d f i/\fJ d g j
 |_,_=>False
def fJ.keys{c d e:Type}{g:d->e->Prop}:∀{a:List (c×d)} {b:List (c×e)},fJ g a b->a.map (·.1)=b.map (·.1)
 |[],[],_=>rfl
 |(h,i)::a,(j,k)::b,f=>by simp[f.1,fJ.keys f.2.2]
def fJ.mono{f g h:Type}{i j:g->h->Prop}:∀{a:List (f×g)} {b:List (f×h)},fJ i a b->(∀c d,i c d->j c d)->fJ j a b
 |[],[],_,_=>trivial
 |(l,c)::a,(m,d)::b,e,k=>⟨e.1,k _ _ e.2.1,fJ.mono e.2.2 k⟩
def fJ.ay{b g h:Type}[BEq b]{i:g->h->Prop}(a:b):∀{c:List (b×g)} {d:List (b×h)},fJ i c d->
  (ax.ay c a=none/\ax.ay d a=none)\/∃e f,ax.ay c a=some e/\ax.ay d a=some f/\i e f
 |[],[],_=>.inl ⟨rfl,rfl⟩
 |(k,e)::c,(o,f)::d,l=>by
  obtain⟨rfl,m,n⟩:=l;unfold ax.ay
  by_cases j:a==k
  ·simp only[j,if_true];exact .inr ⟨e,f,rfl,rfl,m⟩
  ·simp only[j];exact fJ.ay a n
def fJ.aJ{a b c:Type}[BEq a]{R:b->c->Prop}{d:a}{h:b}{i:c}(e:R h i):∀{f:List (a×b)} {g:List (a×c)},fJ R f g->fJ R (ax.aJ f d h) (ax.aJ g d i)
 |[],[],_=>⟨rfl,e,trivial⟩
 |(l,o)::f,(p,q)::g,m=>by
  obtain⟨rfl,n,j⟩:=m;unfold ax.aJ
  by_cases k:d==l
  ·simp only[k,if_true];exact⟨rfl,e,j⟩
  ·simp only[k];exact⟨rfl,n,fJ.aJ e j⟩
def fJ.bV{a e f:Type}[BEq a]{g:e->f->Prop}{b:a}:∀{c:List (a×e)} {d:List (a×f)},fJ g c d->fJ g (ax.bV c b) (ax.bV d b)
 |[],[],_=>trivial
 |(j,m)::c,(n,o)::d,k=>by
  obtain⟨rfl,l,h⟩:=k;unfold ax.bV
  by_cases i:b==j
  ·simp only[i,if_true];exact h
  ·simp only[i];exact⟨rfl,l,fJ.bV h⟩
def fJ.length{a b c:Type}{f:b->c->Prop}{d:List (a×b)}{e:List (a×c)}(g:fJ f d e):d.length=e.length:=by
 have:=congrArg List.length g.keys;simpa using this
structure cx {κ:Type} (w:World) (r:Nat) (enc:κ->Value) (l:List (κ×Value)):Prop where
 at':∃es clock,w.heap[r]? =some (.map es clock)/\es.toList.map (λe=>(e.key,e.val))=l.map (λp=>(enc p.1,p.2))/\
  (∀e∈es.toList,e.born<clock)/\(es.toList.map (·.born)).Nodup
 tidy:Tidy l
def cx.keep{S:Nat->Prop}{d:j->Value}{f:List (j×Value)}(g:cx b a d f)(h:aj S b k)(i:¬S a):cx k a d f:=by
 obtain⟨l,c,m,e⟩:=g.at';exact⟨⟨l,c,h.get m i,e⟩,g.tidy⟩
def cx.af{c:j->Value}{d:List (j×Value)}(e:cx b a c d)(f:ai b k):cx k a c d:=e.keep f id
def cx.lt{c:j->Value}{f:List (j×Value)}(g:cx b a c f):a<b.heap.size:=by
 obtain⟨i,d,h,e⟩:=g.at';exact aC h
def cx.new{c:j->Value}(d:b.heap[a]? =some (.map #[] 0)):cx b a c ([]:List (j×Value)):=
 ⟨⟨_,_,d,rfl,sM,sM⟩,by simp[Tidy]⟩
def nd{a:Type}[BEq a](d:List (a×Value))(b:a)(c:Nat):Option (Nat×Value):=match d with
 |[]=>none
 |(e,f)::g=>if b==e then some (c,f)else nd g b (c+1)
def Ds{c:Type}[BEq c][LawfulBEq c]{a:c->Value}{i:TypeDesc}(j:∀k l,Instr.sameNow i (a k) (a l)=some (k==l))(d:c):
  ∀(f:List MapEntry) (g:List (c×Value)) (h:Nat),f.map (λe=>(e.key,e.val))=g.map (λm=>(a m.1,m.2))->Instr.findNow i (a d) f h=some (nd g d h)
 |[],[],_,_=>rfl
 |[],_::_,_,b=>by simp at b
 |_::_,[],_,b=>by simp at b
 |e::f,(n,r)::g,h,b=>by
  simp only[QY,List.cons.injEq,Prod.mk.injEq]at b;obtain⟨⟨o,p⟩,q⟩:=b;unfold Instr.findNow nd;rw[o,j]
  cases s:d==n
  ·simp only[Bool.false_eq_true,if_false]
   exact Ds j d f g (h+1) q
  ·simp[p]
def Ib[BEq j]{a:j->Value}(c:∀d e,Instr.sameNow e3 (a d) (a e)=none)(f:j)(b:MapEntry)(g:List MapEntry)(h:j)(i:b.key=a h)(k:Nat):Instr.findNow e3 (a f) (b::g) k=none:=by
 unfold Instr.findNow;rw[i,c]
def tZ{c:Type}[BEq c]{j:Program}{k:TypeId}{a:c->Value}{d:World}(l:∀m n,(Op.equal k (a m) (a n)).run j d= .ok (m==n) d)(f:c):
  ∀(g:List MapEntry) (h:List (c×Value)) (i:Nat),g.map (λe=>(e.key,e.val))=h.map (λo=>(a o.1,o.2))->(Instr.findAsking k (a f) g i).run j d= .ok (nd h f i) d
 |[],[],_,_=>rfl
 |[],_::_,_,b=>by simp at b
 |_::_,[],_,b=>by simp at b
 |e::g,(p,t)::h,i,b=>by
  simp only[QY,List.cons.injEq,Prod.mk.injEq]at b;obtain⟨⟨q,r⟩,s⟩:=b;unfold Instr.findAsking nd;rw[q];simp only[Sem.run_bind,l,Result.andThen_ok]
  cases u:f==p
  ·simpa using tZ l f g h (i+1) s
  ·simp[r]
structure jh {κ:Type} [BEq κ] (P:Program) (kt:TypeId) (enc:κ->Value):Prop where
 find:∀(k:κ) (es:List MapEntry) (l:List (κ×Value)) (w:World),es.map (λe=>(e.key,e.val))=l.map (λp=>(enc p.1,p.2))->(Instr.findKey kt (enc k) es).run P w= .ok (nd l k 0) w
 check:∀k w e,(Instr.checkKey e 10000 kt (enc k)).run P w= .ok () w
 same:∀n a,Instr.sameBits (n+1) (enc a) (enc a)=true
 inj:∀{a b},enc a=enc b->a=b
def jh.flat[BEq j][LawfulBEq j]{a:j->Value}(n:h.underlying g=some e3)(k:∀b c,Instr.sameNow e3 (a b) (a c)=some (b==c))(o:∀l d e f,(Instr.checkKey f (l+1) g (a d)).run h e= .ok () e)(i:∀l b,Instr.sameBits (l+1) (a b) (a b)=true):jh h g a:=
 ⟨λd p q e r=>by simp[Instr.findKey,run_underlying n,Ds k d p q 0 r],λd e f=>o 9999 d e f,i,λ{b c} f=>by
  have m:=k b c;rw[f,k c c]at m;simpa using m.symm⟩
def jh.struct[BEq j]{a:j->Value}(p:h.underlying g=some e3)(r:∀b c,Instr.sameNow e3 (a b) (a c)=none)(s:∀b c d,(Op.equal g (a b) (a c)).run h d= .ok (b==c) d)(t:∀i d k,(Instr.checkKey k 10000 g (a i)).run h d= .ok () d)(e:∀u b,Instr.sameBits (u+1) (a b) (a b)=true)(n:∀{b c},a b=a c->b=c):jh h g a:=by
 refine⟨λi l f d m=>?_,t,e,n⟩
 cases l with
 |nil=>
  cases f with
  |nil=>simp[Instr.findKey,run_underlying p,Instr.findNow,nd]
  |cons o f=>simp at m
 |cons k l=>
  cases f with
  |nil=>simp at m
  |cons o f=>
   have q:=m;simp only[QY,List.cons.injEq,Prod.mk.injEq]at q;simp only[Instr.findKey,Sem.run_bind,run_underlying p,Result.andThen_ok,Ib r i k l o.1 q.1.1];exact tZ (λb c=>s b c d) i (k::l) (o::f) 0 m
def yL[BEq j][LawfulBEq j](b:List (j×Value))(c:j):∀a,(nd b c a).map (·.2)=ay b c:=by
 induction b with
 |nil=>intro a;rfl
 |cons d f e=>
  intro a;obtain⟨g,h⟩:=d;unfold nd ay;split
  ·rfl
  ·exact e (a+1)
def kj[BEq j][LawfulBEq j]{a:j->Value}(k:jh h g a)(b:j)(c:List MapEntry)(d:List (j×Value))(l:c.map (λf=>(f.key,f.val))=d.map (λi=>(a i.1,i.2)))(e:World):
  (Instr.findKey g (a b) c).run h e= .ok (nd d b 0) e:=by
 exact k.find b c d e l
def dW(d:b.heap[a]? =some (.map e4 c)):(getObj a).run h b= .ok (.map e4 c) b:=by
 simp[getObj,Sem.run,d]
def ei[BEq j][LawfulBEq j]{a:j->Value}(e:jh h g a)(c:Bool)(d:j)(b:World):(Instr.checkKey c 10000 g (a d)).run h b= .ok () b:=by
 exact e.check d b c
def EW(b:h.info? g=some e5)(c:e5.zero=some w)(a:World):(zeroValue g).run h a= .ok w a:=by
 simp[zeroValue,typeInfo,b,c]
structure nu (P:Program) (t kt vt:TypeId) (z:Value):Prop where
 under:P.underlying t=some (.map kt vt)
 zero:(P.info? vt).bind (·.zero)=some z
def nu.Oz(d:nu h g q A w)(b:World):(zeroValue A).run h b= .ok w b:=by
 have a:=d.zero
 cases c:h.info? A with
 |none=>rw[c]at a;cases a
 |some e=>rw[c]at a;exact EW c a b
def eY[BEq j][LawfulBEq j]{c:j->Value}(l:nu h g q A w)(m:jh h q c){d:List (j×Value)}(o:cx b a c d)(e:j)(i:Bool):
  (Instr.lookup g (.map (some a)) (c e) i).run h b= .ok (if i then .tuple #[(ay d e).getD w,.bool (ay d e).isSome]else(ay d e).getD w) b:=by
 obtain⟨p,k,r,s,_⟩:=o.at';have t:=kj m e p.toList d s b;have f:=yL d e 0;simp only[Instr.lookup,Sem.run_bind,run_underlying l.under,Result.andThen_ok,dW r,ei m,t,Sem.run_pure]
 cases n:nd d e 0 with
 |none=>rw[n]at f;simp only[Option.map_none]at f;rw[<-f];cases i<;>simp[l.Oz]
 |some u=>rw[n]at f;simp only[Option.map_some]at f;rw[<-f];cases i<;>simp
def AY[BEq j][LawfulBEq j]{c:j->Value}(f:nu h g q A w)(i:jh h q c){e:List (j×Value)}(k:cx b a c e){d:j}(l:o ((ay e d).getD w) b):aH h (Instr.lookup g (.map (some a)) (c d) false) b o u:=aH.mk (eY f i k d false) l
def nw[BEq j][LawfulBEq j]{enc:j->Value}(d:nu h g q A w)(e:jh h q enc){c:List (j×Value)}(f:cx b a enc c){k:j}(i:o (.tuple #[(ay c k).getD w,.bool (ay c k).isSome]) b):aH h (Instr.lookup g (.map (some a)) (enc k) true) b o u:=aH.mk (eY d e f k true) i
def aj.setObj(a:World)(b:Nat)(c:Obj):aj (·=b) a {a with heap:=a.heap.setIfInBounds b c}:=
 ⟨rfl,rfl,rfl,sM,λe f d=>by simp[Array.getElem?_setIfInBounds,Ne.symm d]⟩
def oh[BEq j][LawfulBEq j]{c:List (j×Value)}{d:j}:∀{a b:Nat} {g:Value},nd c d a=some (b,g)->a<=b/\b-a<c.length/\c[b-a]? =some (d,g)/\∀i,aJ c d i=c.set (b-a) (d,i)/\bV c d=c.eraseIdx (b-a):=by
 induction c with
 |nil=>intro a b g e;simp[nd]at e
 |cons n w o=>
  intro a b g e;obtain⟨p,i⟩:=n;unfold nd at e;split at e
  ·rename_i h
   cases e
   have q:d=p:=by simpa using h
   subst q;simp[aJ,bV]
  ·rename_i h
   obtain⟨x,k,l,m⟩:=o e;obtain⟨f,rfl⟩:∃f,b=a+1+f:=⟨b-(a+1),oM⟩
   have r:a+1+f-a=f+1:=oM
   have s:a+1+f-(a+1)=f:=oM
   rw[s]at k l m;rw[r];refine⟨oM,by simpa using k,by simpa using l,λt=>?_⟩;obtain⟨u,v⟩:=m t;unfold aJ bV;rw[if_neg h,if_neg h];simp[u,v]
def sP[BEq j][LawfulBEq j]{a:List (j×Value)}{b:j}:∀{d:Nat},nd a b d=none->(∀e,aJ a b e=a++[(b,e)])/\bV a b=a:=by
 induction a with
 |nil=>intro d _;simp[aJ,bV]
 |cons g l h=>
  intro d c;obtain⟨m,e⟩:=g;unfold nd at c;split at c
  ·cases c
  ·rename_i f
   obtain⟨i,k⟩:=h c;refine⟨λn=>?_,?_⟩
   ·unfold aJ;rw[if_neg f,i];rfl
   ·unfold bV;rw[if_neg f,k]
def map_eraseIdx{d e:Type}(c:d->e):∀(a:List d) (b:Nat),(a.eraseIdx b).map c=(a.map c).eraseIdx b
 |[],_=>by simp
 |x::a,0=>rfl
 |x::a,b+1=>by simp[map_eraseIdx c a b]
def dm(a:World)(b:Nat)(c:Obj)(d:b<a.heap.size):({a with heap:=a.heap.setIfInBounds b c}:World).heap[b]? =some c:=by simp[d]
def eZ(e:b.heap[a]? =some (.map e4 c))(d:Obj):(setObj a d).run h b= .ok () {b with heap:=b.heap.setIfInBounds a d}:=by
 simp[setObj,Sem.run,e]
def jz[BEq j][LawfulBEq j]{enc:j->Value}(H:nu h g q A w)(t:jh h q enc){p:List (j×Value)}(z:cx b a enc p){k:j}(I:∀u,cx u a enc (aJ p k c3)->aj (·=a) b u->u.heap.size=b.heap.size->y u):jU h (Instr.mapUpdate g (.map (some a)) (enc k) c3) b y o:=by
 obtain⟨e,c,r,s,B,J⟩:=z.at';have v:=kj t k e.toList p s b;have O:e.toList.length=p.length:=by have:=congrArg List.length s;simpa using this
 have K:=aC r
 cases x:nd p k 0 with
 |none=>
  rw[x]at v;refine jU.mk (w':={b with heap:=b.heap.setIfInBounds a (.map (e.push {key:=enc k,val:=c3,born:=c}) (c+1))}) ?_ (I _ ⟨⟨_,_,dm b a _ K,?_,?_,?_⟩,z.tidy.aJ k c3⟩ (aj.setObj b a _) sM)
  ·simp[Instr.mapUpdate,run_underlying H.under,dW r,ei t,v,eZ r]
  ·rw[(sP x).1 c3];simp[s]
  ·intro i f
   simp only[Array.toList_push,Q6,List.mem_singleton]at f;rcases f with f|rfl
   ·have:=B i f;omega
   ·show c<c+1;omega
  ·simp only[Array.toList_push,Q3,QY,List.map_nil]
   rw[List.nodup_append];refine⟨J,sM,?_⟩;intro V P W C X;simp only[List.mem_singleton]at C;obtain⟨i,f,rfl⟩:=Xk.1 P;have:=B i f;omega
 |some Q=>
  obtain⟨l,Y⟩:=Q;rw[x]at v;obtain⟨_,L,M,N⟩:=oh x;rw[Nat.sub_zero]at L M N;have E:l<e.size:=by
                 have:e.size=p.length:=by simpa using O
                 omega
  have R:e[l].key=enc k:=by
   have:=congrArg (·[l]?) s;simp only[Q9,M,Option.map_some]at this;simp[E]at this;exact this.1
  refine jU.mk (w':={b with heap:=b.heap.setIfInBounds a (.map (e.modify l λi=>{i with key:=enc k,val:=c3}) c)}) ?_ (I _ ⟨⟨_,_,dm b a _ K,?_,?_,?_⟩,z.tidy.aJ k c3⟩ (aj.setObj b a _) sM)
  ·have S:(Instr.keyThatStays (enc k) (enc k)).run h b= .ok (enc k) b:=by simp[Instr.keyThatStays,t.same]
   simp[Instr.mapUpdate,run_underlying H.under,dW r,ei t,v,E,R,S,eZ r]
  ·rw[(N c3).1]
   apply X3;intro m;have d:=congrArg (·[m]?) s;simp only[Q9]at d;simp only[Array.toList_modify,Q9,Xj,List.getElem?_modify]
   by_cases n:l=m
   ·subst n
    simp[E,L]
   ·simp only[n,if_false,Option.map_map]at d⊢
    simpa using d
  ·intro i f
   rw[Array.toList_modify]at f;obtain⟨m,d⟩:=List.getElem?_of_mem f;rw[List.getElem?_modify]at d
   cases F:e.toList[m]? with
   |none=>rw[F]at d;simp at d
   |some T=>
    rw[F]at d;have U:=QZ F;have:=B T U
    by_cases n:l=m
    ·simp[n]at d;subst d;exact this
    ·simp[n]at d;subst d;exact this
  ·have:(e.modify l λi=>{i with key:=enc k,val:=c3}).toList.map (·.born)=e.toList.map (·.born):=by
    apply X3;intro m;simp only[Array.toList_modify,Q9,List.getElem?_modify,Option.map_map]
    by_cases n:l=m<;>simp[n]<;>rfl
   rw[this];exact J
def Mc[BEq j][LawfulBEq j]{e:j->Value}(x:nu h g q A w)(s:jh h q e){i:List (j×Value)}(t:cx b a e i){k:j}(y:∀m,cx m a e (bV i k)->aj (·=a) b m->m.heap.size=b.heap.size->o (.tuple #[]) m):aH h (Builtin.delete_ #[g,c4] f7 #[.map (some a),e k]) b o u:=by
 obtain⟨c,d,l,n,z,B⟩:=t.at';have p:=kj s k c.toList i n b;have H:c.toList.length=i.length:=by have:=congrArg List.length n;simpa using this
 have C:=aC l
 cases r:nd i k 0 with
 |none=>
  rw[r]at p;refine aH.mk (w':={b with heap:=b.heap.setIfInBounds a (.map c d)}) ?_ (y _ ⟨⟨_,_,dm b a _ C,?_,z,B⟩,t.tidy.bV k⟩ (aj.setObj b a _) sM)
  ·simp[Builtin.delete_,run_underlying x.under,dW l,ei s,p,eZ l]
  ·rw[(sP r).2];exact n
 |some I=>
  obtain⟨f,J⟩:=I;rw[r]at p;obtain⟨_,K,L,E⟩:=oh r;rw[Nat.sub_zero]at K L E;have v:f<c.size:=by
                 have:c.size=i.length:=by simpa using H
                 omega
  refine aH.mk (w':={b with heap:=b.heap.setIfInBounds a (.map (c.eraseIdxIfInBounds f) d)}) ?_ (y _ ⟨⟨_,_,dm b a _ C,?_,?_,?_⟩,t.tidy.bV k⟩ (aj.setObj b a _) sM)
  ·simp[Builtin.delete_,run_underlying x.under,dW l,ei s,p,eZ l]
  ·rw[(E J).2]
   have:(c.eraseIdxIfInBounds f).toList=c.toList.eraseIdx f:=by simp[Array.eraseIdxIfInBounds,v]
   rw[this,map_eraseIdx,n,map_eraseIdx]
  ·intro M F
   have:(c.eraseIdxIfInBounds f).toList=c.toList.eraseIdx f:=by simp[Array.eraseIdxIfInBounds,v]
   rw[this]at F;exact z M (List.mem_of_mem_eraseIdx F)
  ·have:(c.eraseIdxIfInBounds f).toList=c.toList.eraseIdx f:=by simp[Array.eraseIdxIfInBounds,v]
   rw[this,map_eraseIdx];exact B.sublist (List.eraseIdx_sublist _ _)
def Kf[BEq j][LawfulBEq j]{d:j->Value}(i:nu h g q A w){k:List (j×Value)}(l:cx b a d k)(m:∀e,cx e a d ([]:List (j×Value))->aj (·=a) b e->e.heap.size=b.heap.size->o (.tuple #[]) e):aH h (Builtin.clear_ #[g] c4 #[.map (some a)]) b o u:=by
 obtain⟨p,c,f,r,s,t⟩:=l.at';have n:=aC f;refine aH.mk (w':={b with heap:=b.heap.setIfInBounds a (.map #[] c)}) ?_ (m _ ⟨⟨_,_,dm b a _ n,rfl,sM,sM⟩,by simp[Tidy]⟩ (aj.setObj b a _) sM);simp[Builtin.clear_,run_underlying i.under,dW f,eZ f]
def Xc(a:h.underlying g=some (.int .i64)):jh h g (Value.int .i64):=
 jh.flat a (λb d=>by simp[Instr.sameNow]) (λc e f i=>by simp[Instr.checkKey,run_underlying a]) λc b=>by simp[Instr.sameBits]
end Go.ax
namespace Go.ax
open Go
instance:LawfulBEq ByteArray where
 eq_of_beq:=λ{a b} h=>ByteArray.ext (eq_of_beq (show(a.data==b.data)=true from h))
 rfl:=λ{a}=>show(a.data==a.data)=true from by simp
variable{x:ByteArray}{a:Nat}{h:Program}{A c4 f7 g q:TypeId}{o u:Value->World->Prop}
def YL(a:h.underlying g=some .string):jh h g Value.string:=
 jh.flat a (λb d=>rfl) (λc e f i=>by simp[Instr.checkKey,run_underlying a]) λc b=>by simp[Instr.sameBits]
structure dj {κ:Type} (w:World) (it r:Nat) (enc:κ->Value) (l left:List (κ×Value)):Prop where
 at':∃es clock since seen c0,w.heap[r]? =some (.map es clock)/\es.toList.map (λe=>(e.key,e.val))=l.map (λp=>(enc p.1,p.2))/\
  (∀e∈es.toList,e.born<clock)/\(es.toList.map (·.born)).Nodup/\w.heap[it]? =some (.mapIter (some r) since seen c0)/\(∀x∈es.toList,x.born<since)/\since<=c0/\since<=clock/\
  (leftOf es seen).toList.map (λe=>(e.key,e.val))=left.map (λp=>(enc p.1,p.2))
 tidy:Tidy l
structure Vv {κ:Type} (w:World) (it r:Nat) (enc:κ->Value) (k:κ) (v:Value):Prop where
 at':∃(es:Array MapEntry) (clock since:Nat) (seen:Array Nat) (e:MapEntry),w.heap[r]? =some (.map es clock)/\w.heap[it]? =some (.mapIter (some r) since (seen.push e.born) clock)/\e∈es.toList/\(es.toList.map (·.born)).Nodup/\e.key=enc k/\e.val=v
section
variable {κ:Type} {w w':World} {it r:Nat} {enc:κ->Value} {l left:List (κ×Value)} {S:Nat->Prop}
def dj.keep(d:dj w it r enc l left)(e:aj S w w')(f:¬S it)(g:¬S r):dj w' it r enc l left:=by
 obtain⟨h,a,b,seen,i,j,k,m,n,o,c⟩:=d.at';exact⟨⟨h,a,b,seen,i,e.get j g,k,m,n,e.get o f,c⟩,d.tidy⟩
def dj.af(a:dj w it r enc l left)(b:ai w w'):dj w' it r enc l left:=a.keep b id id
def dj.map(c:dj w it r enc l left):cx w r enc l:=by
 obtain⟨e,a,b,seen,j,f,g,h,i,k,d⟩:=c.at';exact⟨⟨e,a,f,g,h,i⟩,c.tidy⟩
def dj.ne(e:dj w it r enc l left):it≠r:=by
 obtain⟨g,a,b,seen,h,f,i,j,k,c,d⟩:=e.at';rintro rfl;rw[f]at c;cases c
def dj.lt(d:dj w it r enc l left):it<w.heap.size:=by
 obtain⟨f,a,b,seen,g,h,i,j,k,e,c⟩:=d.at';exact aC e
def mapRange{j:Value}(k:nu h g q A j)(b:cx w r enc l)(m:∀w',dj w' w.heap.size r enc l l->ai w w'->w'.heap.size=w.heap.size+1->o (ZX w.heap.size) w'):aH h (Instr.range g (.map (some r))) w o u:=by
 obtain⟨c,a,d,e,f,n⟩:=b.at';have i:ai w (w.alloc (.mapIter (some r) a #[] a)):=aj.alloc w _;refine aH.mk (run_range_map w g q A r c a k.under d) (m _ ⟨⟨c,a,a,#[],a,i.get d id,e,f,n,heap_alloc_new w _,f,Q4 _,Q4 _,?_⟩,b.tidy⟩ i sM);rw[<-e]
 congr 2
 unfold leftOf;simp
def nX{P:Program}(q:dj w it r enc l left)(U:left=[]->o (.tuple #[.bool false]) w)(V:∀s t A B w',left=A++(s,t)::B->dj w' it r enc l (A++B)->Vv w' it r enc s t->aj (·=it) w w'->w'.heap.size=w.heap.size->o (.tuple #[.bool true,enc s,t]) w'):
  aH P (Instr.next (ZX it) false g) w o u:=by
 have W:=q.ne;obtain⟨e,a,c,seen,C,E,X,Y,v,F,H,Z,I,m⟩:=q.at';rcases run_next_at (P:=P) w g it r c C seen e a F E H Z with⟨hz,x⟩|⟨d,J,h,K,x⟩
 ·refine aH.mk x (U ?_)
  have:(leftOf e seen).toList=[]:=by rw[Array.eq_empty_of_size_eq_zero hz]
  rw[this]at m;simpa using m.symm
 ·have y:ai w h:=by rcases K with rfl|rfl;exact aj.refl _;exact aj.drewN w 1
  have b0:h.heap.size=w.heap.size:=by rcases K with rfl|rfl<;>rfl
  have a0:h.heap[it]? =some (.mapIter (some r) c seen C):=y.get F id;have b1:h.heap[r]? =some (.map e a):=y.get E id;have a1:=aC a0
  let p:=ChangeMaps.setBlock h it (.mapIter (some r) c (seen.push d.born) a)
  have L:aj (·=it) h p:=aj.setObj h it _;have M:p.heap[it]? =some (.mapIter (some r) c (seen.push d.born) a):=dm h it _ a1;have N:p.heap[r]? =some (.map e a):=L.get b1 (λd=>W d.symm);have a2:=mem_left J;obtain⟨b,i,O⟩:=List.getElem_of_mem J;have Q:b<left.length:=by have:=congrArg List.length m;simp at this;simp at i;omega
  have R:(d.key,d.val)=(enc left[b].1,left[b].2):=by
   have:=congrArg (λa3=>a3[b]?) m;simp only[Q9]at this;rw[Qq i,Qq Q,O]at this;simpa using this
  have a4:left=left.take b++(left[b].1,left[b].2)::left.drop (b+1):=by
   have:=(List.take_append_drop b left).symm;rw[X4 Q]at this;exact this
  have a5:(leftOf e (seen.push d.born)).toList=(leftOf e seen).toList.eraseIdx b:=by
   have k:((leftOf e seen).toList.map (·.born)).Nodup:=by
    unfold leftOf;rw[Array.toList_filter];exact v.sublist (List.Sublist.map _ List.filter_sublist)
   have hf:(leftOf e (seen.push d.born)).toList=(leftOf e seen).toList.filter (λj=>j.born !=d.born):=by
    unfold leftOf;rw[Array.toList_filter,Array.toList_filter,List.filter_filter]
    congr 1
    funext j
    rw[contains_push]
    cases seen.contains j.born<;>cases hx:(j.born==d.born)<;>simp only[bne,hx]<;>rfl
   rw[hf];have z:∀(f:List MapEntry) (b:Nat) (i:b<f.length),(f.map (·.born)).Nodup->f.filter (λj=>j.born !=f[b].born)=f.eraseIdx b:=by
    intro f
    induction f with
    |nil=>intro b i;simp at i
    |cons j f ih=>
     intro b i k;simp only[QY,List.nodup_cons]at k
     cases b with
     |zero=>
      simp only[List.getElem_cons_zero,List.eraseIdx_zero,List.tail_cons];rw[List.filter_cons_of_neg sM];apply List.filter_eq_self.2;intro a6 hy;simp only[bne_iff_ne,ne_eq];intro d;exact k.1 (d▸Xk.2 ⟨a6,hy,rfl⟩)
     |succ b=>
      simp only[List.getElem_cons_succ,List.eraseIdx_cons_succ];have n:b<f.length:=by simpa using i
      rw[List.filter_cons_of_pos,ih b n k.2];simp only[bne_iff_ne,ne_eq];intro d;exact k.1 (d▸Xk.2 ⟨f[b],XY n,rfl⟩)
   have:=z _ b i k;rw[O]at this;exact this
  have S:d.key=enc left[b].1:=(Prod.mk.inj R).1;have T:d.val=left[b].2:=(Prod.mk.inj R).2;refine aH.mk x ?_;rw[S,T];refine V left[b].1 left[b].2 (left.take b) (left.drop (b+1)) p a4 ⟨⟨e,a,c,seen.push d.born,a,N,X,Y,v,M,H,I,I,?_⟩,q.tidy⟩ ⟨e,a,c,seen,d,N,M,a2.1,v,S,T⟩ ((ai.keep y).then L) ?_
  ·rw[a5,map_eraseIdx,m,<-map_eraseIdx]
   congr 1
   rw[List.eraseIdx_eq_take_drop_succ]
  ·show(h.heap.setIfInBounds it _).size=_
   simp[b0]
def ry{c:κ}{d:Value}(e:Vv w it r enc c d)(f:o (.tuple #[enc c,d]) w):aH h (Instr.entry (ZX it)) w o u:=by
 obtain⟨g,a,b,seen,i,j,k,l,m,n,p⟩:=e.at';refine aH.mk (run_entry_at w it r b seen g a i k j l m) ?_;rw[n,p];exact f
def RU[BEq κ][LawfulBEq κ]{W:Value}{e:κ}(J:nu h g q A W)(x:jh h q enc)(y:dj w it r enc l left)(X:e∉left.map (·.1))(K:∀w',dj w' it r enc (bV l e) left->aj (·=r) w w'->w'.heap.size=w.heap.size->o (.tuple #[]) w'):aH h (Builtin.delete_ #[g,c4] f7 #[.map (some r),enc e]) w o u:=by
 have L:=y.ne;obtain⟨b,c,d,seen,M,m,n,N,O,P,Q,R,S,F⟩:=y.at';have z:=kj x e b.toList l n w;have Y:b.toList.length=l.length:=by have:=congrArg List.length n;simpa using this
 have T:=aC m
 cases B:nd l e 0 with
 |none=>
  rw[B]at z;refine aH.mk (w':={w with heap:=w.heap.setIfInBounds r (.map b c)}) ?_ (K _ ⟨⟨_,_,d,seen,M,dm w r _ T,?_,N,O,(aj.setObj w r _).get P L,Q,R,S,F⟩,y.tidy.bV e⟩ (aj.setObj w r _) sM)
  ·simp[Builtin.delete_,run_underlying J.under,dW m,ei x,z,eZ m]
  ·rw[(sP B).2];exact n
 |some f=>
  obtain⟨a,Z⟩:=f;rw[B]at z;obtain⟨_,j,U,V⟩:=oh B;rw[Nat.sub_zero]at j U V;have p:a<b.size:=by
                 have:b.size=l.length:=by simpa using Y
                 omega
  have s:(b.eraseIdxIfInBounds a).toList=b.toList.eraseIdx a:=by simp[Array.eraseIdxIfInBounds,p]
  have a0:(b.toList[a]'(by simpa using p)).key=enc e:=by
   have:=congrArg (λC=>C[a]?) n;simp only[Q9,U,Option.map_some]at this;rw[Qq (by simpa using p)]at this;simpa using(Prod.mk.inj (XJ this)).1
  have H:∀k∈(leftOf b seen).toList,k.key≠enc e:=by
   intro k hx t;have:(k.key,k.val)∈left.map (λf=>(enc f.1,f.2)):=by rw[<-F];exact Xk.2 ⟨k,hx,rfl⟩
   obtain⟨C,hq,a1⟩:=Xk.1 this;have a2:enc C.1=enc e:=(Prod.mk.inj a1).1.trans t;exact X (Xk.2 ⟨C,hq,x.inj a2⟩)
  have a3:(leftOf (b.eraseIdxIfInBounds a) seen).toList=(leftOf b seen).toList:=by
   unfold leftOf at H⊢;rw[Array.toList_filter]at H;rw[Array.toList_filter,Array.toList_filter,s];have I:∀(i:List MapEntry) (f:MapEntry->Bool) (a:Nat) (j:a<i.length),f i[a]=false->(i.eraseIdx a).filter f=i.filter f:=by
    intro i f
    induction i with
    |nil=>intro a j;simp at j
    |cons k i ih=>
     intro a j E
     cases a with
     |zero=>
      simp only[List.getElem_cons_zero]at E;simp[E]
     |succ a=>
      simp only[List.getElem_cons_succ]at E;simp only[List.eraseIdx_cons_succ,List.filter_cons];rw[ih a (by simpa using j) E]
   refine I _ _ a (by simpa using p) ?_
   cases a4: !seen.contains (b.toList[a]'(by simpa using p)).born with
   |false=>rfl
   |true=>exact absurd a0 (H _ (List.mem_filter.2 ⟨XY _,a4⟩))
  refine aH.mk (w':={w with heap:=w.heap.setIfInBounds r (.map (b.eraseIdxIfInBounds a) c)}) ?_ (K _ ⟨⟨_,_,d,seen,M,dm w r _ T,?_,?_,?_,(aj.setObj w r _).get P L,?_,R,S,?_⟩,y.tidy.bV e⟩ (aj.setObj w r _) sM)
  ·simp[Builtin.delete_,run_underlying J.under,dW m,ei x,z,eZ m]
  ·rw[(V Z).2,s,map_eraseIdx,n,map_eraseIdx]
  ·intro t v
   rw[s]at v;exact N t (List.mem_of_mem_eraseIdx v)
  ·rw[s,map_eraseIdx]
   exact O.sublist (List.eraseIdx_sublist _ _)
  ·intro t v
   rw[s]at v;exact Q t (List.mem_of_mem_eraseIdx v)
  ·rw[a3];exact F
def VQ{b:Value}(c:nu h g q A b)(d:cx w r enc l)(e:o (QH (l.length:Int)) w):aH h (Builtin.len_ #[g] c4 #[.map (some r)]) w o u:=by
 obtain⟨f,a,i,j,_⟩:=d.at';have k:f.size=l.length:=by have:=congrArg List.length j;simpa using this
 refine aH.mk (v:=QH (l.length:Int)) ?_ e;rw[<-k];simp[Builtin.len_,Builtin.lenOf,run_underlying c.under,dW i,goInt]
def CI(a:h.underlying g=some .string)(b:∀w',w'.heap[w.heap.size]? =some (.stringIter x 0)->ai w w'->w'.heap.size=w.heap.size+1->o (ZX w.heap.size) w'):aH h (Instr.range g (.string x)) w o u:=
 aH.mk (run_range_string w g x a) (b _ (World.iter_heap w x 0) (aj.alloc w _) (by simp[World.iter]))
def HL(b:w.heap[it]? =some (.stringIter x a))(d:x.size<=a->o (.tuple #[.bool false]) w)(e:a<x.size->∀w',w'.heap[it]? =some (.stringIter x (a+(Utf8.decode x a).2))->aj (·=it) w w'->w'.heap.size=w.heap.size->o (.tuple #[.bool true,QH (a:Int),.int .i32 ((Utf8.decode x a).1:Int)]) w'):
  aH h (Instr.next (ZX it) true g) w o u:=by
 by_cases c:a<x.size
 ·refine aH.mk (w':={w with heap:=w.heap.setIfInBounds it (.stringIter x (a+(Utf8.decode x a).2))}) ?_ (e c _ (dm w it _ (aC b)) (aj.setObj w it _) sM)
  simp[Instr.next,getObj,setObj,Sem.run,b,c,goInt]
 ·refine aH.mk ?_ (d oM)
  simp[Instr.next,getObj,Sem.run,b,c]
end
end Go.ax
