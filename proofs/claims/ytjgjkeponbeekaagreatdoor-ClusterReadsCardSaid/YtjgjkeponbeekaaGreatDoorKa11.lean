import Derived.Test.YtjgjkeponbeekaaGreatDoorKa10
import Derived.Maps.RangeRun
import Derived.Laws.RangeAny
set_option linter.all false
set_option maxHeartbeats 4000000
set_option maxRecDepth 100000
namespace Go.ar
open Go
def Kp(a:UInt8):IntKind.wrap .i64 (a.toNat:Int)=a.toNat:=wrap_i64 (by have:=a.toNat_lt;unfold aH;omega)
def kC(a:UInt8):Nat:=if 16<a.toNat then a.toNat-16 else a.toNat
def KI(b:UInt8):(IntKind.wrap .i64 (lf .u8 (b.toNat:Int) 16)<=8/\((b.toNat:Int)≠16)↔kC b<=8)/\(kC b<=8->IntKind.wrap .i64 (lf .u8 (b.toNat:Int) 16)=(kC b:Int)/\Ai .u8 (b.toNat:Int) 16=if 16<b.toNat then 16 else 0):=by
 have c:(List.range 256).all (λa=>decide ((IntKind.wrap .i64 (lf .u8 (a:Int) 16)<=8/\((a:Int)≠16)↔(if 16<a then a-16 else a)<=8)/\((if 16<a then a-16 else a)<=8->IntKind.wrap .i64 (lf .u8 (a:Int) 16)=((if 16<a then a-16 else a:Nat):Int)/\Ai .u8 (a:Int) 16=if 16<a then 16 else 0)))=true:=by decide+kernel
 have:=List.all_eq_true.1 c b.toNat (List.mem_range.2 b.toNat_lt);exact XV this
def KJ{a d:Nat}(e:a<72057594037927936)(f:d<256):Oe .u64 (Ht .u64 (a:Int) 8) (IntKind.wrap .u64 (d:Int))=((a*256+d:Nat):Int):=by
 have b:Ht .u64 (a:Int) 8=((a*256:Nat):Int):=by
  unfold Ht;have:min (Int.toNat 8) (IntKind.bits .u64)=8:=dC
  rw[this,wrap_u64];have:((2:Int) ^ 8)=256:=dC
  rw[this];omega
 rw[b,DU oM];unfold Oe;show IntKind.wrap .u64 ((BitVec.ofInt 64 ((a*256:Nat):Int)|||BitVec.ofInt 64 (d:Int)).toNat:Int)=_;have c:a*256|||d=a*256+d:=by
  have:=(Nat.shiftLeft_add_eq_or_of_lt (a:=a) (i:=8) (b:=d) oM).symm
  rwa [Nat.shiftLeft_eq]at this
 rw[BitVec.ofInt_natCast,BitVec.ofInt_natCast,BitVec.toNat_or,BitVec.toNat_ofNat,BitVec.toNat_ofNat,Nat.mod_eq_of_lt oM,Nat.mod_eq_of_lt oM,c,DU oM]
variable{x:List UInt8}{a:Nat}{b8:UInt8}
def Dy(b:x[a]? =some b8):fX (x.take (a+1))=fX (x.take a)*256+b8.toNat:=by
 rw[Qw,b];exact HX _ _
def nR(a:List UInt8){j m:Nat}(b:j<=m):fX (a.take j)<256 ^ m:=by
 have c:=LW (a.take j);have d:256 ^(a.take j).length<=256 ^ m:=Nat.pow_le_pow_right oM (by simp;omega);omega
def KK(a:¬kC b8<=8):rdNum (b8::x)=(5,0,0):=by
 unfold rdNum kC at*;simp only;rw[if_pos oM]
def HZ(b:kC b8<=8)(a:x.length<kC b8):rdNum (b8::x)=(4,0,0):=by
 unfold rdNum kC at*;simp only;rw[if_neg oM,if_pos a]
def NB(c:kC b8<=8)(a:¬x.length<kC b8)(b:(0<kC b8/\x.head? =some 0)\/(¬16<b8.toNat/\2 ^ 63<=fX (x.take (kC b8)))\/(16<b8.toNat/\2 ^ 63<fX (x.take (kC b8)))):rdNum (b8::x)=(5,0,0):=by
 unfold rdNum kC at*;simp only;rw[if_neg oM,if_neg a,if_pos b]
def Bw(c:kC b8<=8)(a:¬x.length<kC b8)(b:¬((0<kC b8/\x.head? =some 0)\/(¬16<b8.toNat/\2 ^ 63<=fX (x.take (kC b8)))\/(16<b8.toNat/\2 ^ 63<fX (x.take (kC b8))))):
  rdNum (b8::x)=(0,if 16<b8.toNat then-(fX (x.take (kC b8)):Int)else fX (x.take (kC b8)),kC b8+1):=by
 unfold rdNum kC at*;simp only;rw[if_neg oM,if_neg a,if_neg b]
end Go.ar
namespace Go.Proofs.YtjgjkeponbeekaaGreatDoor
open Go.ar
structure eJ (w:World) (p:Nat) (F:Nat->Prop) (r:lP):Prop where
 body:∃a n cap G,w.heap[p]? =some (.cells #[.slice a n cap,XH (r.pos:Int),XH r.uZ] 337 (0,0))/\aO fv 5 G w a n cap r.bytes/\(∀b,G b->F b/\b≠p)
 self:F p
 aB:∀b,F b->b<w.heap.size
 fit:r.Fit
 dN:r.bytes.length<=aK
variable{n:Array Value}{I:Bool}{z:FuncId}{e:Int}{a0:List PanicEntry->World->Prop}{x:List UInt8}{a c i:Nat}{f:Nat->Prop}{d:Option Addr}{p u:Value->World->Prop}{b l:World}{Y:lP}
def eJ.af{S e:Nat->Prop}(d:eJ b a e Y)(f:ak S b l)(i:∀c,e c->¬S c):eJ l a e Y:=by
 obtain⟨k,m,g,G,n,o,j⟩:=d.body;exact⟨⟨k,m,g,G,f.get n (i _ d.self),o.af f (λc h=>i c (j c h).1),j⟩,d.self,λc h=>Qk (d.aB c h) f.size,d.fit,d.dN⟩
def eJ.ah(c:eJ b a f Y)(d:ai b l):eJ l a f Y:=c.af d λ_ _ c=>c
def eJ.d_{g w':World}{h r':lP}(j:eJ g a f h){G:Nat->Prop}(m:aO fv 5 G g d c i h.bytes)(k:∀b,G b->f b/\b≠a)(l:ak (·=a) g w')(n:w'.heap[a]? =some (.cells #[.slice d c i,XH (r'.pos:Int),XH r'.uZ] 337 (0,0)))(e:r'.bytes=h.bytes)(o:r'.Fit):eJ w' a f r':=
 ⟨⟨d,c,i,G,n,by rw[e];exact m.af l λb e=>(k b e).2,k⟩,j.self,λb e=>Qk (j.aB b e) l.size,o,by rw[e];exact j.dN⟩
def Dw{D:Nat->Prop}(f:Row fv 1 b D d a x)(p:∀e,D e->e<b.heap.size):
  Calls XP 164 #[.slice d a c] b (Ok λq l=>∃m n,q= ZQ m/\eJ l m n ⟨x,0,0⟩/\ai b l/\∀e,n e->b.heap.size<=e):=by
 have r:=f.len;have s:=f.dN;refine Ho (y_ (aO.nil b) sK f (λe i=>⟨p e i,by simp[aF]⟩) (by simp;omega) (by unfold aK at s;unfold maxLen;simp;omega) λg t j A u v _ w=>?_);refine⟨_,_,_,rfl,PA.mk λB k C y=>?_⟩;have o:ai b j:=v.mono λe _ f=>by simp[aF]at f
 have h:=u.alone;rw[List.nil_append]at h;have z:∀e,aF g=some e->b.heap.size<=e:=λe f=>(w e f).elim (λi=>i.elim) id;refine Ok.mk ⟨j.heap.size,λe=>e=j.heap.size\/aF g=some e,rfl,⟨⟨g,_,t,λe=>aF g=some e,y,h.ah k,λe f=>⟨.inr f,?_⟩⟩,.inl rfl,?_,⟨Qj _,.inl rfl⟩,by rw[<-r];omega⟩,o.then k,?_⟩
 ·have:=h.aB e f;omega
 ·rintro e (rfl|f)
  ·omega
  ·have:=h.aB e f;have:=k.size;omega
 ·rintro e (rfl|f)
  ·exact o.size
  ·exact z e f
def Ti(a:Int):List PanicEntry:=[{v:=.iface 372 (XH a),recovered:=false}]
def fy(a:I=true->p (.tuple #[]) b)(c:I=false->a0 (Ti e) b):
  PC XP 287 #[.bool I,XH e] b p a0:=by
 cases I
 ·refine xp (al.tt rfl ?_)
  exact aG.panics (v:=.iface 372 (XH e)) rfl (c rfl)
 ·exact xp (al.ff rfl (a rfl))
def Uj(d:World)(c:Nat)(e:Nat->Prop)(a:lP)(no:Int)(h:Value->World->Prop)(i:Nat):Ending->World->Prop:=λf b=>
 ((no=0/\eJ b c e ⟨a.bytes,a.pos+i,a.uZ⟩/\∃g,f= .returned g/\h g b)\/(no≠0/\f= .panicked (Ti no)/\∃j,eJ b c e ⟨a.bytes,j,a.uZ⟩))/\ak (·=c) d b/\b.heap.size=d.heap.size
def PC.red{no:Int}(g:Calls XP z n b (Uj b a f Y no p c))(l:no=0->∀e d,eJ d a f ⟨Y.bytes,Y.pos+c,Y.uZ⟩->p e d->ak (·=a) b d->d.heap.size=b.heap.size->u e d)(m:no≠0->∀d,(∃o,eJ d a f ⟨Y.bytes,o,Y.uZ⟩)->ak (·=a) b d->d.heap.size=b.heap.size->a0 (Ti no) d):PC XP z n b u a0:=
 g.mono λr d ⟨g,j,k⟩=>by
  rcases g with⟨h,i,e,rfl,q⟩|⟨h,rfl,i⟩
  ·exact l h e d i q j k
  ·exact m h d i j k
def LZ{m:Nat}(e:eJ b a f Y)(N:m<=2147483647):
  Calls XP 288 #[ZQ a,XH (m:Int)] b (Uj b a f Y (if m<=Y.bytes.length-Y.pos then 0 else 4) (λy z=>∃g A,y= .slice g m A/\Row fv 1 z f g m ((Y.bytes.drop Y.pos).take m)) m):=by
 obtain⟨g,r,c,G,B,i,l⟩:=e.body;have O:=e.fit.pos;have C:=e.dN;have P:=i.len dC;have E:=i.jT;unfold aK at C;refine tm λs t=>?_;have j:ai b s:=t.af;have k:=j.get B id;have u:s.heap.size=b.heap.size:=by rw[t.heap]
 refine⟨a,0,rfl,g,r,c,ae k rfl,a,0,rfl,_,ae k rfl,fy (λd=>?_) (λd=>?_)⟩
 ·have d:=XV d
  rw[wrap_i64 (by unfold aH;omega)]at d;refine⟨rfl,a,0,rfl,_,ae k rfl,a,0,rfl,PS.mk k sM λF H I h=>?_⟩;have J:IntKind.wrap .i64 ((Y.pos:Int)+(m:Int))=((Y.pos+m:Nat):Int):=by rw[wrap_i64 (by unfold aH;omega)];omega
  rw[J]at h;have K:IntKind.wrap .i64 (((Y.pos+m:Nat):Int)-(m:Int))=(Y.pos:Int):=by rw[wrap_i64 (by unfold aH;omega)];omega
  refine⟨a,0,rfl,g,r,c,ae h rfl,a,0,rfl,_,ae h rfl,a,0,rfl,_,ae h rfl,?_⟩;rw[K];refine⟨oM,oM,oM,λn v=>?_⟩;have w:ai F n:=v.af;have o:ak (·=a) b n:=((j.af).then H).ah w;have L:eJ n a f ⟨Y.bytes,Y.pos+m,Y.uZ⟩:=e.d_ (r':=⟨Y.bytes,Y.pos+m,Y.uZ⟩) i l o (w.get h id) rfl ⟨by show Y.pos+m<=Y.bytes.length;omega,e.fit.uZ⟩;refine⟨.inl ⟨if_pos oM,L,_,rfl,cG g Y.pos c 1,c-Y.pos,?_⟩,o,by rw[v.heap,I,u]⟩;simp only[Qx];rw[show Y.pos+m-Y.pos=m by omega];refine⟨rfl,?_⟩;have p:=(i.row (bytes:=1) dC (by unfold aK;omega)).part (lo:=Y.pos) (hi:=Y.pos+m) (cap:=c) oM oM E;rw[show Y.pos+m-Y.pos=m by omega]at p;have M:(Y.bytes.take (Y.pos+m)).drop Y.pos=(Y.bytes.drop Y.pos).take m:=by rw[List.drop_take];congr 1;omega
  rw[M]at p;exact((p.af o λq d=>(l q d).2)).mono λq d=>(l q d).1
 ·intro _ _
  have d:=Xy d;rw[wrap_i64 (by unfold aH;omega)]at d;have x:¬m<=Y.bytes.length-Y.pos:=oM
  refine⟨.inr ⟨by rw[if_neg x];decide,by rw[if_neg x],Y.pos,?_⟩,j.af,u⟩;exact e.ah j
def DV(N:eJ b a f Y):
  Calls XP 230 #[ZQ a] b (Uj b a f Y Y.num.1 (λu h=>u= XH Y.num.2.1) Y.num.2.2):=by
 have y:=N.fit.pos;have s:(Y.bytes.drop Y.pos).length=Y.bytes.length-Y.pos:=XZ ..;generalize t:Y.bytes.drop Y.pos=B at s;have Z:Y.num=rdNum B:=by unfold lP.num;rw[t]
 rw[Z];refine o_ (PC.red (LZ (m:=1) N oM) ?_ ?_)
 rotate_left
 ·intro m z C v w
  have:¬1<=Y.bytes.length-Y.pos:=λk=>m (if_pos k);rw[if_neg this];have:B=[]:=QW oM;subst this;exact⟨.inr ⟨dC,rfl,C⟩,v,w⟩
 rintro m _ z O ⟨a1,c1,rfl,P⟩ v w;have Q:1<=Y.bytes.length-Y.pos:=by
  by_cases k:1<=Y.bytes.length-Y.pos
  ·exact k
  ·rw[if_neg k]at m;cases m
 rw[t]at P
 match B,t,s with
 |[],t,s=>simp at s;omega
 |c::g,t,s=>
 have b1:g.length=Y.bytes.length-Y.pos-1:=by simp at s;omega
 have a7:Y.bytes.drop (Y.pos+1)=g:=by rw[<-List.drop_drop,t];rfl
 obtain⟨b5,o6,o,rfl,p,_,d⟩:=P.l_ (i:=0) oM;obtain rfl:c=o:=by simpa using p
 obtain⟨E,a8⟩:=KI c;refine⟨_,_,_,rfl,b5,o6,rfl,oM,oM,_,d,?_⟩;refine⟨λh=>kC c<=8/\h=z,?_,?_⟩
 ·have l:¬kC c<=8->∀h,h=z->Uj b a f Y (rdNum (c::g)).1 (λu h=>u= XH (rdNum (c::g)).2.1) (rdNum (c::g)).2.2 (.panicked (Ti 5)) h:=by
   rintro q h rfl;rw[KK q];exact⟨.inr ⟨dC,rfl,Y.pos+1,O⟩,v,w⟩
  refine al.dec (λF=>fy (λe=>⟨rfl,?_,rfl⟩) (λe=>l ?_ _ rfl)) (λF=>fy (λe=>(by cases e)) λ_=>l ?_ _ rfl)
  ·exact E.1 ⟨F,by simpa using e⟩
  ·intro q
   have:=(E.2 q).2;simp only[bne_eq_false_iff_eq]at e;exact this e
  ·intro q
   exact F (E.2 q).1
 rintro _ z ⟨x,rfl⟩;obtain⟨q,a9⟩:=a8 x;rw[q];refine PC.red (LZ (m:=kC c) O oM) ?_ ?_
 rotate_left
 ·intro m n C H I
  have hn:¬kC c<=Y.bytes.length-(Y.pos+1):=λk=>m (if_pos k);rw[if_neg hn,HZ x oM];exact⟨.inr ⟨dC,rfl,C⟩,v.then H,I.trans w⟩
 rintro m _ n R ⟨a2,c2,rfl,A⟩ H I;have b2:kC c<=g.length:=by
  by_cases k:kC c<=Y.bytes.length-(Y.pos+1)
  ·omega
  ·simp only at m;rw[if_neg k]at m;cases m
 change Row fv 1 n f a2 (kC c) ((Y.bytes.drop (Y.pos+1)).take (kC c))at A
 rw[a7]at A;have S:eJ n a f ⟨Y.bytes,Y.pos+(kC c+1),Y.uZ⟩:=by have:=R;rwa [show Y.pos+(kC c+1)=Y.pos+1+kC c by omega]
 have J:ak (·=a) b n:=v.then H;have K:=I.trans w;have l:((0<kC c/\g.head? =some 0)\/(¬16<c.toNat/\2 ^ 63<=fX (g.take (kC c)))\/(16<c.toNat/\2 ^ 63<fX (g.take (kC c))))->∀h,h=n->Uj b a f Y (rdNum (c::g)).1 (λu h=>u= XH (rdNum (c::g)).2.1) (rdNum (c::g)).2.2 (.panicked (Ti 5)) h:=by
  rintro e h rfl;rw[NB x oM e];exact⟨.inr ⟨dC,rfl,_,R⟩,J,K⟩
 refine⟨_,_,_,rfl,λh=>¬(0<kC c/\g.head? =some 0)/\h=n,?_,?_⟩
 ·refine al.dA (λk=>fy (λ_=>⟨rfl,λd=>oM,rfl⟩) (λe=>by cases e)) (λk=>?_)
  have y:0<kC c:=oM
  obtain⟨L,M,o,rfl,p,_,d⟩:=A.l_ (i:=0) y;have T:g.head? =some o:=by
   rw[Xw,if_pos y]at p;rw[List.head?_eq_getElem?];exact p
  refine⟨L,M,rfl,oM,oM,_,d,fy (λe=>⟨rfl,λd=>?_,rfl⟩) (λe=>l (.inl ⟨y,?_⟩) _ rfl)⟩
  ·rw[T]at d
   have:=d.2;simp only[Q1]at this;subst this;simp at e
  ·rw[T]
   have:(o.toNat:Int)=0:=by simpa using e
   exact congrArg some (UInt8.toNat_inj.1 (by
                         have:o.toNat=0:=oM
                         rw[this];rfl))
 rintro _ n ⟨U,rfl⟩;refine⟨λV W i h=>∃j:Nat,j<=kC c/\i=j/\V=kC c-j/\h=n/\W=(fX (g.take j):Int),⟨_,0,Qj _,rfl,rfl,rfl,rfl⟩,?_⟩;rintro V W i _ n ⟨j,hj,rfl,rfl,rfl,rfl⟩;refine al.dec (λh1=>?_) (λh1=>?_)
 ·have X:j<kC c:=oM
  obtain⟨L,M,o,rfl,p,_,d⟩:=A.l_ (i:=j) X;rw[Xw,if_pos X]at p;refine⟨L,M,rfl,oM,oM,_,d,_,oM,j+1,oM,aq oM,rfl,rfl,?_⟩;have b0:=nR g (j:=j) (m:=7) oM;rw[KJ (by
            have:(256:Nat) ^ 7=72057594037927936:=dC
            omega) o.toNat_lt,Dy p]
 ·obtain rfl:j=kC c:=oM
  have b0:=nR g (j:=kC c) (m:=8) oM;have b3:(256:Nat) ^ 8=18446744073709551616:=dC
  have b4:(2:Nat) ^ 63=9223372036854775808:=dC
  rw[a9];refine al.dA (λk=>?_) (λk=>?_)
  ·have r:¬16<c.toNat:=by intro d;rw[if_pos d]at k;cases k
   refine fy (λe=>⟨rfl,?_⟩) (λe=>l (.inr (.inl ⟨r,?_⟩)) _ rfl)
   ·have e:=XV e
    rw[Bw x oM (λd=>d.elim U λd=>d.elim (λd=>oM) λd=>r d.1),if_neg r];exact⟨.inl ⟨rfl,S,_,rfl,by rw[wrap_i64 (by unfold aH;omega)]⟩,J,K⟩
   ·have e:=Xy e
    omega
  ·have r:16<c.toNat:=by
    by_cases d:16<c.toNat
    ·exact d
    ·rw[if_neg d]at k;exact absurd rfl k
   refine fy (λe=>⟨rfl,?_⟩) (λe=>l (.inr (.inr ⟨r,?_⟩)) _ rfl)
   ·have e:=XV e
    rw[Bw x oM (λd=>d.elim U λd=>d.elim (λd=>d.1 r) λd=>oM),if_pos r];refine⟨.inl ⟨rfl,S,_,rfl,?_⟩,J,K⟩;have e1:IntKind.wrap .i64 (IntKind.wrap .u64 (0-(fX (g.take (kC c)):Int)))= -(fX (g.take (kC c)):Int):=by
     unfold IntKind.wrap;simp[IntKind.signed,IntKind.bits];omega
    rw[e1]
   ·have e:=Xy e
    omega
end Go.Proofs.YtjgjkeponbeekaaGreatDoor
namespace Go.Proofs.YtjgjkeponbeekaaGreatDoor
open Go.ar
def uq:ft:=⟨[],[],[],[],[(0,⟨[0,0,2,4,8,0,0,64,128,256,512,1056,2048,4112,8192,32767,65535,98303],[262143,262143,262141,262139,262135,262143,262143,262079,262015,261887,261631,261087,260095,258031,253951,262142,229375,180223],[0,0,0,0,1,0,0,0,0,1,0,0,0,0,2,0,0,2]⟩)]⟩
variable{s:Ending->World->Prop}{e:Int}{d:Option Addr}{b:World}
def ur(A:(∀c,bd b c->(∃h i,d=some ⟨h,i,none⟩/\(∃(j:Option Addr) (B:Nat) (f:Nat),c.cell? ⟨h,i,none⟩=some (.slice j B f)/\
   (∃k l,d=some ⟨k,l,none⟩/\(∃(C:Option Addr) (a:Nat) (E:Nat),c.cell? ⟨k,l,none⟩=some (.slice C a E)/\((0:Int)<=(if(if((a:Nat):Int)<e then((a:Nat):Int)else e)>0 then(if((a:Nat):Int)<e then((a:Nat):Int)else e)else 0)/\
   ((if(if((a:Nat):Int)<e then((a:Nat):Int)else e)>0 then(if((a:Nat):Int)<e then((a:Nat):Int)else e)else 0):Int)<=((f:Nat):Int)/\
   PC XP 207 #[.slice j (Int.toNat (if(if((a:Nat):Int)<e then((a:Nat):Int)else e)>0 then(if((a:Nat):Int)<e then((a:Nat):Int)else e)else 0)) f] c (λF H=>
   ∃(m:Option Addr) (n:Nat) (o:Nat),F= .slice m n o/\(∃p q,d=some ⟨p,q,none⟩/\PS H ⟨p,q,none⟩ (.slice m n o) λr=>
   (∃t u,d=some ⟨t,u,none⟩/\(∃(I:Option Addr) (v:Nat) (J:Nat),r.cell? ⟨t,u,none⟩=some (.slice I v J)/\
   (∃w x,d=some ⟨w,x,none⟩/\PS r ⟨w,x+1,none⟩ (XH ((v:Nat):Int)) λK=>(∃y z,d=some ⟨y,z,none⟩/\
   PS K ⟨y,z+2,none⟩ (.bool true) λL=>s (.returned (.tuple #[])) L)))))) (λM g=>∀(_:bG) (_:cC),s (.panicked M) g)))))))):
  Calls XP 139 #[.pointer d,XH e] b s:=
 fu uq mixed Tryz.func139 rfl (Nat.le_of_ble_eq_true kR) kR (Eq.mp kR A)
end Go.Proofs.YtjgjkeponbeekaaGreatDoor
namespace Go.ar
open Go
def aE{a b:Type}[BEq a](d:List (a×b))(c:a):Option b:=match d with
 |[]=>none
 |(e,f)::g=>if c==e then some f else aE g c
def aI{a c:Type}[BEq a](g:List (a×c))(b:a)(d:c):List (a×c):=match g with
 |[]=>[(b,d)]
 |(e,h)::f=>if b==e then(b,d)::f else(e,h)::aI f b d
def bV{a b:Type}[BEq a](f:List (a×b))(c:a):List (a×b):=match f with
 |[]=>[]
 |(d,g)::e=>if c==d then e else(d,g)::bV e c
variable{e3:Array MapEntry}{a c:Nat}{h:Program}{J j:Type}{e2:TypeDesc}{B c0 f5 g q:TypeId}{e4:TypeInfo}{b9 v:Value}{p u:Value->World->Prop}{b l:World}{y:World->Prop}
def qT[BEq j][LawfulBEq j](f:List (j×J))(b a:j)(h:J):aE (aI f b h) a=if a==b then some h else aE f a:=by
 induction f with
 |nil=>simp[aI,aE]
 |cons i m k=>
  obtain⟨d,n⟩:=i;unfold aI
  by_cases c:b==d
  ·rw[if_pos c]
   have g:b=d:=by simpa using c
   subst g;unfold aE;split<;>rfl
  ·rw[if_neg c]
   unfold aE
   by_cases e:a==d
   ·rw[if_pos e]
    have g:a=d:=by simpa using e
    subst g;have:(a==b)=false:=by
     cases l:a==b
     ·rfl
     ·exfalso;apply c;have:a=b:=by simpa using l
      simp[this]
    rw[this];simp[aE,c]
   ·rw[if_neg e];rw[k];simp[aE,e]
def Tidy{a b:Type}(c:List (a×b)):Prop:=(c.map (·.1)).Nodup
def Qd[BEq j][LawfulBEq j]{b:List (j×J)}{a:j}{e:J}{c:j}:c∈(aI b a e).map (·.1)↔c=a\/c∈b.map (·.1):=by
 induction b with
 |nil=>simp[aI]
 |cons f k g=>
  obtain⟨d,l⟩:=f;unfold aI
  by_cases h:a==d
  ·rw[if_pos h]
   have i:a=d:=by simpa using h
   subst i;simp
  ·rw[if_neg h]
   simp only[QY,Q2,g];constructor
   ·rintro(h|h|h)<;>simp[h]
   ·rintro(h|h|h)<;>simp[h]
def Tidy.aI{a g:Type}[BEq a][LawfulBEq a]{d:List (a×g)}(b:Tidy d)(e:a)(i:g):Tidy (aI d e i):=by
 unfold Tidy at*
 induction d with
 |nil=>simp[ar.aI]
 |cons j m k=>
  obtain⟨h,n⟩:=j;simp only[QY,List.nodup_cons]at b;unfold ar.aI
  by_cases c:e==h
  ·rw[if_pos c]
   have l:e=h:=by simpa using c
   subst l;simpa using b
  ·rw[if_neg c]
   simp only[QY,List.nodup_cons];refine⟨λf=>?_,k b.2⟩;rcases Qd.1 f with rfl|f
   ·simp at c
   ·exact b.1 f
def Qe[BEq j][LawfulBEq j]{b:List (j×J)}{d c:j}(a:c∈(bV b d).map (·.1)):c∈b.map (·.1):=by
 induction b with
 |nil=>simp[bV]at a
 |cons e g f=>
  obtain⟨h,i⟩:=e;unfold bV at a;split at a
  ·simp only[QY,Q2];exact .inr a
  ·simp only[QY,Q2]at a⊢
   rcases a with a|a
   ·exact .inl a
   ·exact .inr (f a)
def Tidy.bV{a d:Type}[BEq a][LawfulBEq a]{c:List (a×d)}(b:Tidy c)(e:a):Tidy (bV c e):=by
 unfold Tidy at*
 induction c with
 |nil=>simp[ar.bV]
 |cons f i g=>
  obtain⟨j,k⟩:=f;simp only[QY,List.nodup_cons]at b;unfold ar.bV;split
  ·exact b.2
  ·simp only[QY,List.nodup_cons]
   exact⟨λh=>b.1 (Qe h),g b.2⟩
def jP[BEq j][LawfulBEq j]{c:List (j×J)}{a:j}:aE c a=none↔a∉c.map (·.1):=by
 induction c with
 |nil=>simp[aE]
 |cons e h f=>
  obtain⟨d,i⟩:=e;unfold aE
  by_cases b:a==d
  ·have g:a=d:=by simpa using b
   rw[if_pos b];subst g;simp
  ·rw[if_neg b,f]
   have:a≠d:=by rintro rfl;simp at b
   simp[this]
def MV[BEq j][LawfulBEq j]{d:List (j×J)}(i:Tidy d)(b a:j):aE (bV d b) a=if a==b then none else aE d a:=by
 induction d with
 |nil=>simp[bV,aE]
 |cons k n l=>
  obtain⟨e,o⟩:=k;have g:=i;simp only[Tidy,QY,List.nodup_cons]at g;unfold bV
  by_cases f:b==e
  ·rw[if_pos f]
   have h:b=e:=by simpa using f
   subst h
   by_cases c:a==b
   ·have:a=b:=by simpa using c
    subst this;simp only[beq_self_eq_true,if_true];exact jP.2 g.1
   ·rw[if_neg c]
    simp[aE,c]
  ·rw[if_neg f]
   unfold aE
   by_cases c:a==e
   ·have h:a=e:=by simpa using c
    subst h;have:(a==b)=false:=by
     cases m:a==b
     ·rfl
     ·exfalso;apply f;have:a=b:=by simpa using m
      simp[this]
    simp[this]
   ·rw[if_neg c,if_neg c];exact l g.2
def bS[BEq j][LawfulBEq j]{b:List (j×J)}{c:j}{d:J}(a:aE b c=some d):(c,d)∈b:=by
 induction b with
 |nil=>simp[aE]at a
 |cons e k f=>
  obtain⟨g,l⟩:=e;unfold aE at a;split at a
  ·rename_i h
   have i:c=g:=by simpa using h
   subst i
   cases a
   simp
  ·exact QJ _ (f a)
def eM[BEq j][LawfulBEq j]{a:List (j×J)}{c:j}{d:J}{b:j×J}(h:b∈aI a c d):b=(c,d)\/b∈a:=by
 induction a with
 |nil=>simpa[aI]using h
 |cons e g f=>
  obtain⟨i,k⟩:=e;unfold aI at h;split at h
  ·rcases Q2.1 h with h|h
   ·exact .inl h
   ·exact .inr (QJ _ h)
  ·rcases Q2.1 h with h|h
   ·exact .inr (h▸QV ..)
   ·rcases f h with h|h
    ·exact .inl h
    ·exact .inr (QJ _ h)
def fN[BEq j][LawfulBEq j]{a:List (j×J)}{c:j}{b:j×J}(h:b∈bV a c):b∈a:=by
 induction a with
 |nil=>simp[bV]at h
 |cons d f e=>
  obtain⟨g,i⟩:=d;unfold bV at h;split at h
  ·exact QJ _ h
  ·rcases Q2.1 h with h|h
   ·exact h▸QV ..
   ·exact QJ _ (e h)
def qh[BEq j][LawfulBEq j]{a:List (j×J)}(c:Tidy a){k:j}{v:J}(d:(k,v)∈a):aE a k=some v:=by
 induction a with
 |nil=>cases d
 |cons e i f=>
  obtain⟨g,l⟩:=e;simp only[Tidy,QY,List.nodup_cons]at c;unfold aE;rcases Q2.1 d with b|b
  ·cases b;simp
  ·have:k≠g:=by
    intro h;exact c.1 (Xk.2 ⟨(k,v),b,h⟩)
   rw[if_neg (by simpa using this)];exact f c.2 b
def xh[BEq j](a:List (j×J))(b:j)(c:J):(aI a b c).length<=a.length+1:=by
 induction a with
 |nil=>simp[aI]
 |cons d e f=>
  unfold aI;split
  ·simp
  ·simp;omega
def HC[BEq j](a:List (j×J))(b:j):(bV a b).length<=a.length:=by
 induction a with
 |nil=>simp[bV]
 |cons c d e=>
  unfold bV;split
  ·simp
  ·simp;omega
def eT{a b c:Type}(d:b->c->Prop):List (a×b)->List (a×c)->Prop
 |[],[]=>True
 |(e,f)::g,(h,i)::j=>e=h/\d f i/\eT d g j
 |_,_=>False
def eT.keys{c d e:Type}{g:d->e->Prop}:∀{a:List (c×d)} {b:List (c×e)},eT g a b->a.map (·.1)=b.map (·.1)
 |[],[],_=>rfl
 |(h,i)::a,(j,k)::b,f=>by simp[f.1,eT.keys f.2.2]
def eT.mono{f g h:Type}{i j:g->h->Prop}:∀{a:List (f×g)} {b:List (f×h)},eT i a b->(∀c d,i c d->j c d)->eT j a b
 |[],[],_,_=>trivial
 |(l,c)::a,(m,d)::b,e,k=>⟨e.1,k _ _ e.2.1,eT.mono e.2.2 k⟩
def eT.aE{b g h:Type}[BEq b]{i:g->h->Prop}(a:b):∀{c:List (b×g)} {d:List (b×h)},eT i c d->
  (ar.aE c a=none/\ar.aE d a=none)\/∃e f,ar.aE c a=some e/\ar.aE d a=some f/\i e f
 |[],[],_=>.inl ⟨rfl,rfl⟩
 |(k,e)::c,(o,f)::d,l=>by
  obtain⟨rfl,m,n⟩:=l;unfold ar.aE
  by_cases j:a==k
  ·simp only[j,if_true];exact .inr ⟨e,f,rfl,rfl,m⟩
  ·simp only[j];exact eT.aE a n
def eT.aI{a b c:Type}[BEq a]{R:b->c->Prop}{d:a}{h:b}{i:c}(e:R h i):∀{f:List (a×b)} {g:List (a×c)},eT R f g->eT R (ar.aI f d h) (ar.aI g d i)
 |[],[],_=>⟨rfl,e,trivial⟩
 |(l,o)::f,(p,q)::g,m=>by
  obtain⟨rfl,n,j⟩:=m;unfold ar.aI
  by_cases k:d==l
  ·simp only[k,if_true];exact⟨rfl,e,j⟩
  ·simp only[k];exact⟨rfl,n,eT.aI e j⟩
def eT.bV{a e f:Type}[BEq a]{g:e->f->Prop}{b:a}:∀{c:List (a×e)} {d:List (a×f)},eT g c d->eT g (ar.bV c b) (ar.bV d b)
 |[],[],_=>trivial
 |(j,m)::c,(n,o)::d,k=>by
  obtain⟨rfl,l,h⟩:=k;unfold ar.bV
  by_cases i:b==j
  ·simp only[i,if_true];exact h
  ·simp only[i];exact⟨rfl,l,eT.bV h⟩
def eT.length{a b c:Type}{f:b->c->Prop}{d:List (a×b)}{e:List (a×c)}(g:eT f d e):d.length=e.length:=by
 have:=congrArg List.length g.keys;simpa using this
structure bD {κ:Type} (w:World) (r:Nat) (enc:κ->Value) (l:List (κ×Value)):Prop where
 at':∃es clock,w.heap[r]? =some (.map es clock)/\es.toList.map (λe=>(e.key,e.val))=l.map (λp=>(enc p.1,p.2))/\
  (∀e∈es.toList,e.born<clock)/\(es.toList.map (·.born)).Nodup
 tidy:Tidy l
def bD.af{S:Nat->Prop}{d:j->Value}{f:List (j×Value)}(g:bD b a d f)(h:ak S b l)(i:¬S a):bD l a d f:=by
 obtain⟨k,c,m,e⟩:=g.at';exact⟨⟨k,c,h.get m i,e⟩,g.tidy⟩
def bD.ah{c:j->Value}{d:List (j×Value)}(e:bD b a c d)(f:ai b l):bD l a c d:=e.af f id
def bD.lt{c:j->Value}{f:List (j×Value)}(g:bD b a c f):a<b.heap.size:=by
 obtain⟨i,d,h,e⟩:=g.at';exact ax h
def bD.new{c:j->Value}(d:b.heap[a]? =some (.map #[] 0)):bD b a c ([]:List (j×Value)):=
 ⟨⟨_,_,d,rfl,sM,sM⟩,by simp[Tidy]⟩
def lX{a:Type}[BEq a](d:List (a×Value))(b:a)(c:Nat):Option (Nat×Value):=match d with
 |[]=>none
 |(e,f)::g=>if b==e then some (c,f)else lX g b (c+1)
def Bp{c:Type}[BEq c][LawfulBEq c]{a:c->Value}{i:TypeDesc}(j:∀k l,Instr.sameNow i (a k) (a l)=some (k==l))(d:c):
  ∀(f:List MapEntry) (g:List (c×Value)) (h:Nat),f.map (λe=>(e.key,e.val))=g.map (λm=>(a m.1,m.2))->Instr.findNow i (a d) f h=some (lX g d h)
 |[],[],_,_=>rfl
 |[],_::_,_,b=>by simp at b
 |_::_,[],_,b=>by simp at b
 |e::f,(n,r)::g,h,b=>by
  simp only[QY,List.cons.injEq,Prod.mk.injEq]at b;obtain⟨⟨o,p⟩,q⟩:=b;unfold Instr.findNow lX;rw[o,j]
  cases s:d==n
  ·simp only[Bool.false_eq_true,if_false]
   exact Bp j d f g (h+1) q
  ·simp[p]
def FP[BEq j]{a:j->Value}(c:∀d e,Instr.sameNow e2 (a d) (a e)=none)(f:j)(b:MapEntry)(g:List MapEntry)(h:j)(i:b.key=a h)(k:Nat):Instr.findNow e2 (a f) (b::g) k=none:=by
 unfold Instr.findNow;rw[i,c]
def su{c:Type}[BEq c]{j:Program}{k:TypeId}{a:c->Value}{d:World}(l:∀m n,(Op.equal k (a m) (a n)).run j d= .ok (m==n) d)(f:c):
  ∀(g:List MapEntry) (h:List (c×Value)) (i:Nat),g.map (λe=>(e.key,e.val))=h.map (λo=>(a o.1,o.2))->(Instr.findAsking k (a f) g i).run j d= .ok (lX h f i) d
 |[],[],_,_=>rfl
 |[],_::_,_,b=>by simp at b
 |_::_,[],_,b=>by simp at b
 |e::g,(p,t)::h,i,b=>by
  simp only[QY,List.cons.injEq,Prod.mk.injEq]at b;obtain⟨⟨q,r⟩,s⟩:=b;unfold Instr.findAsking lX;rw[q];simp only[Sem.run_bind,l,Result.andThen_ok]
  cases u:f==p
  ·simpa using su l f g h (i+1) s
  ·simp[r]
structure im {κ:Type} [BEq κ] (P:Program) (kt:TypeId) (enc:κ->Value):Prop where
 find:∀(k:κ) (es:List MapEntry) (l:List (κ×Value)) (w:World),es.map (λe=>(e.key,e.val))=l.map (λp=>(enc p.1,p.2))->(Instr.findKey kt (enc k) es).run P w= .ok (lX l k 0) w
 check:∀k w e,(Instr.checkKey e 10000 kt (enc k)).run P w= .ok () w
 same:∀n a,Instr.sameBits (n+1) (enc a) (enc a)=true
 inj:∀{a b},enc a=enc b->a=b
def im.flat[BEq j][LawfulBEq j]{a:j->Value}(n:h.underlying g=some e2)(k:∀b c,Instr.sameNow e2 (a b) (a c)=some (b==c))(o:∀l d e f,(Instr.checkKey f (l+1) g (a d)).run h e= .ok () e)(i:∀l b,Instr.sameBits (l+1) (a b) (a b)=true):im h g a:=
 ⟨λd p q e r=>by simp[Instr.findKey,run_underlying n,Bp k d p q 0 r],λd e f=>o 9999 d e f,i,λ{b c} f=>by
  have m:=k b c;rw[f,k c c]at m;simpa using m.symm⟩
def im.struct[BEq j]{a:j->Value}(p:h.underlying g=some e2)(r:∀b c,Instr.sameNow e2 (a b) (a c)=none)(s:∀b c d,(Op.equal g (a b) (a c)).run h d= .ok (b==c) d)(t:∀i d k,(Instr.checkKey k 10000 g (a i)).run h d= .ok () d)(e:∀u b,Instr.sameBits (u+1) (a b) (a b)=true)(n:∀{b c},a b=a c->b=c):im h g a:=by
 refine⟨λi l f d m=>?_,t,e,n⟩
 cases l with
 |nil=>
  cases f with
  |nil=>simp[Instr.findKey,run_underlying p,Instr.findNow,lX]
  |cons o f=>simp at m
 |cons k l=>
  cases f with
  |nil=>simp at m
  |cons o f=>
   have q:=m;simp only[QY,List.cons.injEq,Prod.mk.injEq]at q;simp only[Instr.findKey,Sem.run_bind,run_underlying p,Result.andThen_ok,FP r i k l o.1 q.1.1];exact su (λb c=>s b c d) i (k::l) (o::f) 0 m
def wV[BEq j][LawfulBEq j](b:List (j×Value))(c:j):∀a,(lX b c a).map (·.2)=aE b c:=by
 induction b with
 |nil=>intro a;rfl
 |cons d f e=>
  intro a;obtain⟨g,h⟩:=d;unfold lX aE;split
  ·rfl
  ·exact e (a+1)
def jf[BEq j][LawfulBEq j]{a:j->Value}(k:im h g a)(b:j)(c:List MapEntry)(d:List (j×Value))(l:c.map (λf=>(f.key,f.val))=d.map (λi=>(a i.1,i.2)))(e:World):
  (Instr.findKey g (a b) c).run h e= .ok (lX d b 0) e:=by
 exact k.find b c d e l
def c_(d:b.heap[a]? =some (.map e3 c)):(getObj a).run h b= .ok (.map e3 c) b:=by
 simp[getObj,Sem.run,d]
def df[BEq j][LawfulBEq j]{a:j->Value}(e:im h g a)(c:Bool)(d:j)(b:World):(Instr.checkKey c 10000 g (a d)).run h b= .ok () b:=by
 exact e.check d b c
def CG(b:h.info? g=some e4)(c:e4.zero=some v)(a:World):(zeroValue g).run h a= .ok v a:=by
 simp[zeroValue,typeInfo,b,c]
structure lx (P:Program) (t kt vt:TypeId) (z:Value):Prop where
 under:P.underlying t=some (.map kt vt)
 zero:(P.info? vt).bind (·.zero)=some z
def lx.LV(d:lx h g q B v)(b:World):(zeroValue B).run h b= .ok v b:=by
 have a:=d.zero
 cases c:h.info? B with
 |none=>rw[c]at a;cases a
 |some e=>rw[c]at a;exact CG c a b
def dK[BEq j][LawfulBEq j]{c:j->Value}(l:lx h g q B v)(m:im h q c){d:List (j×Value)}(o:bD b a c d)(e:j)(i:Bool):
  (Instr.lookup g (.map (some a)) (c e) i).run h b= .ok (if i then .tuple #[(aE d e).getD v,.bool (aE d e).isSome]else(aE d e).getD v) b:=by
 obtain⟨p,k,r,s,_⟩:=o.at';have t:=jf m e p.toList d s b;have f:=wV d e 0;simp only[Instr.lookup,Sem.run_bind,run_underlying l.under,Result.andThen_ok,c_ r,df m,t,Sem.run_pure]
 cases n:lX d e 0 with
 |none=>rw[n]at f;simp only[Option.map_none]at f;rw[<-f];cases i<;>simp[l.LV]
 |some u=>rw[n]at f;simp only[Option.map_some]at f;rw[<-f];cases i<;>simp
def yZ[BEq j][LawfulBEq j]{c:j->Value}(f:lx h g q B v)(i:im h q c){e:List (j×Value)}(k:bD b a c e){d:j}(l:p ((aE e d).getD v) b):aG h (Instr.lookup g (.map (some a)) (c d) false) b p u:=aG.mk (dK f i k d false) l
def iH[BEq j][LawfulBEq j]{enc:j->Value}(d:lx h g q B v)(e:im h q enc){c:List (j×Value)}(f:bD b a enc c){k:j}(i:p (.tuple #[(aE c k).getD v,.bool (aE c k).isSome]) b):aG h (Instr.lookup g (.map (some a)) (enc k) true) b p u:=aG.mk (dK d e f k true) i
def ak.setObj(a:World)(b:Nat)(c:Obj):ak (·=b) a {a with heap:=a.heap.setIfInBounds b c}:=
 ⟨rfl,rfl,rfl,sM,λe f d=>by simp[Array.getElem?_setIfInBounds,Ne.symm d]⟩
def mY[BEq j][LawfulBEq j]{c:List (j×Value)}{d:j}:∀{a b:Nat} {g:Value},lX c d a=some (b,g)->a<=b/\b-a<c.length/\c[b-a]? =some (d,g)/\∀i,aI c d i=c.set (b-a) (d,i)/\bV c d=c.eraseIdx (b-a):=by
 induction c with
 |nil=>intro a b g e;simp[lX]at e
 |cons n w o=>
  intro a b g e;obtain⟨p,i⟩:=n;unfold lX at e;split at e
  ·rename_i h
   cases e
   have q:d=p:=by simpa using h
   subst q;simp[aI,bV]
  ·rename_i h
   obtain⟨x,k,l,m⟩:=o e;obtain⟨f,rfl⟩:∃f,b=a+1+f:=⟨b-(a+1),oM⟩
   have r:a+1+f-a=f+1:=oM
   have s:a+1+f-(a+1)=f:=oM
   rw[s]at k l m;rw[r];refine⟨oM,by simpa using k,by simpa using l,λt=>?_⟩;obtain⟨u,v⟩:=m t;unfold aI bV;rw[if_neg h,if_neg h];simp[u,v]
def qW[BEq j][LawfulBEq j]{a:List (j×Value)}{b:j}:∀{d:Nat},lX a b d=none->(∀e,aI a b e=a++[(b,e)])/\bV a b=a:=by
 induction a with
 |nil=>intro d _;simp[aI,bV]
 |cons g l h=>
  intro d c;obtain⟨m,e⟩:=g;unfold lX at c;split at c
  ·cases c
  ·rename_i f
   obtain⟨i,k⟩:=h c;refine⟨λn=>?_,?_⟩
   ·unfold aI;rw[if_neg f,i];rfl
   ·unfold bV;rw[if_neg f,k]
def map_eraseIdx{d e:Type}(c:d->e):∀(a:List d) (b:Nat),(a.eraseIdx b).map c=(a.map c).eraseIdx b
 |[],_=>by simp
 |x::a,0=>rfl
 |x::a,b+1=>by simp[map_eraseIdx c a b]
def cB(a:World)(b:Nat)(c:Obj)(d:b<a.heap.size):({a with heap:=a.heap.setIfInBounds b c}:World).heap[b]? =some c:=by simp[d]
def dL(e:b.heap[a]? =some (.map e3 c))(d:Obj):(setObj a d).run h b= .ok () {b with heap:=b.heap.setIfInBounds a d}:=by
 simp[setObj,Sem.run,e]
def cW[BEq j][LawfulBEq j]{enc:j->Value}(H:lx h g q B v)(t:im h q enc){o:List (j×Value)}(z:bD b a enc o){k:j}(I:∀u,bD u a enc (aI o k b9)->ak (·=a) b u->u.heap.size=b.heap.size->y u):iX h (Instr.mapUpdate g (.map (some a)) (enc k) b9) b y p:=by
 obtain⟨e,c,r,s,A,J⟩:=z.at';have w:=jf t k e.toList o s b;have O:e.toList.length=o.length:=by have:=congrArg List.length s;simpa using this
 have K:=ax r
 cases x:lX o k 0 with
 |none=>
  rw[x]at w;refine iX.mk (w':={b with heap:=b.heap.setIfInBounds a (.map (e.push {key:=enc k,val:=b9,born:=c}) (c+1))}) ?_ (I _ ⟨⟨_,_,cB b a _ K,?_,?_,?_⟩,z.tidy.aI k b9⟩ (ak.setObj b a _) sM)
  ·simp[Instr.mapUpdate,run_underlying H.under,c_ r,df t,w,dL r]
  ·rw[(qW x).1 b9];simp[s]
  ·intro i f
   simp only[Array.toList_push,Q6,List.mem_singleton]at f;rcases f with f|rfl
   ·have:=A i f;omega
   ·show c<c+1;omega
  ·simp only[Array.toList_push,Q3,QY,List.map_nil]
   rw[List.nodup_append];refine⟨J,sM,?_⟩;intro V P W C X;simp only[List.mem_singleton]at C;obtain⟨i,f,rfl⟩:=Xk.1 P;have:=A i f;omega
 |some Q=>
  obtain⟨l,Y⟩:=Q;rw[x]at w;obtain⟨_,L,M,N⟩:=mY x;rw[Nat.sub_zero]at L M N;have E:l<e.size:=by
                 have:e.size=o.length:=by simpa using O
                 omega
  have R:e[l].key=enc k:=by
   have:=congrArg (·[l]?) s;simp only[Q9,M,Option.map_some]at this;simp[E]at this;exact this.1
  refine iX.mk (w':={b with heap:=b.heap.setIfInBounds a (.map (e.modify l λi=>{i with key:=enc k,val:=b9}) c)}) ?_ (I _ ⟨⟨_,_,cB b a _ K,?_,?_,?_⟩,z.tidy.aI k b9⟩ (ak.setObj b a _) sM)
  ·have S:(Instr.keyThatStays (enc k) (enc k)).run h b= .ok (enc k) b:=by simp[Instr.keyThatStays,t.same]
   simp[Instr.mapUpdate,run_underlying H.under,c_ r,df t,w,E,R,S,dL r]
  ·rw[(N b9).1]
   apply X3;intro m;have d:=congrArg (·[m]?) s;simp only[Q9]at d;simp only[Array.toList_modify,Q9,Xj,List.getElem?_modify]
   by_cases n:l=m
   ·subst n
    simp[E,L]
   ·simp only[n,if_false,Option.map_map]at d⊢
    simpa using d
  ·intro i f
   rw[Array.toList_modify]at f;obtain⟨m,d⟩:=List.getElem?_of_mem f;rw[List.getElem?_modify]at d
   cases F:e.toList[m]? with
   |none=>rw[F]at d;simp at d
   |some T=>
    rw[F]at d;have U:=QZ F;have:=A T U
    by_cases n:l=m
    ·simp[n]at d;subst d;exact this
    ·simp[n]at d;subst d;exact this
  ·have:(e.modify l λi=>{i with key:=enc k,val:=b9}).toList.map (·.born)=e.toList.map (·.born):=by
    apply X3;intro m;simp only[Array.toList_modify,Q9,List.getElem?_modify,Option.map_map]
    by_cases n:l=m<;>simp[n]<;>rfl
   rw[this];exact J
def Kg[BEq j][LawfulBEq j]{e:j->Value}(x:lx h g q B v)(s:im h q e){i:List (j×Value)}(t:bD b a e i){k:j}(y:∀m,bD m a e (bV i k)->ak (·=a) b m->m.heap.size=b.heap.size->p (.tuple #[]) m):aG h (Builtin.delete_ #[g,c0] f5 #[.map (some a),e k]) b p u:=by
 obtain⟨c,d,l,n,z,A⟩:=t.at';have o:=jf s k c.toList i n b;have H:c.toList.length=i.length:=by have:=congrArg List.length n;simpa using this
 have C:=ax l
 cases r:lX i k 0 with
 |none=>
  rw[r]at o;refine aG.mk (w':={b with heap:=b.heap.setIfInBounds a (.map c d)}) ?_ (y _ ⟨⟨_,_,cB b a _ C,?_,z,A⟩,t.tidy.bV k⟩ (ak.setObj b a _) sM)
  ·simp[Builtin.delete_,run_underlying x.under,c_ l,df s,o,dL l]
  ·rw[(qW r).2];exact n
 |some I=>
  obtain⟨f,J⟩:=I;rw[r]at o;obtain⟨_,K,L,E⟩:=mY r;rw[Nat.sub_zero]at K L E;have w:f<c.size:=by
                 have:c.size=i.length:=by simpa using H
                 omega
  refine aG.mk (w':={b with heap:=b.heap.setIfInBounds a (.map (c.eraseIdxIfInBounds f) d)}) ?_ (y _ ⟨⟨_,_,cB b a _ C,?_,?_,?_⟩,t.tidy.bV k⟩ (ak.setObj b a _) sM)
  ·simp[Builtin.delete_,run_underlying x.under,c_ l,df s,o,dL l]
  ·rw[(E J).2]
   have:(c.eraseIdxIfInBounds f).toList=c.toList.eraseIdx f:=by simp[Array.eraseIdxIfInBounds,w]
   rw[this,map_eraseIdx,n,map_eraseIdx]
  ·intro M F
   have:(c.eraseIdxIfInBounds f).toList=c.toList.eraseIdx f:=by simp[Array.eraseIdxIfInBounds,w]
   rw[this]at F;exact z M (List.mem_of_mem_eraseIdx F)
  ·have:(c.eraseIdxIfInBounds f).toList=c.toList.eraseIdx f:=by simp[Array.eraseIdxIfInBounds,w]
   rw[this,map_eraseIdx];exact A.sublist (List.eraseIdx_sublist _ _)
def HT[BEq j][LawfulBEq j]{d:j->Value}(i:lx h g q B v){k:List (j×Value)}(l:bD b a d k)(m:∀e,bD e a d ([]:List (j×Value))->ak (·=a) b e->e.heap.size=b.heap.size->p (.tuple #[]) e):aG h (Builtin.clear_ #[g] c0 #[.map (some a)]) b p u:=by
 obtain⟨o,c,f,r,s,t⟩:=l.at';have n:=ax f;refine aG.mk (w':={b with heap:=b.heap.setIfInBounds a (.map #[] c)}) ?_ (m _ ⟨⟨_,_,cB b a _ n,rfl,sM,sM⟩,by simp[Tidy]⟩ (ak.setObj b a _) sM);simp[Builtin.clear_,run_underlying i.under,c_ f,dL f]
def UF(a:h.underlying g=some (.int .i64)):im h g (Value.int .i64):=
 im.flat a (λb d=>by simp[Instr.sameNow]) (λc e f i=>by simp[Instr.checkKey,run_underlying a]) λc b=>by simp[Instr.sameBits]
end Go.ar
namespace Go.ar
open Go
instance:LawfulBEq ByteArray where
 eq_of_beq:=λ{a b} h=>ByteArray.ext (eq_of_beq (show(a.data==b.data)=true from h))
 rfl:=λ{a}=>show(a.data==a.data)=true from by simp
variable{a:Nat}{h:Program}{B c0 f5 g q:TypeId}{v:Value}{p u:Value->World->Prop}
def Ww(a:h.underlying g=some .string):im h g Value.string:=
 im.flat a (λb d=>rfl) (λc e f i=>by simp[Instr.checkKey,run_underlying a]) λc b=>by simp[Instr.sameBits]
structure cA {κ:Type} (w:World) (it r:Nat) (enc:κ->Value) (l left:List (κ×Value)):Prop where
 at':∃es clock since seen c0,w.heap[r]? =some (.map es clock)/\es.toList.map (λe=>(e.key,e.val))=l.map (λp=>(enc p.1,p.2))/\
  (∀e∈es.toList,e.born<clock)/\(es.toList.map (·.born)).Nodup/\w.heap[it]? =some (.mapIter (some r) since seen c0)/\(∀x∈es.toList,x.born<since)/\since<=c0/\since<=clock/\
  (leftOf es seen).toList.map (λe=>(e.key,e.val))=left.map (λp=>(enc p.1,p.2))
 tidy:Tidy l
structure Th {κ:Type} (w:World) (it r:Nat) (enc:κ->Value) (k:κ) (v:Value):Prop where
 at':∃(es:Array MapEntry) (clock since:Nat) (seen:Array Nat) (e:MapEntry),w.heap[r]? =some (.map es clock)/\w.heap[it]? =some (.mapIter (some r) since (seen.push e.born) clock)/\e∈es.toList/\(es.toList.map (·.born)).Nodup/\e.key=enc k/\e.val=v
section
variable {κ:Type} {w w':World} {it r:Nat} {enc:κ->Value} {l left:List (κ×Value)} {S:Nat->Prop}
def cA.af(d:cA w it r enc l left)(e:ak S w w')(f:¬S it)(g:¬S r):cA w' it r enc l left:=by
 obtain⟨h,a,b,seen,i,j,k,m,n,o,c⟩:=d.at';exact⟨⟨h,a,b,seen,i,e.get j g,k,m,n,e.get o f,c⟩,d.tidy⟩
def cA.ah(a:cA w it r enc l left)(b:ai w w'):cA w' it r enc l left:=a.af b id id
def cA.map(c:cA w it r enc l left):bD w r enc l:=by
 obtain⟨e,a,b,seen,j,f,g,h,i,k,d⟩:=c.at';exact⟨⟨e,a,f,g,h,i⟩,c.tidy⟩
def cA.ne(e:cA w it r enc l left):it≠r:=by
 obtain⟨g,a,b,seen,h,f,i,j,k,c,d⟩:=e.at';rintro rfl;rw[f]at c;cases c
def cA.lt(d:cA w it r enc l left):it<w.heap.size:=by
 obtain⟨f,a,b,seen,g,h,i,j,k,e,c⟩:=d.at';exact ax e
def mapRange(j:lx h g q B v)(b:bD w r enc l)(k:∀w',cA w' w.heap.size r enc l l->ai w w'->w'.heap.size=w.heap.size+1->p (ZQ w.heap.size) w'):aG h (Instr.range g (.map (some r))) w p u:=by
 obtain⟨c,a,d,e,f,m⟩:=b.at';have i:ai w (w.alloc (.mapIter (some r) a #[] a)):=ak.alloc w _;refine aG.mk (run_range_map w g q B r c a j.under d) (k _ ⟨⟨c,a,a,#[],a,i.get d id,e,f,m,heap_alloc_new w _,f,Q4 _,Q4 _,?_⟩,b.tidy⟩ i sM);rw[<-e]
 congr 2
 unfold leftOf;simp
def mV{P:Program}(q:cA w it r enc l left)(U:left=[]->p (.tuple #[.bool false]) w)(V:∀s t A B w',left=A++(s,t)::B->cA w' it r enc l (A++B)->Th w' it r enc s t->ak (·=it) w w'->w'.heap.size=w.heap.size->p (.tuple #[.bool true,enc s,t]) w'):
  aG P (Instr.next (ZQ it) false g) w p u:=by
 have W:=q.ne;obtain⟨e,a,c,seen,C,E,X,Y,v,F,H,Z,I,m⟩:=q.at';rcases run_next_at (P:=P) w g it r c C seen e a F E H Z with⟨hz,x⟩|⟨d,J,h,K,x⟩
 ·refine aG.mk x (U ?_)
  have:(leftOf e seen).toList=[]:=by rw[Array.eq_empty_of_size_eq_zero hz]
  rw[this]at m;simpa using m.symm
 ·have y:ai w h:=by rcases K with rfl|rfl;exact ak.refl _;exact ak.drewN w 1
  have b0:h.heap.size=w.heap.size:=by rcases K with rfl|rfl<;>rfl
  have a0:h.heap[it]? =some (.mapIter (some r) c seen C):=y.get F id;have b1:h.heap[r]? =some (.map e a):=y.get E id;have a1:=ax a0
  let o:=ChangeMaps.setBlock h it (.mapIter (some r) c (seen.push d.born) a)
  have L:ak (·=it) h o:=ak.setObj h it _;have M:o.heap[it]? =some (.mapIter (some r) c (seen.push d.born) a):=cB h it _ a1;have N:o.heap[r]? =some (.map e a):=L.get b1 (λd=>W d.symm);have a2:=mem_left J;obtain⟨b,i,O⟩:=List.getElem_of_mem J;have Q:b<left.length:=by have:=congrArg List.length m;simp at this;simp at i;omega
  have R:(d.key,d.val)=(enc left[b].1,left[b].2):=by
   have:=congrArg (λa3=>a3[b]?) m;simp only[Q9]at this;rw[Qq i,Qq Q,O]at this;simpa using this
  have a4:left=left.take b++(left[b].1,left[b].2)::left.drop (b+1):=by
   have:=(List.take_append_drop b left).symm;rw[X4 Q]at this;exact this
  have a5:(leftOf e (seen.push d.born)).toList=(leftOf e seen).toList.eraseIdx b:=by
   have k:((leftOf e seen).toList.map (·.born)).Nodup:=by
    unfold leftOf;rw[Array.toList_filter];exact v.sublist (List.Sublist.map _ List.filter_sublist)
   have hf:(leftOf e (seen.push d.born)).toList=(leftOf e seen).toList.filter (λj=>j.born !=d.born):=by
    unfold leftOf;rw[Array.toList_filter,Array.toList_filter,List.filter_filter]
    congr 1
    funext j
    rw[contains_push]
    cases seen.contains j.born<;>cases hx:(j.born==d.born)<;>simp only[bne,hx]<;>rfl
   rw[hf];have z:∀(f:List MapEntry) (b:Nat) (i:b<f.length),(f.map (·.born)).Nodup->f.filter (λj=>j.born !=f[b].born)=f.eraseIdx b:=by
    intro f
    induction f with
    |nil=>intro b i;simp at i
    |cons j f ih=>
     intro b i k;simp only[QY,List.nodup_cons]at k
     cases b with
     |zero=>
      simp only[List.getElem_cons_zero,List.eraseIdx_zero,List.tail_cons];rw[List.filter_cons_of_neg sM];apply List.filter_eq_self.2;intro a6 hy;simp only[bne_iff_ne,ne_eq];intro d;exact k.1 (d▸Xk.2 ⟨a6,hy,rfl⟩)
     |succ b=>
      simp only[List.getElem_cons_succ,List.eraseIdx_cons_succ];have n:b<f.length:=by simpa using i
      rw[List.filter_cons_of_pos,ih b n k.2];simp only[bne_iff_ne,ne_eq];intro d;exact k.1 (d▸Xk.2 ⟨f[b],XY n,rfl⟩)
   have:=z _ b i k;rw[O]at this;exact this
  have S:d.key=enc left[b].1:=(Prod.mk.inj R).1;have T:d.val=left[b].2:=(Prod.mk.inj R).2;refine aG.mk x ?_;rw[S,T];refine V left[b].1 left[b].2 (left.take b) (left.drop (b+1)) o a4 ⟨⟨e,a,c,seen.push d.born,a,N,X,Y,v,M,H,I,I,?_⟩,q.tidy⟩ ⟨e,a,c,seen,d,N,M,a2.1,v,S,T⟩ ((ai.af y).then L) ?_
  ·rw[a5,map_eraseIdx,m,<-map_eraseIdx]
   congr 1
   rw[List.eraseIdx_eq_take_drop_succ]
  ·show(h.heap.setIfInBounds it _).size=_
   simp[b0]
def qj{c:κ}(d:Th w it r enc c v)(e:p (.tuple #[enc c,v]) w):aG h (Instr.entry (ZQ it)) w p u:=by
 obtain⟨f,a,b,seen,g,i,j,k,l,m,n⟩:=d.at';refine aG.mk (run_entry_at w it r b seen f a g j i k l) ?_;rw[m,n];exact e
def Po[BEq κ][LawfulBEq κ]{e:κ}(K:lx h g q B v)(y:im h q enc)(z:cA w it r enc l left)(X:e∉left.map (·.1))(L:∀w',cA w' it r enc (bV l e) left->ak (·=r) w w'->w'.heap.size=w.heap.size->p (.tuple #[]) w'):aG h (Builtin.delete_ #[g,c0] f5 #[.map (some r),enc e]) w p u:=by
 have M:=z.ne;obtain⟨b,c,d,seen,N,m,n,O,P,Q,R,S,T,H⟩:=z.at';have A:=jf y e b.toList l n w;have Y:b.toList.length=l.length:=by have:=congrArg List.length n;simpa using this
 have U:=ax m
 cases C:lX l e 0 with
 |none=>
  rw[C]at A;refine aG.mk (w':={w with heap:=w.heap.setIfInBounds r (.map b c)}) ?_ (L _ ⟨⟨_,_,d,seen,N,cB w r _ U,?_,O,P,(ak.setObj w r _).get Q M,R,S,T,H⟩,z.tidy.bV e⟩ (ak.setObj w r _) sM)
  ·simp[Builtin.delete_,run_underlying K.under,c_ m,df y,A,dL m]
  ·rw[(qW C).2];exact n
 |some f=>
  obtain⟨a,Z⟩:=f;rw[C]at A;obtain⟨_,j,V,W⟩:=mY C;rw[Nat.sub_zero]at j V W;have o:a<b.size:=by
                 have:b.size=l.length:=by simpa using Y
                 omega
  have s:(b.eraseIdxIfInBounds a).toList=b.toList.eraseIdx a:=by simp[Array.eraseIdxIfInBounds,o]
  have a0:(b.toList[a]'(by simpa using o)).key=enc e:=by
   have:=congrArg (λE=>E[a]?) n;simp only[Q9,V,Option.map_some]at this;rw[Qq (by simpa using o)]at this;simpa using(Prod.mk.inj (XJ this)).1
  have I:∀k∈(leftOf b seen).toList,k.key≠enc e:=by
   intro k hx t;have:(k.key,k.val)∈left.map (λf=>(enc f.1,f.2)):=by rw[<-H];exact Xk.2 ⟨k,hx,rfl⟩
   obtain⟨E,hq,a1⟩:=Xk.1 this;have a2:enc E.1=enc e:=(Prod.mk.inj a1).1.trans t;exact X (Xk.2 ⟨E,hq,y.inj a2⟩)
  have a3:(leftOf (b.eraseIdxIfInBounds a) seen).toList=(leftOf b seen).toList:=by
   unfold leftOf at I⊢;rw[Array.toList_filter]at I;rw[Array.toList_filter,Array.toList_filter,s];have J:∀(i:List MapEntry) (f:MapEntry->Bool) (a:Nat) (j:a<i.length),f i[a]=false->(i.eraseIdx a).filter f=i.filter f:=by
    intro i f
    induction i with
    |nil=>intro a j;simp at j
    |cons k i ih=>
     intro a j F
     cases a with
     |zero=>
      simp only[List.getElem_cons_zero]at F;simp[F]
     |succ a=>
      simp only[List.getElem_cons_succ]at F;simp only[List.eraseIdx_cons_succ,List.filter_cons];rw[ih a (by simpa using j) F]
   refine J _ _ a (by simpa using o) ?_
   cases a4: !seen.contains (b.toList[a]'(by simpa using o)).born with
   |false=>rfl
   |true=>exact absurd a0 (I _ (List.mem_filter.2 ⟨XY _,a4⟩))
  refine aG.mk (w':={w with heap:=w.heap.setIfInBounds r (.map (b.eraseIdxIfInBounds a) c)}) ?_ (L _ ⟨⟨_,_,d,seen,N,cB w r _ U,?_,?_,?_,(ak.setObj w r _).get Q M,?_,S,T,?_⟩,z.tidy.bV e⟩ (ak.setObj w r _) sM)
  ·simp[Builtin.delete_,run_underlying K.under,c_ m,df y,A,dL m]
  ·rw[(W Z).2,s,map_eraseIdx,n,map_eraseIdx]
  ·intro t x
   rw[s]at x;exact O t (List.mem_of_mem_eraseIdx x)
  ·rw[s,map_eraseIdx]
   exact P.sublist (List.eraseIdx_sublist _ _)
  ·intro t x
   rw[s]at x;exact R t (List.mem_of_mem_eraseIdx x)
  ·rw[a3];exact H
def TH(b:lx h g q B v)(c:bD w r enc l)(d:p (XH (l.length:Int)) w):aG h (Builtin.len_ #[g] c0 #[.map (some r)]) w p u:=by
 obtain⟨e,a,f,i,_⟩:=c.at';have j:e.size=l.length:=by have:=congrArg List.length i;simpa using this
 refine aG.mk (v:=XH (l.length:Int)) ?_ d;rw[<-j];simp[Builtin.len_,Builtin.lenOf,run_underlying b.under,c_ f,goInt]
def Bb{a:ByteArray}(b:h.underlying g=some .string)(c:∀w',w'.heap[w.heap.size]? =some (.stringIter a 0)->ai w w'->w'.heap.size=w.heap.size+1->p (ZQ w.heap.size) w'):aG h (Instr.range g (.string a)) w p u:=
 aG.mk (run_range_string w g a b) (c _ (World.iter_heap w a 0) (ak.alloc w _) (by simp[World.iter]))
def FC{b:ByteArray}(c:w.heap[it]? =some (.stringIter b a))(e:b.size<=a->p (.tuple #[.bool false]) w)(f:a<b.size->∀w',w'.heap[it]? =some (.stringIter b (a+(Utf8.decode b a).2))->ak (·=it) w w'->w'.heap.size=w.heap.size->p (.tuple #[.bool true,XH (a:Int),.int .i32 ((Utf8.decode b a).1:Int)]) w'):
  aG h (Instr.next (ZQ it) true g) w p u:=by
 by_cases d:a<b.size
 ·refine aG.mk (w':={w with heap:=w.heap.setIfInBounds it (.stringIter b (a+(Utf8.decode b a).2))}) ?_ (f d _ (cB w it _ (ax c)) (ak.setObj w it _) sM)
  simp[Instr.next,getObj,setObj,Sem.run,c,d,goInt]
 ·refine aG.mk ?_ (e oM)
  simp[Instr.next,getObj,Sem.run,c,d]
end
end Go.ar
