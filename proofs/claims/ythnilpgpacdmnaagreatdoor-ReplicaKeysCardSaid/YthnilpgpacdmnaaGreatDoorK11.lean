import Derived.Test.YthnilpgpacdmnaaGreatDoorK10
import Derived.Maps.RangeRun
import Derived.Laws.RangeAny
namespace Go.au
open Go
set_option linter.unusedVariables false
theorem Ji (a:UInt8):IntKind.wrap .i64 (a.toNat:Int)=a.toNat:=wrap_i64 (by have:=a.toNat_lt;unfold aK;omega)
def jX (a:UInt8):Nat:=if 16<a.toNat then a.toNat-16 else a.toNat
theorem JN (b:UInt8):(IntKind.wrap .i64 (kv .u8 (b.toNat:Int) 16)<=8/\((b.toNat:Int)≠16)↔jX b<=8)/\(jX b<=8->IntKind.wrap .i64 (kv .u8 (b.toNat:Int) 16)=(jX b:Int)/\zb .u8 (b.toNat:Int) 16=if 16<b.toNat then 16 else 0):=by
 have c:(List.range 256).all (λa=>decide ((IntKind.wrap .i64 (kv .u8 (a:Int) 16)<=8/\((a:Int)≠16)↔(if 16<a then a-16 else a)<=8)/\((if 16<a then a-16 else a)<=8->IntKind.wrap .i64 (kv .u8 (a:Int) 16)=((if 16<a then a-16 else a:Nat):Int)/\zb .u8 (a:Int) 16=if 16<a then 16 else 0)))=true:=by decide+kernel
 have:=List.all_eq_true.1 c b.toNat (List.mem_range.2 b.toNat_lt);exact XV this
theorem JO {a d:Nat} (e:a<72057594037927936) (f:d<256):Na .u64 (Gz .u64 (a:Int) 8) (IntKind.wrap .u64 (d:Int))=((a*256+d:Nat):Int):=by
 have b:Gz .u64 (a:Int) 8=((a*256:Nat):Int):=by
  unfold Gz;have:min (Int.toNat 8) (IntKind.bits .u64)=8:=dC
  rw [this,wrap_u64];have:((2:Int) ^ 8)=256:=dC
  rw [this];omega
 rw [b,Dk oM];unfold Na;show IntKind.wrap .u64 ((BitVec.ofInt 64 ((a*256:Nat):Int)|||BitVec.ofInt 64 (d:Int)).toNat:Int)=_;have c:a*256|||d=a*256+d:=by
  have:=(Nat.shiftLeft_add_eq_or_of_lt (a:=a) (i:=8) (b:=d) oM).symm
  rwa [Nat.shiftLeft_eq]at this
 rw [BitVec.ofInt_natCast,BitVec.ofInt_natCast,BitVec.toNat_or,BitVec.toNat_ofNat,BitVec.toNat_ofNat,Nat.mod_eq_of_lt oM,Nat.mod_eq_of_lt oM,c,Dk oM]
variable{x:List UInt8}{a:Nat}{b9:UInt8}
theorem CN (b:x[a]? =some b9):fK (x.take (a+1))=fK (x.take a)*256+b9.toNat:=by
 rw [Qw,b];exact Hp _ _
theorem m_ (a:List UInt8) {j m:Nat} (b:j<=m):fK (a.take j)<256 ^ m:=by
 have c:=KV (a.take j);have d:256 ^(a.take j).length<=256 ^ m:=Nat.pow_le_pow_right oM (by simp;omega);omega
theorem JP (a:¬jX b9<=8):rdNum (b9::x)=(5,0,0):=by
 unfold rdNum jX at*;simp only;rw [if_pos oM]
theorem Hr (b:jX b9<=8) (a:x.length<jX b9):rdNum (b9::x)=(4,0,0):=by
 unfold rdNum jX at*;simp only;rw [if_neg oM,if_pos a]
theorem Mz (c:jX b9<=8) (a:¬x.length<jX b9) (b:(0<jX b9/\x.head? =some 0)\/(¬16<b9.toNat/\2 ^ 63<=fK (x.take (jX b9)))\/(16<b9.toNat/\2 ^ 63<fK (x.take (jX b9)))):rdNum (b9::x)=(5,0,0):=by
 unfold rdNum jX at*;simp only;rw [if_neg oM,if_neg a,if_pos b]
theorem AS (c:jX b9<=8) (a:¬x.length<jX b9) (b:¬((0<jX b9/\x.head? =some 0)\/(¬16<b9.toNat/\2 ^ 63<=fK (x.take (jX b9)))\/(16<b9.toNat/\2 ^ 63<fK (x.take (jX b9))))):
  rdNum (b9::x)=(0,if 16<b9.toNat then-(fK (x.take (jX b9)):Int)else fK (x.take (jX b9)),jX b9+1):=by
 unfold rdNum jX at*;simp only;rw [if_neg oM,if_neg a,if_neg b]
end Go.au
namespace Go.Proofs.YthnilpgpacdmnaaGreatDoor
open Go.au
set_option linter.unusedVariables false
set_option maxRecDepth 20000
structure eF (w:World) (p:Nat) (F:Nat->Prop) (r:ki):Prop where
 body:∃a n cap G,w.heap[p]? =some (.cells #[.slice a n cap,.int .i64 (r.pos:Int),.int .i64 r.sV] 326 (0,0))/\aO fg 5 G w a n cap r.bytes/\(∀b,G b->F b/\b≠p)
 self:F p
 aC:∀b,F b->b<w.heap.size
 fit:r.Fit
 dt:r.bytes.length<=aI
variable{r:Array Value}{K:Bool}{z:FuncId}{e:Int}{a4:List PanicEntry->World->Prop}{x:List UInt8}{a c i:Nat}{f:Nat->Prop}{d:Option Addr}{o s:Value->World->Prop}{b k:World}{Y:ki}
theorem eF.af {S e:Nat->Prop} (d:eF b a e Y) (f:ak S b k) (i:∀c,e c->¬S c):eF k a e Y:=by
 obtain⟨l,m,g,G,n,o,j⟩:=d.body;exact⟨⟨l,m,g,G,f.get n (i _ d.self),o.af f (λc h=>i c (j c h).1),j⟩,d.self,λc h=>Qk (d.aC c h) f.size,d.fit,d.dt⟩
theorem eF.ah (c:eF b a f Y) (d:ai b k):eF k a f Y:=c.af d λ_ _ c=>c
theorem eF.dZ {g w':World} {h r':ki} (j:eF g a f h) {G:Nat->Prop} (m:aO fg 5 G g d c i h.bytes) (k:∀b,G b->f b/\b≠a) (l:ak (·=a) g w')
  (n:w'.heap[a]? =some (.cells #[.slice d c i,.int .i64 (r'.pos:Int),.int .i64 r'.sV] 326 (0,0))) (e:r'.bytes=h.bytes) (o:r'.Fit):eF w' a f r':=
 ⟨⟨d,c,i,G,n,by rw [e];exact m.af l λb e=>(k b e).2,k⟩,j.self,λb e=>Qk (j.aC b e) l.size,o,by rw [e];exact j.dt⟩
theorem CM {D:Nat->Prop} (f:Row fg 1 b D d a x) (p:∀e,D e->e<b.heap.size):
  Calls Tryz.prog 168 #[.slice d a c] b (Ok λq l=>∃m n,q= .pointer (some ⟨m,0,none⟩)/\eF l m n ⟨x,0,0⟩/\ai b l/\∀e,n e->b.heap.size<=e):=by
 have r:=f.len;have s:=f.dt;refine Gv (yt (aO.nil b) rZ f (λe i=>⟨p e i,by simp [aF]⟩) (by simp;omega) (by unfold aI at s;unfold maxLen;simp;omega) λg t j A u v _ w=>?_);refine⟨_,_,_,rfl,PA.mk λB k C y=>?_⟩;have o:ai b j:=v.mono λe _ f=>by simp [aF]at f
 have h:=u.alone;rw [List.nil_append]at h;have z:∀e,aF g=some e->b.heap.size<=e:=λe f=>(w e f).elim (λi=>i.elim) id;refine Ok.mk ⟨j.heap.size,λe=>e=j.heap.size\/aF g=some e,rfl,⟨⟨g,_,t,λe=>aF g=some e,y,h.ah k,λe f=>⟨.inr f,?_⟩⟩,.inl rfl,?_,⟨Qj _,.inl rfl⟩,by rw [<-r];omega⟩,o.then k,?_⟩
 ·have:=h.aC e f;omega
 ·rintro e (rfl|f)
  ·omega
  ·have:=h.aC e f;have:=k.size;omega
 ·rintro e (rfl|f)
  ·exact o.size
  ·exact z e f
def RL (a:Int):List PanicEntry:=[{v:=.iface 365 (.int .i64 a),recovered:=false}]
theorem fk (a:K=true->o (.tuple #[]) b) (c:K=false->a4 (RL e) b):
  PC Tryz.prog 290 #[.bool K,.int .i64 e] b o a4:=by
 cases K
 ·refine wD (al.tt rfl ?_)
  exact aE.panics (v:=.iface 365 (.int .i64 e)) rfl (c rfl)
 ·exact wD (al.ff rfl (a rfl))
def SO (d:World) (c:Nat) (e:Nat->Prop) (a:ki) (no:Int) (h:Value->World->Prop) (i:Nat):Ending->World->Prop:=λf b=>
 ((no=0/\eF b c e ⟨a.bytes,a.pos+i,a.sV⟩/\∃g,f= .returned g/\h g b)\/(no≠0/\f= .panicked (RL no)/\∃j,eF b c e ⟨a.bytes,j,a.sV⟩))/\ak (·=c) d b/\b.heap.size=d.heap.size
theorem PC.red {no:Int} (g:Calls Tryz.prog z r b (SO b a f Y no o c))
  (l:no=0->∀e d,eF d a f ⟨Y.bytes,Y.pos+c,Y.sV⟩->o e d->ak (·=a) b d->d.heap.size=b.heap.size->s e d)
  (m:no≠0->∀d,(∃n,eF d a f ⟨Y.bytes,n,Y.sV⟩)->ak (·=a) b d->d.heap.size=b.heap.size->a4 (RL no) d):PC Tryz.prog z r b s a4:=
 g.mono λq d ⟨g,j,k⟩=>by
  rcases g with⟨h,i,e,rfl,p⟩|⟨h,rfl,i⟩
  ·exact l h e d i p j k
  ·exact m h d i j k
theorem KY {m:Nat} (e:eF b a f Y) (N:m<=2147483647):
  Calls Tryz.prog 291 #[.pointer (some ⟨a,0,none⟩),.int .i64 (m:Int)] b (SO b a f Y (if m<=Y.bytes.length-Y.pos then 0 else 4) (λy z=>∃g A,y= .slice g m A/\Row fg 1 z f g m ((Y.bytes.drop Y.pos).take m)) m):=by
 obtain⟨g,r,c,G,B,i,l⟩:=e.body;have O:=e.fit.pos;have C:=e.dt;have P:=i.len dC;have E:=i.jD;unfold aI at C;refine sF λs t=>?_;have j:ai b s:=t.af;have k:=j.get B id;have u:s.heap.size=b.heap.size:=by rw [t.heap]
 refine⟨a,0,rfl,g,r,c,ae k rfl,a,0,rfl,_,ae k rfl,fk (λd=>?_) (λd=>?_)⟩
 ·have d:=XV d
  rw [wrap_i64 (by unfold aK;omega)]at d;refine⟨rfl,a,0,rfl,_,ae k rfl,a,0,rfl,PS.mk k sM λF H I h=>?_⟩;have J:IntKind.wrap .i64 ((Y.pos:Int)+(m:Int))=((Y.pos+m:Nat):Int):=by rw [wrap_i64 (by unfold aK;omega)];omega
  rw [J]at h;have K:IntKind.wrap .i64 (((Y.pos+m:Nat):Int)-(m:Int))=(Y.pos:Int):=by rw [wrap_i64 (by unfold aK;omega)];omega
  refine⟨a,0,rfl,g,r,c,ae h rfl,a,0,rfl,_,ae h rfl,a,0,rfl,_,ae h rfl,?_⟩;rw [K];refine⟨oM,oM,oM,λn v=>?_⟩;have w:ai F n:=v.af;have o:ak (·=a) b n:=((j.af).then H).ah w;have L:eF n a f ⟨Y.bytes,Y.pos+m,Y.sV⟩:=e.dZ (r':=⟨Y.bytes,Y.pos+m,Y.sV⟩) i l o (w.get h id) rfl ⟨by show Y.pos+m<=Y.bytes.length;omega,e.fit.sV⟩;refine⟨.inl ⟨if_pos oM,L,_,rfl,b_ g Y.pos c 1,c-Y.pos,?_⟩,o,by rw [v.heap,I,u]⟩;simp only [Qx];rw [show Y.pos+m-Y.pos=m by omega];refine⟨rfl,?_⟩;have p:=(i.row (bytes:=1) dC (by unfold aI;omega)).part (lo:=Y.pos) (hi:=Y.pos+m) (cap:=c) oM oM E;rw [show Y.pos+m-Y.pos=m by omega]at p;have M:(Y.bytes.take (Y.pos+m)).drop Y.pos=(Y.bytes.drop Y.pos).take m:=by rw [List.drop_take];congr 1;omega
  rw [M]at p;exact((p.af o λq d=>(l q d).2)).mono λq d=>(l q d).1
 ·intro _ _
  have d:=Xy d;rw [wrap_i64 (by unfold aK;omega)]at d;have x:¬m<=Y.bytes.length-Y.pos:=oM
  refine⟨.inr ⟨by rw [if_neg x];decide,by rw [if_neg x],Y.pos,?_⟩,j.af,u⟩;exact e.ah j
theorem Dp (N:eF b a f Y):
  Calls Tryz.prog 234 #[.pointer (some ⟨a,0,none⟩)] b (SO b a f Y Y.num.1 (λu h=>u= .int .i64 Y.num.2.1) Y.num.2.2):=by
 have y:=N.fit.pos;have s:(Y.bytes.drop Y.pos).length=Y.bytes.length-Y.pos:=XZ ..;generalize t:Y.bytes.drop Y.pos=B at s;have Z:Y.num=rdNum B:=by unfold ki.num;rw [t]
 rw [Z];refine ou (PC.red (KY (m:=1) N oM) ?_ ?_)
 rotate_left
 ·intro m z C v w
  have:¬1<=Y.bytes.length-Y.pos:=λk=>m (if_pos k);rw [if_neg this];have:B=[]:=QW oM;subst this;exact⟨.inr ⟨dC,rfl,C⟩,v,w⟩
 rintro m _ z O ⟨a1,c1,rfl,P⟩ v w;have Q:1<=Y.bytes.length-Y.pos:=by
  by_cases k:1<=Y.bytes.length-Y.pos
  ·exact k
  ·rw [if_neg k]at m;cases m
 rw [t]at P
 match B,t,s with
 |[],t,s=>simp at s;omega
 |c::g,t,s=>
 have b1:g.length=Y.bytes.length-Y.pos-1:=by simp at s;omega
 have a7:Y.bytes.drop (Y.pos+1)=g:=by rw [<-List.drop_drop,t];rfl
 obtain⟨b5,o6,o,rfl,p,_,d⟩:=P.kp (i:=0) oM;obtain rfl:c=o:=by simpa using p
 obtain⟨E,a8⟩:=JN c;refine⟨_,_,_,rfl,b5,o6,rfl,oM,oM,_,d,?_⟩;refine⟨λh=>jX c<=8/\h=z,?_,?_⟩
 ·have l:¬jX c<=8->∀h,h=z->SO b a f Y (rdNum (c::g)).1 (λu h=>u= .int .i64 (rdNum (c::g)).2.1) (rdNum (c::g)).2.2 (.panicked (RL 5)) h:=by
   rintro q h rfl;rw [JP q];exact⟨.inr ⟨dC,rfl,Y.pos+1,O⟩,v,w⟩
  refine al.dec (λF=>fk (λe=>⟨rfl,?_,rfl⟩) (λe=>l ?_ _ rfl)) (λF=>fk (λe=>(by cases e)) λ_=>l ?_ _ rfl)
  ·exact E.1 ⟨F,by simpa using e⟩
  ·intro q
   have:=(E.2 q).2;simp only [bne_eq_false_iff_eq]at e;exact this e
  ·intro q
   exact F (E.2 q).1
 rintro _ z ⟨x,rfl⟩;obtain⟨q,a9⟩:=a8 x;rw [q];refine PC.red (KY (m:=jX c) O oM) ?_ ?_
 rotate_left
 ·intro m n C H I
  have hn:¬jX c<=Y.bytes.length-(Y.pos+1):=λk=>m (if_pos k);rw [if_neg hn,Hr x oM];exact⟨.inr ⟨dC,rfl,C⟩,v.then H,I.trans w⟩
 rintro m _ n R ⟨a2,c2,rfl,A⟩ H I;have b2:jX c<=g.length:=by
  by_cases k:jX c<=Y.bytes.length-(Y.pos+1)
  ·omega
  ·simp only at m;rw [if_neg k]at m;cases m
 change Row fg 1 n f a2 (jX c) ((Y.bytes.drop (Y.pos+1)).take (jX c))at A
 rw [a7]at A;have S:eF n a f ⟨Y.bytes,Y.pos+(jX c+1),Y.sV⟩:=by have:=R;rwa [show Y.pos+(jX c+1)=Y.pos+1+jX c by omega]
 have J:ak (·=a) b n:=v.then H;have K:=I.trans w;have l:((0<jX c/\g.head? =some 0)\/(¬16<c.toNat/\2 ^ 63<=fK (g.take (jX c)))\/(16<c.toNat/\2 ^ 63<fK (g.take (jX c))))->∀h,h=n->SO b a f Y (rdNum (c::g)).1 (λu h=>u= .int .i64 (rdNum (c::g)).2.1) (rdNum (c::g)).2.2 (.panicked (RL 5)) h:=by
  rintro e h rfl;rw [Mz x oM e];exact⟨.inr ⟨dC,rfl,_,R⟩,J,K⟩
 refine⟨_,_,_,rfl,λh=>¬(0<jX c/\g.head? =some 0)/\h=n,?_,?_⟩
 ·refine al.dJ (λk=>fk (λ_=>⟨rfl,λd=>oM,rfl⟩) (λe=>by cases e)) (λk=>?_)
  have y:0<jX c:=oM
  obtain⟨L,M,o,rfl,p,_,d⟩:=A.kp (i:=0) y;have T:g.head? =some o:=by
   rw [Xw,if_pos y]at p;rw [List.head?_eq_getElem?];exact p
  refine⟨L,M,rfl,oM,oM,_,d,fk (λe=>⟨rfl,λd=>?_,rfl⟩) (λe=>l (.inl ⟨y,?_⟩) _ rfl)⟩
  ·rw [T]at d
   have:=d.2;simp only [Q1]at this;subst this;simp at e
  ·rw [T]
   have:(o.toNat:Int)=0:=by simpa using e
   exact congrArg some (UInt8.toNat_inj.1 (by
                         have:o.toNat=0:=oM
                         rw [this];rfl))
 rintro _ n ⟨U,rfl⟩;refine⟨λV W i h=>∃j:Nat,j<=jX c/\i=j/\V=jX c-j/\h=n/\W=(fK (g.take j):Int),⟨_,0,Qj _,rfl,rfl,rfl,rfl⟩,?_⟩;rintro V W i _ n ⟨j,hj,rfl,rfl,rfl,rfl⟩;refine al.dec (λh1=>?_) (λh1=>?_)
 ·have X:j<jX c:=oM
  obtain⟨L,M,o,rfl,p,_,d⟩:=A.kp (i:=j) X;rw [Xw,if_pos X]at p;refine⟨L,M,rfl,oM,oM,_,d,_,oM,j+1,oM,aq oM,rfl,rfl,?_⟩;have b0:=m_ g (j:=j) (m:=7) oM;rw [JO (by
            have:(256:Nat) ^ 7=72057594037927936:=dC
            omega) o.toNat_lt,CN p]
 ·obtain rfl:j=jX c:=oM
  have b0:=m_ g (j:=jX c) (m:=8) oM;have b3:(256:Nat) ^ 8=18446744073709551616:=dC
  have b4:(2:Nat) ^ 63=9223372036854775808:=dC
  rw [a9];refine al.dJ (λk=>?_) (λk=>?_)
  ·have r:¬16<c.toNat:=by intro d;rw [if_pos d]at k;cases k
   refine fk (λe=>⟨rfl,?_⟩) (λe=>l (.inr (.inl ⟨r,?_⟩)) _ rfl)
   ·have e:=XV e
    rw [AS x oM (λd=>d.elim U λd=>d.elim (λd=>oM) λd=>r d.1),if_neg r];exact⟨.inl ⟨rfl,S,_,rfl,by rw [wrap_i64 (by unfold aK;omega)]⟩,J,K⟩
   ·have e:=Xy e
    omega
  ·have r:16<c.toNat:=by
    by_cases d:16<c.toNat
    ·exact d
    ·rw [if_neg d]at k;exact absurd rfl k
   refine fk (λe=>⟨rfl,?_⟩) (λe=>l (.inr (.inr ⟨r,?_⟩)) _ rfl)
   ·have e:=XV e
    rw [AS x oM (λd=>d.elim U λd=>d.elim (λd=>d.1 r) λd=>oM),if_pos r];refine⟨.inl ⟨rfl,S,_,rfl,?_⟩,J,K⟩;have e1:IntKind.wrap .i64 (IntKind.wrap .u64 (0-(fK (g.take (jX c)):Int)))= -(fK (g.take (jX c)):Int):=by
     unfold IntKind.wrap;simp [IntKind.signed,IntKind.bits];omega
    rw [e1]
   ·have e:=Xy e
    omega
end Go.Proofs.YthnilpgpacdmnaaGreatDoor
namespace Go.Proofs.YthnilpgpacdmnaaGreatDoor
open Go.au
set_option maxRecDepth 100000
set_option linter.unusedVariables false
def tN:fq:=⟨[],[],[],[],[(0,⟨[0,0,2,4,8,0,0,64,128,256,512,1056,2048,4112,8192,32767,65535,98303],[262143,262143,262141,262139,262135,262143,262143,262079,262015,261887,261631,261087,260095,258031,253951,262142,229375,180223],[0,0,0,0,1,0,0,0,0,1,0,0,0,0,2,0,0,2]⟩)]⟩
variable{t:Ending->World->Prop}{e:Int}{d:Option Addr}{b:World}
theorem tO 
  (A:(∀c,bd b c->(∃h i,d=some ⟨h,i,none⟩/\(∃(j:Option Addr) (B:Nat) (f:Nat),c.cell? ⟨h,i,none⟩=some (.slice j B f)/\
   (∃k l,d=some ⟨k,l,none⟩/\(∃(C:Option Addr) (a:Nat) (E:Nat),c.cell? ⟨k,l,none⟩=some (.slice C a E)/\((0:Int)<=(if(if((a:Nat):Int)<e then((a:Nat):Int)else e)>0 then(if((a:Nat):Int)<e then((a:Nat):Int)else e)else 0)/\
   ((if(if((a:Nat):Int)<e then((a:Nat):Int)else e)>0 then(if((a:Nat):Int)<e then((a:Nat):Int)else e)else 0):Int)<=((f:Nat):Int)/\
   PC Tryz.prog 193 #[.slice j (Int.toNat (if(if((a:Nat):Int)<e then((a:Nat):Int)else e)>0 then(if((a:Nat):Int)<e then((a:Nat):Int)else e)else 0)) f] c (λF H=>
   ∃(m:Option Addr) (n:Nat) (o:Nat),F= .slice m n o/\(∃p q,d=some ⟨p,q,none⟩/\PS H ⟨p,q,none⟩ (.slice m n o) λr=>
   (∃s u,d=some ⟨s,u,none⟩/\(∃(I:Option Addr) (v:Nat) (J:Nat),r.cell? ⟨s,u,none⟩=some (.slice I v J)/\
   (∃w x,d=some ⟨w,x,none⟩/\PS r ⟨w,x+1,none⟩ (.int .i64 ((v:Nat):Int)) λK=>(∃y z,d=some ⟨y,z,none⟩/\
   PS K ⟨y,z+2,none⟩ (.bool true) λL=>t (.returned (.tuple #[])) L)))))) (λM g=>∀(_:bK) (_:cG),t (.panicked M) g)))))))):
  Calls Tryz.prog 133 #[.pointer d,.int .i64 e] b t:=
 ks tN mixed Tryz.func133 rfl (Nat.le_of_ble_eq_true kR) kR (Eq.mp kR A)
end Go.Proofs.YthnilpgpacdmnaaGreatDoor
namespace Go.au
open Go
set_option linter.unusedVariables false
def aD {a b:Type} [BEq a] (d:List (a×b)) (c:a):Option b:=match d with
 |[]=>none
 |(e,f)::g=>if c==e then some f else aD g c
def aH {a c:Type} [BEq a] (g:List (a×c)) (b:a) (d:c):List (a×c):=match g with
 |[]=>[(b,d)]
 |(e,h)::f=>if b==e then(b,d)::f else(e,h)::aH f b d
def bV {a b:Type} [BEq a] (f:List (a×b)) (c:a):List (a×b):=match f with
 |[]=>[]
 |(d,g)::e=>if c==d then e else(d,g)::bV e c
variable{e3:Array MapEntry}{a c:Nat}{h:Program}{L j:Type}{e2:TypeDesc}{A c1 f7 g q:TypeId}{e4:TypeInfo}{c0 v:Value}{o s:Value->World->Prop}{b k:World}{y:World->Prop}
theorem qm [BEq j] [LawfulBEq j] (f:List (j×L)) (b a:j) (h:L):aD (aH f b h) a=if a==b then some h else aD f a:=by
 induction f with
 |nil=>simp [aH,aD]
 |cons i m k=>
  obtain⟨d,n⟩:=i;unfold aH
  by_cases c:b==d
  ·rw [if_pos c]
   have g:b=d:=by simpa using c
   subst g;unfold aD;split<;>rfl
  ·rw [if_neg c]
   unfold aD
   by_cases e:a==d
   ·rw [if_pos e]
    have g:a=d:=by simpa using e
    subst g;have:(a==b)=false:=by
     cases l:a==b
     ·rfl
     ·exfalso;apply c;have:a=b:=by simpa using l
      simp [this]
    rw [this];simp [aD,c]
   ·rw [if_neg e];rw [k];simp [aD,e]
def Tidy {a b:Type} (c:List (a×b)):Prop:=(c.map (·.1)).Nodup
theorem OH [BEq j] [LawfulBEq j] {b:List (j×L)} {a:j} {e:L} {c:j}:c∈(aH b a e).map (·.1)↔c=a\/c∈b.map (·.1):=by
 induction b with
 |nil=>simp [aH]
 |cons f k g=>
  obtain⟨d,l⟩:=f;unfold aH
  by_cases h:a==d
  ·rw [if_pos h]
   have i:a=d:=by simpa using h
   subst i;simp
  ·rw [if_neg h]
   simp only [QY,Q2,g];constructor
   ·rintro(h|h|h)<;>simp [h]
   ·rintro(h|h|h)<;>simp [h]
theorem Tidy.aH {a g:Type} [BEq a] [LawfulBEq a] {d:List (a×g)} (b:Tidy d) (e:a) (i:g):Tidy (aH d e i):=by
 unfold Tidy at*
 induction d with
 |nil=>simp [au.aH]
 |cons j m k=>
  obtain⟨h,n⟩:=j;simp only [QY,List.nodup_cons]at b;unfold au.aH
  by_cases c:e==h
  ·rw [if_pos c]
   have l:e=h:=by simpa using c
   subst l;simpa using b
  ·rw [if_neg c]
   simp only [QY,List.nodup_cons];refine⟨λf=>?_,k b.2⟩;rcases OH.1 f with rfl|f
   ·simp at c
   ·exact b.1 f
theorem OI [BEq j] [LawfulBEq j] {b:List (j×L)} {d c:j} (a:c∈(bV b d).map (·.1)):c∈b.map (·.1):=by
 induction b with
 |nil=>simp [bV]at a
 |cons e g f=>
  obtain⟨h,i⟩:=e;unfold bV at a;split at a
  ·simp only [QY,Q2];exact .inr a
  ·simp only [QY,Q2]at a⊢
   rcases a with a|a
   ·exact .inl a
   ·exact .inr (f a)
theorem Tidy.bV {a d:Type} [BEq a] [LawfulBEq a] {c:List (a×d)} (b:Tidy c) (e:a):Tidy (bV c e):=by
 unfold Tidy at*
 induction c with
 |nil=>simp [au.bV]
 |cons f i g=>
  obtain⟨j,k⟩:=f;simp only [QY,List.nodup_cons]at b;unfold au.bV;split
  ·exact b.2
  ·simp only [QY,List.nodup_cons]
   exact⟨λh=>b.1 (OI h),g b.2⟩
theorem qu [BEq j] [LawfulBEq j] {c:List (j×L)} {a:j}:aD c a=none↔a∉c.map (·.1):=by
 induction c with
 |nil=>simp [aD]
 |cons e h f=>
  obtain⟨d,i⟩:=e;unfold aD
  by_cases b:a==d
  ·have g:a=d:=by simpa using b
   rw [if_pos b];subst g;simp
  ·rw [if_neg b,f]
   have:a≠d:=by rintro rfl;simp at b
   simp [this]
theorem LS [BEq j] [LawfulBEq j] {d:List (j×L)} (i:Tidy d) (b a:j):aD (bV d b) a=if a==b then none else aD d a:=by
 induction d with
 |nil=>simp [bV,aD]
 |cons k n l=>
  obtain⟨e,o⟩:=k;have g:=i;simp only [Tidy,QY,List.nodup_cons]at g;unfold bV
  by_cases f:b==e
  ·rw [if_pos f]
   have h:b=e:=by simpa using f
   subst h
   by_cases c:a==b
   ·have:a=b:=by simpa using c
    subst this;simp only [beq_self_eq_true,if_true];exact qu.2 g.1
   ·rw [if_neg c]
    simp [aD,c]
  ·rw [if_neg f]
   unfold aD
   by_cases c:a==e
   ·have h:a=e:=by simpa using c
    subst h;have:(a==b)=false:=by
     cases m:a==b
     ·rfl
     ·exfalso;apply f;have:a=b:=by simpa using m
      simp [this]
    simp [this]
   ·rw [if_neg c,if_neg c];exact l g.2
theorem bQ [BEq j] [LawfulBEq j] {b:List (j×L)} {c:j} {d:L} (a:aD b c=some d):(c,d)∈b:=by
 induction b with
 |nil=>simp [aD]at a
 |cons e k f=>
  obtain⟨g,l⟩:=e;unfold aD at a;split at a
  ·rename_i h
   have i:c=g:=by simpa using h
   subst i
   cases a
   simp
  ·exact QJ _ (f a)
theorem eG [BEq j] [LawfulBEq j] {a:List (j×L)} {c:j} {d:L} {b:j×L} (h:b∈aH a c d):b=(c,d)\/b∈a:=by
 induction a with
 |nil=>simpa [aH]using h
 |cons e g f=>
  obtain⟨i,k⟩:=e;unfold aH at h;split at h
  ·rcases Q2.1 h with h|h
   ·exact .inl h
   ·exact .inr (QJ _ h)
  ·rcases Q2.1 h with h|h
   ·exact .inr (h▸QV ..)
   ·rcases f h with h|h
    ·exact .inl h
    ·exact .inr (QJ _ h)
theorem fA [BEq j] [LawfulBEq j] {a:List (j×L)} {c:j} {b:j×L} (h:b∈bV a c):b∈a:=by
 induction a with
 |nil=>simp [bV]at h
 |cons d f e=>
  obtain⟨g,i⟩:=d;unfold bV at h;split at h
  ·exact QJ _ h
  ·rcases Q2.1 h with h|h
   ·exact h▸QV ..
   ·exact QJ _ (e h)
theorem pk [BEq j] [LawfulBEq j] {a:List (j×L)} (c:Tidy a) {k:j} {v:L} (d:(k,v)∈a):aD a k=some v:=by
 induction a with
 |nil=>cases d
 |cons e i f=>
  obtain⟨g,l⟩:=e;simp only [Tidy,QY,List.nodup_cons]at c;unfold aD;rcases Q2.1 d with b|b
  ·cases b;simp
  ·have:k≠g:=by
    intro h;exact c.1 (Xk.2 ⟨(k,v),b,h⟩)
   rw [if_neg (by simpa using this)];exact f c.2 b
theorem wx [BEq j] (a:List (j×L)) (b:j) (c:L):(aH a b c).length<=a.length+1:=by
 induction a with
 |nil=>simp [aH]
 |cons d e f=>
  unfold aH;split
  ·simp
  ·simp;omega
theorem GK [BEq j] (a:List (j×L)) (b:j):(bV a b).length<=a.length:=by
 induction a with
 |nil=>simp [bV]
 |cons c d e=>
  unfold bV;split
  ·simp
  ·simp;omega
def eN {a b c:Type} (d:b->c->Prop):List (a×b)->List (a×c)->Prop
 |[],[]=>True
 |(e,f)::g,(h,i)::j=>e=h/\d f i/\eN d g j
 |_,_=>False
theorem eN.keys {c d e:Type} {g:d->e->Prop}:∀{a:List (c×d)} {b:List (c×e)},eN g a b->a.map (·.1)=b.map (·.1)
 |[],[],_=>rfl
 |(h,i)::a,(j,k)::b,f=>by simp [f.1,eN.keys f.2.2]
theorem eN.mono {f g h:Type} {i j:g->h->Prop}:∀{a:List (f×g)} {b:List (f×h)},eN i a b->(∀c d,i c d->j c d)->eN j a b
 |[],[],_,_=>trivial
 |(l,c)::a,(m,d)::b,e,k=>⟨e.1,k _ _ e.2.1,eN.mono e.2.2 k⟩
theorem eN.aD {b g h:Type} [BEq b] {i:g->h->Prop} (a:b):∀{c:List (b×g)} {d:List (b×h)},eN i c d->
  (au.aD c a=none/\au.aD d a=none)\/∃e f,au.aD c a=some e/\au.aD d a=some f/\i e f
 |[],[],_=>.inl ⟨rfl,rfl⟩
 |(k,e)::c,(o,f)::d,l=>by
  obtain⟨rfl,m,n⟩:=l;unfold au.aD
  by_cases j:a==k
  ·simp only [j,if_true];exact .inr ⟨e,f,rfl,rfl,m⟩
  ·simp only [j];exact eN.aD a n
theorem eN.aH {a b c:Type} [BEq a] {R:b->c->Prop} {d:a} {h:b} {i:c} (e:R h i):∀{f:List (a×b)} {g:List (a×c)},eN R f g->eN R (au.aH f d h) (au.aH g d i)
 |[],[],_=>⟨rfl,e,trivial⟩
 |(l,o)::f,(p,q)::g,m=>by
  obtain⟨rfl,n,j⟩:=m;unfold au.aH
  by_cases k:d==l
  ·simp only [k,if_true];exact⟨rfl,e,j⟩
  ·simp only [k];exact⟨rfl,n,eN.aH e j⟩
theorem eN.bV {a e f:Type} [BEq a] {g:e->f->Prop} {b:a}:∀{c:List (a×e)} {d:List (a×f)},eN g c d->eN g (au.bV c b) (au.bV d b)
 |[],[],_=>trivial
 |(j,m)::c,(n,o)::d,k=>by
  obtain⟨rfl,l,h⟩:=k;unfold au.bV
  by_cases i:b==j
  ·simp only [i,if_true];exact h
  ·simp only [i];exact⟨rfl,l,eN.bV h⟩
theorem eN.length {a b c:Type} {f:b->c->Prop} {d:List (a×b)} {e:List (a×c)} (g:eN f d e):d.length=e.length:=by
 have:=congrArg List.length g.keys;simpa using this
structure bG {κ:Type} (w:World) (r:Nat) (enc:κ->Value) (l:List (κ×Value)):Prop where
 at':∃es clock,w.heap[r]? =some (.map es clock)/\es.toList.map (λe=>(e.key,e.val))=l.map (λp=>(enc p.1,p.2))/\
  (∀e∈es.toList,e.born<clock)/\(es.toList.map (·.born)).Nodup
 tidy:Tidy l
theorem bG.af {S:Nat->Prop} {d:j->Value} {f:List (j×Value)} (g:bG b a d f) (h:ak S b k) (i:¬S a):bG k a d f:=by
 obtain⟨l,c,m,e⟩:=g.at';exact⟨⟨l,c,h.get m i,e⟩,g.tidy⟩
theorem bG.ah {c:j->Value} {d:List (j×Value)} (e:bG b a c d) (f:ai b k):bG k a c d:=e.af f id
theorem bG.lt {c:j->Value} {f:List (j×Value)} (g:bG b a c f):a<b.heap.size:=by
 obtain⟨i,d,h,e⟩:=g.at';exact ay h
theorem bG.new {c:j->Value} (d:b.heap[a]? =some (.map #[] 0)):bG b a c ([]:List (j×Value)):=
 ⟨⟨_,_,d,rfl,sM,sM⟩,by simp [Tidy]⟩
def lA {a:Type} [BEq a] (d:List (a×Value)) (b:a) (c:Nat):Option (Nat×Value):=match d with
 |[]=>none
 |(e,f)::g=>if b==e then some (c,f)else lA g b (c+1)
theorem AK {c:Type} [BEq c] [LawfulBEq c] {a:c->Value} {i:TypeDesc} (j:∀k l,Instr.sameNow i (a k) (a l)=some (k==l)) (d:c):
  ∀(f:List MapEntry) (g:List (c×Value)) (h:Nat),f.map (λe=>(e.key,e.val))=g.map (λm=>(a m.1,m.2))->Instr.findNow i (a d) f h=some (lA g d h)
 |[],[],_,_=>rfl
 |[],_::_,_,b=>by simp at b
 |_::_,[],_,b=>by simp at b
 |e::f,(n,r)::g,h,b=>by
  simp only [QY,List.cons.injEq,Prod.mk.injEq]at b;obtain⟨⟨o,p⟩,q⟩:=b;unfold Instr.findNow lA;rw [o,j]
  cases s:d==n
  ·simp only [Bool.false_eq_true,if_false]
   exact AK j d f g (h+1) q
  ·simp [p]
theorem EX [BEq j] {a:j->Value} (c:∀d e,Instr.sameNow e2 (a d) (a e)=none) (f:j) (b:MapEntry) (g:List MapEntry) (h:j) (i:b.key=a h) (k:Nat):Instr.findNow e2 (a f) (b::g) k=none:=by
 unfold Instr.findNow;rw [i,c]
theorem rG {c:Type} [BEq c] {j:Program} {k:TypeId} {a:c->Value} {d:World} (l:∀m n,(Op.equal k (a m) (a n)).run j d= .ok (m==n) d) (f:c):
  ∀(g:List MapEntry) (h:List (c×Value)) (i:Nat),g.map (λe=>(e.key,e.val))=h.map (λo=>(a o.1,o.2))->(Instr.findAsking k (a f) g i).run j d= .ok (lA h f i) d
 |[],[],_,_=>rfl
 |[],_::_,_,b=>by simp at b
 |_::_,[],_,b=>by simp at b
 |e::g,(p,t)::h,i,b=>by
  simp only [QY,List.cons.injEq,Prod.mk.injEq]at b;obtain⟨⟨q,r⟩,s⟩:=b;unfold Instr.findAsking lA;rw [q];simp only [Sem.run_bind,l,Result.andThen_ok]
  cases u:f==p
  ·simpa using rG l f g h (i+1) s
  ·simp [r]
structure gQ {κ:Type} [BEq κ] (P:Program) (kt:TypeId) (enc:κ->Value):Prop where
 find:∀(k:κ) (es:List MapEntry) (l:List (κ×Value)) (w:World),es.map (λe=>(e.key,e.val))=l.map (λp=>(enc p.1,p.2))->(Instr.findKey kt (enc k) es).run P w= .ok (lA l k 0) w
 check:∀k w e,(Instr.checkKey e 10000 kt (enc k)).run P w= .ok () w
 same:∀n a,Instr.sameBits (n+1) (enc a) (enc a)=true
 inj:∀{a b},enc a=enc b->a=b
theorem gQ.flat [BEq j] [LawfulBEq j] {a:j->Value} (n:h.underlying g=some e2) (k:∀b c,Instr.sameNow e2 (a b) (a c)=some (b==c)) (o:∀l d e f,(Instr.checkKey f (l+1) g (a d)).run h e= .ok () e)
  (i:∀l b,Instr.sameBits (l+1) (a b) (a b)=true):gQ h g a:=
 ⟨λd p q e r=>by simp [Instr.findKey,run_underlying n,AK k d p q 0 r],λd e f=>o 9999 d e f,i,λ{b c} f=>by
  have m:=k b c;rw [f,k c c]at m;simpa using m.symm⟩
theorem gQ.struct [BEq j] {a:j->Value} (p:h.underlying g=some e2) (r:∀b c,Instr.sameNow e2 (a b) (a c)=none) (s:∀b c d,(Op.equal g (a b) (a c)).run h d= .ok (b==c) d) (t:∀i d k,(Instr.checkKey k 10000 g (a i)).run h d= .ok () d)
  (e:∀u b,Instr.sameBits (u+1) (a b) (a b)=true) (n:∀{b c},a b=a c->b=c):gQ h g a:=by
 refine⟨λi l f d m=>?_,t,e,n⟩
 cases l with
 |nil=>
  cases f with
  |nil=>simp [Instr.findKey,run_underlying p,Instr.findNow,lA]
  |cons o f=>simp at m
 |cons k l=>
  cases f with
  |nil=>simp at m
  |cons o f=>
   have q:=m;simp only [QY,List.cons.injEq,Prod.mk.injEq]at q;simp only [Instr.findKey,Sem.run_bind,run_underlying p,Result.andThen_ok,EX r i k l o.1 q.1.1];exact rG (λb c=>s b c d) i (k::l) (o::f) 0 m
theorem wh [BEq j] [LawfulBEq j] (b:List (j×Value)) (c:j):∀a,(lA b c a).map (·.2)=aD b c:=by
 induction b with
 |nil=>intro a;rfl
 |cons d f e=>
  intro a;obtain⟨g,h⟩:=d;unfold lA aD;split
  ·rfl
  ·exact e (a+1)
theorem iN [BEq j] [LawfulBEq j] {a:j->Value} (k:gQ h g a) (b:j) (c:List MapEntry) (d:List (j×Value)) (l:c.map (λf=>(f.key,f.val))=d.map (λi=>(a i.1,i.2))) (e:World):
  (Instr.findKey g (a b) c).run h e= .ok (lA d b 0) e:=by
 exact k.find b c d e l
theorem c_ (d:b.heap[a]? =some (.map e3 c)):(getObj a).run h b= .ok (.map e3 c) b:=by
 simp [getObj,Sem.run,d]
theorem dj [BEq j] [LawfulBEq j] {a:j->Value} (e:gQ h g a) (c:Bool) (d:j) (b:World):(Instr.checkKey c 10000 g (a d)).run h b= .ok () b:=by
 exact e.check d b c
theorem Ci (b:h.info? g=some e4) (c:e4.zero=some v) (a:World):(zeroValue g).run h a= .ok v a:=by
 simp [zeroValue,typeInfo,b,c]
structure lJ (P:Program) (t kt vt:TypeId) (z:Value):Prop where
 under:P.underlying t=some (.map kt vt)
 zero:(P.info? vt).bind (·.zero)=some z
theorem lJ.KT (d:lJ h g q A v) (b:World):(zeroValue A).run h b= .ok v b:=by
 have a:=d.zero
 cases c:h.info? A with
 |none=>rw [c]at a;cases a
 |some e=>rw [c]at a;exact Ci c a b
theorem dN [BEq j] [LawfulBEq j] {c:j->Value} (l:lJ h g q A v) (m:gQ h q c) {d:List (j×Value)} (o:bG b a c d) (e:j) (i:Bool):
  (Instr.lookup g (.map (some a)) (c e) i).run h b= .ok (if i then .tuple #[(aD d e).getD v,.bool (aD d e).isSome]else(aD d e).getD v) b:=by
 obtain⟨p,k,r,s,_⟩:=o.at';have t:=iN m e p.toList d s b;have f:=wh d e 0;simp only [Instr.lookup,Sem.run_bind,run_underlying l.under,Result.andThen_ok,c_ r,dj m,t,Sem.run_pure]
 cases n:lA d e 0 with
 |none=>rw [n]at f;simp only [Option.map_none]at f;rw [<-f];cases i<;>simp [l.KT]
 |some u=>rw [n]at f;simp only [Option.map_some]at f;rw [<-f];cases i<;>simp
theorem yr [BEq j] [LawfulBEq j] {c:j->Value} (f:lJ h g q A v) (i:gQ h q c) {e:List (j×Value)} (k:bG b a c e) {d:j} 
  (l:o ((aD e d).getD v) b):aE h (Instr.lookup g (.map (some a)) (c d) false) b o s:=aE.mk (dN f i k d false) l
theorem lK [BEq j] [LawfulBEq j] {enc:j->Value} (d:lJ h g q A v) (e:gQ h q enc) {c:List (j×Value)} (f:bG b a enc c) {k:j} 
  (i:o (.tuple #[(aD c k).getD v,.bool (aD c k).isSome]) b):aE h (Instr.lookup g (.map (some a)) (enc k) true) b o s:=aE.mk (dN d e f k true) i
theorem ak.setObj (a:World) (b:Nat) (c:Obj):ak (·=b) a {a with heap:=a.heap.setIfInBounds b c}:=
 ⟨rfl,rfl,rfl,sM,λe f d=>by simp [Array.getElem?_setIfInBounds,Ne.symm d]⟩
theorem mr [BEq j] [LawfulBEq j] {c:List (j×Value)} {d:j}:∀{a b:Nat} {g:Value},lA c d a=some (b,g)->a<=b/\b-a<c.length/\c[b-a]? =some (d,g)/\∀i,aH c d i=c.set (b-a) (d,i)/\bV c d=c.eraseIdx (b-a):=by
 induction c with
 |nil=>intro a b g e;simp [lA]at e
 |cons n w o=>
  intro a b g e;obtain⟨p,i⟩:=n;unfold lA at e;split at e
  ·rename_i h
   cases e
   have q:d=p:=by simpa using h
   subst q;simp [aH,bV]
  ·rename_i h
   obtain⟨x,k,l,m⟩:=o e;obtain⟨f,rfl⟩:∃f,b=a+1+f:=⟨b-(a+1),oM⟩
   have r:a+1+f-a=f+1:=oM
   have s:a+1+f-(a+1)=f:=oM
   rw [s]at k l m;rw [r];refine⟨oM,by simpa using k,by simpa using l,λt=>?_⟩;obtain⟨u,v⟩:=m t;unfold aH bV;rw [if_neg h,if_neg h];simp [u,v]
theorem qt [BEq j] [LawfulBEq j] {a:List (j×Value)} {b:j}:∀{d:Nat},lA a b d=none->(∀e,aH a b e=a++[(b,e)])/\bV a b=a:=by
 induction a with
 |nil=>intro d _;simp [aH,bV]
 |cons g l h=>
  intro d c;obtain⟨m,e⟩:=g;unfold lA at c;split at c
  ·cases c
  ·rename_i f
   obtain⟨i,k⟩:=h c;refine⟨λn=>?_,?_⟩
   ·unfold aH;rw [if_neg f,i];rfl
   ·unfold bV;rw [if_neg f,k]
theorem map_eraseIdx {d e:Type} (c:d->e):∀(a:List d) (b:Nat),(a.eraseIdx b).map c=(a.map c).eraseIdx b
 |[],_=>by simp
 |x::a,0=>rfl
 |x::a,b+1=>by simp [map_eraseIdx c a b]
theorem cF (a:World) (b:Nat) (c:Obj) (d:b<a.heap.size):({a with heap:=a.heap.setIfInBounds b c}:World).heap[b]? =some c:=by simp [d]
theorem dO (e:b.heap[a]? =some (.map e3 c)) (d:Obj):(setObj a d).run h b= .ok () {b with heap:=b.heap.setIfInBounds a d}:=by
 simp [setObj,Sem.run,e]
theorem ij [BEq j] [LawfulBEq j] {enc:j->Value} (H:lJ h g q A v) (t:gQ h q enc) {p:List (j×Value)} (z:bG b a enc p) {k:j} 
  (I:∀u,bG u a enc (aH p k c0)->ak (·=a) b u->u.heap.size=b.heap.size->y u):iD h (Instr.mapUpdate g (.map (some a)) (enc k) c0) b y o:=by
 obtain⟨e,c,r,s,B,J⟩:=z.at';have w:=iN t k e.toList p s b;have O:e.toList.length=p.length:=by have:=congrArg List.length s;simpa using this
 have K:=ay r
 cases x:lA p k 0 with
 |none=>
  rw [x]at w;refine iD.mk (w':={b with heap:=b.heap.setIfInBounds a (.map (e.push {key:=enc k,val:=c0,born:=c}) (c+1))}) ?_ (I _ ⟨⟨_,_,cF b a _ K,?_,?_,?_⟩,z.tidy.aH k c0⟩ (ak.setObj b a _) sM)
  ·simp [Instr.mapUpdate,run_underlying H.under,c_ r,dj t,w,dO r]
  ·rw [(qt x).1 c0];simp [s]
  ·intro i f
   simp only [Array.toList_push,Q6,List.mem_singleton]at f;rcases f with f|rfl
   ·have:=B i f;omega
   ·show c<c+1;omega
  ·simp only [Array.toList_push,Q3,QY,List.map_nil]
   rw [List.nodup_append];refine⟨J,sM,?_⟩;intro V P W C X;simp only [List.mem_singleton]at C;obtain⟨i,f,rfl⟩:=Xk.1 P;have:=B i f;omega
 |some Q=>
  obtain⟨l,Y⟩:=Q;rw [x]at w;obtain⟨_,L,M,N⟩:=mr x;rw [Nat.sub_zero]at L M N;have E:l<e.size:=by
                 have:e.size=p.length:=by simpa using O
                 omega
  have R:e[l].key=enc k:=by
   have:=congrArg (·[l]?) s;simp only [Q9,M,Option.map_some]at this;simp [E]at this;exact this.1
  refine iD.mk (w':={b with heap:=b.heap.setIfInBounds a (.map (e.modify l λi=>{i with key:=enc k,val:=c0}) c)}) ?_ (I _ ⟨⟨_,_,cF b a _ K,?_,?_,?_⟩,z.tidy.aH k c0⟩ (ak.setObj b a _) sM)
  ·have S:(Instr.keyThatStays (enc k) (enc k)).run h b= .ok (enc k) b:=by simp [Instr.keyThatStays,t.same]
   simp [Instr.mapUpdate,run_underlying H.under,c_ r,dj t,w,E,R,S,dO r]
  ·rw [(N c0).1]
   apply X3;intro m;have d:=congrArg (·[m]?) s;simp only [Q9]at d;simp only [Array.toList_modify,Q9,Xj,List.getElem?_modify]
   by_cases n:l=m
   ·subst n
    simp [E,L]
   ·simp only [n,if_false,Option.map_map]at d⊢
    simpa using d
  ·intro i f
   rw [Array.toList_modify]at f;obtain⟨m,d⟩:=List.getElem?_of_mem f;rw [List.getElem?_modify]at d
   cases F:e.toList[m]? with
   |none=>rw [F]at d;simp at d
   |some T=>
    rw [F]at d;have U:=QZ F;have:=B T U
    by_cases n:l=m
    ·simp [n]at d;subst d;exact this
    ·simp [n]at d;subst d;exact this
  ·have:(e.modify l λi=>{i with key:=enc k,val:=c0}).toList.map (·.born)=e.toList.map (·.born):=by
    apply X3;intro m;simp only [Array.toList_modify,Q9,List.getElem?_modify,Option.map_map]
    by_cases n:l=m<;>simp [n]<;>rfl
   rw [this];exact J
theorem IZ [BEq j] [LawfulBEq j] {e:j->Value} (x:lJ h g q A v) (t:gQ h q e) {i:List (j×Value)} (u:bG b a e i) {k:j} 
  (y:∀m,bG m a e (bV i k)->ak (·=a) b m->m.heap.size=b.heap.size->o (.tuple #[]) m):aE h (Builtin.delete_ #[g,c1] f7 #[.map (some a),e k]) b o s:=by
 obtain⟨c,d,l,n,z,B⟩:=u.at';have p:=iN t k c.toList i n b;have H:c.toList.length=i.length:=by have:=congrArg List.length n;simpa using this
 have C:=ay l
 cases r:lA i k 0 with
 |none=>
  rw [r]at p;refine aE.mk (w':={b with heap:=b.heap.setIfInBounds a (.map c d)}) ?_ (y _ ⟨⟨_,_,cF b a _ C,?_,z,B⟩,u.tidy.bV k⟩ (ak.setObj b a _) sM)
  ·simp [Builtin.delete_,run_underlying x.under,c_ l,dj t,p,dO l]
  ·rw [(qt r).2];exact n
 |some I=>
  obtain⟨f,J⟩:=I;rw [r]at p;obtain⟨_,K,L,E⟩:=mr r;rw [Nat.sub_zero]at K L E;have w:f<c.size:=by
                 have:c.size=i.length:=by simpa using H
                 omega
  refine aE.mk (w':={b with heap:=b.heap.setIfInBounds a (.map (c.eraseIdxIfInBounds f) d)}) ?_ (y _ ⟨⟨_,_,cF b a _ C,?_,?_,?_⟩,u.tidy.bV k⟩ (ak.setObj b a _) sM)
  ·simp [Builtin.delete_,run_underlying x.under,c_ l,dj t,p,dO l]
  ·rw [(E J).2]
   have:(c.eraseIdxIfInBounds f).toList=c.toList.eraseIdx f:=by simp [Array.eraseIdxIfInBounds,w]
   rw [this,map_eraseIdx,n,map_eraseIdx]
  ·intro M F
   have:(c.eraseIdxIfInBounds f).toList=c.toList.eraseIdx f:=by simp [Array.eraseIdxIfInBounds,w]
   rw [this]at F;exact z M (List.mem_of_mem_eraseIdx F)
  ·have:(c.eraseIdxIfInBounds f).toList=c.toList.eraseIdx f:=by simp [Array.eraseIdxIfInBounds,w]
   rw [this,map_eraseIdx];exact B.sublist (List.eraseIdx_sublist _ _)
theorem Hk [BEq j] [LawfulBEq j] {d:j->Value} (i:lJ h g q A v) {k:List (j×Value)} (l:bG b a d k) 
  (m:∀e,bG e a d ([]:List (j×Value))->ak (·=a) b e->e.heap.size=b.heap.size->o (.tuple #[]) e):aE h (Builtin.clear_ #[g] c1 #[.map (some a)]) b o s:=by
 obtain⟨p,c,f,r,t,u⟩:=l.at';have n:=ay f;refine aE.mk (w':={b with heap:=b.heap.setIfInBounds a (.map #[] c)}) ?_ (m _ ⟨⟨_,_,cF b a _ n,rfl,sM,sM⟩,by simp [Tidy]⟩ (ak.setObj b a _) sM);simp [Builtin.clear_,run_underlying i.under,c_ f,dO f]
theorem Tk (a:h.underlying g=some (.int .i64)):gQ h g (Value.int .i64):=
 gQ.flat a (λb d=>by simp [Instr.sameNow]) (λc e f i=>by simp [Instr.checkKey,run_underlying a]) λc b=>by simp [Instr.sameBits]
end Go.au
namespace Go.au
open Go
set_option linter.unusedVariables false
instance:LawfulBEq ByteArray where
 eq_of_beq:=λ{a b} h=>ByteArray.ext (eq_of_beq (show(a.data==b.data)=true from h))
 rfl:=λ{a}=>show(a.data==a.data)=true from by simp
variable{a:Nat}{h:Program}{A c1 f7 g q:TypeId}{v:Value}{o s:Value->World->Prop}
theorem UB (a:h.underlying g=some .string):gQ h g Value.string:=
 gQ.flat a (λb d=>rfl) (λc e f i=>by simp [Instr.checkKey,run_underlying a]) λc b=>by simp [Instr.sameBits]
structure cE {κ:Type} (w:World) (it r:Nat) (enc:κ->Value) (l left:List (κ×Value)):Prop where
 at':∃es clock since seen c0,w.heap[r]? =some (.map es clock)/\es.toList.map (λe=>(e.key,e.val))=l.map (λp=>(enc p.1,p.2))/\
  (∀e∈es.toList,e.born<clock)/\(es.toList.map (·.born)).Nodup/\w.heap[it]? =some (.mapIter (some r) since seen c0)/\(∀x∈es.toList,x.born<since)/\since<=c0/\since<=clock/\
  (leftOf es seen).toList.map (λe=>(e.key,e.val))=left.map (λp=>(enc p.1,p.2))
 tidy:Tidy l
structure RJ {κ:Type} (w:World) (it r:Nat) (enc:κ->Value) (k:κ) (v:Value):Prop where
 at':∃(es:Array MapEntry) (clock since:Nat) (seen:Array Nat) (e:MapEntry),w.heap[r]? =some (.map es clock)/\w.heap[it]? =some (.mapIter (some r) since (seen.push e.born) clock)/\e∈es.toList/\(es.toList.map (·.born)).Nodup/\e.key=enc k/\e.val=v
section
variable {κ:Type} {w w':World} {it r:Nat} {enc:κ->Value} {l left:List (κ×Value)} {S:Nat->Prop}
theorem cE.af (d:cE w it r enc l left) (e:ak S w w') (f:¬S it) (g:¬S r):cE w' it r enc l left:=by
 obtain⟨h,a,b,seen,i,j,k,m,n,o,c⟩:=d.at';exact⟨⟨h,a,b,seen,i,e.get j g,k,m,n,e.get o f,c⟩,d.tidy⟩
theorem cE.ah (a:cE w it r enc l left) (b:ai w w'):cE w' it r enc l left:=a.af b id id
theorem cE.map (c:cE w it r enc l left):bG w r enc l:=by
 obtain⟨e,a,b,seen,j,f,g,h,i,k,d⟩:=c.at';exact⟨⟨e,a,f,g,h,i⟩,c.tidy⟩
theorem cE.ne (e:cE w it r enc l left):it≠r:=by
 obtain⟨g,a,b,seen,h,f,i,j,k,c,d⟩:=e.at';rintro rfl;rw [f]at c;cases c
theorem cE.lt (d:cE w it r enc l left):it<w.heap.size:=by
 obtain⟨f,a,b,seen,g,h,i,j,k,e,c⟩:=d.at';exact ay e
theorem mapRange (j:lJ h g q A v) (b:bG w r enc l)
  (k:∀w',cE w' w.heap.size r enc l l->ai w w'->w'.heap.size=w.heap.size+1->o (.pointer (some ⟨w.heap.size,0,none⟩)) w'):aE h (Instr.range g (.map (some r))) w o s:=by
 obtain⟨c,a,d,e,f,m⟩:=b.at';have i:ai w (w.alloc (.mapIter (some r) a #[] a)):=ak.alloc w _;refine aE.mk (run_range_map w g q A r c a j.under d) (k _ ⟨⟨c,a,a,#[],a,i.get d id,e,f,m,heap_alloc_new w _,f,Q4 _,Q4 _,?_⟩,b.tidy⟩ i sM);rw [<-e]
 congr 2
 unfold leftOf;simp
theorem mf {P:Program} (q:cE w it r enc l left) (U:left=[]->o (.tuple #[.bool false]) w)
  (V:∀t u A B w',left=A++(t,u)::B->cE w' it r enc l (A++B)->RJ w' it r enc t u->ak (·=it) w w'->w'.heap.size=w.heap.size->o (.tuple #[.bool true,enc t,u]) w'):
  aE P (Instr.next (.pointer (some ⟨it,0,none⟩)) false g) w o s:=by
 have W:=q.ne;obtain⟨e,a,c,seen,C,E,X,Y,v,F,H,Z,I,m⟩:=q.at';rcases run_next_at (P:=P) w g it r c C seen e a F E H Z with⟨hz,x⟩|⟨d,J,h,K,x⟩
 ·refine aE.mk x (U ?_)
  have:(leftOf e seen).toList=[]:=by rw [Array.eq_empty_of_size_eq_zero hz]
  rw [this]at m;simpa using m.symm
 ·have y:ai w h:=by rcases K with rfl|rfl;exact ak.refl _;exact ak.drewN w 1
  have b0:h.heap.size=w.heap.size:=by rcases K with rfl|rfl<;>rfl
  have a0:h.heap[it]? =some (.mapIter (some r) c seen C):=y.get F id;have b1:h.heap[r]? =some (.map e a):=y.get E id;have a1:=ay a0
  let p:=ChangeMaps.setBlock h it (.mapIter (some r) c (seen.push d.born) a)
  have L:ak (·=it) h p:=ak.setObj h it _;have M:p.heap[it]? =some (.mapIter (some r) c (seen.push d.born) a):=cF h it _ a1;have N:p.heap[r]? =some (.map e a):=L.get b1 (λd=>W d.symm);have a2:=mem_left J;obtain⟨b,i,O⟩:=List.getElem_of_mem J;have Q:b<left.length:=by have:=congrArg List.length m;simp at this;simp at i;omega
  have R:(d.key,d.val)=(enc left[b].1,left[b].2):=by
   have:=congrArg (λa3=>a3[b]?) m;simp only [Q9]at this;rw [Qq i,Qq Q,O]at this;simpa using this
  have a4:left=left.take b++(left[b].1,left[b].2)::left.drop (b+1):=by
   have:=(List.take_append_drop b left).symm;rw [X4 Q]at this;exact this
  have a5:(leftOf e (seen.push d.born)).toList=(leftOf e seen).toList.eraseIdx b:=by
   have k:((leftOf e seen).toList.map (·.born)).Nodup:=by
    unfold leftOf;rw [Array.toList_filter];exact v.sublist (List.Sublist.map _ List.filter_sublist)
   have hf:(leftOf e (seen.push d.born)).toList=(leftOf e seen).toList.filter (λj=>j.born !=d.born):=by
    unfold leftOf;rw [Array.toList_filter,Array.toList_filter,List.filter_filter]
    congr 1
    funext j
    rw [contains_push]
    cases seen.contains j.born<;>cases hx:(j.born==d.born)<;>simp only [bne,hx]<;>rfl
   rw [hf];have z:∀(f:List MapEntry) (b:Nat) (i:b<f.length),(f.map (·.born)).Nodup->f.filter (λj=>j.born !=f[b].born)=f.eraseIdx b:=by
    intro f
    induction f with
    |nil=>intro b i;simp at i
    |cons j f ih=>
     intro b i k;simp only [QY,List.nodup_cons]at k
     cases b with
     |zero=>
      simp only [List.getElem_cons_zero,List.eraseIdx_zero,List.tail_cons];rw [List.filter_cons_of_neg sM];apply List.filter_eq_self.2;intro a6 hy;simp only [bne_iff_ne,ne_eq];intro d;exact k.1 (d▸Xk.2 ⟨a6,hy,rfl⟩)
     |succ b=>
      simp only [List.getElem_cons_succ,List.eraseIdx_cons_succ];have n:b<f.length:=by simpa using i
      rw [List.filter_cons_of_pos,ih b n k.2];simp only [bne_iff_ne,ne_eq];intro d;exact k.1 (d▸Xk.2 ⟨f[b],XY n,rfl⟩)
   have:=z _ b i k;rw [O]at this;exact this
  have S:d.key=enc left[b].1:=(Prod.mk.inj R).1;have T:d.val=left[b].2:=(Prod.mk.inj R).2;refine aE.mk x ?_;rw [S,T];refine V left[b].1 left[b].2 (left.take b) (left.drop (b+1)) p a4 ⟨⟨e,a,c,seen.push d.born,a,N,X,Y,v,M,H,I,I,?_⟩,q.tidy⟩ ⟨e,a,c,seen,d,N,M,a2.1,v,S,T⟩ ((ai.af y).then L) ?_
  ·rw [a5,map_eraseIdx,m,<-map_eraseIdx]
   congr 1
   rw [List.eraseIdx_eq_take_drop_succ]
  ·show(h.heap.setIfInBounds it _).size=_
   simp [b0]
theorem pt {c:κ} (d:RJ w it r enc c v) (e:o (.tuple #[enc c,v]) w):aE h (Instr.entry (.pointer (some ⟨it,0,none⟩))) w o s:=by
 obtain⟨f,a,b,seen,g,i,j,k,l,m,n⟩:=d.at';refine aE.mk (run_entry_at w it r b seen f a g j i k l) ?_;rw [m,n];exact e
theorem NO [BEq κ] [LawfulBEq κ] {e:κ} (K:lJ h g q A v) (y:gQ h q enc) (z:cE w it r enc l left) (X:e∉left.map (·.1))
  (L:∀w',cE w' it r enc (bV l e) left->ak (·=r) w w'->w'.heap.size=w.heap.size->o (.tuple #[]) w'):aE h (Builtin.delete_ #[g,c1] f7 #[.map (some r),enc e]) w o s:=by
 have M:=z.ne;obtain⟨b,c,d,seen,N,m,n,O,P,Q,R,S,T,H⟩:=z.at';have B:=iN y e b.toList l n w;have Y:b.toList.length=l.length:=by have:=congrArg List.length n;simpa using this
 have U:=ay m
 cases C:lA l e 0 with
 |none=>
  rw [C]at B;refine aE.mk (w':={w with heap:=w.heap.setIfInBounds r (.map b c)}) ?_ (L _ ⟨⟨_,_,d,seen,N,cF w r _ U,?_,O,P,(ak.setObj w r _).get Q M,R,S,T,H⟩,z.tidy.bV e⟩ (ak.setObj w r _) sM)
  ·simp [Builtin.delete_,run_underlying K.under,c_ m,dj y,B,dO m]
  ·rw [(qt C).2];exact n
 |some f=>
  obtain⟨a,Z⟩:=f;rw [C]at B;obtain⟨_,j,V,W⟩:=mr C;rw [Nat.sub_zero]at j V W;have p:a<b.size:=by
                 have:b.size=l.length:=by simpa using Y
                 omega
  have t:(b.eraseIdxIfInBounds a).toList=b.toList.eraseIdx a:=by simp [Array.eraseIdxIfInBounds,p]
  have a0:(b.toList[a]'(by simpa using p)).key=enc e:=by
   have:=congrArg (λE=>E[a]?) n;simp only [Q9,V,Option.map_some]at this;rw [Qq (by simpa using p)]at this;simpa using(Prod.mk.inj (XJ this)).1
  have I:∀k∈(leftOf b seen).toList,k.key≠enc e:=by
   intro k hx u;have:(k.key,k.val)∈left.map (λf=>(enc f.1,f.2)):=by rw [<-H];exact Xk.2 ⟨k,hx,rfl⟩
   obtain⟨E,hq,a1⟩:=Xk.1 this;have a2:enc E.1=enc e:=(Prod.mk.inj a1).1.trans u;exact X (Xk.2 ⟨E,hq,y.inj a2⟩)
  have a3:(leftOf (b.eraseIdxIfInBounds a) seen).toList=(leftOf b seen).toList:=by
   unfold leftOf at I⊢;rw [Array.toList_filter]at I;rw [Array.toList_filter,Array.toList_filter,t];have J:∀(i:List MapEntry) (f:MapEntry->Bool) (a:Nat) (j:a<i.length),f i[a]=false->(i.eraseIdx a).filter f=i.filter f:=by
    intro i f
    induction i with
    |nil=>intro a j;simp at j
    |cons k i ih=>
     intro a j F
     cases a with
     |zero=>
      simp only [List.getElem_cons_zero]at F;simp [F]
     |succ a=>
      simp only [List.getElem_cons_succ]at F;simp only [List.eraseIdx_cons_succ,List.filter_cons];rw [ih a (by simpa using j) F]
   refine J _ _ a (by simpa using p) ?_
   cases a4: !seen.contains (b.toList[a]'(by simpa using p)).born with
   |false=>rfl
   |true=>exact absurd a0 (I _ (List.mem_filter.2 ⟨XY _,a4⟩))
  refine aE.mk (w':={w with heap:=w.heap.setIfInBounds r (.map (b.eraseIdxIfInBounds a) c)}) ?_ (L _ ⟨⟨_,_,d,seen,N,cF w r _ U,?_,?_,?_,(ak.setObj w r _).get Q M,?_,S,T,?_⟩,z.tidy.bV e⟩ (ak.setObj w r _) sM)
  ·simp [Builtin.delete_,run_underlying K.under,c_ m,dj y,B,dO m]
  ·rw [(W Z).2,t,map_eraseIdx,n,map_eraseIdx]
  ·intro u x
   rw [t]at x;exact O u (List.mem_of_mem_eraseIdx x)
  ·rw [t,map_eraseIdx]
   exact P.sublist (List.eraseIdx_sublist _ _)
  ·intro u x
   rw [t]at x;exact R u (List.mem_of_mem_eraseIdx x)
  ·rw [a3];exact H
theorem Sd (b:lJ h g q A v) (c:bG w r enc l) (d:o (.int .i64 (l.length:Int)) w):aE h (Builtin.len_ #[g] c1 #[.map (some r)]) w o s:=by
 obtain⟨e,a,f,i,_⟩:=c.at';have j:e.size=l.length:=by have:=congrArg List.length i;simpa using this
 refine aE.mk (v:=.int .i64 (l.length:Int)) ?_ d;rw [<-j];simp [Builtin.len_,Builtin.lenOf,run_underlying b.under,c_ f,goInt]
theorem Aj {a:ByteArray} (b:h.underlying g=some .string)
  (c:∀w',w'.heap[w.heap.size]? =some (.stringIter a 0)->ai w w'->w'.heap.size=w.heap.size+1->o (.pointer (some ⟨w.heap.size,0,none⟩)) w'):aE h (Instr.range g (.string a)) w o s:=
 aE.mk (run_range_string w g a b) (c _ (World.iter_heap w a 0) (ak.alloc w _) (by simp [World.iter]))
theorem EE {b:ByteArray} (c:w.heap[it]? =some (.stringIter b a)) (e:b.size<=a->o (.tuple #[.bool false]) w)
  (f:a<b.size->∀w',w'.heap[it]? =some (.stringIter b (a+(Utf8.decode b a).2))->ak (·=it) w w'->w'.heap.size=w.heap.size->o (.tuple #[.bool true,.int .i64 (a:Int),.int .i32 ((Utf8.decode b a).1:Int)]) w'):
  aE h (Instr.next (.pointer (some ⟨it,0,none⟩)) true g) w o s:=by
 by_cases d:a<b.size
 ·refine aE.mk (w':={w with heap:=w.heap.setIfInBounds it (.stringIter b (a+(Utf8.decode b a).2))}) ?_ (f d _ (cF w it _ (ay c)) (ak.setObj w it _) sM)
  simp [Instr.next,getObj,setObj,Sem.run,c,d,goInt]
 ·refine aE.mk ?_ (e oM)
  simp [Instr.next,getObj,Sem.run,c,d]
end
end Go.au
