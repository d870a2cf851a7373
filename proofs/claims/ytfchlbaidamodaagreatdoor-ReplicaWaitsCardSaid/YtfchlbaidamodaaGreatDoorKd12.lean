import Derived.Test.YtfchlbaidamodaaGreatDoorKd11
import Derived.Lib.AppendZeros
set_option linter.all false
set_option maxRecDepth 100000
namespace Go.ax
open Go
def DX (cs:Array Value):Nat->List Value->Array Value
 |_,[]=>cs
 |a,b::c=>DX (cs.setIfInBounds a b) (a+1) c
theorem GF:∀(c:List Value) (cs:Array Value) (b a:Nat),(DX cs b c)[a]? =if b<=a/\a<b+c.length/\a<cs.size then c[a-b]? else cs[a]?
 |[],cs,b,a=>by rw [if_neg (by simp;omega)];rfl
 |v::c,cs,b,a=>by
  unfold DX;rw [GF c,Array.getElem?_setIfInBounds];simp only [Xq,Array.size_setIfInBounds]
  by_cases d:b+1<=a/\a<b+1+c.length/\a<cs.size
  ·rw [if_pos d,if_pos oM,show a-b=(a-(b+1))+1 by omega,List.getElem?_cons_succ]
  ·rw [if_neg d]
   by_cases e:b=a
   ·subst e
    by_cases f:b<cs.size
    ·rw [if_pos rfl,if_pos f,if_pos oM,Nat.sub_self,List.getElem?_cons_zero]
    ·rw [if_pos rfl,if_neg f,if_neg oM,Array.getElem?_eq_none oM]
   ·rw [if_neg e,if_neg oM]
variable{a2:List Value}{a:Nat}{g:TypeId}{b:World}{y:World->Prop}
theorem GH {cs:Array Value} (b:a2.length=cs.size):DX cs 0 a2=a2.toArray:=by
 apply Array.ext_getElem?;intro a;rw [GF]
 by_cases c:a<cs.size
 ·rw [if_pos oM];simp
 ·rw [if_neg oM,Array.getElem?_eq_none oM]
  simp;omega
theorem zU {d:Nat} {h:TypeId} {i:World->Prop}:∀(c:List Value) (b:Nat) {a:World} {cs:Array Value},a.heap[d]? =some (.cells cs h (0,0))->b+c.length<=cs.size->
  (∀e,aj (·=d) a e->e.heap.size=a.heap.size->e.heap[d]? =some (.cells (DX cs b c) h (0,0))->i e)->jG ⟨d,0,none⟩ b c a i
 |[],b,a,cs,f,j,g=>g a (aj.refl _) rfl f
 |v::c,b,a,cs,f,j,g=>by
  unfold jG;rw [Addr.add_lit,Xz];rw [Xq]at j;exact PS.mk f oM λr k l m=>zU c (b+1) m (by simp;omega) λn o p q=>g n (k.then o) (p.trans l) q
theorem storeAll {cs:Array Value} (d:List Value) (e:b.heap[a]? =some (.cells cs g (0,0))) (f:d.length=cs.size)
  (h:∀c,aj (·=a) b c->c.heap.size=b.heap.size->c.heap[a]? =some (.cells d.toArray g (0,0))->y c):jG ⟨a,0,none⟩ 0 d b y:=
 zU d 0 e oM λc i j k=>h c i j (by rw [k,GH f])
end Go.ax
namespace Go.ax
open Go
theorem wrap_u32 (a:Nat) (b:a<2 ^ 32):IntKind.wrap .u32 (a:Int)=a:=by
 unfold IntKind.wrap;simp [IntKind.signed,IntKind.bits];omega
theorem wrap_u8 (a:Nat):IntKind.wrap .u8 (a:Int)=((a % 256:Nat):Int):=by
 unfold IntKind.wrap;simp [IntKind.signed,IntKind.bits]
theorem ofInt32 (a:sF):BitVec.ofInt (IntKind.bits .u32) ((a.toNat:Nat):Int)=a:=by
 show BitVec.ofInt 32 ((a.toNat:Nat):Int)=a;rw [BitVec.ofInt_natCast];simp
theorem LR (a b:sF):qY .u32 ((a.toNat:Nat):Int) ((b.toNat:Nat):Int)=(((a ^^^ b).toNat:Nat):Int):=by
 unfold qY;rw [ofInt32,ofInt32];exact wrap_u32 _ (a ^^^ b).isLt
theorem RQ (a:sF):qY .u32 (IntKind.max .u32) ((a.toNat:Nat):Int)=(((~~~a).toNat:Nat):Int):=by
 have b:IntKind.max .u32=(((BitVec.allOnes 32).toNat:Nat):Int):=by decide+kernel
 rw [b,LR,BitVec.allOnes_xor]
theorem VM (a:sF):iA .u32 ((a.toNat:Nat):Int) 8=(((a>>>8).toNat:Nat):Int):=by
 unfold iA;have:(min (Int.toNat 8) (IntKind.bits .u32))=8:=dC
 rw [this,BitVec.toNat_ushiftRight,Nat.shiftRight_eq_div_pow];show Int.fdiv _ ((2 ^ 8:Nat):Int)=_;rw [Int.fdiv_eq_ediv_of_nonneg _ (Int.natCast_nonneg _)]
 rfl
theorem Xl (a b:Nat) (c:a<256) (d:b<256):qY .u8 (a:Int) (b:Int)=((a ^^^ b:Nat):Int):=by
 unfold qY;show IntKind.wrap .u8 ((BitVec.ofInt 8 (a:Int) ^^^ BitVec.ofInt 8 (b:Int)).toNat:Int)=_;have e:a ^^^ b<2 ^ 8:=Nat.xor_lt_two_pow oM oM;rw [BitVec.ofInt_natCast,BitVec.ofInt_natCast,BitVec.toNat_xor,BitVec.toNat_ofNat,BitVec.toNat_ofNat,Nat.mod_eq_of_lt oM,Nat.mod_eq_of_lt oM,wrap_u8,Nat.mod_eq_of_lt oM]
theorem VN (a:Nat) (c:a<256):BL .u8 (a:Int) 15=((a % 16:Nat):Int):=by
 unfold BL;show IntKind.wrap .u8 ((BitVec.ofInt 8 (a:Int)&&&BitVec.ofInt 8 ((15:Nat):Int)).toNat:Int)=_;have b:a&&&15=a % 16:=Nat.and_two_pow_sub_one_eq_mod a 4;rw [BitVec.ofInt_natCast,BitVec.ofInt_natCast,BitVec.toNat_and,BitVec.toNat_ofNat,BitVec.toNat_ofNat,Nat.mod_eq_of_lt oM,Nat.mod_eq_of_lt oM,b,wrap_u8,Nat.mod_eq_of_lt oM]
theorem Xm (a:Nat):iA .u8 (a:Int) 4=((a/16:Nat):Int):=by
 unfold iA;have:(min (Int.toNat 4) (IntKind.bits .u8))=4:=dC
 rw [this];show Int.fdiv _ ((2 ^ 4:Nat):Int)=_;rw [Int.fdiv_eq_ediv_of_nonneg _ (Int.natCast_nonneg _)]
 rfl
end Go.ax
namespace Go.Proofs.YtfchlbaidamodaaGreatDoor
open Go.ax
structure qU (w:World):Prop where
 lower:∀i,i<16->w.cell? ⟨2,i,none⟩=some (.int .u32 ((kv.getD i 0:Nat):Int))
 upper:∀i,i<16->w.cell? ⟨3,i,none⟩=some (.int .u32 ((ky.getD i 0:Nat):Int))
 lt:2<w.heap.size/\3<w.heap.size
variable{x:List UInt8}{a c:Nat}{f:Nat->Prop}{d:Option Addr}{b l:World}
theorem qU.af (a:qU b) (d:ai b l):qU l:=
 ⟨λc e=>(d.cell (a:=⟨2,c,none⟩) a.lt.1 id).trans (a.lower c e),λc e=>(d.cell (a:=⟨3,c,none⟩) a.lt.2 id).trans (a.upper c e),Qk a.lt.1 d.size,Qk a.lt.2 d.size⟩
theorem RR:∀a,kv.getD a 0<2 ^ 32/\ky.getD a 0<2 ^ 32:=by
 intro a
 by_cases b:a<16
 ·have c:(List.range 16).all (λa=>decide (kv.getD a 0<2 ^ 32/\ky.getD a 0<2 ^ 32))=true:=by decide+kernel
  simpa using List.all_eq_true.1 c a (List.mem_range.2 b)
 ·rw [QQ,QQ,Q7 (by show 16<=a;omega),Q7 (by show 16<=a;omega)]
  decide
theorem RS {s:sF} (q:qU b) (k:Row gq 1 b f d a x):
  Calls ZX 316 #[.int .u32 ((s.toNat:Nat):Int),.slice d a c] b (Ok λr l=>r= .int .u32 (((NX s x).toNat:Nat):Int)/\bE b l):=by
 have I:=k.len;have t:=k.d_;unfold aQ at t;refine LB ⟨λo e i l=>∃h:Nat,i=h/\h<=a/\o=a-h/\bE b l/\e=((((x.take h).foldl lb (~~~s)).toNat:Nat):Int),⟨_,0,rfl,Qj _,rfl,bE.refl b,by rw [RQ];rfl⟩,?_⟩;rintro o e i J K ⟨h,rfl,L,rfl,j,rfl⟩;generalize m:(x.take h).foldl lb (~~~s)=e;refine al.dec (λu=>?_) (λu=>Ok.mk ⟨?_,j⟩)
 ·obtain⟨v,n,g,rfl,w,_,y⟩:=(k.af j.keep).mh (i:=h) oM
  have p:=q.af j.keep;have M:=g.toNat_lt;have z:IntKind.wrap .u8 ((e.toNat:Nat):Int)=((e.toNat % 256:Nat):Int):=wrap_u8 _;have N:g.toNat ^^^ e.toNat % 256<2 ^ 8:=Nat.xor_lt_two_pow oM oM;have A:qY .u8 ((g.toNat:Nat):Int) (IntKind.wrap .u8 ((e.toNat:Nat):Int))=((g.toNat ^^^ e.toNat % 256:Nat):Int):=by rw [z,Xl _ _ oM oM]
  refine⟨v,n,rfl,oM,oM,_,y,?_⟩;rw [A,VN _ oM,Xm];refine⟨2,0,rfl,oM,oM,((kv.getD ((g.toNat ^^^ e.toNat % 256) % 16) 0:Nat):Int),?_,3,0,rfl,oM,oM,((ky.getD ((g.toNat ^^^ e.toNat % 256)/16) 0:Nat):Int),?_,λO B=>⟨_,oM,h+1,an oM,oM,rfl,j.then B,?_⟩⟩
  ·rw [Xz];exact p.lower _ oM
  ·rw [Xz];exact p.upper _ oM
  ·have C:=(RR ((g.toNat ^^^ e.toNat % 256) % 16)).1
   have E:=(RR ((g.toNat ^^^ e.toNat % 256)/16)).2;rw [VM];have F:((kv.getD ((g.toNat ^^^ e.toNat % 256) % 16) 0:Nat):Int)=(((BitVec.ofNat 32 (kv.getD ((g.toNat ^^^ e.toNat % 256) % 16) 0)).toNat:Nat):Int):=by rw [BitVec.toNat_ofNat,Nat.mod_eq_of_lt C]
   have H:((ky.getD ((g.toNat ^^^ e.toNat % 256)/16) 0:Nat):Int)=(((BitVec.ofNat 32 (ky.getD ((g.toNat ^^^ e.toNat % 256)/16) 0)).toNat:Nat):Int):=by rw [BitVec.toNat_ofNat,Nat.mod_eq_of_lt E]
   rw [F,H,LR,LR,<-Pt,Qw,w,List.foldl_append,m]
   rfl
 ·rw [Qz oM]at m
  rw [RQ,<-m];rfl
theorem NY (e:qU b) (g:Row gq 1 b f d a x):
  Calls ZX 284 #[.slice d a c] b (Ok λh i=>h= .int .u32 (((LS x).toNat:Nat):Int)/\bE b i):=by
 refine Pp (PC.ok (RS (s:=0#32) e g) ?_);rintro _ k ⟨rfl,j⟩;exact⟨_,rfl,Ok.mk ⟨rfl,j⟩⟩
end Go.Proofs.YtfchlbaidamodaaGreatDoor
namespace Go.ax
open Go
theorem wrap_u32' (a:Int):IntKind.wrap .u32 a=a % 4294967296:=by
 unfold IntKind.wrap;simp [IntKind.signed,IntKind.bits]
theorem Ml {a d:Nat} (e:a<16777216) (f:d<256):Rg .u32 (Jn .u32 (a:Int) 8) (IntKind.wrap .u32 (d:Int))=((a*256+d:Nat):Int):=by
 have b:Jn .u32 (a:Int) 8=((a*256:Nat):Int):=by
  unfold Jn;have:min (Int.toNat 8) (IntKind.bits .u32)=8:=dC
  rw [this,wrap_u32'];have:((2:Int) ^ 8)=256:=dC
  rw [this];omega
 rw [b,wrap_u32 _ oM];unfold Rg;show IntKind.wrap .u32 ((BitVec.ofInt 32 ((a*256:Nat):Int)|||BitVec.ofInt 32 (d:Int)).toNat:Int)=_;have c:a*256|||d=a*256+d:=by
  have:=(Nat.shiftLeft_add_eq_or_of_lt (a:=a) (i:=8) (b:=d) oM).symm
  rwa [Nat.shiftLeft_eq]at this
 rw [BitVec.ofInt_natCast,BitVec.ofInt_natCast,BitVec.toNat_or,BitVec.toNat_ofNat,BitVec.toNat_ofNat,Nat.mod_eq_of_lt oM,Nat.mod_eq_of_lt oM,c,wrap_u32 _ oM]
theorem jX (a:Nat):IntKind.wrap .u8 (a:Int)=((UInt8.ofNat a).toNat:Int):=by
 rw [wrap_u8,UInt8.toNat_ofNat']
theorem O_ {k:IntKind} {u m:Nat} (a:m<=k.bits):iA k (u:Int) (m:Int)=((u/2 ^ m:Nat):Int):=by
 unfold iA;rw [Qx,X2 a];show Int.fdiv _ ((2:Int) ^ m)=_;rw [Int.fdiv_eq_ediv_of_nonneg _ (Int.pow_nonneg dC)];simp
variable{a c:Nat}{d:Option Addr}{h:Program}{E g r:TypeId}{o t:Value->World->Prop}{b:World}
theorem PF {d tn k c:TypeId} (l:jP h d c 1 1) (n:h.underlying tn=some (.int .i64)) (p:0<a) (q:a<=aQ) 
  (e:∀f g,aV gq c (·=b.heap.size) f (some ⟨b.heap.size,0,none⟩) 0 g []->a<=g->ai b f->o (.slice (some ⟨b.heap.size,0,none⟩) a g) f):
  aH h (Builtin.append_ #[d,tn] k #[.slice none 0 0,XG (a:Int)]) b o t:=by
 obtain⟨r,i,s,u,B,v,w⟩:=l.info;unfold aQ at q;have x:=Lib.run_append_nil_zeros (P:=h) b d tn k c r i .i64 .i64 l.under n s u a p oM oM (by rw [v];omega);have y:=grownCap_ge b a 0 c;refine aH.mk x (e _ _ ?_ y ?_)
 ·have m:=heap_alloc_new b.drew (.cells (Builtin.zeroCells i.cells a++Builtin.zeroCells i.cells (grownCap b a 0 c-a)) c)
  refine⟨⟨[],λ_=>False,⟨⟨sM,.inr ⟨b.heap.size,grownCap b a 0 c,_,rfl,Qj _,m,Qj _,grownCap_le_maxLen b a 0 c (by unfold maxLen;omega),?_,sM⟩⟩⟩,rfl,λ_ e=>e.elim⟩,λz j=>by simpa [aI]using j.symm,λz j=>by rw [j];exact aC m⟩;rw [Array.size_append,size_zeroCells,size_zeroCells,w];show a*1+(grownCap b a 0 c-a)*1=grownCap b a 0 c*1;omega
 ·have A:ai b (b.drewN 1):=aj.drewN b 1
  exact A.then (aj.alloc _ _)
theorem Vo (e:h.underlying g=some (.slice r)) (f:o (XG (c:Int)) b):aH h (Builtin.cap_ #[g] E #[.slice d a c]) b o t:=by
 refine aH.mk (v:=XG (c:Int)) ?_ f;simp [Builtin.cap_,run_underlying e,goInt]
end Go.ax
namespace Go.Proofs.YtfchlbaidamodaaGreatDoor
open Go.ax
variable{c7 x:List UInt8}{H a c i n:Nat}{J:Nat×Nat}{d p:Option Addr}{b:World}
theorem wJ {bs:List UInt8} {D:Nat->Prop} (g:Row gq 1 b D d a bs) (r:a<=4):
  Calls ZX 299 #[.slice d a c] b (Ok λk e=>k= .int .u32 (gO bs:Int)/\b=e):=by
 have s:=g.len;refine BY ⟨λm h i e=>∃j:Nat,i=j/\j<=a/\m=a-j/\h=(gO (bs.take j):Int)/\b=e,⟨_,0,rfl,Qj _,rfl,rfl,rfl⟩,?_⟩;rintro m h i _ t ⟨j,rfl,u,rfl,rfl,rfl⟩;refine al.dec (λl=>?_) (λl=>?_)
 ·obtain⟨n,f,o,rfl,p,_,q⟩:=g.mh (i:=j) oM
  have v:=oW bs (j:=j) (m:=3) oM;refine⟨n,f,rfl,oM,oM,_,q,_,oM,j+1,an oM,oM,rfl,?_,rfl⟩;rw [Ml (by
            have:(256:Nat) ^ 3=16777216:=dC
            omega) o.toNat_lt,FN p]
 ·rw [Qz oM]
  exact Ok.mk ⟨rfl,rfl⟩
theorem HK {m:Nat} (h:0<m) (e:m<=aQ):
  Calls ZX 315 #[.slice none 0 0,XG (m:Int)] b (Ok λi a=>∃c f,i= .slice (some ⟨c,0,none⟩) 0 f/\aV gq 5 (·=c) a (some ⟨c,0,none⟩) 0 f []/\ai b a/\b.heap.size<=c):=by
 have d:=e;unfold aQ at d;refine mR ⟨λa=>a=b,al.dec (λg=>oM) (λ_=>rfl),?_⟩;rintro _ o rfl;refine Vo ur.under ⟨_,rfl,?_⟩;have j:IntKind.wrap .i64 ((m:Int)-IntKind.wrap .i64 (((0:Nat):Int)-((0:Nat):Int)))=(m:Int):=by
  rw [wrap_i64 (x:=((0:Nat):Int)-((0:Nat):Int)) (by unfold aN;omega),wrap_i64 (by unfold aN;omega)];omega
 rw [j];refine al.dec (λg=>?_) (λg=>oM);refine Vo ur.under ⟨_,rfl,oM,oM,?_⟩;refine PF ur kR h e λp k l q n=>⟨_,_,_,rfl,oM,oM,Ok.mk ⟨_,k,rfl,l,n,Q4 _⟩⟩
theorem CA {D:Nat->Prop} (C:b.heap[a]? =some (.cells #[.slice d c n,.slice p i H] 197 J))
  (R:Row gq 1 b D d c x) (S:Row gq 1 b D p i c7) (E:∀e,D e->e<b.heap.size) (h0:0<c) (f:c+i<=aQ):
  Calls ZX 283 #[.slice (some ⟨a,0,none⟩) 2 2] b (Ok (qD gq 5 b (x++c7))):=by
 have l1:=R.len;have l2:=S.len;have F:=f;unfold aQ at F;refine lF ⟨λh y j g=>b=g/\((h=2/\y=0/\j=0)\/(h=1/\y=(c:Int)/\j=1)\/(h=0/\y=((c+i:Nat):Int)/\j=2)),⟨2,rfl,.inl ⟨rfl,rfl,rfl⟩⟩,?_⟩;rintro h y j _ w1 ⟨rfl,I⟩;rcases I with⟨rfl,rfl,rfl⟩|⟨rfl,rfl,rfl⟩|⟨rfl,rfl,rfl⟩
 ·refine al.tt dC ⟨a,0,rfl,oM,oM,d,c,n,ae C rfl,?_⟩
  rw [wrap_i64 (x:=0+((c:Nat):Int)) (by unfold aN;omega)];exact al.dec (λT=>oM) (λ_=>⟨1,oM,rfl,.inr (.inl ⟨rfl,oM,rfl⟩)⟩)
 ·refine al.tt dC ⟨a,0,rfl,oM,oM,p,i,H,ae C rfl,?_⟩
  rw [wrap_i64 (x:=((c:Nat):Int)+((i:Nat):Int)) (by unfold aN;omega)];exact al.dec (λT=>oM) (λ_=>⟨0,oM,rfl,.inr (.inr ⟨rfl,oM,rfl⟩)⟩)
 refine al.ff dC (PC.ok (HK (m:=c+i) oM f) ?_);rintro _ w2 ⟨U,cq,rfl,Z,k2,hq⟩;have a6:∀e,D e->e≠U:=λe f K=>by have:=E e f;omega
 refine⟨_,_,_,rfl,λh r l s j g=>ai b g/\∃m,(∀e,m e->b.heap.size<=e)/\((h=2/\j=0/\aV gq 5 m g r l s [])\/(h=1/\j=1/\aV gq 5 m g r l s x)\/(h=0/\j=2/\aV gq 5 m g r l s (x++c7))),
  ⟨2,k2,(·=U),λe K=>oM,.inl ⟨rfl,rfl,Z⟩⟩,?_⟩
 rintro h r l s j _ V ⟨t,m,z,I⟩;have W:=t.get C id;have ap:∀{A B:List UInt8} {L v X} {M Y:Value->World->Prop},aV gq 5 m V r l s A->Row gq 1 b D L v B->A.length+B.length<=140737488355328->
   (∀o u g q,aV gq 5 q g o (l+v) u (A++B)->ai b g->(∀e,q e->b.heap.size<=e)->M (.slice o (l+v) u) g)->
   aH ZX (Builtin.append_ #[197,197] 197 #[.slice r l s,.slice L v X]) V M Y:=by
  intro A B L v X M Y k hr a5 N;refine AZ k ur (hr.af t) (λe f=>⟨by have:=E e f;have:=t.size;omega,λK=>?_⟩) (by unfold aQ;omega) (by unfold maxLen;omega) λo u O q w a3 _ a4=>?_
  ·have:=E e f;have:=z e (k.self e K);omega
  ·exact N o u O (λe=>aI o=some e) w.alone (t.new a3 λe f=>.inr (z e (k.self e f))) λe f=>(a4 e f).elim (z e) λT=>by have:=t.size;omega
 rcases I with⟨rfl,rfl,k⟩|⟨rfl,rfl,k⟩|⟨rfl,rfl,k⟩
 ·refine al.tt dC ⟨a,0,rfl,oM,oM,d,c,n,ae W rfl,?_⟩
  exact ap k R (by simp;omega) λo u O q w P Q=>⟨_,_,_,rfl,1,oM,P,q,Q,.inr (.inl ⟨rfl,rfl,w⟩)⟩
 ·refine al.tt dC ⟨a,0,rfl,oM,oM,p,i,H,ae W rfl,?_⟩
  exact ap k S oM λo u O q w P Q=>⟨_,_,_,rfl,0,oM,P,q,Q,.inr (.inr ⟨rfl,rfl,w⟩)⟩
 ·exact al.ff dC (Ok.mk ⟨_,_,_,m,rfl,k,t,z⟩)
end Go.Proofs.YtfchlbaidamodaaGreatDoor
namespace Go.Proofs.YtfchlbaidamodaaGreatDoor
open Go.ax
def ql:fS:=⟨[],[],[],[],[]⟩
variable{c2 w:ByteArray}{s:Ending->World->Prop}{B U a8 b9 c0 c1 e m:Int}{a c i n:Nat}{d p:Option Addr}{b:World}
theorem qm {g:Int} 
  (l:PA b (.cells #[XG e,XG m,XG B,.slice d a c,XG U,XG a8,XG b9,XG c0,XG c1,XG g] 59) λf=>
   (∃(h:Int),f.cell? ⟨i,n,none⟩=some (XG h)/\al ((h:Int) !=0) ((∃(j:Int),f.cell? ⟨b.heap.size,0+9,none⟩=some (XG j)/\
   (∃(k:Int),f.cell? ⟨i,n,none⟩=some (XG k)/\s (.returned (.bool ((j:Int)==k))) f))) (s (.returned (.bool false)) f))):
  Calls ZX 152 #[.agg #[XG e,XG m,XG B,.slice d a c,XG U,XG a8,XG b9,XG c0,XG c1,XG g],.pointer (some ⟨i,n,none⟩)] b s:=
 gl ql mixed Tryz.func152 rfl (Nat.le_of_ble_eq_true kR) kR (Eq.mp kR l)
def qv:fS:=⟨[],[],[],[],[]⟩
theorem qw 
  (i:PA b (.cells #[.slice p a c] 55) λj=>PC ZX 80 #[.pointer d,.func (.func 111) #[] #[.pointer (some ⟨b.heap.size,0,none⟩)]] j (λk l=>
   ∃(h:Option Addr) (f:Nat) (g:Nat),k= .slice h f g/\((0:Int)<=(if(if e>0 then e else 0)<((f:Nat):Int)then(if e>0 then e else 0)else((f:Nat):Int))/\
   ((if(if e>0 then e else 0)<((f:Nat):Int)then(if e>0 then e else 0)else((f:Nat):Int)):Int)<=((g:Nat):Int)/\
   s (.returned (.slice h (Int.toNat (if(if e>0 then e else 0)<((f:Nat):Int)then(if e>0 then e else 0)else((f:Nat):Int))) g)) l)) (λm b=>
   s (.panicked m) b)):
  Calls ZX 55 #[.pointer d,.slice p a c,XG e] b s:=
 gl qv mixed Tryz.func55 rfl (Nat.le_of_ble_eq_true kR) kR (Eq.mp kR i)
def tE:fS:=⟨[],[],[],[],[]⟩
theorem tF 
  (l:PA b (.cells #[XG e] 3) λa=>PA a (.cells #[XG 0,XG 0,XG 0,.slice none 0 0,XG 0,XG 0,XG 0,XG 0,XG 0,XG 0] 59) λm=>
   PC ZX 80 #[.pointer d,.func (.func 152) #[] #[.pointer (some ⟨b.heap.size,0,none⟩)]] m (λn c=>∃(g:Option Addr) (f:Nat) (o:Nat),n= .slice g f o/\
   al ((((f:Nat):Int):Int)==0) (xJ ZX 59 (.pointer (some ⟨a.heap.size,0,none⟩)) (.agg #[XG 0,XG 0,XG 0,.slice none 0 0,XG 0,XG 0,XG 0,XG 0,XG 0,XG 0]) c λh=>
   (ow ZX 59 (.pointer (some ⟨a.heap.size,0,none⟩)) h λp=>s (.returned (.tuple #[p,.bool false])) h)) ((∃i j,g=some ⟨i,j,none⟩/\
   (0:Int)<=0/\0<((f:Nat):Int)/\(ow ZX 59 (.pointer (some ⟨i,j+Int.toNat 0*10,none⟩)) c λq=>xJ ZX 59 (.pointer (some ⟨a.heap.size,0,none⟩)) q c λk=>
   (ow ZX 59 (.pointer (some ⟨a.heap.size,0,none⟩)) k λr=>s (.returned (.tuple #[r,.bool true])) k))))) (λt b=>s (.panicked t) b)):
  Calls ZX 83 #[.pointer d,XG e] b s:=
 gl tE mixed Tryz.func83 rfl (Nat.le_of_ble_eq_true kR) kR (Eq.mp kR l)
def nJ:fS:=⟨[],[],[1],[],[(1,⟨[0,1,2,0,0,16,32,72,128,260,1023],[2047,2046,2045,2047,2047,2031,2015,1975,1919,1787,1535],[0,0,1,1,0,0,1,2,0,0,0]⟩)]⟩
theorem nK {j:Int} 
  (u:PA b (.cells #[XG e,XG m,XG B,.slice d a c,XG U,XG a8,XG b9,XG c0,XG c1,XG j] 59) λv=>
   (∀f,bE v f->∃k:Nat->Prop,(¬k b.heap.size/\(∃(l:Int),f.cell? ⟨b.heap.size,0+1,none⟩=some (XG l)/\(∃(o:Option Addr) (p:Nat) (q:Nat),f.cell? ⟨i,n,none⟩=some (.slice o p q)/\
   (∃(r:Int),f.cell? ⟨b.heap.size,0,none⟩=some (XG r)/\PC ZX 112 #[.slice o p q,XG r] f (λw t=>
   ∃(g:Int),w= XG g/\(aj k f t/\s (.returned (.bool (decide ((l:Int)>(if g>0 then g else 0))))) t)) (λx h=>
   ∀(_:cy) (_:dq),s (.panicked x) h))))))):
  Calls ZX 111 #[.agg #[XG e,XG m,XG B,.slice d a c,XG U,XG a8,XG b9,XG c0,XG c1,XG j],.pointer (some ⟨i,n,none⟩)] b s:=
 gl nJ mixed Tryz.func111 rfl (Nat.le_of_ble_eq_true kR) kR (Eq.mp kR u)
def B_:fS:=⟨[],[],[],[],[]⟩
theorem Ca {r:Int} {j:Int} 
  (N:PA b (.cells #[XG e,XG m,XG B,.slice d a c,XG U,XG a8,XG b9,XG c0,XG c1,XG r] 59) λf=>
   (∃(t:Int),f.cell? ⟨b.heap.size,0,none⟩=some (XG t)/\al (decide ((t:Int)<0)) (s (.returned (XG 1)) f) ((∃(u:Int),f.cell? ⟨b.heap.size,0,none⟩=some (XG u)/\
   al (decide ((u:Int)>=j)) (s (.returned (XG 1)) f) ((∃(k:Int),f.cell? ⟨b.heap.size,0+1,none⟩=some (XG k)/\(∃(l:Int),f.cell? ⟨b.heap.size,0+2,none⟩=some (XG l)/\
   al (decide (((if l<k then l else k):Int)<1)) (s (.returned (XG 1)) f) ((∃(n:Int),f.cell? ⟨b.heap.size,0+5,none⟩=some (XG n)/\
   (∃(o:Int),f.cell? ⟨b.heap.size,0+9,none⟩=some (XG o)/\al (decide (((if o<n then o else n):Int)<0)) (s (.returned (XG 1)) f) ((∃(O:Option Addr) (v:Nat) (P:Nat),f.cell? ⟨b.heap.size,0+3,none⟩=some (.slice O v P)/\
   al ((((v:Nat):Int):Int) !=j) (s (.returned (XG 1)) f) ((∃(w:Option Addr) (x:Nat) (y:Nat),f.cell? ⟨b.heap.size,0+3,none⟩=some (.slice w x y)/\
   PC ZX 200 #[.slice w x y,.func (.func 199) #[] #[]] f (λQ h=>∃(z:Bool),Q= .bool z/\al z (s (.returned (XG 1)) h) ((∃(A:Option Addr) (C:Nat) (R:Nat),h.cell? ⟨b.heap.size,0+3,none⟩=some (.slice A C R)/\
   (∃(i:Int),h.cell? ⟨b.heap.size,0,none⟩=some (XG i)/\(∃E F,A=some ⟨E,F,none⟩/\(0:Int)<=i/\i<((C:Nat):Int)/\
   (∃(H:Int),h.cell? ⟨E,F+Int.toNat i,none⟩=some (XG H)/\(∃(I:Int),h.cell? ⟨b.heap.size,0+1,none⟩=some (XG I)/\
   (∀g,bE h g->al ((H:Int) !=(IntKind.wrap .i64 (I-1))) (s (.returned (XG 9)) g) ((∃(J:Int),g.cell? ⟨b.heap.size,0+7,none⟩=some (XG J)/\
   al (decide ((J:Int)<1)) (s (.returned (XG 2)) g) ((∃(K:Int),g.cell? ⟨b.heap.size,0+7,none⟩=some (XG K)/\al (decide ((K:Int)>5)) (s (.returned (XG 2)) g) ((∃(p:Int),g.cell? ⟨b.heap.size,0+4,none⟩=some (XG p)/\
   (∃(q:Int),g.cell? ⟨b.heap.size,0+6,none⟩=some (XG q)/\al (decide (((if q<p then q else p):Int)<0)) (s (.returned (XG 8)) g) ((∃(L:Int),g.cell? ⟨b.heap.size,0+4,none⟩=some (XG L)/\
   al (decide ((L:Int)>=8)) (s (.returned (XG 8)) g) ((∃(M:Int),g.cell? ⟨b.heap.size,0+6,none⟩=some (XG M)/\al (decide ((M:Int)>=8)) (s (.returned (XG 8)) g) (s (.returned (XG 0)) g)))))))))))))))))))) (λS b=>
   s (.panicked S) b))))))))))))))):
  Calls ZX 140 #[.agg #[XG e,XG m,XG B,.slice d a c,XG U,XG a8,XG b9,XG c0,XG c1,XG r],XG j] b s:=
 gl B_ mixed Tryz.func140 rfl (Nat.le_of_ble_eq_true kR) kR (Eq.mp kR N)
def iB:fS:=⟨[],[],[],[],[]⟩
theorem iC (c:PC_ 328 #[.string w,.string c2] b (kB λd a=>al (!d) (rt s ((.tuple #[.string w,.bool false])) a) (((0:Int)<=((ByteArray.size c2:Nat):Int)/\(((ByteArray.size c2:Nat):Int):Int)<=((ByteArray.size w:Nat):Int)/\rt s ((.tuple #[.string (ByteArray.extract w (Int.toNat ((ByteArray.size c2:Nat):Int)) (ByteArray.size w)),.bool true])) a))) (pE s)):Calls ZX 297 #[.string w,.string c2] b s:=DC iB Tryz.func297 rfl c
def iD:fS:=⟨[],[],[],[],[]⟩
theorem iE (a:al (decide ((((ByteArray.size w:Nat):Int):Int)>=((ByteArray.size c2:Nat):Int))) (((0:Int)<=((ByteArray.size c2:Nat):Int)/\(((ByteArray.size c2:Nat):Int):Int)<=((ByteArray.size w:Nat):Int)/\rt s ((.bool ((ByteArray.toList (ByteArray.extract w 0 (Int.toNat ((ByteArray.size c2:Nat):Int))))==(ByteArray.toList c2)))) b)) (rt s ((.bool false)) b)):Calls ZX 328 #[.string w,.string c2] b s:=DC iD Tryz.func328 rfl a
def rb:fS:=⟨[],[],[],[],[]⟩
theorem rf (d:PC_ 297 #[.string w,.string c2] b (λe f=>∃a c,e= .tuple #[.string a,.bool c]/\rt s ((.tuple #[.string a,.bool c])) f) (pE s)):Calls ZX 248 #[.string w,.string c2] b s:=DC rb Tryz.func248 rfl d
def Cf:fS:=⟨[],[],[],[],[(11,⟨[0,1,0,4,10,18,48,64,192,320,576,1088],[4095,4094,4095,4091,4087,4077,4063,4031,3903,3775,3519,3007],[0,2,0,0,2,0,0,0,0,1,0,0]⟩)]⟩
theorem Cg (p:al (decide ((a:Int)<4)) (rt s ((.tuple #[.ii 0,.ii 4])) b) (((0:Int)<=1/\(1:Int)<=4/\(4:Int)<=(c:Int)/\PC_ 299 #[.slice (cM d (Int.toNat 1) c 1) (Int.toNat 4-Int.toNat 1) (c-Int.toNat 1)] b (λq f=>∃e,q= .int .u32 e/\(ix_ d 0 a λr t=>(∃h,f.cell? (ad r (t+Int.toNat 0))=some (.int .u8 h)/\al (h==0) (rt s ((.tuple #[.ii 0,.ii 2])) f) (al (decide (((IntKind.wrap .i64 e):Int)>65536)) (rt s ((.tuple #[.ii 0,.ii 5])) f) (al (decide ((a:Int)<(IntKind.wrap .i64 ((IntKind.wrap .i64 (4+(IntKind.wrap .i64 e)))+5)))) (rt s ((.tuple #[.ii 0,.ii 4])) f) (((0:Int)<=(IntKind.wrap .i64 (4+(IntKind.wrap .i64 e)))/\((IntKind.wrap .i64 (4+(IntKind.wrap .i64 e))):Int)<=(c:Int)/\((0:Int)<=(IntKind.wrap .i64 (4+(IntKind.wrap .i64 e)))/\((IntKind.wrap .i64 (4+(IntKind.wrap .i64 e))):Int)<=(IntKind.wrap .i64 ((IntKind.wrap .i64 (4+(IntKind.wrap .i64 e)))+5))/\((IntKind.wrap .i64 ((IntKind.wrap .i64 (4+(IntKind.wrap .i64 e)))+5)):Int)<=(c:Int)/\(∀i,bE f i->(∀j,bE i j->((0:Int)<=4/\(4:Int)<=(((c-Int.toNat (IntKind.wrap .i64 (4+(IntKind.wrap .i64 e)))):Nat):Int)/\PC_ 284 #[.slice d (Int.toNat (IntKind.wrap .i64 (4+(IntKind.wrap .i64 e)))) c] j (λu v=>∃k,u= .int .u32 k/\PC_ 299 #[.slice (cM d (Int.toNat (IntKind.wrap .i64 (4+(IntKind.wrap .i64 e)))) c 1) (Int.toNat 4) (c-Int.toNat (IntKind.wrap .i64 (4+(IntKind.wrap .i64 e))))] v (λw g=>∃l,w= .int .u32 l/\al (k !=l) (rt s ((.tuple #[.ii 0,.ii 6])) g) ((∃m n,(cM d (Int.toNat (IntKind.wrap .i64 (4+(IntKind.wrap .i64 e)))) c 1)=some ⟨m,n,none⟩/\(0:Int)<=4/\4<((Int.toNat (IntKind.wrap .i64 ((IntKind.wrap .i64 (4+(IntKind.wrap .i64 e)))+5))-Int.toNat (IntKind.wrap .i64 (4+(IntKind.wrap .i64 e))):Nat):Int)/\(∃o,g.cell? (ad m (n+Int.toNat 4))=some (.int .u8 o)/\al (o !=10) (rt s ((.tuple #[.ii 0,.ii 6])) g) (rt s ((.tuple #[.ii (IntKind.wrap .i64 e),.ii 0])) g))))) (pZ s)) (pZ s)))))))))))) (pE s)))):Calls ZX 251 #[.slice d a c] b s:=DC Cf Tryz.func251 rfl p
def Hv:fS:=⟨[],[],[4],[],[(4,⟨[0,1,2,4,0,0,32,80,128,264,0,1024,2048,1023,16383,32767],[65535,65534,65533,65531,65535,65535,65503,65455,65407,65271,65535,64511,63487,65023,61439,65535],[0,0,1,0,0,0,0,0,2,0,0,0,0,2,0,0]⟩)]⟩
theorem Hw (x:PA b (.cells #[.ii 0,.slice none 0 0] 292) λy=>PC_ 251 #[.slice d a c] y (λz l=>∃e h,z= .tuple #[.ii e,.ii h]/\al (h !=0) (PS l (ab_ b 0) (.ii 0) λA=>PS A (ab_ b (0+1)) (.slice none 0 0) λi=>(∃m n o p,i.cell? (ab_ b 0)=some (.ii m)/\i.cell? (ab_ b (0+1))=some (.slice n o p)/\rt s ((.tuple #[.agg #[.ii m,.slice n o p],.ii 0,.ii h])) i)) ((∀f,bE l f->∃j:Nat->Prop,(ix_ d 0 a λq B=>(¬j q/\(∃r,f.cell? (ad q (B+Int.toNat 0))=some (.int .u8 r)/\((0:Int)<=4/\(4:Int)<=(IntKind.wrap .i64 (4+e))/\((IntKind.wrap .i64 (4+e)):Int)<=(c:Int)/\PC_ 174 #[.slice (cM d (Int.toNat 4) c 1) (Int.toNat (IntKind.wrap .i64 (4+e))-Int.toNat 4) (c-Int.toNat 4)] f (kS_ λC E D k=>(aj j f k/\PS k (ab_ b 0) (.ii (IntKind.wrap .i64 r)) λF=>PS F (ab_ b (0+1)) (.slice C E D) λg=>(aj j k g/\(∃t u v w,g.cell? (ab_ b 0)=some (.ii t)/\g.cell? (ab_ b (0+1))=some (.slice u v w)/\rt s ((.tuple #[.agg #[.ii t,.slice u v w],.ii (IntKind.wrap .i64 ((IntKind.wrap .i64 (4+e))+5)),.ii 0])) g)))) (pZ s)))))))) (pE s)):Calls ZX 182 #[.slice d a c] b s:=DC Hv Tryz.func182 rfl x
def Hx:fS:=⟨[],[],[],[],[]⟩
theorem Hy (n:PA b (.cells #[.ii e,.slice d a c] 292) λf=>(rS f (ab_ b (0+1)) λE h D=>(rI f (ab_ b 0) λo=>al (decide (o<1)) (rt s ((.tuple #[.slice none 0 0,.ii 2])) f) ((rI f (ab_ b 0) λp=>al (decide (p>255)) (rt s ((.tuple #[.slice none 0 0,.ii 2])) f) (al (decide ((h:Int)>65536)) (rt s ((.tuple #[.slice none 0 0,.ii 5])) f) ((rI f (ab_ b 0) λq=>PA f (.cells #[.int .u8 (IntKind.wrap .u8 q),.int .u8 (IntKind.wrap .u8 (iA .i64 (h:Int) 16)),.int .u8 (IntKind.wrap .u8 (iA .i64 (h:Int) 8)),.int .u8 (IntKind.wrap .u8 (h:Int))] 5) λi=>(rS i (ab_ b (0+1)) λr t u=>PA i (.cells #[.slice (some (ab_ f 0)) 4 4,.slice r t u] 197) λv=>PC_ 283 #[.slice (some (ab_ i 0)) 2 2] v (kS_ λj k l w=>PC_ 284 #[.slice j k l] w (λx m=>∃g,x= .int .u32 g/\PA m (.cells #[.int .u8 (IntKind.wrap .u8 (iA .u32 g 24)),.int .u8 (IntKind.wrap .u8 (iA .u32 g 16)),.int .u8 (IntKind.wrap .u8 (iA .u32 g 8)),.int .u8 (IntKind.wrap .u8 g),.int .u8 10] 5) λy=>PR_ (ap_ 197 (.slice j k l) (.slice (some (ab_ m 0)) 5 5)) y (kS_ λz A B C=>rt s ((.tuple #[.slice z A B,.ii 0])) C) (pV s)) (pE s)) (pE s)))))))))):Calls ZX 222 #[.agg #[.ii e,.slice d a c]] b s:=DC Hx Tryz.func222 rfl n
end Go.Proofs.YtfchlbaidamodaaGreatDoor
namespace Go.ax
open Go
theorem CB (a:List UInt8) (b:Nat) (c:(a.getD 1 0).toNat*65536+(a.getD 2 0).toNat*256+(a.getD 3 0).toNat=b):
  bC a=if a.length<4 then⟨0,[],0,4⟩else if a.getD 0 0=0 then⟨0,[],0,2⟩else if 65536<b then⟨0,[],0,5⟩else if a.length<b+9 then⟨0,[],0,4⟩else
   if a.take (b+9)=cN (a.getD 0 0).toNat ((a.drop 4).take b)then⟨(a.getD 0 0).toNat,(a.drop 4).take b,b+9,0⟩else⟨0,[],0,6⟩:=by
 unfold bC;rw [c]
variable{x:List UInt8}
theorem Si (a:(bC x).no=0):(bC x).kind=((x.getD 0 0).toNat:Int)/\(bC x).body=(x.drop 4).take ((bC x).n-9)/\4<=x.length:=by
 rw [CB x _ rfl]at a⊢;split at a
 ·cases a
 rename_i b;rw [if_neg b];split at a
 ·cases a
 rename_i c;rw [if_neg c];split at a
 ·cases a
 rename_i d;rw [if_neg d];split at a
 ·cases a
 rename_i e;rw [if_neg e];split at a
 ·rename_i f
  rw [if_pos f];exact⟨rfl,sM,oM⟩
 ·cases a
end Go.ax
namespace Go.Proofs.YtfchlbaidamodaaGreatDoor
open Go.ax
def CC (a:List UInt8):List Value:=a.map λb=>Value.int .u8 (b.toNat:Int)
variable{e:Int}{x:List UInt8}{a c:Nat}{d:Option Addr}{b:World}
theorem FO {f:Nat×Nat} (c:List UInt8) (d:b.heap[a]? =some (.cells (CC c).toArray 5 f)) (g:c.length<=1000):Row gq 1 b (·=a) (some ⟨a,0,none⟩) c.length c:=
 Row.lit (enc:=λe:UInt8=>Value.int .u8 (e.toNat:Int)) d c (by simp [CC]) (λ_ _=>trivial) (by unfold aQ;omega)
theorem FP {D:Nat->Prop} (B:qU b) (g:Row gq 1 b D d a x) (C:∀f,D f->f<b.heap.size):
  Calls ZX 222 #[.agg #[XG e,.slice d a c]] b (Ok λE F=>∃v,E= .tuple #[v,XG (kQ e x).2]/\qD gq 5 b (kQ e x).1 v F):=by
 have H:=g.len;refine Hy (PA.mk λj l s1 m=>⟨d,a,c,ae m rfl,_,ae m rfl,al.dec (λh=>?_) (λh1=>⟨_,ae m rfl,al.dec (λh=>?_) (λh2=>al.dec (λh=>?_) (λh3=>?_))⟩)⟩)
 ·rw [show kQ e x=([],2) by unfold kQ;rw [if_pos oM]]
  exact Ok.mk ⟨_,rfl,none,0,0,λ_=>False,rfl,aV.nil j,l,λ_ h=>h.elim⟩
 ·rw [show kQ e x=([],2) by unfold kQ;rw [if_pos oM]]
  exact Ok.mk ⟨_,rfl,none,0,0,λ_=>False,rfl,aV.nil j,l,λ_ h=>h.elim⟩
 ·rw [show kQ e x=([],5) by unfold kQ;rw [if_neg oM,if_pos oM]]
  exact Ok.mk ⟨_,rfl,none,0,0,λ_=>False,rfl,aV.nil j,l,λ_ h=>h.elim⟩
 rw [show kQ e x=(cN e x,0) by unfold kQ;rw [if_neg oM,if_neg oM]];refine⟨_,ae m rfl,PA.mk λI n s2 J=>⟨d,a,c,ae (n.get m id) rfl,PA.mk λp o s3 K=>?_⟩⟩;have L:iA .i64 ((a:Nat):Int) 16=((a/65536:Nat):Int):=O_ (k:=.i64) (u:=a) (m:=16) dC;have M:iA .i64 ((a:Nat):Int) 8=((a/256:Nat):Int):=O_ (k:=.i64) (u:=a) (m:=8) dC;have N:e=((e.toNat:Nat):Int):=oM
 have O:I.heap[j.heap.size]? =some (.cells (CC [UInt8.ofNat e.toNat,UInt8.ofNat (x.length/65536),UInt8.ofNat (x.length/256),UInt8.ofNat x.length]).toArray 5 (0,0)):=by
  rw [J,L,M,N,jX,jX,jX,jX,H];simp [CC]
 have P:Row gq 1 p (λf=>D f\/f=j.heap.size) (some ⟨j.heap.size,0,none⟩) 4 [UInt8.ofNat e.toNat,UInt8.ofNat (x.length/65536),UInt8.ofNat (x.length/256),UInt8.ofNat x.length]:=
  (FO (f:=(0,0)) [UInt8.ofNat e.toNat,UInt8.ofNat (x.length/65536),UInt8.ofNat (x.length/256),UInt8.ofNat x.length] (o.get O id) sM).mono λf g=>.inr g
 have Q:Row gq 1 p (λf=>D f\/f=j.heap.size) d a x:=(g.af ((l.then n).then o)).mono λf g=>.inl g;refine PC.ok (CA K P Q (λf g=>g.elim (λh=>by have:=C f h;omega) λh=>oM) oM (by unfold aQ;omega)) ?_;rintro _ q ⟨a4,n4,c4,F4,rfl,k,R,w⟩;have S:[UInt8.ofNat e.toNat,UInt8.ofNat (x.length/65536),UInt8.ofNat (x.length/256),UInt8.ofNat x.length]++x=kC e x:=rfl;rw [S]at k;have a8:=k.len dC;have r:(kC e x).length=4+x.length:=by simp [kC];omega
 have s:ai b q:=((l.then n).then o).then R;refine⟨_,_,_,rfl,PC.ok (NY (B.af s) (k.row (bytes:=1) dC (by rw [r];unfold aQ;omega))) ?_⟩;rintro _ t ⟨rfl,T⟩;have u:ai q t:=T.keep;refine⟨_,rfl,?_⟩;generalize U:(LS (kC e x)).toNat=i;have V:iA .u32 (i:Int) 24=((i/16777216:Nat):Int):=O_ (k:=.u32) (u:=i) (m:=24) dC;have W:iA .u32 (i:Int) 16=((i/65536:Nat):Int):=O_ (k:=.u32) (u:=i) (m:=16) dC;have X:iA .u32 (i:Int) 8=((i/256:Nat):Int):=O_ (k:=.u32) (u:=i) (m:=8) dC;rw [V,W,X,jX,jX,jX,jX];refine PA.mk λY y s6 Z=>?_;have a1:Y.heap[t.heap.size]? =some (.cells (CC (Ri i++[10])).toArray 5 (0,0)):=by rw [Z];rfl
 have a2:=(k.af u).af y;have a9:q.heap.size<=t.heap.size:=u.size;refine lH a2 ur (FO (Ri i++[10]) a1 (by simp [Ri])) (λf z=>⟨oM,λe2=>by have:=k.aF f (k.self f e2);omega⟩) (by rw [r];unfold aQ;simp [Ri];omega) (by rw [r];unfold maxLen;simp [Ri];omega) λA c7 w7 F7 a3 a5 _ a6=>?_;refine⟨_,_,_,rfl,Ok.mk ⟨_,rfl,A,_,c7,λf=>aI A=some f,rfl,?_,?_,?_⟩⟩
 ·have h7:=a3.alone
  have z:cN e x=kC e x++(Ri i++[10]):=by unfold cN;rw [U,XQ]
  rw [z];exact h7
 ·exact((s.then u).then y).new a5 λf g=>.inr (by have:=w f (k.self f g);have:=l.size;have:=n.size;have:=o.size;omega)
 ·intro f g
  have b0:b.heap.size<=p.heap.size:=oM
  rcases a6 f g with h|h
  ·have:=w f h;omega
  ·have:=s.size;omega
theorem JE {D:Nat->Prop} (E:qU b) (h:Row gq 1 b D d a x) (r:a<=c):
  Calls ZX 251 #[.slice d a c] b (Ok λF H=>F= .tuple #[XG (((bC x).n-9:Nat):Int),XG (bC x).no]/\bE b H):=by
 have W:=h.len;have I:=h.d_;unfold aQ at I;generalize s:(x.getD 1 0).toNat*65536+(x.getD 2 0).toNat*256+(x.getD 3 0).toNat=e;have f:=CB x e s;refine Cg (al.dec (λm=>?_) (λX=>?_))
 ·rw [f,if_pos oM]
  exact Ok.mk ⟨rfl,bE.refl b⟩
 rw [if_neg (show¬x.length<4 by omega)]at f;refine⟨oM,oM,oM,PC.ok (wJ (bs:=(x.take 4).drop 1) (h.part (lo:=1) (hi:=4) (cap:=c) oM oM r) dC) ?_⟩;rintro _ Y ⟨rfl,rfl⟩;have J:gO ((x.take 4).drop 1)=e:=by
  rw [Vp oM];show gO [x.getD 1 0,x.getD 2 0,x.getD 3 0]=e;simp only [gO,List.foldl];omega
 have Z:e<16777216:=by
  have h1:=(x.getD 1 0).toNat_lt;have h2:=(x.getD 2 0).toNat_lt;have h3:=(x.getD 3 0).toNat_lt;omega
 rw [J];obtain⟨k,g,t,rfl,K,_,i⟩:=h.mh (i:=0) oM;have j:x.getD 0 0=t:=by rw [QQ,K];rfl
 have L:IntKind.wrap .i64 (e:Int)=(e:Int):=wrap_i64 (by unfold aN;omega);have M:IntKind.wrap .i64 (4+(e:Int))=((4+e:Nat):Int):=by rw [wrap_i64 (by unfold aN;omega)];omega
 have N:IntKind.wrap .i64 (((4+e:Nat):Int)+5)=((4+e+5:Nat):Int):=by rw [wrap_i64 (by unfold aN;omega)];omega
 refine⟨_,rfl,k,g,rfl,oM,oM,_,i,?_⟩;rw [L,M,N];refine al.dX (λm=>?_) (λn=>al.dec (λm=>?_) (λa8=>al.dec (λm=>?_) (λa7=>?_)))
 ·rw [f,j,if_pos (UInt8.toNat_inj.1 (by
                        have:t.toNat=0:=oM
                        rw [this];rfl))]
  exact Ok.mk ⟨rfl,bE.refl b⟩
 ·rw [f,j,if_neg (by rintro rfl;exact n rfl),if_pos oM]
  exact Ok.mk ⟨rfl,bE.refl b⟩
 ·rw [f,j,if_neg (by rintro rfl;exact n rfl),if_neg oM,if_pos oM]
  exact Ok.mk ⟨rfl,bE.refl b⟩
 rw [j,if_neg (by rintro rfl;exact n rfl),if_neg (show¬65536<e by omega),if_neg (show¬x.length<e+9 by omega)]at f;have l:=V_ (b:=x) (n:=e) oM s oM;rw [j]at l;refine⟨oM,oM,oM,oM,oM,λw8 u O v=>⟨oM,oM,?_⟩⟩;have w:ai b O:=(u.then v).keep;have y:=h.af w;refine PC.ok (NY (E.af w) (y.take (m:=4+e) oM)) ?_;rintro _ P ⟨rfl,z⟩;have A:=y.af z.keep;have B:=A.part (lo:=4+e) (hi:=4+e+4) (cap:=c) oM oM r;rw [show 4+e+4-(4+e)=4 by omega]at B;refine⟨_,rfl,PC.ok (wJ B dC) ?_⟩;rintro _ a9 ⟨rfl,rfl⟩;have Q:(x.take (4+e+4)).drop (4+e)=(x.drop (4+e)).take 4:=by rw [List.drop_take];congr 1;omega
 rw [Q];have o:bE b P:=(u.then v).then z;refine⟨_,rfl,al.dw (λp=>?_) (λb0=>?_)⟩
 ·rw [f,if_neg (λi=>p (by rw [(l.1 i).1]))]
  exact Ok.mk ⟨rfl,o⟩
 obtain⟨b7,o8,q,R,S,_,T⟩:=A.mh (i:=8+e) oM
 cases R
 have C:x.getD (8+e) 0=q:=by rw [QQ,S];rfl
 have U:cM (some ⟨k,g,none⟩) (4+e) c 1=some ⟨k,g+(4+e),none⟩:=by
  unfold cM;rw [if_neg oM];simp [Addr.add_lit]
 refine⟨k,g+(4+e),U,oM,oM,_,by rw [show g+(4+e)+Int.toNat 4=g+(8+e) by show g+(4+e)+4=_;omega];exact T,al.dw (λp=>?_) (λhe=>?_)⟩
 ·rw [f,if_neg (λi=>p (by rw [<-C,(l.1 i).2];rfl))]
  exact Ok.mk ⟨rfl,o⟩
 ·have V:q=10:=UInt8.toNat_inj.1 (by show q.toNat=10;omega)
  rw [f,if_pos (l.2 ⟨oM,C.trans V⟩)];exact Ok.mk ⟨sM,o⟩
theorem FQ {D:Nat->Prop} (Q:qU b) (f:Row gq 1 b D d a x) (t:a<=c) (u:∀e,D e->e<b.heap.size):
  Calls ZX 182 #[.slice d a c] b (Ok λR v=>∃w y z A,R= .tuple #[.agg #[XG (bC x).kind,.slice w y z],XG ((bC x).n:Int),XG (bC x).no]/\
   aV gq 5 A v w y z (bC x).body/\ai b v/\∀e,A e->b.heap.size<=e):=by
 have hn:=f.len;have S:=f.d_;unfold aQ at S;refine Hw (PA.mk λB j s1 T=>PC.ok (JE (Q.af j) (f.af j) t) ?_);rintro _ C ⟨rfl,U⟩;have k:ai B C:=U.keep;have E:=k.get T id;refine⟨_,_,rfl,al.dw (λl=>?_) (λm=>?_)⟩
 ·have n:(bC x).kind=0/\(bC x).body=[]/\(bC x).n=0:=by
   rw [CB x _ rfl]at l⊢
   repeat' split
   all_goals first|exact⟨rfl,rfl,rfl⟩|skip
   rename_i V W X Y Z;rw [if_neg V,if_neg W,if_neg X,if_neg Y,if_pos Z]at l;exact absurd rfl l
  rw [n.1,n.2.1,n.2.2];refine storeAll [XG 0,.slice none 0 0] E rfl λh i s3 F=>⟨0,none,0,0,ae F rfl,ae F rfl,Ok.mk ⟨none,0,0,λ_=>False,rfl,aV.nil h,?_,λ_ o=>o.elim⟩⟩
  exact(j.then k).new i λe f=>.inr oM
 obtain⟨a0,h9,a1⟩:=wK m;generalize a2:(bC x).n=g at a0 h9 a1;obtain⟨a3,H,b1⟩:=Si m;rw [a2]at H;have I:(bC x).kind=((x.getD 0 0).toNat:Int)/\(bC x).body=(x.drop 4).take (g-9):=⟨a3,H⟩
 intro h a5;have i:ai C h:=a5.keep;have p:ai b h:=(j.then k).then i;have q:=f.af p;obtain⟨J,o6,K,rfl,hx,_,hc⟩:=q.mh (i:=0) oM;obtain⟨b2,b3,x',es,a6,_,a7,_⟩:=q.sS (i:=0) oM
 cases a6
 have a8:x.getD 0 0=K:=by rw [QQ,hx];rfl
 have e4:IntKind.wrap .i64 (4+((g-9:Nat):Int))=((4+(g-9):Nat):Int):=by rw [wrap_i64 (by unfold aN;omega)];omega
 have e9:IntKind.wrap .i64 (((4+(g-9):Nat):Int)+5)=(g:Int):=by rw [wrap_i64 (by unfold aN;omega)];omega
 refine⟨λe=>b.heap.size<=e,J,o6,rfl,oM,oM,by have:=u J a7;omega,_,hc,?_⟩;rw [e4,e9];refine⟨oM,oM,oM,?_⟩;have a4:=q.part (lo:=4) (hi:=4+(g-9)) (cap:=c) oM oM t;refine PC.ok (lG a4 (λe o=>by have:=u e o;have:=p.size;omega)) ?_;rintro _ w4 ⟨L,M,N,F4,rfl,a9,r,O⟩;have b4:B.heap.size<=h.heap.size:=(k.then i).size;have g4:=r.get (i.get E id) id;refine⟨_,_,_,rfl,r.keep,?_⟩;refine storeAll [XG (IntKind.wrap .i64 (K.toNat:Int)),.slice L M N] g4 rfl λw5 s s5 P=>⟨s.mono λe _ b0=>oM,_,_,_,_,ae P rfl,ae P rfl,Ok.mk ⟨L,M,N,F4,?_,?_,?_,?_⟩⟩
 ·rw [Mm,I.1,a8,m]
 ·rw [I.2,<-show(x.take (4+(g-9))).drop 4=(x.drop 4).take (g-9) by rw [List.drop_take];congr 1;omega]
  exact a9.keep s λe f b0=>by have:=O e f;omega
 ·exact(p.then r).new s λe f=>.inr oM
 ·intro e f;have:=O e f;omega
end Go.Proofs.YtfchlbaidamodaaGreatDoor
namespace Go.Proofs.YtfchlbaidamodaaGreatDoor
open Go.ax
variable{T q:Array Value}{a9:FrameMode}{z:FuncId}{e:Int}{a1:List PanicEntry->World->Prop}{a:Nat}{f:Nat->Prop}{Q X:Operand}{h:Program}{b:World}{y:World->Prop}{Z:g_}
theorem SQ (m:fF b a f Z):
  Calls ZX 254 #[.pointer (some ⟨a,0,none⟩),XG e] b (Wu b a f Z (if Z.num.1=0 then(if Z.num.2.1<0\/e<Z.num.2.1 then 3 else 0)else Z.num.1) (λk n=>k= XG Z.num.2.1) Z.num.2.2):=by
 refine tu (PC.red (Gv m) ?_ ?_)
 rotate_left
 ·intro g l h i j
  rw [if_neg g];exact⟨.inr ⟨g,rfl,h⟩,i,j⟩
 rintro g _ l h rfl i j;rw [if_pos g];have d:Z.num.2.1<0\/e<Z.num.2.1->Wu b a f Z (if Z.num.2.1<0\/e<Z.num.2.1 then 3 else 0) (λk n=>k= XG Z.num.2.1) Z.num.2.2 (.panicked (Vw 3)) l:=λc=>by
  rw [if_pos c];exact⟨.inr ⟨dC,rfl,_,h⟩,i,j⟩
 refine⟨_,rfl,al.dec (λo=>gy (λc=>⟨rfl,?_⟩) (λc=>d (.inr ?_))) (λo=>gy (λc=>by cases c) (λ_=>d (.inl oM)))⟩
 ·have c:=XV c
  rw [if_neg oM];exact⟨.inl ⟨rfl,h,_,rfl,rfl⟩,i,j⟩
 ·have c:=Xy c
  omega
theorem Kn :(do eqGuard .eql 20 Q (.const .nilIface) .nilIface .nilIface;binOp .eql 20 .nilIface .nilIface:Sem Value).run ZX b= .ok (.bool true) b:=by
 cases Q<;>rfl
theorem Ih :(do eqGuard .eql 20 Q X (.iface 376 (XG e)) .nilIface;binOp .eql 20 (.iface 376 (XG e)) .nilIface:Sem Value).run ZX b= .ok (.bool false) b:=by
 rfl
theorem Ko :(Instr.typeAssert (.iface 376 (XG e)) 20 376 true).run ZX b= .ok (.tuple #[XG e,.bool true]) b:=by
 rfl
theorem Lv.ret {ret:World->Prop} (a:a9= .returning) (c:ret b):Lv h ret a1 [] a9 b:=by
 subst a;unfold Lv;exact c
theorem Lv.one {w:World} (c:a9≠.run) (d:enters h z=true)
  (e:CallsD h z q a9 w λf a b=>Sx f (λ_=>Lv h y a1 [] (settle a) b) (λg=>Lv h y a1 [] (raised a g) b)):Lv h y a1 [{target:=.fn (.func z) q,args:= #[]}] a9 w:=
 ⟨c,z,q,rfl,d,by rw [show(#[]++q:Array Value)=q by simp];exact e⟩
theorem DB {j S:Nat->Prop} (f:fF b a j Z) (J:enters ZX z=true) {A:World->Prop} {no:Int} (t:∀g,S g->g<b.heap.size)
  (K:Z.sO=0->∀e,ai b e->Calls ZX z (q++ #[]++T) e λd c=>aj S e c/\((no=0/\d= .returned (.tuple #[])/\A c)\/(no≠0/\(no=3\/no=4\/no=5)/\d= .panicked (Vw no)/\aj (·=a) e c/\∃u,fF c a j ⟨Z.bytes,u,0⟩))):
  Calls ZX 252 #[.pointer (some ⟨a,0,none⟩),.func (.func z) q T] b (Ok λL c=>L= .tuple #[]/\aj (λg=>S g\/g=a) b c/\
   ((Z.sO≠0/\ai b c)\/(Z.sO=0/\no=0/\aj S b c/\A c)\/(Z.sO=0/\no≠0/\aj (·=a) b c/\fF c a j ⟨Z.bytes,Z.pos,no⟩))):=by
 obtain⟨a0,a2,M,G,v,h2,h3⟩:=f.body;have hp:=aC v;refine pW (PA.mk λe k s1 l=>?_);have w:=k.get v id;refine⟨_,ae l rfl,a,0,rfl,_,ae w rfl,al.dw (λN=>Ok.mk ⟨rfl,k.keep,.inl ⟨N,k⟩⟩) (λm=>?_)⟩;refine⟨_,ae l rfl,a,0,rfl,_,ae w rfl,PA.mk λw2 O s2 P=>PS.mk P sM λn Q s3 R=>⟨z,q,T,rfl,J,?_⟩⟩;have x:aj (·=e.heap.size) e n:=O.keep.then Q;have o:ai b n:=k.new x λg hb=>.inr oM;refine(K m n o).mono ?_;rintro d h ⟨p,U⟩;have y:h.heap[b.heap.size]? =some (.cells #[.pointer (some ⟨a,0,none⟩)] 295 (0,0)):=p.get (x.get l (by intro d;omega)) (λr=>by have:=t _ r;omega);have V:h.heap[e.heap.size]? =some (.cells #[XG (Z.pos:Int)] 3 (0,0)):=p.get R (λr=>by have:=t _ r;omega);have B:aj S b h:=o.keep.then p;rcases U with⟨s,rfl,W⟩|⟨s,X,rfl,Y,u,C⟩
 ·refine⟨rfl,Lv.one sM kR ?_⟩
  refine CallsD.mono (gK (rv:=.nilIface) (u:=.returning) rfl (R:=λd i c=>d= .returned (.tuple #[])/\i= .returning/\c=h) ?_) ?_
  ·exact aH.mk Kn ⟨_,rfl,al.tt rfl ⟨rfl,rfl,rfl⟩⟩
  ·rintro d i c ⟨rfl,rfl,rfl⟩
   refine Lv.ret rfl ?_;exact Ok.mk ⟨rfl,B.mono λ_ _ f=>.inl f,.inr (.inl ⟨m,s,B,W⟩)⟩
 ·refine Lv.one sM kR ?_
  obtain⟨a',n',E,G',e1,e2,e3⟩:=C.body;refine CallsD.mono (gK (rv:=.iface 376 (XG no)) (u:=.panicking (Vw no)) rfl (R:=λd i c=>d= .returned (.tuple #[])/\settle i= .returning/\fF c a j ⟨Z.bytes,Z.pos,no⟩/\aj (·=a) b c) ?_) ?_
  ·refine aH.mk (v:=.bool false) (w':=h) ?_ ⟨_,rfl,al.ff rfl (aH.mk (v:=.tuple #[XG no,.bool true]) (w':=h) ?_ ⟨_,_,rfl,al.tt rfl ?_⟩)⟩
   ·exact Ih
   ·exact Ko
   ·refine⟨_,ae y rfl,_,ae y rfl,_,ae V rfl,a,0,rfl,PS.mk e1 sM λw5 F s5 g5=>⟨a,0,rfl,PS.mk g5 sM λw6 H s6 g6=>⟨rfl,rfl,?_,?_⟩⟩⟩
    ·exact C.fr (r':=⟨Z.bytes,Z.pos,no⟩) e2 e3 (F.then H) g6 rfl ⟨f.fit.pos,.inr X⟩
    ·exact(o.keep.then Y).then (F.then H)
  ·rintro d i c ⟨rfl,fz,a1,I⟩
   refine Lv.ret fz ?_;exact Ok.mk ⟨rfl,I.mono λ_ _ f=>.inr f,.inr (.inr ⟨m,s,I,a1⟩)⟩
theorem HE (c:fF b a f Z):
  Calls ZX 185 #[.pointer (some ⟨a,0,none⟩)] b (Ok λr i=>r= XG (fu Z).1/\fF i a f (fu Z).2/\aj (·=a) b i):=by
 have P:a<b.heap.size:=c.aF a c.self;refine vY (PA.mk λm H Q x=>PA.mk λI s R t=>⟨_,ae (s.get x id) rfl,?_⟩);have y:ai b I:=H.then s;have u:=c.af y;have J:=s.get x id;refine PC.ok (DB (S:=λh=>h=a\/h=m.heap.size) (no:=Z.num.1) (A:=λi=>fF i a f ⟨Z.bytes,Z.pos+Z.num.2.2,Z.sO⟩/\i.heap[m.heap.size]? =some (.cells #[XG Z.num.2.1] 3 (0,0))) u kR ?_ ?_) ?_
 ·rintro h (rfl|rfl)<;>omega
 ·intro K n q
  refine tv ⟨_,ae (q.get J id) rfl,PC.red (Gv (u.af q)) ?_ ?_⟩
  ·rintro j _ z d rfl k A
   have v:=k.get (q.get t id) oM;refine⟨_,rfl,PS.mk v sM λS B T L=>⟨(k.mono λ_ _ c=>.inl c).then (B.mono λ_ _ c=>.inr c),.inl ⟨j,rfl,d.keep B λh o g=>?_,L⟩⟩⟩;have:=c.aF h o;omega
  ·rintro j z d k A
   rw [K]at d;have:=km (Z.bytes.drop Z.pos);exact⟨k.mono λ_ _ c=>.inl c,.inr ⟨j,by have:=this.2.2.2.1;unfold g_.num at j⊢;omega,rfl,k,d⟩⟩
 ·rintro _ n ⟨rfl,q,M⟩
  have N:aj (·=a) b n:=y.keep.new q λh o=>by
   rcases o with(rfl|rfl)|rfl
   ·exact .inl rfl
   ·exact .inr oM
   ·exact .inl rfl
  have e:∀w:Int,n.heap[m.heap.size]? =some (.cells #[XG w] 3 (0,0))->fF n a f (fu Z).2->w=(fu Z).1->
    (∃C:Int,n.cell? ⟨m.heap.size,0,none⟩=some (XG C)/\PS n ⟨m.heap.size,0,none⟩ (XG C) λE=>∃F:Int,E.cell? ⟨m.heap.size,0,none⟩=some (XG F)/\
     Ok (λr i=>r= XG (fu Z).1/\fF i a f (fu Z).2/\aj (·=a) b i) (.returned (XG F)) E):=by
   rintro w l d rfl;refine⟨_,ae l rfl,PS.mk l sM λz k A v=>⟨_,ae v rfl,Ok.mk ⟨rfl,d.keep k λh o g=>?_,N.new k λh o=>.inr oM⟩⟩⟩;have:=c.aF h o;omega
  refine⟨rfl,?_⟩;rcases M with⟨p,l⟩|⟨p,j,_,d,l⟩|⟨p,j,O,d⟩
  ·have g:fu Z=(0,Z):=by unfold fu;rw [if_pos p]
   exact e 0 (l.get t id) (by rw [g];exact u.af l) (by rw [g])
  ·have g:fu Z=(Z.num.2.1,⟨Z.bytes,Z.pos+Z.num.2.2,0⟩):=by unfold fu;rw [if_neg (by simp [p]),if_pos j]
   exact e _ l (by rw [g];rw [p]at d;exact d) (by rw [g])
  ·have g:fu Z=(0,⟨Z.bytes,Z.pos,Z.num.1⟩):=by unfold fu;rw [if_neg (by simp [p]),if_neg j]
   exact e 0 (O.get t oM) (by rw [g];exact d) (by rw [g])
theorem JD {m:Int} (d:fF b a f Z):
  Calls ZX 184 #[.pointer (some ⟨a,0,none⟩),XG m] b (Ok λw k=>w= XG (bM m Z).1/\fF k a f (bM m Z).2/\aj (·=a) b k):=by
 have X:a<b.heap.size:=d.aF a d.self;refine tk (PA.mk λY N s1 E=>PA.mk λo x sm O=>PA.mk λP v s2 y=>⟨_,ae (v.get (x.get E id) id) rfl,?_⟩);have F:ai b P:=(N.then x).then v;have z:=d.af F;have Q:=v.get (x.get E id) id;have R:=v.get O id;generalize i:(if Z.num.1=0 then(if Z.num.2.1<0\/m<Z.num.2.1 then 3 else 0)else Z.num.1:Int)=no;refine PC.ok (DB (S:=λj=>j=a\/j=o.heap.size) (no:=no) (A:=λk=>fF k a f ⟨Z.bytes,Z.pos+Z.num.2.2,Z.sO⟩/\k.heap[o.heap.size]? =some (.cells #[XG Z.num.2.1] 3 (0,0))) z kR ?_ ?_) ?_
 ·rintro j (rfl|rfl)<;>omega
 ·intro S p q
  refine qi ⟨_,ae (q.get Q id) rfl,_,ae (q.get R id) rfl,PC.red (SQ (z.af q)) ?_ ?_⟩
  ·rintro e _ H g rfl l I
   rw [i]at e;have A:=l.get (q.get y id) oM;refine⟨_,rfl,PS.mk A sM λw5 J s5 T=>⟨(l.mono λ_ _ d=>.inl d).then (J.mono λ_ _ d=>.inr d),.inl ⟨e,rfl,g.keep J λj r c=>?_,T⟩⟩⟩;have:=d.aF j r;omega
  ·rintro e H g l I
   rw [i]at e⊢;rw [S]at g;have B:=(km (Z.bytes.drop Z.pos)).2.2.2.1;refine⟨l.mono λ_ _ d=>.inl d,.inr ⟨e,?_,rfl,l,g⟩⟩
   change Z.num.1=0\/Z.num.1=4\/Z.num.1=5 at B
   rw [<-i]at e⊢;split
   ·rename_i c
    rw [if_pos c]at e;split
    ·exact .inl rfl
    ·rename_i t;rw [if_neg t]at e;exact absurd rfl e
   ·omega
 ·rintro _ p ⟨rfl,q,U⟩
  have V:aj (·=a) b p:=F.keep.new q λj r=>by
   rcases r with(rfl|rfl)|rfl
   ·exact .inl rfl
   ·exact .inr oM
   ·exact .inl rfl
  have h:∀C:Int,p.heap[o.heap.size]? =some (.cells #[XG C] 3 (0,0))->fF p a f (bM m Z).2->C=(bM m Z).1->
    (∃K:Int,p.cell? ⟨o.heap.size,0,none⟩=some (XG K)/\PS p ⟨o.heap.size,0,none⟩ (XG K) λL=>∃M:Int,L.cell? ⟨o.heap.size,0,none⟩=some (XG M)/\
     Ok (λw k=>w= XG (bM m Z).1/\fF k a f (bM m Z).2/\aj (·=a) b k) (.returned (XG M)) L):=by
   rintro C n g rfl;refine⟨_,ae n rfl,PS.mk n sM λH l I A=>⟨_,ae A rfl,Ok.mk ⟨rfl,g.keep l λj r c=>?_,V.new l λj r=>.inr oM⟩⟩⟩;have:=d.aF j r;omega
  refine⟨rfl,?_⟩;rcases U with⟨s,n⟩|⟨s,e,_,g,n⟩|⟨s,e,W,g⟩
  ·have c:bM m Z=(0,Z):=by unfold bM;rw [if_pos s]
   exact h 0 (n.get y id) (by rw [c];exact z.af n) (by rw [c])
  ·have c:bM m Z=(Z.num.2.1,⟨Z.bytes,Z.pos+Z.num.2.2,0⟩):=by
    have B:=(km (Z.bytes.drop Z.pos)).2.2.2.1
    change Z.num.1=0\/Z.num.1=4\/Z.num.1=5 at B
    unfold bM;rw [if_neg (by simp [s])];split at i
    ·rename_i u
     rw [if_pos u];split at i
     ·omega
     ·rename_i t;rw [if_neg t]
    ·omega
   exact h _ n (by rw [c];rw [s]at g;exact g) (by rw [c])
  ·have c:bM m Z=(0,⟨Z.bytes,Z.pos,no⟩):=by
    unfold bM;rw [if_neg (by simp [s])];split at i
    ·rename_i u
     rw [if_pos u];split at i
     ·rename_i t;rw [if_pos t,i]
     ·omega
    ·rename_i u;rw [if_neg u,i]
   exact h 0 (W.get y oM) (by rw [c];exact g) (by rw [c])
theorem Oa (h:fF b a f Z):
  Calls ZX 186 #[.pointer (some ⟨a,0,none⟩)] b (Ok λi j=>i= XG (h_ Z)/\bE b j):=by
 obtain⟨o,p,k,G,d,l,q⟩:=h.body;have r:=l.len dC;have g:Z.sO≠0\/¬Z.pos<Z.bytes.length->h_ Z=Z.sO:=λs=>by unfold h_;rw [if_neg oM]
 refine uJ ⟨a,0,rfl,_,ae d rfl,al.dX (λe=>⟨a,0,rfl,_,ae d rfl,a,0,rfl,_,_,_,ae d rfl,λm c=>al.dec (λn=>?_) λn=>?_⟩) (λe m c=>?_)⟩
 ·exact Ok.mk ⟨by unfold h_;rw [if_pos ⟨e,oM⟩],c⟩
 ·exact⟨a,0,rfl,_,ae ((c.keep (S:=λ_=>False)).get d id) rfl,Ok.mk ⟨by rw [g (.inr oM)],c⟩⟩
 ·exact⟨a,0,rfl,_,ae ((c.keep (S:=λ_=>False)).get d id) rfl,Ok.mk ⟨by rw [g (.inl e)],c⟩⟩
end Go.Proofs.YtfchlbaidamodaaGreatDoor
