import Derived.Test.YtblabbpipmodgaaGreatDoorKo15
set_option maxHeartbeats 4000000
set_option linter.all false
set_option maxRecDepth 100000
open Go.IntKind renaming wrap→XH
namespace Go.au
open Go
structure bH (w:World) (F:XM) (cls:Nat->Nat) (C:Nat->World->(XM)->Prop):Prop where
 at':∀k,C k w (λb=>F b/\cls b=k)
 aE:∀b,F b->b<w.heap.size
def s_(P:Nat->World->(XM)->Prop):Prop:=∀a b c G d,P a b G->aj d b c->(∀e,G e->¬d e)->P a c G
section
variable {w w':World} {F T:XM} {cls:Nat->Nat} {C C2:Nat->World->(XM)->Prop}
def bH.keep(b:bH w F cls C)(e:s_ C)(c:aj T w w')(f:∀P,F P->¬T P):bH w' F cls C:=
 ⟨λd=>e d w w' _ T (b.at' d) c λP a=>f P a.1,λP a=>Qk (b.aE P a) c.size⟩
def bH.af(P:bH w F cls C)(a:s_ C)(b:ai w w'):bH w' F cls C:=P.keep a b λ_ _ P=>P
def bH.Ff(h:bH w F cls C)(m:s_ C){k:Nat}{G':XM}(g:aj (λP=>F P/\cls P=k) w w')(n:∀P,G' P->F P->cls P=k)(o:∀P,G' P->P<w'.heap.size)(p:C2 k w' G')(q:∀b G,b≠k->C b w' G->C2 b w' G):∃f c,bH w' f c C2/\aj F w w'/\(∀P,f P->((F P/\cls P≠k)\/G' P))/\(∀b,b≠k->(λP=>f P/\c P=b)=λP=>F P/\cls P=b)/\(λP=>f P/\c P=k)=G':=by
 classical
 have i:∀b,b≠k->(λP=>((F P/\cls P≠k)\/G' P)/\(if G' P then k else cls P)=b)=λP=>F P/\cls P=b:=λb e=>by
  funext P
  refine propext ⟨λa=>?_,λa=>?_⟩
  ·by_cases d:G' P
   ·rw[Zx d]at a;exact Zz a.2.symm e
   ·rw[Zq d]at a
    exact⟨(a.1.resolve_right d).1,a.2⟩
  ·have j:cls P≠k:=λr=>e (a.2.symm.trans r)
   rw[Zq λd=>j (n P d a.1)];exact⟨.inl ⟨a.1,j⟩,a.2⟩
 have l:(λP=>((F P/\cls P≠k)\/G' P)/\(if G' P then k else cls P)=k)=G':=by
  funext P
  refine propext ⟨λa=>?_,λa=>⟨.inr a,Zx a⟩⟩
  by_cases d:G' P
  ·exact d
  ·rw[Zq d]at a;exact Zz a.2 (a.1.resolve_right d).2
 refine⟨λP=>(F P/\cls P≠k)\/G' P,λP=>if G' P then k else cls P,⟨λb=>?_,λP a=>?_⟩,g.mono λP _ a=>a.1,λP a=>a,i,l⟩
 ·by_cases e:b=k
  ·subst e
   rw[l];exact p
  ·rw[i b e]
   refine q b _ e (m b w w' _ _ (h.at' b) g λP a s=>e (a.2.symm.trans s.2))
 ·rcases a with a|a
  ·exact Qk (h.aE P a.1) g.size
  ·exact o P a
def bH.fB(d:bH w F cls C)(i:s_ C){k:Nat}{G':XM}(j:aj (λP=>F P/\cls P=k) w w')(f:∀P,G' P->(F P/\cls P=k)\/w.heap.size<=P)(l:∀P,G' P->P<w'.heap.size)(e:C2 k w' G')(m:∀b G,b≠k->C b w' G->C2 b w' G):∃c a,bH w' c a C2/\cO F w c w'/\(∀P,c P->((F P/\cls P≠k)\/G' P))/\(∀b,b≠k->(λP=>c P/\a P=b)=λP=>F P/\cls P=b)/\(λP=>c P/\a P=k)=G':=by
 obtain⟨c,a,g,e,h,n⟩:=d.Ff i j (λP o p=>(f P o).elim (·.2) λg=>by have:=d.aE P p;omega) l e m;exact⟨c,a,g,⟨e,λP q=>(h P q).elim (λd=>.inl d.1) λd=>(f P d).imp (·.1) id⟩,h,n⟩
def bH.same(d:bH w F cls C)(f:s_ C){k:Nat}(e:aj (λP=>F P/\cls P=k) w w')(g:C2 k w' (λP=>F P/\cls P=k))(h:∀a G,a≠k->C a w' G->C2 a w' G):bH w' F cls C2:=
 ⟨λa=>by
  by_cases b:a=k
  ·subst b;exact g
  ·exact h a _ b (f a w w' _ _ (d.at' a) e λP c i=>b (c.2.symm.trans i.2)),λP c=>Qk (d.aE P c) e.size⟩
def bH.AW(e:bH w F cls C)(f:s_ C){k:Nat}{G':XM}(d:cO (λP=>F P/\cls P=k) w G' w')(g:∀P,G' P->P<w'.heap.size)(h:C2 k w' G')(i:∀b G,b≠k->C b w' G->C2 b w' G):∃c a,bH w' c a C2/\cO F w c w'/\(∀P,c P->((F P/\cls P≠k)\/G' P))/\(∀b,b≠k->(λP=>c P/\a P=b)=λP=>F P/\cls P=b)/\(λP=>c P/\a P=k)=G':=e.fB f d.1 d.2 g h i
def bH.join{G:Nat->XM}(b:∀P,C P w (G P))(h:∀e f a,G e a->G f a->e=f)(i:∀P a,G P a->a<w.heap.size):∃cls,bH w (λa=>∃P,G P a) cls C:=by
 classical
 refine⟨λa=>if b:∃P,G P a then b.choose else 0,⟨λP=>?_,λa ⟨P,c⟩=>i P a c⟩⟩;have:(λa=>(∃P,G P a)/\(if b:∃P,G P a then b.choose else 0)=P)=G P:=by
  funext a
  refine propext ⟨λ⟨d,g⟩=>?_,λc=>⟨⟨P,c⟩,?_⟩⟩
  ·rw[dif_pos d]at g;exact g▸d.choose_spec
  ·have d:∃P,G P a:=⟨P,c⟩
   rw[dif_pos d];exact h _ _ a d.choose_spec c
 rw[this];exact b P
end
end Go.au
namespace Go.Proofs.YtblabbpipmodgaaGreatDoor
open Go.au
def TR:jK Nat:=flat 1 (λa=>[XP a]) (λ_=>True) (λ_=>rfl) (λb c P=>by simp at P;subst P;rfl)
def MZ:jx XG 217 224 1 8:=⟨kR,kR,dC⟩
structure cK (w:World) (G:XM) (a:XU) (n c:Nat) (Rs:List eg):Prop where
 body:∃ps:List (Nat×Nat),ps.length=Rs.length/\aV TR 224 (λb=>aI a=some b) w a n c (ps.map (·.1))/\
  (∀(i j:Nat) (x y:Nat×Nat),ps[i]? =some x->ps[j]? =some y->x.1≠y.2/\(x.2=y.2->i=j))/\(∀x∈ps,G x.1/\G x.2/\aI a≠some x.1/\aI a≠some x.2)/\
  ∀(i:Nat) (x:Nat×Nat) (R:eg),ps[i]? =some x->Rs[i]? =some R->oB w x.1 x.2 R
 self:∀b,aI a=some b->G b
variable{H:Nat×Nat}{h:Program}{m r:XN}
section
variable {w w':World} {G G' T:XM} {a:XU} {n c:Nat} {Rs:List eg}
def cK.keep(b:cK w G a n c Rs)(h:aj T w w')(d:∀P,G P->¬T P):cK w' G a n c Rs:=by
 obtain⟨i,j,k,l,e,m⟩:=b.body;exact⟨⟨i,j,k.keep h λP o=>d P (b.self P o),l,e,λp f q g r=>(m p f q g r).keep h (d _ (e f (QZ g)).1) (d _ (e f (QZ g)).2.1)⟩,b.self⟩
def cK.af(P:cK w G a n c Rs)(b:ai w w'):cK w' G a n c Rs:=P.keep b λ_ _ P=>P
def cK.mono(g:cK w G a n c Rs)(b:∀P,G P->G' P):cK w G' a n c Rs:=by
 obtain⟨h,i,j,k,d,l⟩:=g.body;exact⟨⟨h,i,j,k,λe f=>⟨b _ (d e f).1,b _ (d e f).2.1,(d e f).2.2⟩,l⟩,λP m=>b P (g.self P m)⟩
def cK.len(P:cK w G a n c Rs):n=Rs.length:=by
 obtain⟨e,b,d,-⟩:=P.body;rw[d.len dC,Q8,b]
def cK.nil(w:World):cK w (λ_=>False) none 0 0 []:=⟨⟨[],rfl,(aV.nil w).mono (λa P=>P.elim) (λa P=>by cases P),sM,sM,sM⟩,λa P=>by cases P⟩
def cK.elem(m:cK w G a n c Rs){P:Nat}{o:eg}(u:Rs[P]? =some o):∃f e g,a=XL f/\w.cell? ⟨f,0+P,none⟩=some (XP e)/\oB w e g o/\e≠g/\G e/\G g/\G f/\
  ∀w' p,aj (·=g) w w'->oB w' e g p->cK w' G a n c (Rs.set P p):=by
 obtain⟨h,B,v,j,x,y⟩:=m.body;have L:=(Qv.1 u).1;have b:h[P]? =some h[P]:=Qq oM;generalize h[P]=d at b;obtain⟨cs,D,C,E,M⟩:=v.body;have q:=x d (QZ b);obtain⟨rfl,-⟩:=v_.1 E;have F:((h.map (·.1)).flatMap λe=>[Value.pointer (XL e)])[P]? =some (XP d.1):=by
  rw[Ev (K:=1) dC (λ_=>rfl) bc,Nat.div_one,Nat.mod_one,getElem!_pos _ P bc];simp[(Qv.1 b).2]
 obtain⟨f,z,H⟩:=C.cell F;refine⟨f,d.1,d.2,z,by rw[Xz];exact H.2,y P d o b u,(j P P d d b b).1,q.1,q.2.1,m.self f (by rw[z];rfl),λw' p A I=>⟨⟨h,by simpa using B,v.keep A λN J r=>q.2.2.2 (r▸J),j,x,λk s K i l=>?_⟩,m.self⟩⟩
 by_cases t:P=k
 ·subst t
  rw[b]at i;cases i
  rw[List.getElem?_set_self oM]at l;cases l
  exact I
 ·rw[List.getElem?_set_ne t]at l
  exact(y k s K i l).keep A (j k P s d i b).1 λr=>t ((j P k d s b i).2 r.symm)
def cK.push{C V:TypeId}(p:cK w G a n c Rs)(F:∀P,G P->P<w.heap.size){e f L:Nat}{M:eg}(I:oB w e f M)(N:¬G e)(t:¬G f)(W:e≠f)(Y:jx h C 224 1 8)(Z:w.heap[L]? =some (.cells #[XP e] 224 H))(b:Rs.length<=1000)(J:∀j u w' G',cK w' G' j (n+1) u (Rs++[M])->aj G w w'->(∀P,G' P->G P\/P=e\/P=f\/w.heap.size<=P)->(∀P,G' P->P<w'.heap.size)->m (.slice j (n+1) u) w'):
  aG h (Builtin.append_ #[C,C] V #[.slice a n c,.slice (XL L) 1 1]) w m r:=by
 obtain⟨k,l,K,h3,v,h5⟩:=p.body;have a1:e<w.heap.size:=aB I.at';have a2:f<w.heap.size:=I.map.lt;refine fk K Y Z (D:=λ_=>False) (x:=e) ⟨rfl,trivial⟩ (λP b=>b.elim) (by unfold aS;simp;omega) (by unfold maxLen;simp;omega) λj u w' F' O y hF=>?_;have a0:∀P,aI j=some P->aI a=some P\/w.heap.size<=P:=λP b=>(hF P (O.self P b)).imp id λp=>p.resolve_left id;have q:=O.alone;have a5:=y.size;have Q:∀P,aI j=some P->aI a=some P\/w.heap.size<=P:=a0;have z:∀P,P<w.heap.size->aI a≠some P->aI j≠some P:=λP b l K=>(Q P K).elim l oM;have R:aI a≠some e:=λi=>N (p.self e i);have S:aI a≠some f:=λi=>t (p.self f i);refine J j u w' (λP=>(G P\/P=e\/P=f\/aI j=some P)) ⟨⟨k++[(e,f)],by simp[l],by rw[Q3];exact q,λg T x s B A=>?_,λx B=>?_,λg x a3 B o=>?_⟩,λP b=>.inr (.inr (.inr b))⟩ (y.mono λP _ b=>p.self P b) (λP b=>?_) λP b=>?_
 ·have E:∀g x,(k++[(e,f)])[g]? =some x->(k[g]? =some x)\/(g=k.length/\x=(e,f)):=λg x B=>by
   rw[List.getElem?_append]at B;split at B
   ·exact .inl B
   ·rename_i U
    have:g-k.length=0:=by
     rcases Nat.eq_zero_or_pos (g-k.length)with X|X
     ·exact X
     ·rw[Q7 bc]at B;cases B
    rw[this]at B;simp at B;exact .inr ⟨oM,B.symm⟩
  rcases E g x B with B|⟨rfl,rfl⟩<;>rcases E T s A with A|⟨rfl,rfl⟩
  ·exact h3 g T x s B A
  ·have d:=v x (QZ B)
   exact⟨λi=>t ((show x.1=f from i)▸d.1),λi=>Zz ((show x.2=f from i)▸d.2.1) t⟩
  ·have d:=v s (QZ A)
   exact⟨λi=>N ((show e=s.2 from i)▸d.2.1),λi=>Zz ((show f=s.2 from i)▸d.2.1) t⟩
  ·exact⟨W,λ_=>rfl⟩
 ·rcases Q6.1 B with B|B
  ·have d:=v x B
   exact⟨.inl d.1,.inl d.2.1,z _ (F _ d.1) d.2.2.1,z _ (F _ d.2.1) d.2.2.2⟩
  ·simp at B;subst B
   exact⟨.inr (.inl rfl),.inr (.inr (.inl rfl)),z _ a1 R,z _ a2 S⟩
 ·rw[List.getElem?_append]at B o
  rw[<-l]at o;split at B
  ·rename_i a4
   rw[Zx a4]at o;have d:=v x (QZ B);exact(h5 g x a3 B o).keep y d.2.2.1 d.2.2.2
  ·rename_i U
   rw[Zq U]at o;have:g-k.length=0:=by
    rcases Nat.eq_zero_or_pos (g-k.length)with X|X
    ·exact X
    ·rw[Q7 bc]at B;cases B
   rw[this]at B o;simp at B o;subst B o;exact I.keep y R S
 ·rcases b with b|b|b|b
  ·exact .inl b
  ·exact .inr (.inl b)
  ·exact .inr (.inr (.inl b))
  ·rcases Q P b with l|l
   ·exact .inl (p.self P l)
   ·exact .inr (.inr (.inr l))
 ·rcases b with b|b|b|b
  ·have:=F P b;omega
  ·omega
  ·omega
  ·exact q.aE P b
def Vv:jK (List eg) where
 k:=2
 rep:=λw D Rs cs=>∃P a n c,cs=[.pointer P,.slice a n c]/\cK w D a n c Rs
 keep:=λ⟨P,a,n,c,b,d⟩ g e=>⟨P,a,n,c,b,d.keep g e⟩
 mono:=λ⟨P,a,n,c,b,d⟩ e=>⟨P,a,n,c,b,d.mono e⟩
 len:=λ⟨P,a,n,c,b,d⟩=>by rw[b];rfl
 one:=λ⟨P,a,n,c,b,d⟩ h f=>by
  rw[b]at f;simp only[Q2,List.not_mem_nil,or_false]at f;rcases f with rfl|rfl<;>rfl
def Th:jx XG 220 219 2 32:=⟨kR,kR,dC⟩
end
def HT(P:aW)(a:List ah)(b:ah):fR P (a++[b])=(fR P a).add b:=by unfold fR;rw[List.foldl_append];rfl
def HV(P:aW)(a:List ah)(b:ah):cN P (a++[b])=((cN P a).add b).2:=by unfold cN;rw[List.foldl_append];rfl
def HU(b:aW)(P:List ah):(fR b P).view=cN b P:=by
 have:∀(P:List ah) (a:lO),(P.foldl lO.add a).view=P.foldl (λd c=>(d.add c).2) a.view:=by
  intro P
  induction P with
  |nil=>intro a;rfl
  |cons c P e=>intro a;rw[List.foldl_cons,List.foldl_cons,e];rfl
 exact this P _
variable{o:Array Value}{B:List ah}{f8:List eg}{a c:Nat}{b:World}{N:aW}{d5:bd}{d6:jb}
def Fq(d:dt N=0)(a:List ah):(cN N a).OK/\(cN N a).decl=N:=by
 have:∀(a:List ah) (P:bd),P.OK->(a.foldl (λP b=>(P.add b).2) P).OK/\(a.foldl (λP b=>(P.add b).2) P).decl=P.decl:=by
  intro a
  induction a with
  |nil=>intro P c;exact⟨c,rfl⟩
  |cons b a e=>
   intro P c;obtain⟨f,g⟩:=bd.yy c b;obtain⟨h,i⟩:=e _ f;exact⟨h,i.trans g⟩
 exact this a _ (bd.rL d)
def eg.Ti(a:eg)(b:gX)(P:Int):(a.add b P).p=a.p:=by
 unfold eg.add;dsimp only;split
 ·rfl
 ·split<;>rfl
def Fe(d:aW)(P:List ah):(fR d P).rows.map (·.p)=d.projs:=by
 have:∀(P:List ah) (a:lO),(P.foldl lO.add a).rows.map (·.p)=a.rows.map (·.p):=by
  intro P
  induction P with
  |nil=>intro a;rfl
  |cons b P e=>
   intro a;rw[List.foldl_cons,e];show((a.rows.map λc=>c.add (a.view.add b).1 (te ((a.view.add b).2.state b.bk b.agg) c.p)).map (·.p))=_;rw[List.map_map];exact List.map_congr_left λc _=>c.Ti _ _
 refine(this P _).trans ?_;show(d.projs.map λf=>(⟨f,[]⟩:eg)).map (·.p)=_;rw[List.map_map];exact List.map_id _
def oI(P:aW)(a:List ah):(fR P a).rows.length=P.projs.length:=by
 rw[<-Fe P a,Q8]
def jP(b:aW)(P:Nat)(a:List ah):List (List eg):=(List.range (a.length/P+1)).map λc=>(fR b (a.take (c*P))).rows
section
variable {d:aW} {every:Nat} {l:List ah}
def yw:(jP d every l).length=l.length/every+1:=by simp[jP]
def Nd(P:a<=l.length/every):(jP d every l)[a]? =some (fR d (l.take (a*every))).rows:=by
 unfold jP;rw[Q9,List.getElem?_range oM];rfl
def Nh:jP d every []=[(fR d []).rows]:=by
 unfold jP;rw[ZQ,Nat.zero_div];simp
def Li(e:0<every)(f:ah):jP d every (l++[f])=if l.length+1=(l.length/every+1)*every then jP d every l++[(fR d (l++[f])).rows]else jP d every l:=by
 have h:=Nat.div_add_mod l.length every;have i:=Nat.mod_lt l.length e;have a:∀P,P<=l.length/every->(l++[f]).take (P*every)=l.take (P*every):=λP b=>by
  have:P*every<=l.length:=Xx (Q0 _ b) (Nat.div_mul_le_self ..);rw[List.take_append_of_le_length this]
 split
 ·rename_i c
  have g:(l.length+1)/every=l.length/every+1:=by rw[c];exact Nat.mul_div_cancel _ e
  unfold jP;rw[QX,List.length_singleton,g,List.range_succ,Q3]
  congr 1
  ·refine List.map_congr_left λP b=>?_
   rw[a P (by have:=List.mem_range.1 b;omega)]
  ·rw[List.map_singleton,<-c,Qz sM]
 ·rename_i c
  have g:(l.length+1)/every=l.length/every:=by
   have j:(l.length+1)/every<l.length/every+1:=by
    rw[Nat.div_lt_iff_lt_mul e];rw[X7,Nat.one_mul,Nat.mul_comm]at c⊢;omega
   have k:l.length/every<=(l.length+1)/every:=Nat.div_le_div_right oM;omega
  unfold jP;rw[QX,List.length_singleton,g];refine List.map_congr_left λP b=>?_;rw[a P (by have:=List.mem_range.1 b;omega)]
def Ll(b:0<every)(c:a<=l.length/every):(jP d every l).take (a+1)=jP d every (l.take (a*every)):=by
 have e:a*every<=l.length:=Xx (Q0 _ c) (Nat.div_mul_le_self ..);unfold jP;rw[Qy,X2 e,Nat.mul_div_cancel _ b,<-List.map_take,List.take_range,X2 oM];refine List.map_congr_left λf g=>?_;have P:f<=a:=by have:=List.mem_range.1 g;omega
 rw[List.take_take,X2 (Q0 _ P)]
end
structure u_ where
 ta:XU
 tn:Nat
 tc:Nat
 pa:XU
 pn:Nat
 pc:Nat
 every:Nat
 ea:XU
 en:Nat
 ec:Nat
 vp:Nat
 ra:XU
 rn:Nat
 rc:Nat
 qa:XU
 qn:Nat
 qc:Nat
abbrev u_.cells(P:u_):Array Value:= #[.slice P.ta P.tn P.tc,.slice P.pa P.pn P.pc,QH (P.every:Int),.slice P.ea P.en P.ec,XP P.vp,.slice P.ra P.rn P.rc,.slice P.qa P.qn P.qc]
def yu(c:Nat)(d:Array Value)(P:u_)(e:aW)(f:bd)(g:List eg)(h:List ah)(b:List (List eg)):Nat->World->(XM)->Prop
 |0=>λa G=>G c/\a.heap[c]? =some (.cells d 222 (0,0))
 |1=>λa G=>bl a G e P.ta P.tn P.pa P.pn
 |2=>λa G=>aV iC 55 G a P.ea P.en P.ec h
 |3=>λa G=>cI a P.vp G f
 |4=>λa G=>cK a G P.ra P.rn P.rc g
 |5=>λa G=>aV Vv 219 G a P.qa P.qn P.qc b
 |_=>λ_ _=>True
def dJ{e:u_}{d:List (List eg)}:s_ (yu a o e N d5 f8 B d):=by
 intro k f w' G g P b c
 match k,P with
 |0,P=>exact⟨P.1,b.get P.2 (c a P.1)⟩
 |1,P=>exact bl.keep P b c
 |2,P=>exact aV.keep P b c
 |3,P=>exact cI.keep P b c
 |4,P=>exact cK.keep P b c
 |5,P=>exact aV.keep P b c
 |k+6,P=>trivial
abbrev dY(c:World)(d:XM)(P:Nat->Nat)(e:Nat)(b:u_)(f:aW)(g:bd)(h:List eg)(i:List ah)(a:List (List eg)):Prop:=bH c d P (yu e b.cells b f g h i a)
section
variable {w w':World} {p:Nat} {F T D:XM} {cls:Nat->Nat} {q:u_} {d:aW} {V:bd} {Rs:List eg} {l:List ah} {pts:List (List eg)}
def dY.af(P:dY w F cls p q d V Rs l pts)(a:ai w w'):dY w' F cls p q d V Rs l pts:=bH.af P dJ a
def dY.bD(P:dY w F cls p q d V Rs l pts):w.heap[p]? =some (.cells q.cells 222 (0,0)):=(P.at' 0).2
def dY.self(P:dY w F cls p q d V Rs l pts):F p/\cls p=0:=(P.at' 0).1
def BS(s:dY w F cls p q d V Rs l pts)(hd:dt d=0)(hT:eP w)(hl:l.length<=20000000){vp:XU}{y:XU}(hr:cK w D y a c f8)(hD:∀P,D P->P<w.heap.size)(hn:f8.length<=8):
  ZH 180 #[XP p,.agg #[.pointer vp,.slice y a c]] w (Ok λT w'=>∃h y a c f G,T= .agg #[XP h,.slice y a c]/\cI w' h f (cN d l)/\cK w' G y a c f8/\(∀P,f P->w.heap.size<=P)/\(∀P,G P->w.heap.size<=P/\P<w'.heap.size/\¬f P)/\ai w w'):=by
 have U:=s.aE;have g4:=hr.len;refine rH (PA.mk λt k5 s5 g5=>PA.mk λz k6 s6 g6=>?_);have A:=k5.then k6;have c0:∀{j:World},ai w j->Row iC 96 j (λP=>F P/\cls P=2) q.ea q.en l:=λ{j} u=>((show aV iC 55 (λP=>F P/\cls P=2) w q.ea q.en q.ec l from s.at' 2).af u).row dC ba;have n:∀{j:World},ai w j->ZH 40 #[.agg #[.slice q.ta q.tn q.tc,.slice q.pa q.pn q.pc],.slice q.ea q.en q.ec] j (Ok λT w'=>∃p F,T= XP p/\cI w' p F (cN d l)/\(∀P,F P->j.heap.size<=P)/\ai j w'):=λ{j} u=>
  EV hd (hT.af u) (show bl j (λP=>F P/\cls P=1) d q.ta q.tn q.pa q.pn from bl.keep (s.at' 1) u λ_ _ s=>s) (λP b=>by have:=U P b.1;have:=u.size;omega) (c0 u) (λP b=>by have:=U P b.1;have:=u.size;omega) hl
 refine⟨λi oo w'=>oo=0/\∃h f,w'.heap[i]? =some (.cells #[XP h,.slice none 0 0] 219 (0,0))/\cI w' h f (cN d l)/\(∀P,f P->z.heap.size<=P)/\¬f i/\z.heap.size<=i/\ai z w',?_,?_⟩
 ·intro o d9
  have v:ai z o:=d9.keep;have s9:o.heap.size=z.heap.size:=by rw[d9.heap]
  have W:=(s.af (A.then v)).bD;have zp:=U p s.self.1;have nS:¬o.heap.size<=p:=by have:=(A.then v).size;omega
  refine⟨λP=>o.heap.size<=P,p,0,rfl,nS,_,_,_,_,_,_,ae W rfl,ae W rfl,p,0,rfl,nS,_,_,_,ae W rfl,PC.ok (n (A.then v)) ?_,PA.mk λg7 X g8 d2=>⟨ai.keep X,PC.ok (n ((A.then v).then X)) ?_⟩⟩
  ·rintro _ J ⟨h,f,rfl,r,B,Y⟩
   refine⟨_,rfl,ai.keep Y,PA.mk λd3 Z g9 d4=>⟨ai.keep Z,PS.mk d4 sM λh0 d5 h2 d6=>PS.mk d6 sM λd7 d8 h3 e0=>?_⟩⟩;have C:=r.aE;have h4:=Y.size;have g:aj (λP=>P=J.heap.size) d3 d7:=d5.then d8;refine⟨g.mono λP _ e=>by have e:P=J.heap.size:=e;omega,rfl,h,f,e0,(r.af Z).keep g λP b e=>by have e:P=J.heap.size:=e;have:=C P b;omega,λP b=>by have:=B P b;omega,λb=>by have:=C _ b;omega,oM,((v.then Y).then Z).new g λP b=>.inr (by have b:P=J.heap.size:=b;omega)⟩
  ·rintro _ e1 ⟨h,f,rfl,r,B,K⟩
   have e2:=K.get d2 id;have C:=r.aE;have h5:=K.size;refine⟨_,rfl,ai.keep K,PS.mk e2 sM λh6 e3 h7 e4=>PS.mk e4 sM λe5 e6 h8 e7=>?_⟩;have g:aj (λP=>P=o.heap.size) e1 e5:=e3.then e6;refine⟨g.mono λP _ e=>by have e:P=o.heap.size:=e;omega,rfl,h,f,e7,r.keep g λP b e=>by have e:P=o.heap.size:=e;have:=B P b;omega,λP b=>by have:=B P b;omega,λb=>by have:=B _ b;omega,oM,((v.then X).then K).new g λP b=>.inr (by have b:P=o.heap.size:=b;omega)⟩
 rintro i _ _ L ⟨rfl,h,f,E,r,c1,e8,g3,M⟩;have a5:=A.then M;have h9:=M.size;have a3:i<L.heap.size:=aB E;have C:=r.aE;have c4:=M.get (k6.get g5 id) id;have c5:=M.get g6 id;refine⟨_,_,_,ae c4 rfl,λa2 a4 w'=>∃k:Nat,a4=k/\k<=a/\a2=a-k/\∃N H O G,w'.heap[i]? =some (.cells #[XP h,.slice N H O] 219 (0,0))/\cK w' G N H O (f8.take k)/\(∀P,G P->L.heap.size<=P/\P<w'.heap.size)/\aj (·=i) L w',
  ⟨_,0,rfl,Qj _,rfl,none,0,0,λ_=>False,E,cK.nil _,λP b=>b.elim,aj.refl _⟩,?_⟩
 rintro a2 _ _ I ⟨k,rfl,hj,rfl,N,H,O,G,Q,R,m,x⟩;have i0:=x.size;refine al.dec (λi1=>?_) (λi2=>?_)
 ·have e9:k<f8.length:=oM
  have hx:f8[k]? =some f8[k]:=Qq e9;generalize f8[k]=c2 at hx;obtain⟨a7,pj,rj,ha,a0,hR,a8,a9,b0,-,-⟩:=((hr.af a5).keep x λP b e=>by have e:P=i:=e;have:=hD P b;omega).elem hx;have f2:=R.len;rw[Qy,X2 oM]at f2;refine⟨a7,0,ha,oM,oM,_,by rw[Qx];exact a0,λc6 c7=>⟨λ_=>False,id,?_⟩⟩;have b2:ai I c6:=c7.keep;have i3:c6.heap.size=I.heap.size:=by rw[c7.heap]
  refine⟨_,_,_,ae (b2.get Q id) rfl,PC.ok (Lg (hR.af b2)) ?_⟩;rintro _ i4 ⟨p',r',rfl,f3,f5,i5,i6,i7,i8,b3⟩;have i9:=b3.size;refine⟨_,rfl,b3,PA.mk λj0 b4 j1 f6=>⟨b4,?_⟩⟩;have a1:=(b2.then b3).then b4;refine(R.af a1).push (λP b=>by have:=(m P b).2;omega) (f3.af b4) (λb=>by have:=(m _ b).2;omega) (λb=>by have:=(m _ b).2;omega) f5 MZ f6 (by rw[Qy];omega) λb1 c3 j2 G3 f7 b5 g0 c8=>⟨_,_,_,rfl,?_⟩
  have j3:=b5.size;have b6:=b5.get (a1.get Q id) λb=>by have:=(m _ b).1;omega
  have a6:∀P,G3 P->L.heap.size<=P:=λP b=>by
   rcases g0 P b with S|S|S|S
   ·exact(m P S).1
   ·omega
   ·omega
   ·omega
  refine PS.mk b6 sM λj4 c9 j5 g1=>⟨_,oM,k+1,an oM,oM,rfl,b1,H+1,c3,G3,g1,?_,λP b=>⟨a6 P b,by have:=c8 P b;omega⟩,?_⟩
  ·rw[Qw,hx]
   exact f7.keep c9 λP b e=>by have e:P=i:=e;have:=a6 P b;omega
  ·exact((x.af a1).new b5 λP b=>.inr (m P b).1).then c9
 ·rw[Qz oM]at R
  have d0:=x.get c5 λe=>by have e:t.heap.size=i:=e;omega
  refine⟨_,_,_,_,ae Q rfl,ae Q rfl,PS.mk d0 sM λj6 b7 j7 g2=>PS.mk g2 sM λb8 b9 j8 d1=>⟨_,_,_,_,ae d1 rfl,ae d1 rfl,Ok.mk ⟨h,N,H,O,f,G,rfl,?_,?_,λP b=>by have:=c1 P b;omega,λP b=>⟨?_,?_,?_⟩,?_⟩⟩⟩
  ·have g:aj (λP=>P=t.heap.size) I b8:=b7.then b9
   exact(r.keep x λP b e=>e8 ((show P=i from e)▸b)).keep g λP b e=>by have e:P=t.heap.size:=e;have:=c1 P b;omega
  ·have g:aj (λP=>P=t.heap.size) I b8:=b7.then b9
   exact R.keep g λP b e=>by have e:P=t.heap.size:=e;have:=m P b;omega
  ·have:=m P b;omega
  ·have:=m P b;omega
  ·intro hf;have:=m P b;have:=C P hf;omega
  ·have g:aj (λP=>P=t.heap.size) I b8:=b7.then b9
   exact(a5.new x λP b=>.inr (by have b:P=i:=b;omega)).new g λP b=>.inr (by have b:P=t.heap.size:=b;omega)
end
section
variable {w w':World} {p:Nat} {F T D:XM} {cls:Nat->Nat} {q:u_} {d:aW} {V:bd} {Rs:List eg} {l:List ah} {pts:List (List eg)}
def AZ{d:ah}{e:XU}{w:World}{D:XM}(i:Row aM 8 w D e a d.aJ)(s:∀P,D P->P<w.heap.size):
  ZH 202 #[jJ d e a c] w (Ok λt w'=>∃e a c G,t=jJ d e a c/\Row aM 8 w' G e a d.aJ/\(∀P,G P->w.heap.size<=P/\P<w'.heap.size)/\ai w w'):=by
 have u:=i.ef;have v:=i.len;refine xp (PA.mk λz m A f=>PA.mk λB g C j=>⟨_,_,_,ae (g.get f id) rfl,PC.ok (cC (i.af (m.then g)) λP b=>by have:=s P b;omega) ?_⟩);rintro _ E ⟨n,o,p,G,rfl,q,h,k⟩;have f:=h.get (g.get f id) id;have j:=h.get j id;refine⟨_,_,_,rfl,PS.mk f (by simp[aF]) λF l H x=>?_⟩;refine ay (cs:=aF d n o p) (bf _ _ _ _) x (aC (bf _ _ _ _) (l.get j oM) rfl λI r J y=>ay (bf _ _ _ _) y (Ok.mk ⟨n,o,p,G,rfl,?_,?_,?_⟩))
 ·refine(((q.keep l λP b=>?_).keep r λP b=>?_).row (bytes:=8) dC (by rw[<-v];exact u))
  ·have:=k P b;omega
  ·have:=k P b;omega
 ·intro P b
  have:=k P b;have:=q.aE P b;omega
 ·have K:=h.size
  exact((aj.new ((m.then g).then h) l λP b=>.inr oM).new r λP b=>.inr oM)
def dY.store{a:u_}(P:bH w F cls (yu p q.cells a d V Rs l pts))(c:aj (·=p) w w')(e:w'.heap[p]? =some (.cells o 222 (0,0))):bH w' F cls (yu p o a d V Rs l pts):=by
 refine bH.same P dJ (k:=0) (c.mono λi _ f=>f▸(P.at' 0).1) ⟨(P.at' 0).1,e⟩ λb G g h=>?_;rcases b with _|_|_|_|_|_|b<;>first|exact h|exact Zz rfl g
def BT(a:dY w F cls p q d V Rs l pts)(I:dt d=0)(J:eP w)(K:l.length<=20000000)(L:Rs.length<=8)(b2:pts.length*q.every<9223372036854775808)(b3:pts.length<=20000001):
  ZH 134 #[XP p] w (Ok λM w'=>M= .tuple #[]/\∃t u f,dY w' u f p t d V Rs l (if l.length=pts.length*q.every then pts++[Rs]else pts)/\t.every=q.every/\cO F w u w'):=by
 have j:=a.bD;have N:=aV.len (a.at' 2) dC;have O:=aV.len (a.at' 5) dC;have Q:=a.aE;have R:XH .i64 (((q.qn:Nat):Int)*(q.every:Int))=((pts.length*q.every:Nat):Int):=by
  rw[O,show((pts.length:Nat):Int)*(q.every:Int)=((pts.length*q.every:Nat):Int) by push_cast;rfl,wrap_i64 bb]
 refine rJ ⟨p,0,rfl,_,_,_,ae j rfl,p,0,rfl,_,_,_,ae j rfl,p,0,rfl,_,ae j rfl,λS T=>?_⟩;rw[R,N];have k:ai w S:=T.keep;refine al.dU (λb4=>?_) (λb5=>Ok.mk ⟨rfl,q,F,cls,?_,rfl,ai.keep k,λP b=>.inl b⟩)
 rotate_left
 ·rw[Zq oM];exact dY.af a k
 rw[Zx oM];intro v U;have i:ai w v:=k.then U.keep;have e:=dY.af a i;have m:=e.bD;refine⟨λ_=>False,p,0,rfl,id,_,_,_,ae m rfl,p,0,rfl,_,_,_,_,ae m rfl,ae m rfl,PC.ok (BS e I (J.af i) K (e.at' 4) (λP b=>e.aE P b.1) L) ?_⟩;rintro _ b6 ⟨b7,a3,n2,c2,Fv,G,rfl,-,W,-,n,o⟩;refine⟨_,_,_,_,rfl,o,PA.mk λb8 r b9 X=>⟨r,?_⟩⟩;have x:=o.then r;have Y:=dY.af e x;have c0:=i.size;have c1:=o.size;have s:∀P,aI q.qa=some P->F P/\cls P=5:=λP b=>aV.self (a.at' 5) P b;refine fk (c:=Vv) (x:=Rs) (Y.at' 5) Th X (D:=G) ⟨_,_,_,_,rfl,W.af r⟩ (λP b=>⟨by have:=(n P b).2.1;omega,λg=>by have:=Q P (s P g).1;have:=(n P b).1;omega⟩) ba (by unfold maxLen;omega) λy c Z F2 z A b0=>⟨_,_,_,rfl,p,0,rfl,?_⟩
 have a0:¬aI q.qa=some p:=λg=>by have h:=(s p g).2;rw[a.self.2]at h;cases h
 have c3:=A.size;have a1:aj (λP=>F P/\cls P=5) v Z:=(ai.keep x).then (A.mono λP _ b=>s P b);obtain⟨F3,a2,B,C,-,-⟩:=e.fB dJ (k:=5) (G':=F2) (C2:=yu p q.cells {q with qa:=y,qn:=q.qn+1,qc:=c} d V Rs l (pts++[Rs])) a1
  (λP b=>(b0 P b).imp id λa=>a.elim (λa=>(n P a).1) λa=>oM) z.aE z λE G hj hc=>by
   rcases E with _|_|_|_|_|_|E<;>first|exact hc|exact Zz rfl hj
 refine PS.mk (B.at' 0).2 sM λc4 H c5 b1=>Ok.mk ⟨rfl,{q with qa:=y,qn:=q.qn+1,qc:=c},F3,a2,dY.store B H b1,rfl,?_,λP b=>?_⟩
 ·refine((ai.keep i).then C.keep).then (H.mono λP _ g=>g▸a.self.1)
 ·rcases C.new P b with h|h
  ·exact .inl h
  ·exact .inr oM
end
section
variable {w w':World} {p:Nat} {F T D:XM} {cls:Nat->Nat} {q:u_} {d:aW} {V:bd} {Rs:List eg} {l:List ah} {pts:List (List eg)}
def oG(V:bd)(P:ah)(Rs:List eg):List eg:=Rs.map λa=>a.add (V.add P).1 (te ((V.add P).2.state P.bk P.agg) a.p)
def Pz{d:aW}(c:dt d=0)(e:d6∈d.projs):0<=d6.EW:=by
 have a:=(lM c).2.2 d6 e;unfold ll at a;split at a
 ·cases a
 split at a
 ·cases a
 rename_i P
 by_cases b:d6.group=3
 ·rw[b]at P
  simp only[BEq.rfl,Bool.true_and,bne_self_eq_false,Bool.false_and,Bool.or_false,Bool.not_eq_true,Bool.not_eq_false']at P;unfold Pu within at P;simp only[QK,Zk]at P;exact P.1.1
 ·have f:(d6.group==3)=false:=by simpa using b
  have g:(d6.group !=3)=true:=by simpa using b
  rw[f,g]at P;simp at P;omega
def BU{V:bd}(a:V.OK)(P:ah):((V.state P.bk P.agg).getD ER).cells.length<=8:=by
 have b:=a.len P;have c:=(yv (lM a.decl).1).2.2.2;have h:(V.decl.at P.bk).length<=8:=by
  unfold aW.at;split
  ·rw[QQ]
   cases d:V.decl.types[P.bk.toNat]? with
   |none=>simp
   |some e=>exact(c e (QZ d)).2
  ·simp
 unfold bd.cellsOf at b;unfold bd.state
 cases f:aq V.eE (P.bk,P.agg)with
 |none=>simp
 |some g=>simp only[f]at b;show g.cells.length<=8;omega
def Us(w P:World)(p:Nat)(F:XM)(q:u_)(d:aW)(V:bd)(Rs:List eg)(l:List ah)(pts:List (List eg))(e:ah)(a f:Nat)(w':World):Prop:=
 f=0/\∃g h i b j,w'.heap[a]? =some (.cells (tf (V.add e).1 g h i).toArray 160 (0,0))/\dY w' b j p q d (V.add e).2 Rs l pts/\(∀c,b c->F c\/P.heap.size<=c)/\aj F P w'/\P.heap.size<=a/\¬b a
def M_(u:dY w F cls p q d V Rs l pts)(hd:dt d=0)(hT:eP b)(g0:ai b w)(g3:∀P,F P->b.heap.size<=P)(hl:l.length+1<=20000000)(k4:V.entries.length<=20000000)(g4:Rs.map (·.p)=d.projs)(k5:pts.length*q.every<9223372036854775808)(k6:pts.length<=20000001){f:ah}{I:XU}(k7:((aq V.done (f.bk,f.agg,f.field)).getD []).length<=20000000)(hr:Row aM 8 w D I a f.aJ)(R:∀P,D P->P<w.heap.size/\¬F P)(he:f.Ok):
  ZH 144 #[XP p,jJ f I a c] w (Ok λa5 w'=>a5= .tuple #[]/\∃q' S a0,dY w' S a0 p q' d (V.add f).2 (oG V f Rs) (l++[f]) (if l.length+1=pts.length*q.every then pts++[oG V f Rs]else pts)/\q'.every=q.every/\cO F w S w'):=by
 have T:=u.aE;have q7:=T p u.self.1;have q8:Rs.length=d.projs.length:=by rw[<-g4,Q8]
 have q9:d.projs.length<=8:=(yv (lM hd).1).2.2.1;refine tg (PA.mk λe0 b8 r0 g5=>?_);have k8:=dY.af u b8;refine⟨Us w e0 p F q d V Rs l pts f,?_,?_⟩
 ·intro r g6
  have a6:ai e0 r:=g6.keep;have r3:r.heap.size=e0.heap.size:=by rw[g6.heap]
  have e1:=dY.af k8 a6;have a7:=b8.then a6;have g7:=e1.bD;have a1:∀{o:World},ai r o->ZH 79 #[XP q.vp,jJ f I a c] o (Ok λa5 w'=>∃I a c G,a5=RV (V.add f).1 I a c/\Row aM 8 w' G I a f.aJ/\∃S,cI w' q.vp S (V.add f).2/\cO (λP=>F P/\cls P=3) o S w'/\∀P,G P->o.heap.size<=P/\P<w'.heap.size/\¬S P):=λ{o} U=>
   EX (show cI o q.vp (λP=>F P/\cls P=3) V from(dY.af e1 U).at' 3) (hT.af (g0.then (a7.then U))) (hr.af (a7.then U)) (λP e=>⟨by have:=(R P e).1;have:=(a7.then U).size;omega,λi=>(R P e).2 i.1⟩) he k7 k4
  have fB:∀{o w2:World} {s:XM},ai r o->cI w2 q.vp s (V.add f).2->cO (λP=>F P/\cls P=3) o s w2->∃j m,dY w2 j m p q d (V.add f).2 Rs l pts/\(∀P,j P->F P\/s P)/\(∀P,j P->F P\/o.heap.size<=P)/\aj F o w2:=λ{o w2 s} U W v=>by
   obtain⟨j,m,X,J,n,-⟩:=(dY.af e1 U).AW dJ (k:=3) (G':=s) (C2:=yu p q.cells q d (V.add f).2 Rs l pts) v W.aE W λg G Y hc=>by
    rcases g with _|_|_|_|_|_|g<;>first|exact hc|exact Zz rfl Y
   exact⟨j,m,X,λP e=>(n P e).imp (·.1) id,J.new,J.keep⟩
  have nS:¬((F p/\cls p=3)\/r.heap.size<=p):=by
   rintro(⟨-,h⟩|h)
   ·rw[u.self.2]at h;cases h
   ·omega
  have b9:¬((F w.heap.size/\cls w.heap.size=3)\/r.heap.size<=w.heap.size):=by
   rintro(⟨h,-⟩|h)
   ·have:=T _ h;omega
   ·omega
  refine⟨λP=>(F P/\cls P=3)\/r.heap.size<=P,p,0,rfl,nS,_,ae g7 rfl,b9,ay (bf f I a c) (a6.get g5 id) ⟨PC.ok (a1 (aj.refl _)) ?_,PA.mk λr4 c0 r5 k9=>⟨ai.keep c0,PC.ok (a1 c0) ?_⟩⟩⟩
  ·rintro _ e2 ⟨y,z,A,G1,rfl,-,s,W,v,-⟩
   obtain⟨j,m,X,g8,n,kF⟩:=fB (aj.refl _) W v;have r6:=v.keep.size;have g9:=X.aE;refine cD (Na _ y z A) ⟨rfl,v.keep.mono λP _ e=>.inl e,PA.mk λr7 e3 r8 l0=>⟨ai.keep e3,aC (EY _ y z A) l0 rfl λr9 e4 s0 l3=>⟨e4.mono λP _ f=>.inr (by have f:P=e2.heap.size:=f;omega),rfl,y,z,A,j,m,l3,?_,λP e=>?_,?_,oM,λi=>by have:=g9 _ i;omega⟩⟩⟩
   ·exact bH.keep (dY.af X e3) dJ e4 λP e f=>by have f:P=e2.heap.size:=f;have:=g9 P e;omega
   ·rcases n P e with h|h
    ·exact .inl h
    ·exact .inr oM
   ·exact(((ai.keep a6).then kF).af e3).new e4 λP e=>.inr (by have e:P=e2.heap.size:=e;omega)
  ·rintro _ s1 ⟨y,z,A,G1,rfl,-,s,W,v,-⟩
   obtain⟨j,m,X,g8,n,kF⟩:=fB c0 W v;have s2:=v.keep.size;have nf:¬j r.heap.size:=λi=>by
    rcases n _ i with h|h
    ·have:=T _ h;omega
    ·omega
   have l4:=kF.get k9 λi=>by have:=T _ i;omega
   refine cD (Na _ y z A) ⟨rfl,v.keep.mono λP _ e=>.inl e,aC (EY _ y z A) l4 rfl λs3 e5 s4 l5=>⟨e5.mono λP _ f=>.inr (by have f:P=r.heap.size:=f;omega),rfl,y,z,A,j,m,l5,?_,λP e=>?_,?_,oM,nf⟩⟩
   ·exact bH.keep X dJ e5 λP e f=>by have f:P=r.heap.size:=f;exact nf (f▸e)
   ·rcases n P e with h|h
    ·exact .inl h
    ·exact .inr oM
   ·exact(((ai.keep a6).then (ai.keep c0)).then kF).new e5 λP e=>.inr (by have e:P=r.heap.size:=e;omega)
 rintro xb _ _ K ⟨rfl,xa,xn,xc,j,m,gx,Z,n,c2,s5,l6⟩;have h0:=c2.get g5 λi=>by have:=T _ i;omega
 have h2:=(hr.af b8).keep c2 λP e=>(R P e).2;have a8:=Z.aE;have s6:=c2.size;have xw:=aB gx;have a9:aj F w K:=(ai.keep b8).then c2;have p8:ai b K:=g0.new a9 λP e=>.inr (g3 P e);obtain⟨k,hS⟩:∃k,k=(V.add f).2.state f.bk f.agg:=⟨_,rfl⟩
 have s7:(k.getD ER).cells.length<=8:=by rw[hS];exact BU (show(V.add f).2.OK from(show cI K q.vp (λP=>j P/\m P=3) (V.add f).2 from Z.at' 3).1) f
 refine⟨λsb so w'=>so=0/\∃sa sn sc G2,w'.heap[sb]? =some (.cells #[QH (k.getD ER).version,.slice sa sn sc] 42 (0,0))/\Row gG 32 w' G2 sa sn (k.getD ER).cells/\(∀P,G2 P->K.heap.size<=P/\P<w'.heap.size)/\K.heap.size<=sb/\ai K w',?_,?_⟩
 ·intro B h3
  have c3:ai K B:=h3.keep;have s8:B.heap.size=K.heap.size:=by rw[h3.heap]
  have e6:=dY.af Z c3;have h4:=e6.bD;have d4:=c3.get h0 id;have nS:¬B.heap.size<=p:=by have:=a8 p Z.self.1;omega
  have b9:¬B.heap.size<=w.heap.size:=oM
  refine⟨λP=>B.heap.size<=P,p,0,rfl,nS,_,ae h4 rfl,b9,_,ae d4 rfl,b9,_,ae d4 rfl,PC.ok (mJ (e6.at' 3)) ?_,PA.mk λs9 e7 t0 l7=>⟨ai.keep e7,PC.ok (mJ ((dY.af e6 e7).at' 3)) ?_⟩⟩
  ·rintro _ c4 ⟨ca,cn,cc,G,rfl,N,L,e8⟩
   have t1:=e8.size;have c5:=N.aE;rw[<-hS]at N⊢;refine⟨_,_,_,_,_,rfl,ai.keep e8,PA.mk λl8 e9 t2 l9=>⟨ai.keep e9,PS.mk l9 sM λt3 m0 t4 m1=>PS.mk m1 sM λm2 m3 t5 m4=>?_⟩⟩;have O:aj (λP=>P=c4.heap.size) l8 m2:=m0.then m3;refine⟨O.mono λP _ f=>by have f:P=c4.heap.size:=f;omega,rfl,ca,cn,cc,G,m4,((N.af e9).keep O λP e f=>by have f:P=c4.heap.size:=f;have:=c5 P e;omega).row dC ba,λP e=>⟨by have:=L P e;omega,by have:=c5 P e;omega⟩,oM,((c3.then e8).then e9).new O λP e=>.inr (by have e:P=c4.heap.size:=e;omega)⟩
  ·rintro _ m5 ⟨ca,cn,cc,G,rfl,N,L,c6⟩
   have t6:=c6.size;have c5:=N.aE;have m6:=c6.get l7 id;rw[<-hS]at N⊢;refine⟨_,_,_,_,_,rfl,ai.keep c6,PS.mk m6 sM λt7 m7 t8 m8=>PS.mk m8 sM λm9 n0 t9 n2=>?_⟩;have O:aj (λP=>P=B.heap.size) m5 m9:=m7.then n0;refine⟨O.mono λP _ f=>by have f:P=B.heap.size:=f;omega,rfl,ca,cn,cc,G,n2,(N.keep O λP e f=>by have f:P=B.heap.size:=f;have:=L P e;omega).row dC ba,λP e=>⟨by have:=L P e;omega,by have:=c5 P e;omega⟩,oM,((c3.then e7).then c6).new O λP e=>.inr (by have e:P=B.heap.size:=e;omega)⟩
 rintro sb _ _ h5 ⟨rfl,sa,sn,sc,G2,gs,n3,n4,u0,Q⟩;have c7:=dY.af Z Q;have h6:=c7.bD;have u1:=Q.size;have h7:bl h5 (λP=>j P/\m P=1) d q.ta q.tn q.pa q.pn:=c7.at' 1;have p9:=h7.A_.len;have q0:=c7.aE;have h8:=Q.get gx id;obtain⟨C,i⟩:∃C:eg->eg,C=λx=>x.add (V.add f).1 (te ((V.add f).2.state f.bk f.agg) x.p):=⟨_,rfl⟩
 have g2:=aB gs;refine⟨p,0,rfl,_,_,_,ae h6 rfl,λd5 b0 w'=>∃g:Nat,b0=g/\g<=q.pn/\d5=q.pn-g/\dY w' j m p q d (V.add f).2 ((Rs.take g).map C++Rs.drop g) l pts/\aj j h5 w',⟨_,0,rfl,Qj _,rfl,by simpa using c7,aj.refl _⟩,?_⟩;rintro d5 _ _ E ⟨g,rfl,Y,rfl,t,H⟩;have u2:=H.size;have d6:=H.get gs λi=>by have:=a8 _ i;omega
 have h1:=n3.keep H λP e i=>by have:=a8 _ i;have:=(n4 P e).1;omega
 have h9:=H.get h8 l6;have q1:=t.bD;refine al.dec (λu3=>?_) (λu4=>?_)
 ·have i0:g<d.projs.length:=oM
  have hx:d.projs[g]? =some d.projs[g]:=Qq i0;have i1:d.projs[g]∈d.projs:=XY i0;generalize d.projs[g]=x at hx i1;obtain⟨P,i8,es,b1,j0,j1,b2,rfl,d7⟩:=(show bl E (λP=>j P/\m P=1) d q.ta q.tn q.pa q.pn from t.at' 1).A_.el g x hx;have n8:=Pz hd i1;refine⟨P,i8,b1,oM,oM,bW (es:=mK x) (k:=5) (oH x) rfl (λb0 ht=>by rw[Qx];exact b2 b0 ht) (PA.mk λu5 i2 u6 n9=>aC (oH x) n9 rfl λi3 i4 u7 i5=>⟨λj3 w'=>j3=te k x/\aN (te k x)/\i3=w',?_,?_⟩)⟩
  ·have b3:ai E i3:=i2.new i4 λP e=>.inr (by have e:P=E.heap.size:=e;omega)
   have d8:=h1.af b3;have u9:=d8.len;have a4:te k x=(((k.getD ER).cells[x.EW.toNat]?).map (·.n)).getD 0:=by
    cases k<;>rfl
   refine⟨_,ae i5 rfl,_,_,_,ae (b3.get d6 id) rfl,al.dec (λi6=>?_) (λi6=>⟨?_,?_,rfl⟩)⟩
   ·obtain⟨bi,f3⟩:∃bi:Nat,x.EW=bi:=⟨x.EW.toNat,oM⟩
    obtain⟨cb,co,v0,v1,v2,o0,v3,v4,o1,-,-,i7,-⟩:=lN d8 (i:=bi) oM;refine⟨_,_,_,ae (b3.get d6 id) rfl,_,ae i5 rfl,cb,co,o0,n8,i6,_,by rw[f3,Qx];exact o1,?_,?_,rfl⟩
    ·rw[a4,f3,Qx,QQ,Qq (show bi<(k.getD ER).cells.length by omega)];rfl
    ·rw[a4,f3,Qx,Qq (show bi<(k.getD ER).cells.length by omega)]
     rw[QQ,Qq (show bi<(k.getD ER).cells.length by omega)]at i7;exact i7
   ·rw[a4,Q7 oM];rfl
   ·rw[a4,Q7 oM];exact EZ
  ·rintro _ _ _ ⟨rfl,j4,rfl⟩ o2 o3
   have b4:ai E o2:=(i2.new i4 λP e=>.inr (by have e:P=E.heap.size:=e;omega)).then o3.keep;have c8:=dY.af t b4;have o4:((Rs.take g).map C++Rs.drop g)[g]? =Rs[g]? :=by
    rw[X8 bc];simp[Qy,X2 (show g<=Rs.length by omega)]
   have c9:Rs[g]? =some Rs[g]:=Qq oM;have d9:Rs[g].p=x:=by
    have:=Zj (·[g]?) g4;simp only[Q9,c9,hx,Option.map_some,Q1]at this;exact this
   generalize Rs[g]=b5 at c9 d9;obtain⟨rg,pj,rj,o5,o6,hR,j5,v5,i9,-,b6⟩:=cK.elem (c8.at' 4) (o4.trans c9);have o7:=cK.len (c8.at' 4);rw[QX,Q8,Qy,XZ]at o7;have j6:=c8.bD;refine⟨p,0,rfl,_,_,_,ae j6 rfl,rg,0,o5,oM,oM,_,by rw[Qx];exact o6,ay (EY _ xa xn xc) (b4.get h9 id) (PC.ok (Nb hR j5 (x:=(V.add f).1) he j4) ?_)⟩;rintro _ o8 ⟨rfl,o9,f6⟩;have fQ:((Rs.take g).map C++Rs.drop g).set g (b5.add (V.add f).1 (te k x))=(Rs.take (g+1)).map C++Rs.drop (g+1):=by
    have j7:((Rs.take g).map C).length=g:=by simp;omega
    rw[Qw,c9,Q3,XQ,List.set_append,Zq oM,j7,Nat.sub_self,X4 (show g<Rs.length by omega)];have p0:C b5=b5.add (V.add f).1 (te k x):=by rw[i,hS,<-d9]
    rw[<-p0];rfl
   have j2:=b6 o8 _ f6 o9;rw[fQ]at j2;refine⟨rfl,_,oM,g+1,an oM,oM,rfl,?_,H.then ((ai.keep b4).then (f6.mono λP _ f=>?_))⟩
   ·refine bH.same c8 dJ (k:=4) (f6.mono λP _ f=>by have f:P=rj:=f;rw[f];exact i9) j2 λg G Y hc=>by
     rcases g with _|_|_|_|_|_|g<;>first|exact hc|exact Zz rfl Y
   ·have f:P=rj:=f;rw[f];exact i9.1
 have j9:(Rs.take g).map C++Rs.drop g=oG V f Rs:=by
  rw[Qz oM,List.drop_eq_nil_of_le oM,List.append_nil,i];rfl
 rw[j9]at t;intro b7 f0;have a2:ai E b7:=f0.keep;have q2:b7.heap.size=E.heap.size:=by rw[f0.heap]
 have k0:=dY.af t a2;have k1:=k0.bD;have p1:¬j w.heap.size:=λi=>by
  rcases n _ i with h|h
  ·have:=T _ h;omega
  ·omega
 have k2:=a2.get (H.get (Q.get h0 id) p1) id;have nD:∀P,D P->¬j P:=λP e i=>by
  rcases n _ i with h|h
  ·exact(R P e).2 h
  ·have:=(R P e).1;omega
 have k3:=((h2.af Q).keep H nD).af a2;have v6:=aV.len (t.at' 2) dC;have v7:aj F w b7:=((a9.af Q).new H λP e=>(n P e).imp id oM).af a2;refine⟨λ_=>False,p,0,rfl,id,_,_,_,ae k1 rfl,ay (bf f I a c) k2 (PC.ok (AZ k3 λP e=>by have:=(R P e).1;omega) ?_)⟩;rintro _ q3 ⟨y,z,A,G,rfl,p2,L,c1⟩;refine⟨_,_,_,_,_,_,_,_,_,_,_,_,rfl,c1,PA.mk λq4 d0 q5 l1=>⟨d0,?_⟩⟩;have f1:=(a2.then c1).then d0;have l2:=dY.af t f1;have q6:=c1.size;have n1:=t.aE;have f2:∀P,aI q.ea=some P->j P/\m P=2:=λP e=>aV.self (t.at' 2) P e;refine fk (c:=iC) (x:=f) (l2.at' 2) E_ l1 (D:=G) ⟨y,z,A,rfl,p2.af d0,he⟩ (λP e=>⟨by have:=(L P e).2;omega,λee=>by have:=n1 P (f2 P ee).1;have:=(L P e).1;omega⟩) ba (by unfold maxLen;omega) λa' M r1 F2 f4 f5 p3=>⟨_,_,_,rfl,p,0,rfl,?_⟩
 have r2:=f5.size;obtain⟨s,a3,j8,f7,n5,-⟩:=t.fB dJ (k:=2) (G':=F2) (C2:=yu p q.cells {q with ea:=a',en:=q.en+1,ec:=M} d (V.add f).2 (oG V f Rs) (l++[f]) pts) ((ai.keep f1).then (f5.mono λP _ e=>f2 P e))
  (λP e=>(p3 P e).imp id λu=>u.elim (λu=>by have:=(L P u).1;omega) λu=>oM) f4.aE f4 λg G Y hc=>by
   rcases g with _|_|_|_|_|_|g<;>first|exact hc|exact Zz rfl Y
 refine PS.mk (j8.at' 0).2 sM λd1 f8 u8 n6=>?_;have n7:dY d1 s a3 p {q with ea:=a',en:=q.en+1,ec:=M} d (V.add f).2 (oG V f Rs) (l++[f]) pts:=dY.store j8 f8 n6;have f9:∀P,s P->F P\/w.heap.size<=P:=λP e=>by
  rcases f7.new P e with h|h
  ·exact(n P h).imp id oM
  ·exact .inr oM
 have p4:aj j E d1:=f7.keep.then (f8.mono λP _ ee=>by have ee:P=p:=ee;rw[ee];exact Z.self.1);have p5:aj F w E:=(a9.af Q).new H λP e=>(n P e).imp id oM;have d2:aj F w d1:=p5.new p4 λP e=>(n P e).imp id oM;refine PC.ok (BT n7 hd (hT.af (g0.new d2 λP e=>.inr (g3 P e))) bc (by unfold oG;rw[Q8];omega) k5 k6) ?_;rintro _ v8 ⟨rfl,q',F4,p6,p7,d3,g1⟩;refine⟨rfl,Ok.mk ⟨rfl,q',F4,p6,?_,d3,d2.new g1.keep f9,λP e=>?_⟩⟩
 ·simpa using p7
 ·rcases g1.new P e with h|h
  ·exact f9 P h
  ·have:=d2.size;exact .inr oM
end
end Go.Proofs.YtblabbpipmodgaaGreatDoor
namespace Go.au
open Go
variable{a c j:Nat}{f:XM}{V X:Operand}{d:XU}{h:Program}{i:Type}{A g n:TypeId}{m r:XN}{b:World}
def yx{bytes:Nat}{P:jK i}(v:jx h g n P.k bytes)(C:Lj h n=true){w:List i}(l:aV P n f b d a c w)(S:j<=a)(o:∀k,aV P n f k d j c (w.take j)->aj (λe=>aI d=some e) b k->k.heap.size=b.heap.size->m (.tuple #[]) k):
  aG h (Builtin.clear_ #[g] A #[.slice (cE d j c P.k) (a-j) (c-j)]) b m r:=by
 rcases Nat.lt_or_ge j a with T|U
 rotate_left
 ·obtain rfl:j=a:=oM
  rw[Nat.sub_self];exact aG.mk (w':=b) (v:=.tuple #[]) (by cases cE d j c P.k<;>simp[Builtin.clear_,run_underlying v.under]) (o b (l.take (Q4 _)) (aj.refl _) rfl)
 obtain⟨cs,D,q,E,x⟩:=l.body;have F:=q.length;rcases q.cases with⟨_,V,_,_⟩|⟨y,H,rfl,I,J,z,K⟩
 ·omega
 have s:c<=maxLen:=by
  obtain⟨_,W,_,B,_,_,_,s,_⟩:=q.row.2.resolve_left (by rintro⟨l,_⟩;cases l);simp only[XX]at B;rw[B.2.2];exact s
 have L:j*P.k<=a*P.k:=Q0 _ oM;have X:a*P.k<=c*P.k:=Q0 _ J;rw[fC (show c≠j by omega),Xz];refine Ob v C I (by rw[z,Nat.sub_mul];omega) λk p M N O Q R=>?_;have t:aj (λe=>aI (some (⟨y,0,none⟩:Addr))=some e) b k:=Q.mono λe _ n=>by rw[n];rfl
 refine o k ⟨⟨cs.take (j*P.k),D,⟨⟨by rw[Qy,F];omega,.inr ⟨y,c,p,rfl,Qj _,M,oM,s,by rw[N,z],?_⟩⟩⟩,(E.keep t λe u=>(x e u).2).take j,x⟩,l.self,λe u=>Qk (l.aE e u) t.size⟩ t R;rw[O,<-K,List.take_take,X2 L]
def PD(j:0<c)(k:a<9223372036854775808):(do eqGuard .quo g V X (QH (a:Int)) (QH (c:Int));binOp .quo g (QH (a:Int)) (QH (c:Int)):Sem Value).run h b= .ok (QH ((a/c:Nat):Int)) b:=by
 have e:c≠0:=oM
 have P:(a:Int).tdiv (c:Int)=((a/c:Nat):Int):=by rw[Int.tdiv_eq_ediv_of_nonneg oM];rfl
 have f:=Nat.div_le_self a c;generalize a/c=d at P f;have i:XH .i64 (d:Int)=(d:Int):=wrap_i64 bb;simp[eqGuard,binOp,Op.intDiv,e,P,i]
end Go.au
namespace Go.Proofs.YtblabbpipmodgaaGreatDoor
open Go.au
def dZ(e:World)(f:Nat)(g:XM)(a:aW)(P:Nat)(b:List ah):Prop:=
 (dt a=0/\0<P/\P<9223372036854775808/\b.length<=20000000)/\∃d c,d.every=P/\dY e g c f d a (cN a b) (fR a b).rows b (jP a P b)
variable{a1 o:Array Value}{y:FuncId}{Y c5 e u:Int}{B f3:List ah}{a c:Nat}{H:Nat×Nat}{V X:Operand}{d t:XU}{h:Program}{g n:TypeId}{b:World}{l:ah}
def PB{d:aW}(P:0<a)(b:a<9223372036854775808)(c:B.length<=20000000):(jP d a B).length*a<9223372036854775808/\(jP d a B).length<=20000001:=by
 rw[yw];have e:=Nat.div_le_self B.length a;refine⟨?_,oM⟩;rcases Nat.lt_or_ge B.length a with h|h
 ·rw[Nat.div_eq_of_lt h];omega
 ·have:=Nat.div_mul_le_self B.length a
  rw[X7,Nat.one_mul];omega
section
variable {w w':World} {p:Nat} {F T D:XM} {d:aW} {every:Nat} {l:List ah}
def dZ.keep(b:dZ w p F d every l)(c:aj T w w')(e:∀a,F a->¬T a):dZ w' p F d every l:=by
 obtain⟨f,g,P,h,i⟩:=b;exact⟨f,g,P,h,bH.keep i dJ c e⟩
def dZ.af(P:dZ w p F d every l)(a:ai w w'):dZ w' p F d every l:=P.keep a λ_ _ P=>P
def dZ.aE(a:dZ w p F d every l):∀P,F P->P<w.heap.size:=by obtain⟨e,f,b,g,c⟩:=a;exact c.aE
def Lh(d:aW)(l:List ah)(c:l.length<=20000000):(cN d l).entries.length<=20000000/\∀P,((aq (cN d l).done P).getD []).length<=20000000:=by
 have a:=λP=>CZ d l (bd.new d) P;refine⟨?_,λP=>?_⟩
 ·have b:(cN d l).entries.length=0+l.length:=(a (0,0,0)).2
  omega
 ·have b:((aq (cN d l).done P).getD []).length<=0+l.length:=(a P).1
  omega
def Fc(d:aW)(l:List ah)(P:ah):oG (cN d l) P (fR d l).rows=(fR d (l++[P])).rows:=by
 rw[HT];unfold oG lO.add;rw[HU]
def Nc(s:dZ w p F d every l)(t:eP b)(u:ai b w)(v:∀P,F P->b.heap.size<=P)(k:l.length+1<=20000000){f:ah}{m:XU}(x:Row aM 8 w D m a f.aJ)(y:∀P,D P->P<w.heap.size/\¬F P)(z:f.Ok):
  ZH 144 #[XP p,jJ f m a c] w (Ok λn w'=>n= .tuple #[]/\∃g,dZ w' p g d every (l++[f])/\cO F w g w'):=by
 obtain⟨⟨o,h,q,r⟩,L,A,rfl,B⟩:=s;obtain⟨C,E⟩:=Lh d l r;obtain⟨H,I⟩:=PB (d:=d) h q r;refine(M_ B o t u v k C (Fe d l) H I (E _) x y z).mono ?_;rintro _ w' ⟨n,rfl,rfl,J,g,e,i,j,K⟩;refine Ok.mk ⟨rfl,g,⟨⟨o,h,q,by simpa using k⟩,J,e,j,?_⟩,K⟩;rw[HV,Li h,<-Fc,<-yw (d:=d)];exact i
def VD:Lj XG 219=true:=kR
def Lk(a0:dZ w p F d every l)(hT:eP b)(g0:ai b w)(c6:∀c,F c->b.heap.size<=c)(hn:a<=l.length):
  ZH 143 #[XP p,QH (a:Int)] w (Ok λa1 w'=>a1= .tuple #[]/\∃H,dZ w' p H d every (l.take (a/every*every))/\cO F w H w'):=by
 obtain⟨⟨q,u,h3,h4⟩,P,i,rfl,h⟩:=a0;have c7:=h.bD;have e2:=h.aE;have c8:=aV.len (h.at' 5) dC;have I:=aV.len (h.at' 2) dC;rw[yw]at c8;obtain⟨k,v⟩:∃k,k=a/P.every:=⟨_,rfl⟩
 have s:k<=l.length/P.every:=by rw[v];exact Nat.div_le_div_right hn
 have J:k*P.every<=l.length:=Xx (Q0 _ s) (Nat.div_mul_le_self ..);have e3:k<=l.length:=Xx s (Nat.div_le_self ..);rw[<-v];have x:XH .i64 ((k:Int)*(P.every:Int))=((k*P.every:Nat):Int):=by
  rw[show((k:Int)*(P.every:Int))=((k*P.every:Nat):Int) by push_cast;rfl,wrap_i64 bb]
 have c9:XH .i64 ((k:Int)+1)=((k+1:Nat):Int):=an oM;have ec:=aV.mL (h.at' 2);have qc:=aV.mL (h.at' 5);refine qA ⟨p,0,rfl,_,ae c7 rfl,aG.mk (PD u oM) ⟨_,rfl,λK d0=>?_⟩⟩;rw[<-v,c9];simp only[Qx];have L:ai w K:=d0.keep;have y:=dY.af h L;have z:=y.bD;have a2:bH K F i (yu p P.cells {P with en:=k*P.every} d (cN d l) (fR d l).rows (l.take (k*P.every)) (jP d P.every l)):=y.same dJ (k:=2) (aj.refl _) (aV.take (y.at' 2) (show k*P.every<=P.en from I▸J)) λj G m n=>by
  rcases j with _|_|_|_|_|_|j<;>first|exact n|exact Zz rfl m
 refine⟨p,0,rfl,_,_,_,ae z rfl,p,0,rfl,_,ae z rfl,by rw[x];exact Int.natCast_nonneg _,by rw[x];exact Int.ofNat_le.2 (Xx J (I▸ec)),p,0,rfl,?_⟩;rw[x,Qx];refine PS.mk z sM λd1 M e4 N=>?_;have O:dY d1 F i p {P with en:=k*P.every} d (cN d l) (fR d l).rows (l.take (k*P.every)) (jP d P.every l):=dY.store a2 M N;refine⟨p,0,rfl,_,_,_,ae N rfl,oM,by show _<=((P.qn:Nat):Int);omega,?_⟩;have f:∀c,aI P.qa=some c->F c/\i c=5:=λc e=>aV.self (h.at' 5) c e;have a3:¬aI P.qa=some p:=λg=>by have q:=(f p g).2;rw[h.self.2]at q;cases q
 refine yx Th VD (O.at' 5) (by show k+1<=P.qn;omega) λd2 a5 Q e5=>?_;have R:bH d2 F i (yu p ({P with en:=k*P.every}:u_).cells {P with en:=k*P.every,qn:=k+1} d (cN d l) (fR d l).rows (l.take (k*P.every)) ((jP d P.every l).take (k+1))):=O.same dJ (k:=5) (Q.mono λc _ e=>f c e) a5 λj G m n=>by
  rcases j with _|_|_|_|_|_|j<;>first|exact n|exact Zz rfl m
 have S:=(R.at' 0).2;refine⟨p,0,rfl,_,_,_,ae S rfl,oM,by show _<=((P.qc:Nat):Int);omega,p,0,rfl,PS.mk S sM λT U e6 V=>?_⟩;have r:dY T F i p {P with en:=k*P.every,qn:=k+1} d (cN d l) (fR d l).rows (l.take (k*P.every)) ((jP d P.every l).take (k+1)):=dY.store R U V;have A:aj F w T:=(((ai.keep L).then (M.mono λc _ g=>by have g:c=p:=g;rw[g];exact h.self.1)).then (Q.mono λc _ e=>(f c e).1)).then (U.mono λc _ g=>by have g:c=p:=g;rw[g];exact h.self.1);have d3:((jP d P.every l).take (k+1))[k]? =some (fR d (l.take (k*P.every))).rows:=by
  rw[Xw,Zx oM];exact Nd s
 obtain⟨pb,po,es,d4,e7,e8,W,e9,ra,rn,rc,rfl,d5⟩:=(aV.row (bytes:=32) (r.at' 5) dC (by rw[Qy];unfold aS;omega)).el k _ d3;have c0:=W 0 dC;have c1:=W 1 dC;refine⟨p,0,rfl,_,_,_,ae V rfl,pb,po,d4,oM,by show(k:Int)<((k+1:Nat):Int);omega,_,_,_,_,c0,c1,PC.ok (BS r q (hT.af (g0.new A λc e=>.inr (c6 c e))) (by rw[Qy];omega) d5 (λc e=>r.aE c e.1) (by rw[oI];exact(yv (lM q).1).2.2.1)) ?_⟩;rintro _ X ⟨B,Y,Z,c2,Fv,G,rfl,hv,b4,b5,t,b6⟩;have f2:=A.size;obtain⟨F1,e1,d6,f3,b7,-⟩:=r.Ff dJ (k:=3) (w':=X) (G':=Fv) (C2:=yu p ({P with en:=k*P.every,qn:=k+1}:u_).cells {P with en:=k*P.every,qn:=k+1,vp:=B} d (cN d (l.take (k*P.every))) (fR d l).rows (l.take (k*P.every)) ((jP d P.every l).take (k+1)))
  (ai.keep b6) (λc e C=>by have:=b5 c e;have:=r.aE c C;omega) hv.aE hv λj G m n=>by
   rcases j with _|_|_|_|_|_|j<;>first|exact n|exact Zz rfl m
 obtain⟨F2,b8,b9,f5,d7,-⟩:=d6.Ff dJ (k:=4) (w':=X) (G':=G) (C2:=yu p ({P with en:=k*P.every,qn:=k+1}:u_).cells {P with en:=k*P.every,qn:=k+1,vp:=B,ra:=Y,rn:=Z,rc:=c2} d (cN d (l.take (k*P.every))) (fR d (l.take (k*P.every))).rows (l.take (k*P.every)) ((jP d P.every l).take (k+1)))
  (aj.refl _) (λc e C=>by
   rcases b7 c C with o|o
   ·have:=(t c e).1;have:=r.aE c o.1;omega
   ·exact Zz o (t c e).2.2) (λc e=>(t c e).2.1) b4 λj G m n=>by
   rcases j with _|_|_|_|_|_|j<;>first|exact n|exact Zz rfl m
 have c3:∀c,F2 c->F c\/w.heap.size<=c:=λc e=>by
  rcases d7 c e with o|o
  ·rcases b7 c o.1 with E|E
   ·exact .inl E.1
   ·exact .inr (by have:=b5 c E;omega)
  ·exact .inr (by have:=(t c o).1;omega)
 have d8:=(b9.at' 0).2;refine⟨_,_,_,_,rfl,p,0,rfl,PS.mk d8 sM λf6 c4 f7 d9=>PS.mk d9 sM λg1 c5 g2 e0=>Ok.mk ⟨rfl,F2,⟨⟨q,u,h3,by rw[Qy];omega⟩,{P with en:=k*P.every,qn:=k+1,vp:=B,ra:=Y,rn:=Z,rc:=c2},b8,rfl,?_⟩,?_,c3⟩⟩
 ·rw[<-Ll u s]
  exact dY.store b9 (c4.then c5) e0
 ·exact(A.af b6).then ((c4.then c5).mono λc _ g=>by have g:c=p:=g;rw[g];exact h.self.1)
end
def Ut(P:HR h g n):(do eqGuard .eql g V X (.agg #[QH e,QH u]) (.agg #[QH Y,QH c5]);binOp .eql g (.agg #[QH e,QH u]) (.agg #[QH Y,QH c5]):Sem Value).run h b= .ok (.bool (e==Y&&u==c5)) b:=by
 rw[Sem.run_bind,run_eqGuard_agg b .eql _ V X _ _ P.hm,Result.andThen_ok,run_eql_struct];have:=P.equalIn 9998 (e,u) (Y,c5) b;unfold nT at this;rw[this];rfl
section
variable {w w':World} {p:Nat} {F T D:XM} {d:aW} {every:Nat} {l l2:List ah}
def Fg(U:dZ w p F d every l)(V:eP b)(J:ai b w)(K:∀e,F e->b.heap.size<=e){L:XU}(M:Row iC 96 w D L a l2)(e1:a<=c)(z:∀e,D e->e<w.heap.size/\¬F e)(e2:l2.length<=20000000)(b2:∀(W:Nat) (h k:ah),l[W]? =some h->l2[W]? =some k->aX h=aX k->h=k):
  ZH 76 #[XP p,.slice L a c] w (Ok λb3 w'=>∃A:Int,b3= QH A/\∃i,dZ w' p i d every l2/\cO F w i w'):=by
 have hn:=M.len;have X:=U;obtain⟨⟨h1,h2,h3,h4⟩,e0,b6,e3,B⟩:=U;have e4:=aV.len (B.at' 2) dC;have e5:=B.aE;refine oJ ⟨λj w'=>∃P:Nat,j=P/\P<=l.length/\P<=l2.length/\l.take P=l2.take P/\ai w w',?_,?_⟩
 ·refine⟨λf j w'=>∃P:Nat,j=P/\P<=l.length/\P<=l2.length/\f=l.length-P/\l.take P=l2.take P/\ai w w',⟨_,0,rfl,Qj _,Qj _,rfl,rfl,aj.refl _⟩,?_⟩
  rintro f _ _ w9 ⟨P,rfl,Y,Z,rfl,n,t⟩;have h9:=dY.af B t;have a4:=h9.bD;refine⟨p,0,rfl,_,_,_,ae a4 rfl,al.dec (λN=>?_) (λa5 c0 C=>⟨P,rfl,Y,Z,n,t.then C.keep⟩)⟩;have a6:P<l.length/\P<l2.length:=by split at N<;>omega
  have m:l[P]? =some l[P]:=Qq a6.1;have E:l2[P]? =some l2[P]:=Qq a6.2;generalize l[P]=h at m;generalize l2[P]=k at E;obtain⟨e,o,es,O,c1,c2,H,ya,yn,yc,rfl,e6,e7⟩:=(M.af t).el P k E;obtain⟨b7,o2,e8,c3,e9,f0,a0,u,v,x,rfl,a7,a1⟩:=(aV.row (bytes:=96) (h9.at' 2) dC ba).el P h m;have y0:=H 0 dC;have y1:=H 1 dC;have x0:=a0 0 dC;have x1:=a0 1 dC;refine⟨e,o,O,oM,oM,_,_,y0,y1,p,0,rfl,_,_,_,ae a4 rfl,b7,o2,c3,oM,oM,_,_,x0,x1,(k.origin==h.origin&&k.seq==h.seq),λf=>Ut Ki,λc0 C=>al.mk (λQ=>⟨_,?_,P+1,an oM,oM,oM,rfl,?_,t.then C.keep⟩) (λ_=>⟨P,rfl,Y,Z,n,t.then C.keep⟩)⟩
  ·omega
  ·simp only[QK,beq_iff_eq]at Q
   have c4:=b2 P h k m E (by simp[aX,Q.1,Q.2]);rw[Qw,Qw,n,m,E,c4]
 rintro _ _ f1 ⟨j,rfl,c5,c6,n,q⟩;have c7:=dY.af B q;have b9:=c7.bD;have f2:=q.size;refine⟨λw'=>∃f i,f<=l2.length/\dZ w' p i d every (l2.take f)/\cO F w i w',⟨p,0,rfl,_,_,_,ae b9 rfl,al.dec (λN=>?_) (λa5=>?_)⟩,?_⟩
 ·refine PC.ok (Lk (X.af q) V (J.then q) K c5) ?_
  rintro _ f3 ⟨rfl,i,R,a9⟩;have b0:j/every*every<=j:=Nat.div_mul_le_self ..;refine⟨rfl,_,i,Xx b0 c6,?_,(ai.keep q).then a9.keep,λe g=>(a9.new e g).imp id oM⟩;have:l.take (j/every*every)=l2.take (j/every*every):=by
   have:=Zj (List.take (j/every*every)) n
   rwa [List.take_take,List.take_take,X2 b0]at this
  rw[<-this];exact R
 ·have c8:j=l.length:=oM
  refine⟨l.length,F,oM,?_,ai.keep q,λe g=>.inl g⟩;rw[c8,List.take_length]at n;rw[<-n];exact X.af q
 rintro _ f4 ⟨f,F1,hm,b1,a2⟩;have c9:=b1;obtain⟨-,q1,f5,f6,b4⟩:=b1;have a3:=aV.len (b4.at' 2) dC;rw[Qy,X2 hm]at a3;have f7:=a2.keep.size;refine⟨p,0,rfl,_,_,_,ae b4.bD rfl,oM,oM,?_⟩;rw[Qx,a3];refine⟨λA s w'=>∃(P:Nat) (i:XM),s=P/\P<=a-f/\A=a-f-P/\dZ w' p i d every (l2.take (f+P))/\cO F w i w',⟨_,0,F1,rfl,Qj _,rfl,c9,a2⟩,?_⟩;rintro A _ _ b5 ⟨P,S,rfl,hj,rfl,T,r⟩;refine al.dec (λN=>?_) (λa5=>?_)
 ·have d0:f+P<l2.length:=oM
  have m:l2[f+P]? =some l2[f+P]:=Qq d0;generalize l2[f+P]=h at m;have d1:=M.keep r.keep λe g=>(z e g).2;obtain⟨e,o,es,O,c1,c2,H,u,v,x,rfl,a7,a1⟩:=d1.el (f+P) h m;have d2:cE L f c 10=some ⟨e,o+f*10,none⟩:=by rw[O];exact fC oM
  have f8:=r.keep.size;refine⟨e,o+f*10,d2,oM,oM,bW (es:=aF h u v x) (k:=10) (bf h u v x) rfl (λs ht=>by rw[Qx];have:=H s ht;rw[show o+f*10+P*10+s=o+(f+P)*iC.k+s by show _=o+(f+P)*10+s;omega];exact this) (PA.mk λf9 d3 g1 d4=>aC (bf h u v x) d4 rfl λb8 d5 g2 d6=>ay (bf h u v x) d6 ?_)⟩;have I:ai b5 b8:=d3.new d5 λe g=>.inr (by have g:e=b5.heap.size:=g;omega);have a8:cO F w S b8:=⟨r.keep.af I,r.new⟩
  have d7:∀e,D e->¬S e:=λe g hf=>by
   rcases r.new e hf with y|y
   ·exact(z e g).2 y
   ·have:=(z e g).1;omega
  refine PC.ok (Nc (T.af I) V (J.new a8.keep λe g=>.inr (K e g)) (λe g=>?_) (by rw[Qy];omega) (a7.af I) (λe g=>⟨by have:=(z e g).1;have:=I.size;omega,d7 e g⟩) a1) ?_
  ·rcases r.new e g with y|y
   ·exact K e y
   ·have:=J.size;omega
  rintro _ g3 ⟨rfl,F3,d8,d9⟩;refine⟨rfl,_,?_,P+1,F3,an oM,oM,rfl,?_,a8.trans d9⟩
  ·omega
  ·rw[show f+(P+1)=f+P+1 by omega,Qw,m];exact d8
 ·rw[Qz oM]at T
  exact Ok.mk ⟨_,rfl,S,T,r⟩
end
section
variable {w w':World} {p:Nat} {F T D:XM} {d:aW} {every:Nat} {l l2:List ah}
def Nf{d:aW}{ta pa:XU}{tn tc pn pc:Nat}{ev:Int}(n:dt d=0)(g9:aN ev)(hT:eP w)(o:bl w D d ta tn pa pn)(hD:∀P,D P->P<w.heap.size):
  ZH 73 #[.agg #[.slice ta tn tc,.slice pa pn pc],QH ev] w (Ok λe3 w'=>∃p F,e3= XP p/\dZ w' p F d (max 1 ev).toNat []/\(∀P,F P->w.heap.size<=P)/\ai w w'):=by
 have h0:=o.bk.len;have X:=o.bk.ef;have h3:=o.A_.len;have h4:=o.A_.ef;have e6:d.projs.length<=8:=(yv (lM n).1).2.2.1;obtain⟨every,e7⟩:∃every:Nat,every=(max 1 ev).toNat:=⟨_,rfl⟩
 have e8:(if ev>1 then ev else 1)=(every:Int):=by split<;>omega
 have c0:0<every/\every<9223372036854775808:=by unfold aN at g9;omega
 rw[<-e7];refine C_ ?_;refine PA.mk λw1 k1 s1 g1=>⟨_,_,_,ae g1 rfl,PC.ok (oK (o.A_.af k1) λP B=>by have:=hD P B;omega) ?_⟩
 rintro _ a ⟨i,g,v,x,rfl,Y,k8,h5⟩;have z8:=k8.size;refine⟨_,_,_,rfl,PA.mk λc1 Z k9 d8=>?_⟩;rw[e8]at d8;have e9:ai w c1:=(k1.then k8).then Z;have ga:=Z.get (k8.get g1 id) id;have l0:=Z.size;refine⟨_,_,_,ae ga rfl,λq I w'=>∃b:Nat,I=b/\b<=tn/\q=tn-b/\aj (·=a.heap.size) c1 w'/\∃r s J l,w'.heap[a.heap.size]? =some (.cells #[.slice r s J,.slice i g v,QH (every:Int),.slice none 0 0,.pointer none,.slice none 0 0,.slice none 0 0] 222 (0,0))/\aV jX 130 l w' r s J (d.types.take b)/\∀P,l P->c1.heap.size<=P,
  ⟨_,0,rfl,Qj _,rfl,aj.refl _,none,0,0,λ_=>False,d8,aV.nil _,λ_ o=>o.elim⟩,?_⟩
 rintro q _ _ y ⟨b,rfl,hj,rfl,kk,r,s,J,l,K,t,L⟩;have a7:ai w y:=e9.new kk λP B=>.inr oM;have zk:=kk.size;refine al.dec (λl4=>?_) (λl5=>?_)
 ·have e0:b<d.types.length:=oM
  obtain⟨P,a4,es,ha,B,h6,f0,fa,fn,fc,rfl,a8⟩:=(o.bk.af a7).el b d.types[b] (by simp[e0]);have e1:d.types[b]? =some d.types[b]:=Qq e0;generalize d.types[b]=a0 at a8 e1;have c2:=f0 0 dC;have h7:jX.k=1:=rfl;rw[h7,Nat.mul_one]at c2;refine⟨P,a4,ha,oM,oM,fa,fn,fc,by rw[Qx];exact c2,PA.mk λl6 h8 l7 h9=>PS.mk h9 sM λe2 i0 l8 i1=>⟨_,_,_,ae i1 rfl,?_⟩⟩;have a1:ai y e2:=h8.new i0 λP B=>.inr oM;have f1:=a7.then a1;obtain⟨C,l1,l2,l3⟩:=fO.boxes (N:=HW) a8;have c4:=a8.ef;refine PC.ok (oL (l2.af a1) λP B=>by have:=hD P B;have:=f1.size;omega) ?_;rintro _ e4 ⟨a9,M,f2,F9,rfl,b0,e5,i2⟩;have l9:=a1.size;have m0:=e5.size;have a2:∀P,aI a9=some P->e2.heap.size<=P:=λP B=>i2 P (b0.self P B);have f4:∀P,aI a9=some P->P<e4.heap.size:=λP B=>b0.aE P (b0.self P B);refine⟨_,_,_,rfl,λq I w'=>∃b:Nat,I=b/\b<=M/\q=M-b/\fl HW 123 e4 a9 M f2 C b w',⟨_,0,rfl,Qj _,rfl,fl.start b0.alone⟩,?_⟩;rintro q _ _ i3 ⟨e,rfl,h,rfl,z⟩;have m1:=z.len;have m2:C.length=a0.length:=by rw[<-l1];simp
  have i4:=a8.len;have N:ai y i3:=(a1.then e5).new z.keep λP B=>.inr (by have:=a2 P B;omega);have m3:=z.keep.size;refine al.dec (λf6=>?_) (λf8=>?_)
  ·obtain⟨a3,rfl⟩:=z.some oM
   have f9:=f4 a3 rfl;have a5:C[e]? =some C[e]:=Qq oM;have O:=l3 C[e] (XY oM);generalize C[e]=bx at a5 O;refine⟨a3,0,rfl,oM,oM,_,_,_,z.cell rfl a5 (by show M*4<=aS;unfold aS at c4⊢;omega) 3 _ rfl,PC.ok (rK (O.1.af N) λP B=>by have:=hD P B;have:=(a7.then N).size;omega) ?_⟩;rintro _ m4 ⟨m5,m6,m7,G,rfl,c3,i5,j⟩;refine⟨_,_,_,rfl,a3,0,rfl,oM,oM,?_⟩;refine(z.af i5).step (g:=a3) rfl a5 (c3.row (bytes:=32) dC ?_) O.2 (λu E=>⟨by have:=j u E;omega,c3.aE u E⟩) f9 λm8 g3 m9 n0=>⟨_,?_,e+1,an (by unfold aS at c4;omega),oM,rfl,g3⟩
   ·have f:=O.1.ef
    have m:=O.1.len;show bx.x.bt.length*32<=aS;have n1:bx.n=bx.x.bt.length:=m;have n2:bx.n*32<=aS:=f;omega
   ·omega
  ·obtain rfl:e=M:=oM
   obtain⟨Fd,n,c6⟩:=z.done;rw[l1,Fh]at n;have c5:=N.get K id;refine⟨a.heap.size,0,rfl,_,_,_,ae c5 rfl,Fj (c:=jX) (x:=a0) (t.af N) Kj (D:=Fd) ⟨_,_,_,rfl,n.row dC (by rw[<-i4];exact c4)⟩ (λP B=>⟨n.aE P B,λc=>?_⟩) ?_ ?_ λa' Q n3 F' g6 c7 f3 n4=>⟨_,_,_,rfl,a.heap.size,0,rfl,?_⟩⟩
   ·have f:=t.aE P (t.self P c)
    rcases c6 P B with m|m
    ·have:=a2 P m;omega
    ·omega
   ·have:=List.length_take_le b d.types;unfold aS at X⊢;omega
   ·have:=List.length_take_le b d.types;unfold aS at X;unfold maxLen;omega
   ·have i6:¬aI r=some a.heap.size:=λc=>by have:=L _ (t.self _ c);omega
    have i7:=c7.get c5 i6;have n5:=c7.size;refine PS.mk i7 sM λn6 f5 n7 i8=>⟨_,?_,b+1,an (by unfold aS at X;omega),oM,rfl,?_,a',s+1,Q,F',i8,?_,?_⟩
    ·omega
    ·exact((kk.af N).new c7 λP B=>.inr (L _ (t.self P B))).then f5
    ·rw[Qw,e1]
     refine g6.keep f5 λP B c=>?_;rcases f3 P B with f|f|f
     ·have:=L P f;omega
     ·rcases c6 P f with m|m
      ·have:=a2 P m;omega
      ·omega
     ·omega
    ·intro P B
     rcases f3 P B with f|f|f
     ·exact L P f
     ·rcases c6 P f with m|m
      ·have:=a2 P m;omega
      ·omega
     ·omega
 ·obtain rfl:b=tn:=oM
  rw[Qz oM]at t;have h1:=(Y.af Z).keep kk λP B c=>by have:=Y.aE P B;omega
  have n8:a.heap.size<y.heap.size:=aB K;have f7:bl y (λP=>l P\/x P) d r s i g:=⟨(t.row (bytes:=24) dC (by rw[<-h0];exact X)).mono λP B=>.inl B,(h1.row (bytes:=40) dC (by rw[<-h3];exact h4)).mono λP B=>.inr B⟩
  have A:∀P,l P\/x P->w.heap.size<=P/\P<y.heap.size/\P≠a.heap.size:=λP B=>by
   rcases B with B|B
   ·have:=L P B;have:=t.aE P B;omega
   ·have:=h5 P B;have:=Y.aE P B;omega
  refine⟨a.heap.size,0,rfl,_,_,_,_,_,_,ae K rfl,ae K rfl,PC.ok (Fk n f7 λP B=>(A P B).2.1) ?_⟩;rintro _ i9 ⟨vp,R,rfl,hv,b1,b2⟩;have o0:=b2.size;have g0:=hv.aE;refine⟨_,rfl,a.heap.size,0,rfl,PS.mk (b2.get K id) sM λS c8 o1 g2=>⟨a.heap.size,0,rfl,_,_,_,ae g2 rfl,?_⟩⟩;have n9:=Y.len dC;have c9:bl S (λP=>l P\/x P) d r s i g:=(f7.af b2).keep c8 λP B c=>(A P B).2.2 c;have h2:cI S vp R (bd.new d):=hv.keep c8 λP B c=>by have c:P=a.heap.size:=c;have:=b1 P B;omega
  refine⟨λq I w'=>∃(b:Nat) (ra:XU) (T rc:Nat) (G:XM),I=b/\b<=g/\q=g-b/\aj (·=a.heap.size) S w'/\w'.heap[a.heap.size]? =some (.cells #[.slice r s J,.slice i g v,QH (every:Int),.slice none 0 0,XP vp,.slice ra T rc,.slice none 0 0] 222 (0,0))/\
   cK w' G ra T rc ((d.projs.take b).map λp=>(⟨p,[]⟩:eg))/\∀P,G P->S.heap.size<=P/\P<w'.heap.size,⟨_,0,none,0,0,λ_=>False,rfl,Qj _,rfl,aj.refl _,g2,cK.nil _,λP B=>B.elim⟩,?_⟩
  rintro q _ _ b3 ⟨e,ra,T,rc,G,rfl,h,rfl,H,d0,b4,j⟩;have o2:=H.size;refine al.dec (λf6=>?_) (λf8=>?_)
  ·have j0:e<d.projs.length:=oM
   have E:d.projs[e]? =some d.projs[e]:=Qq j0;generalize d.projs[e]=u at E;obtain⟨P,a4,es,a6,d5,h6,b5,rfl,d6⟩:=(c9.keep H λP B c=>(A P B).2.2 c).A_.el e u E;refine⟨P,a4,a6,oM,oM,bW (es:=mK u) (k:=5) (oH u) rfl (λa0 ht=>by rw[Qx];exact b5 a0 ht) (PA.mk λo3 j1 o4 j2=>aC (oH u) j2 rfl λo5 j3 o6 j4=>λj5 g4=>⟨λ_=>False,a.heap.size,0,rfl,id,?_⟩)⟩;have d1:ai b3 j5:=(j1.new j3 λP B=>.inr (by have B:P=b3.heap.size:=B;omega)).then g4.keep;refine⟨_,_,_,ae (d1.get d0 id) rfl,ay (oH u) ((g4.keep (S:=λ_=>False)).get j4 id) (PC.ok Ng ?_)⟩;rintro _ o7 ⟨p',r',rfl,d2,o8,o9,p0,p1,d3⟩;have j6:p'≠r':=λc=>by
    obtain⟨es,cl,hm,-⟩:=d2.map.at';have:=d2.at';rw[c,hm]at this;cases this
   have p2:=d3.size;have p3:=d1.size;refine⟨_,rfl,d3,PA.mk λp4 d4 p5 j7=>⟨d4,?_⟩⟩;have b6:=(d1.then d3).then d4;have j8:=b4.len;rw[Q8,Qy,X2 oM]at j8;refine(b4.af b6).push (λP B=>by have:=(j P B).2;omega) (d2.af d4) (λB=>by have:=(j _ B).2;omega) (λB=>by have:=(j _ B).2;omega) j6 MZ j7 (by rw[Q8,Qy];omega) λj9 k0 p6 G3 k2 g5 k3 k4=>⟨_,_,_,rfl,a.heap.size,0,rfl,?_⟩
   have k5:=g5.get (b6.get d0 id) λB=>by have:=(j _ B).1;omega
   have d7:∀P,G3 P->S.heap.size<=P:=λP B=>by
    rcases k3 P B with f|f|f|f
    ·exact(j P f).1
    ·omega
    ·omega
    ·omega
   refine PS.mk k5 sM λp7 g7 p8 k6=>⟨_,?_,e+1,j9,T+1,k0,G3,an oM,oM,rfl,((H.af b6).new g5 λP B=>.inr (j P B).1).then g7,k6,?_,λP B=>⟨d7 P B,by have:=k4 P B;omega⟩⟩
   ·omega
   ·rw[Qw,E,Q3]
    exact k2.keep g7 λP B c=>by have c:P=a.heap.size:=c;have:=d7 P B;omega
  ·rw[Qz oM]at b4
   have k7:∃U,dY b3 (λP=>∃k,(match k with|0=>P=a.heap.size|1=>l P\/x P|3=>R P|4=>G P|_=>False:Prop)) U a.heap.size ⟨r,s,J,i,g,v,every,none,0,0,vp,ra,T,rc,none,0,0⟩ d (cN d []) (fR d []).rows [] []:=by
    refine bH.join (G:=λk P=>match k with|0=>P=a.heap.size|1=>l P\/x P|3=>R P|4=>G P|_=>False) (λk=>?_) (λe b P h hj=>?_) λk P B=>?_
    ·match k with
     |0=>exact⟨rfl,d0⟩
     |1=>exact c9.keep H λP B c=>(A P B).2.2 c
     |2=>exact aV.nil _
     |3=>exact h2.keep H λP B c=>by have c:P=a.heap.size:=c;have:=b1 P B;omega
     |4=>exact b4
     |5=>exact aV.nil _
     |k+6=>trivial
    ·have V:∀e:Nat,(match e with|0=>P=a.heap.size|1=>l P\/x P|3=>R P|4=>G P|_=>False:Prop)->e=(if P=a.heap.size then 0 else if P<y.heap.size then 1 else if P<i9.heap.size then 3 else 4):=λe h=>by
      rcases e with _|_|_|_|_|e
      ·have h:P=a.heap.size:=h
       rw[Zx h]
      ·have:=A P h;rw[Zq oM,Zx oM]
      ·exact h.elim
      ·have:=b1 P h;have:=g0 P h;rw[Zq oM,Zq oM,Zx oM]
      ·have:=j P h;rw[Zq oM,Zq oM,Zq oM]
      ·exact h.elim
     rw[V e h,<-V b hj]
    ·rcases k with _|_|_|_|_|k
     ·have B:P=a.heap.size:=B
      omega
     ·have:=A P B;omega
     ·exact B.elim
     ·have:=g0 P B;omega
     ·have:=j P B;omega
     ·exact B.elim
   obtain⟨U,hq⟩:=k7;have b7:ai w b3:=(((a7.then b2).new c8 λP B=>.inr (by have B:P=a.heap.size:=B;omega)).new H λP B=>.inr (by have B:P=a.heap.size:=B;omega))
   have g8:∀P,(∃k,(match k with|0=>P=a.heap.size|1=>l P\/x P|3=>R P|4=>G P|_=>False:Prop))->w.heap.size<=P:=λP ⟨k,B⟩=>by
    rcases k with _|_|_|_|_|k
    ·have B:P=a.heap.size:=B
     omega
    ·exact(A P B).1
    ·exact B.elim
    ·have:=b1 P B;omega
    ·have:=j P B;omega
    ·exact B.elim
   refine PC.ok (BT hq n (hT.af b7) sM (by rw[oI];exact e6) sM sM) ?_;rintro _ p9 ⟨rfl,q',F',W,b8,b9,d9⟩;refine⟨rfl,Ok.mk ⟨a.heap.size,F',rfl,⟨⟨n,c0.1,c0.2,sM⟩,q',W,b9,?_⟩,λP B=>?_,b7.new d9.keep λP B=>.inr (g8 P B)⟩⟩
   ·rw[Nh];simpa using b8
   ·rcases d9.new P B with f|f
    ·exact g8 P f
    ·have:=b7.size;omega
end
section
variable {w w':World} {p:Nat} {F T D:XM} {d:aW} {every:Nat} {l:List ah}
def HX(q:dZ w p F d every l):
  ZH 391 #[XP p,QH e,QH u] w (Ok λr w'=>∃b c f G,r= .tuple #[.agg #[QH (((cN d l).state e u).getD ER).version,.slice b c f],.bool ((cN d l).state e u).isSome]/\aV gG 84 G w' b c f (((cN d l).state e u).getD ER).cells/\(∀P,G P->w.heap.size<=P)/\ai w w'):=by
 obtain⟨y,z,s,rfl,i⟩:=q;refine qB (PA.mk λA g B t=>⟨p,0,rfl,_,ae (dY.af i g).bD rfl,PC.ok (mJ ((dY.af i g).at' 3)) ?_⟩);rintro _ C ⟨b,c,f,G,rfl,v,j,h⟩;have E:=h.size;refine⟨_,_,_,_,_,rfl,PS.mk (h.get t id) sM λH k I x=>PS.mk x sM λJ m K n=>⟨_,_,_,_,ae n rfl,ae n rfl,Ok.mk ⟨b,c,f,G,rfl,?_,λP a=>?_,?_⟩⟩⟩
 ·exact v.keep (k.then m) λP a o=>by have o:P=w.heap.size:=o;have:=j P a;omega
 ·have:=j P a;omega
 ·exact(g.then h).new (k.then m) λP a=>.inr (by have a:P=w.heap.size:=a;omega)
end
def BX{P:ah}:∀{l:List ah},(∀x∈l,aX x≠aX P)->dA P l=l.take (posOf (λx=>eF x P) l)++P::l.drop (posOf (λx=>eF x P) l)
 |[],_=>rfl
 |x::l,b=>by
  have c:=b x (QV ..);unfold dA posOf;rw[List.takeWhile_cons]
  by_cases a:eF x P=true
  ·rw[Zx a,Zq (by rw[lS a];simp)]
   have:=BX (l:=l) λd e=>b d (QJ _ e);rw[this];simp[posOf]
  ·rw[Zq a,Zx ((Dh c).resolve_left a)]
   rfl
structure oP (most:Nat) (l:List ah):Prop where
 Nl:RY l
 ids:(l.map aX).Nodup
 ok:∀e∈l,e.Ok
 le:l.length<=most
def oP.nil(P:Nat):oP P []:=⟨List.Pairwise.nil,sM,sM,Qj _⟩
def oP.add(c:oP a B)(g:l.Ok):oP a (eG a B l).2:=by
 unfold eG;split
 ·exact c
 rename_i e;rw[not_or]at e;have f:∀P∈B,aX P≠aX l:=by
  have:=e.2;simp only[List.any_eq_true,beq_iff_eq,not_exists,not_and]at this;exact this
 have d:=cP l B;refine⟨vf c.Nl f,?_,λP b=>?_,by rw[d.length_eq,Xq];omega⟩
 ·refine(d.map aX).nodup_iff.2 ?_
  rw[QY,List.nodup_cons];exact⟨λh=>by obtain⟨P,b,i⟩:=Xk.1 h;exact f P b i,c.ids⟩
 ·rcases Q2.1 (d.mem_iff.1 b)with rfl|b
  ·exact g
  ·exact c.ok P b
def oP.sub(P:oP a B)(b:f3.Sublist B):oP a f3:=
 ⟨P.Nl.sublist b,P.ids.sublist (b.map aX),λc d=>P.ok c (b.subset d),Xx b.length_le P.le⟩
def qX{a:ar}:∀{P:List ah},(∀e∈P,(a.add e).1≠0)->dB a P=none
 |[],_=>rfl
 |e::P,b=>by
  unfold dB;rw[Zq (b e (QV ..)),qX λc d=>b c (QJ _ d)];rfl
def qY{b:ar}:∀{P:List ah} {i:Nat} {e:ah},(∀x∈P.take i,(b.add x).1≠0)->P[i]? =some e->(b.add e).1=0->dB b P=some (e,(b.add e).2,P.eraseIdx i)
 |[],i,e,_,a,_=>by simp at a
 |x::P,0,e,c,a,d=>by
  simp at a;subst a;unfold dB;rw[Zx d];rfl
 |x::P,i+1,e,c,a,d=>by
  unfold dB;rw[Zq (c x sM),qY (i:=i) (e:=e) (λf g=>c f (by simp[g])) (by simpa using a) d]
  rfl
def bV(P:cY)(a:XU)(b c:Nat)(d:XU)(e f:Nat):List Value:=[QH P.kind,QH P.bX,QH P.oF,.slice a b c,.slice d e f]
abbrev jD(P:cY)(a:XU)(b c:Nat)(d:XU)(e f:Nat):Value:=.agg (bV P a b c d e f).toArray
def jo(P:cY)(a:XU)(b c:Nat)(d:XU)(e f:Nat):jf XG 60 (bV P a b c d e f)=true:=kR
def TG(P:cY)(a:XU)(b c:Nat)(d:XU)(e f:Nat):Py (fW XG 60) (jD P a b c d e f)=true:=kR
section
variable {w w':World} {D E F:XM} {m:cY} {va ea:XU} {vn vc en ec N:Nat} {chunk:Int} {p:Nat} {S:ar}
def JC(c:Row aM 8 w D va vn m.vec)(j:Row iC 96 w E ea en m.events):ZH 97 #[jD m va vn vc ea en ec,QH (N:Int)] w (Ok λk w'=>k= QH (gN m N)/\ai w w'):=by
 have u:=c.len;have v:=j.len;have l:=c.ef;refine DN (PA.mk λx d y e=>⟨_,_,_,ae e rfl,al.dec (λn=>Ok.mk ⟨?_,d⟩) (λn=>⟨_,_,_,ae e rfl,al.dQ (λo=>Ok.mk ⟨?_,d⟩) (λo=>⟨_,_,_,ae e rfl,λg p w'=>∃P:Nat,p=P/\P<=vn/\g=vn-P/\((m.vec.take P).any λa=>decide (a<0))=false/\ai w w',⟨_,0,rfl,Qj _,rfl,sM,d⟩,?_⟩)⟩)⟩)
 ·unfold gN;rw[Zx oM]
 ·unfold gN;rw[Zq oM,Zx oM]
 rintro g _ _ z ⟨P,rfl,A,rfl,f,b⟩;refine al.dec (λB=>?_) (λC=>Ok.mk ⟨?_,b⟩)
 ·obtain⟨q,r,a,s,h,-,t⟩:=(c.af b).lq (i:=P) oM
  refine⟨q,r,s,oM,oM,a,t,al.dec (λi=>Ok.mk ⟨?_,b⟩) (λi=>⟨_,oM,P+1,an (by unfold aS at l;omega),oM,rfl,?_,b⟩)⟩
  ·unfold gN;rw[Zq oM,Zq oM,Zx (List.any_eq_true.2 ⟨a,QZ h,by simpa using i⟩)]
  ·rw[Qw,h,List.any_append,f];simp;omega
 ·rw[Qz oM]at f
  unfold gN;rw[Zq oM,Zq oM,Zq (by rw[f];simp)]
def wS{d:Type}{P:d->Int}:∀{a:List d} {e:Nat} {b:d},(∀y∈a.take e,P y=0)->a[e]? =some b->P b≠0->cG P a=P b
 |y::a,0,b,_,c,f=>by
  simp at c;subst c;unfold cG;rw[Zx (by simpa using f)]
 |y::a,e+1,b,g,c,f=>by
  have h:P y=0:=g y sM;unfold cG
  rw[h];simp only[bne_self_eq_false,Bool.false_eq_true,if_false];exact wS (λi j=>g i (QJ _ j)) (by simpa using c) f
def Aw{a:Type}{b:a->Int}:∀{P:List a},(∀y∈P,b y=0)->cG b P=0
 |[],_=>rfl
 |y::P,c=>by
  unfold cG
  rw[c y (QV ..)];simpa using Aw λd e=>c d (QJ _ e)
def JD(t:Row aM 8 w D va vn m.vec)(i:Row iC 96 w E ea en m.events)(u:N<4611686018427387904):ZH 96 #[jD m va vn vc ea en ec,QH (N:Int),QH chunk] w (Ok λv w'=>v= QH (eL m N chunk)/\ai w w'):=by
 have W:=t.len;have X:=i.len;have x:=i.ef;refine DM (PA.mk λY b Z c=>⟨_,_,_,ae c rfl,al.dec (λy=>Ok.mk ⟨?_,b⟩) (λy=>⟨_,_,_,ae c rfl,al.dec (λz=>Ok.mk ⟨?_,b⟩) (λz=>⟨_,_,_,ae c rfl,al.dec (λA=>Ok.mk ⟨?_,b⟩) (λA=>⟨_,_,_,ae c rfl,λn j w'=>∃P:Nat,j=P/\P<=en/\n=en-P/\(∀a∈m.events.take P,c_ a N=0)/\ai w w',⟨_,0,rfl,Qj _,rfl,sM,b⟩,?_⟩)⟩)⟩)⟩)
 ·unfold eL;rw[Zx oM]
 ·unfold eL;rw[Zq oM,Zx (.inl oM)]
 ·unfold eL;rw[Zq oM,Zx (.inr oM)]
 rintro n _ _ B ⟨P,rfl,hj,rfl,d,e⟩;have o:eL m N chunk=cG (λC=>c_ C N) m.events:=by unfold eL;rw[Zq oM,Zq oM]
 refine al.dec (λa4=>?_) (λa5=>Ok.mk ⟨?_,e⟩)
 ·obtain⟨p,F,es,I,J,a6,q,f,g,h,rfl,r,K⟩:=(i.af e).el P m.events[P] (Qq oM)
  have k:m.events[P]? =some m.events[P]:=Qq oM;generalize m.events[P]=a at q r K k;refine⟨p,F,I,oM,oM,bW (es:=aF a f g h) (k:=10) (bf a f g h) rfl (λj L=>q j L) (PA.mk λw3 M s3 O=>aC (bf a f g h) O rfl λQ R s4 S=>ay (bf a f g h) S ?_)⟩;have l:ai B Q:=M.new R λp J=>.inr oM;refine PC.ok (wF (r.af l) u) ?_;rintro _ w5 ⟨rfl,s⟩;refine⟨_,rfl,al.dQ (λT=>Ok.mk ⟨by rw[o,wS d k T],(e.then l).then s⟩) (λU=>⟨_,oM,P+1,an (by unfold aS at x;omega),oM,rfl,λV H=>?_,(e.then l).then s⟩)⟩;rw[Qw,k]at H;rcases Q6.1 H with H|H
  ·exact d V H
  ·simp at H;subst H;exact U
 ·rw[Qz oM]at d
  rw[o,Aw d]
def wT(i:cF w p F S):ZH 112 #[XP p,QH e,QH u] w (Ok λj w'=>∃va vn vc G,j=jD (jU S e u) va vn vc none 0 0/\aV aM 3 G w' va vn vc S.vec/\(∀u,G u->w.heap.size<=u)/\ai w w'):=by
 refine Bo (PA.mk λn f o k=>PC.ok (kQ (i.af f)) ?_);rintro _ q ⟨a,b,c,G,rfl,l,d,g⟩;have r:=d.size;refine⟨_,_,_,rfl,aC (jo (jU S e u) a b c none 0 0) (d.get k id) rfl λs h t m=>ay (jo (jU S e u) a b c none 0 0) m (Ok.mk ⟨a,b,c,G,rfl,l.keep h λu P v=>?_,λu P=>?_,(f.then d).new h λu P=>.inr oM⟩)⟩
 ·have:=g u P;omega
 ·have:=g u P;omega
def Hc(i:cF w p F S):ZH 99 #[XP p,QH e,QH u] w (Ok λj w'=>∃va vn vc G,j=jD (xZ S e u) va vn vc none 0 0/\aV aM 3 G w' va vn vc S.vec/\(∀u,G u->w.heap.size<=u)/\ai w w'):=by
 refine Iy (PA.mk λn f o k=>PC.ok (kQ (i.af f)) ?_);rintro _ q ⟨a,b,c,G,rfl,l,d,g⟩;have r:=d.size;refine⟨_,_,_,rfl,aC (jo (xZ S e u) a b c none 0 0) (d.get k id) rfl λs h t m=>ay (jo (xZ S e u) a b c none 0 0) m (Ok.mk ⟨a,b,c,G,rfl,l.keep h λu P v=>?_,λu P=>?_,(f.then d).new h λu P=>.inr oM⟩)⟩
 ·have:=g u P;omega
 ·have:=g u P;omega
def CH{cs:Array Value}(b:w.heap[a]? =some (.cells cs g H))(c:cs[0]? =some (QH (N:Int))):ZH 95 #[QH e,XP a] w (Ok λd w'=>d= .bool (decide (0<=e)&&decide (e<N))/\w=w'):=by
 refine Bs (al.dec (λP=>⟨_,ae b c,Ok.mk ⟨?_,rfl⟩⟩) (λP=>Ok.mk ⟨?_,rfl⟩))
 ·rw[Zy (show 0<=e from P)];rfl
 ·rw[Xv (show¬0<=e from P)];rfl
def Mt(o:Row aM 8 w D va vn m.vec)(p:Row iC 96 w E ea en m.events)(v:N<4611686018427387904):ZH 45 #[jD m va vn vc ea en ec,QH (N:Int),QH chunk] w (Ok λg w'=>g= QH (eK m N chunk)/\ai w w'):=by
 refine FP (PA.mk λx y J z=>PA.mk λi q K j=>?_);have c:=q.get z id;have P:=y.then q;refine⟨λA w'=>A=(!(decide (0<=m.bX)&&decide (m.bX<N))|| !(decide (0<=m.oF)&&decide (m.oF<N))||m.bX==m.oF)/\i=w',?_,?_⟩
 ·refine⟨_,ae c rfl,_,_,_,rfl,kR,PC.ok (CH (N:=N) j rfl) ?_⟩
  rintro _ _ ⟨rfl,rfl⟩;refine⟨_,rfl,al.not (al.mk (λa=>⟨_,ae c rfl,_,_,_,rfl,kR,PC.ok (CH (N:=N) j rfl) ?_⟩) (λa=>⟨by rw[a];rfl,rfl⟩))⟩;rintro _ _ ⟨rfl,rfl⟩;refine⟨_,rfl,al.not (al.mk (λb=>⟨_,ae c rfl,_,ae c rfl,by rw[a,b];rfl,rfl⟩) (λb=>⟨by rw[a,b];rfl,rfl⟩))⟩
 rintro k _ _ ⟨B,rfl⟩;have f:eK m N chunk=if m.kind=3 then(if k then 1 else eL m N chunk)else if m.kind=1\/m.kind=2\/m.kind=4 then(if k then 1 else gN m N)else 2:=by rw[B];rfl
 have d:∀{r:List PanicEntry->XT},(if k then 1 else gN m N)=eK m N chunk->al k (Ok (λg w'=>g= QH (eK m N chunk)/\ai w w') (.returned (QH 1)) i) (ri XG 60 (XP w.heap.size) i λC=>(∃(s:Int),i.cell? ⟨x.heap.size,0,none⟩=some (QH s)/\PC XG 97 #[C,QH s] i (λF H=>∃(t:Int),F= QH t/\Ok (λg w'=>g= QH (eK m N chunk)/\ai w w') (.returned (QH t)) H) r)):=λ{r} u=>by
  refine al.mk (λh=>Ok.mk ⟨by rw[<-u,h];rfl,P⟩) (λh=>ay (jo m va vn vc ea en ec) c ⟨_,ae j rfl,PC.ok (JC (o.af P) (p.af P)) ?_⟩);rintro _ I ⟨rfl,l⟩;exact⟨_,rfl,Ok.mk ⟨by rw[<-u,h];rfl,P.then l⟩⟩
 refine⟨_,ae c rfl,al.dU (λe=>al.not (al.mk (λh=>?_) (λh=>ay (jo m va vn vc ea en ec) c ⟨_,ae j rfl,PC.ok (JD (o.af P) (p.af P) v) ?_⟩))) (λe=>al.dU (λa=>al.tt (by simpa using a) (d ?_)) (λa=>al.dU (λb=>al.tt (by simpa using b) (d ?_)) (λb=>al.dU (λn=>d ?_) (λn=>Ok.mk ⟨?_,P⟩))))⟩
 ·exact al.tt h (Ok.mk ⟨by rw[f,Zx e,h];rfl,P⟩)
 ·rintro _ I ⟨rfl,l⟩
  exact⟨_,rfl,Ok.mk ⟨by rw[f,Zx e,h];rfl,P.then l⟩⟩
 ·rw[f,Zq e,Zx (show m.kind=1\/m.kind=2\/m.kind=4 from .inl a)]
 ·rw[f,Zq e,Zx (show m.kind=1\/m.kind=2\/m.kind=4 from .inr (.inl b))]
 ·rw[f,Zq e,Zx (show m.kind=1\/m.kind=2\/m.kind=4 from .inr (.inr n))]
 ·rw[f,Zq e,Zq (by rintro(h|h|h);exact a h;exact b h;exact n h)]
end
structure Nj (w:World) (p:Nat) (M D:XM) (most:Nat) (l:List ah) (a:XU) (n c:Nat) (L:List (Bx ah)):Prop where
 at':w.heap[p]? =some (.cells #[QH (most:Int),.slice a n c] 146 (0,0))
 oD:aV oE.kO 55 (λb=>aI a=some b) w a n c L
 map:L.map (·.x)=l
 Ln:∀b∈L,oE.In w D b
 dD:∀b,D b->b<w.heap.size/\¬M b
 mp:M p
 ma:∀b,aI a=some b->M b/\b≠p
 dM:∀b,M b->b<w.heap.size
def gH(b:World)(c:Nat)(d D:XM)(P:Nat)(a:List ah):Prop:=(P<=256/\oP P a)/\∃e f g h,Nj b c d D P a e f g h
section
variable {w w':World} {p:Nat} {M D T E:XM} {most:Nat} {l:List ah} {a:XU} {n c:Nat} {L:List (Bx ah)}
def Nj.keep(b:Nj w p M D most l a n c L)(e:aj T w w')(f:∀P,M P->¬T P)(g:∀P,D P->¬T P):Nj w' p M D most l a n c L:=
 ⟨e.get b.at' (f _ b.mp),b.oD.keep e λP d=>f P (b.ma P d).1,b.map,λP d=>(b.Ln P d).keep e g,λP d=>⟨Qk (b.dD P d).1 e.size,(b.dD P d).2⟩,b.mp,b.ma,λP d=>Qk (b.dM P d) e.size⟩
def gH.keep(b:gH w p M D most l)(d:aj T w w')(e:∀P,M P->¬T P)(f:∀P,D P->¬T P):gH w' p M D most l:=by
 obtain⟨g,a,n,c,L,b⟩:=b;exact⟨g,a,n,c,L,b.keep d e f⟩
def gH.af(P:gH w p M D most l)(a:ai w w'):gH w' p M D most l:=P.keep a (λ_ _ P=>P) λ_ _ P=>P
def vd:jx XG 50 55 oE.kO.k 96:=E_
def HY(g:0<=e/\e<=256):ZH 36 #[QH e] w (Ok λc w'=>∃p,c= XP p/\gH w' p (·=p) (λ_=>False) e.toNat []/\w.heap.size<=p/\p<w'.heap.size/\ai w w'):=by
 refine Dd (PA.mk λd f h b=>Ok.mk ⟨w.heap.size,rfl,⟨⟨oM,oP.nil _⟩,none,0,0,[],?_,(aV.nil d).mono (λa P=>P.elim) (λa P=>by cases P),rfl,sM,λa P=>P.elim,rfl,λa P=>(by cases P),λa P=>by have P:a=w.heap.size:=P;omega⟩,Q4 _,oM,f⟩);have:(if(if 256<e then 256 else e)>0 then(if 256<e then 256 else e)else 0)=((e.toNat:Nat):Int):=by split<;>split<;>omega
 rw[this]at b;exact b
def tj(d:gH w p M D most l):ZH 62 #[XP p] w (Ok λf w'=>f= .tuple #[]/\gH w' p M (λ_=>False) most []/\aj M w w'):=by
 obtain⟨g,a,n,c,L,d⟩:=d;refine nU ⟨p,0,rfl,PS.mk d.at' sM λh i j k=>Ok.mk ⟨rfl,⟨⟨g.1,oP.nil _⟩,none,0,0,[],k,(aV.nil h).mono (λb P=>P.elim) (λb P=>by cases P),rfl,sM,λb P=>P.elim,d.mp,λb P=>(by cases P),λb P=>by rw[j];exact d.dM b P⟩,i.mono λb _ e=>by have e:b=p:=e;exact e▸d.mp⟩⟩
def yD(r:enters XG y=true)(b:Nat->XT)(m:Nat->XT)(h:b 0 w)(i:∀P f,b P f->Row oE.kO 96 f E a n L)(s:∀P d f,L[P]? =some d->b P f->ZH y (o++ #[jJ d.x d.a d.n d.c]++a1) f (Ok λg w'=>(g= .bool true/\m P w')\/(g= .bool false/\b (P+1) w'))):
  ZH 235 #[.slice a n c,.func (.func y) o a1] w (Ok λg w'=>(∃P,P<n/\g= QH (P:Int)/\m P w')\/(g= QH (-1)/\b n w')):=by
 have F:=(i 0 w h).len;have t:=(i 0 w h).ef;unfold aS at t;refine ft ⟨λp j w'=>∃P:Nat,j=P/\P<=n/\p=n-P/\b P w',⟨_,0,rfl,Qj _,rfl,h⟩,?_⟩;rintro p _ _ q ⟨P,rfl,H,rfl,k⟩;refine al.dec (λI=>?_) (λJ=>?_)
 ·have u:P<L.length:=oM
  have l:L[P]? =some L[P]:=Qq u;generalize L[P]=e at l;obtain⟨d,v,K,x,M,N,z,rfl,-⟩:=(i P q k).el P e l;refine⟨d,v,x,oM,oM,bW (es:=aF e.x e.a e.n e.c) (k:=10) (bf _ _ _ _) rfl (λj A=>by rw[Qx];exact z j A) ⟨_,_,_,rfl,r,PC.ok (s P e q l k) ?_⟩⟩;rintro _ O (⟨rfl,B⟩|⟨rfl,C⟩)
  ·exact⟨_,rfl,al.tt rfl (Ok.mk (.inl ⟨P,oM,rfl,B⟩))⟩
  ·exact⟨_,rfl,al.ff rfl ⟨_,oM,P+1,an oM,oM,rfl,C⟩⟩
 ·obtain rfl:P=n:=oM
  exact Ok.mk (.inr ⟨rfl,k⟩)
def FC{a:ah}{g h:Nat}{b:Nat}{c:ah}{i j:Nat}(e:w.heap[b]? =some (.cells (aF c t i j).toArray 55 H)):
  ZH 227 #[jJ a d g h,XP b] w (Ok λk w'=>k= .bool (aX a==aX c)/\ai w w'):=by
 refine nV (PA.mk λl P m f=>⟨_,_,ae f rfl,ae f rfl,_,_,ae (P.get e id) rfl,ae (P.get e id) rfl,Ki.eql ⟨_,rfl,Ok.mk ⟨rfl,P⟩⟩⟩)
def HZ(l:Row oE.kO 96 w E a n L)(v:∀P,E P->P<w.heap.size){m:Nat}{f:ah}{q r:Nat}(s:w.heap[m]? =some (.cells (aF f d q r).toArray 55 H)):
  ZH 226 #[.slice a n c,.func (.func 227) #[] #[XP m]] w (Ok λo w'=>o= .bool (L.any λP=>aX P.x==aX f)/\ai w w'):=by
 have x:=l.len;refine eU (PC.ok (yD (E:=E) kR (λg h=>(∀P∈L.take g,(aX P.x==aX f)=false)/\ai w h) (λg h=>(L.any λP=>aX P.x==aX f)=true/\ai w h) ⟨sM,aj.refl _⟩ (λg h i=>l.af i.2) ?_) ?_)
 ·rintro g P h j ⟨k,b⟩
  refine(FC (b.get s id)).mono ?_;rintro _ y ⟨o,rfl,rfl,p⟩;refine Ok.mk ?_
  cases i:aX P.x==aX f
  ·refine .inr ⟨rfl,λt e=>?_,b.then p⟩
   rw[Qw,j]at e;rcases Q6.1 e with e|e
   ·exact k t e
   ·simp at e;subst e;exact i
  ·exact .inl ⟨rfl,List.any_eq_true.2 ⟨P,QZ j,i⟩,b.then p⟩
 ·rintro _ z (⟨g,A,rfl,u,b⟩|⟨rfl,k,b⟩)
  ·exact⟨_,rfl,Ok.mk ⟨by rw[u,Zy oM],b⟩⟩
  ·refine⟨_,rfl,Ok.mk ⟨?_,b⟩⟩
   rw[Qz oM]at k;rw[List.any_eq_false.2 λP j=>by rw[k P j];simp]
   rfl
end
section
variable {w w':World} {p:Nat} {M D T E:XM} {most:Nat} {l:List ah} {a:XU} {n c:Nat} {L:List (Bx ah)}
def oQ{e f:ah}{a i:XU}{n c j k:Nat}{w:World}:ZH 229 #[jJ e a n c,jJ f i j k] w (Ok λl w'=>l= QH (qW e f)/\ai w w'):=by
 refine ve (PA.mk λu m v o=>PA.mk λp g x q=>λr s=>⟨λ_=>False,?_⟩);have P:ai p r:=s.keep;have b:=P.get (g.get o id) id;have d:=P.get q id;refine⟨_,ae b rfl,_,ae d rfl,id,_,ae b rfl,id,_,ae d rfl,id,_,ae b rfl,id,_,ae d rfl,PC.ok gI ?_⟩;rintro _ _ ⟨rfl,rfl⟩;refine⟨_,rfl,aj.refl _,PC.ok gI ?_⟩;rintro _ _ ⟨rfl,rfl⟩;refine⟨_,rfl,aj.refl _,PC.ok gI ?_⟩;rintro _ _ ⟨rfl,rfl⟩;refine⟨_,rfl,aj.refl _,PA.mk λy h z t=>⟨h,PC.ok (Nk t) ?_⟩⟩;rintro _ _ ⟨rfl,rfl⟩;exact⟨_,rfl,aj.refl _,Ok.mk ⟨by rw[FD],((m.then g).then P).then h⟩⟩
def BW{P a:ah}:qW P a<0↔eF P a=true:=by
 unfold qW
 cases eF P a
 ·cases eF a P<;>simp
 ·simp
def Bb(x:Row oE.kO 96 w E a n L)(U:RY (L.map (·.x))){i:ah}{C F:Nat}:
  ZH 228 #[.slice a n c,jJ i d C F,.func (.func 229) #[] #[]] w (Ok λV w'=>∃P,V= .tuple #[QH ((posOf (λo=>eF o.x i) L:Nat):Int),.bool P]/\ai w w'):=by
 have hl:=x.len;have W:=x.ef;unfold aS at W;have N:∀{j k:Nat} {b l:Bx ah},L[j]? =some b->L[k]? =some l->j<=k->b=l\/eF b.x l.x=true:=λ{j k b l} m q b4=>by
  rcases Nat.lt_or_ge j k with h|h
  ·right
   have y:(L.map (·.x))[j]? =some b.x:=by rw[Q9,m];rfl
   have z:(L.map (·.x))[k]? =some l.x:=by rw[Q9,q];rfl
   obtain⟨X,Y⟩:=Qv.1 y;obtain⟨Z,e2⟩:=Qv.1 z;have:=List.pairwise_iff_getElem.1 U j k X Z h;rw[Y,e2]at this;exact this
  ·obtain rfl:j=k:=oM
   rw[m]at q;exact .inl (XJ q)
 refine dj (PA.mk λa4 O b5 Q=>⟨λR j k w'=>∃p e:Nat,j=p/\k=e/\R=e-p/\p<=e/\e<=n/\(∀P b,P<p->L[P]? =some b->eF b.x i=true)/\(∀P b,e<=P->L[P]? =some b->eF b.x i=false)/\ai a4 w',
  ⟨_,0,n,rfl,rfl,rfl,oM,oM,λP b g=>oM,λP b g m=>by have:=(Qv.1 m).1;omega,aj.refl _⟩,?_⟩)
 rintro R _ _ _ S ⟨p,e,rfl,rfl,rfl,b6,a5,y,z,s⟩;have t:enters XG 229=true:=kR
 refine al.dec (λb7 a6 a7=>?_) (λb8 a8 a9=>?_)
 ·have A:ai S a6:=a7.keep
  have u:=(O.then s).then A;rw[Tj oM];have r:L[(p+e)/2]? =some L[(p+e)/2]:=Qq oM;generalize L[(p+e)/2]=f at r;obtain⟨o,H,es,I,b0,b1,J,rfl,-⟩:=(x.af u).el _ f r;refine⟨o,H,I,oM,oM,bW (es:=aF f.x f.a f.n f.c) (k:=10) (bf _ _ _ _) rfl (λP g=>by rw[Qx];exact J P g) (ay (bf i d C F) ((s.then A).get Q id) ⟨_,_,_,rfl,t,PC.ok oQ ?_⟩)⟩;rintro _ b2 ⟨rfl,B⟩;refine⟨_,rfl,al.dec (λK=>⟨_,?_,(p+e)/2+1,e,an oM,rfl,rfl,oM,a5,λP l g q=>?_,z,(s.then A).then B⟩) (λK=>⟨_,?_,p,(p+e)/2,rfl,rfl,rfl,oM,oM,y,λP l g q=>?_,(s.then A).then B⟩)⟩
  ·omega
  ·have v:=BW.1 K
   rcases N q r oM with rfl|M
   ·exact v
   ·exact rQ M v
  ·omega
  ·have v:¬eF f.x i=true:=λh=>K (BW.2 h)
   rcases N r q g with rfl|M
   ·simpa using v
   ·cases h4:eF l.x i
    ·rfl
    ·exact Zz (rQ M h4) v
 ·obtain rfl:p=e:=oM
  have T:ai S a8:=a9.keep;have u:=(O.then s).then T;have a3:posOf (λo=>eF o.x i) L=p:=yB oM (λP b g m=>y P b g m) (λb m=>z p b (Q4 _) m);rw[a3];refine al.dec (λb3=>?_) (λb3=>Ok.mk ⟨false,rfl,u⟩);have r:L[p]? =some L[p]:=Qq oM;generalize L[p]=f at r;obtain⟨o,H,es,I,b0,b1,J,rfl,-⟩:=(x.af u).el _ f r;refine⟨o,H,I,oM,oM,bW (es:=aF f.x f.a f.n f.c) (k:=10) (bf _ _ _ _) rfl (λP g=>by rw[Qx];exact J P g) (ay (bf i d C F) ((s.then T).get Q id) ⟨_,_,_,rfl,t,PC.ok oQ ?_⟩)⟩;rintro _ b2 ⟨rfl,B⟩;exact⟨_,rfl,Ok.mk ⟨_,rfl,u.then B⟩⟩
def RZ{f h:Nat}{x:Bx ah}(j:aV oE.kO 55 (λP=>aI a=some P) w a n c L)(k:f<=n)(l:w.heap[h]? =some (.cells (aF x.x x.a x.n x.c).toArray 55 (0,0)))(m:aI a≠some h)(r:L.length<=20000000):
  ZH 230 #[.slice a n c,QH (f:Int),.slice (XL h) 1 1] w (Ok λo w'=>∃d g,o= .slice d (n+1) g/\aV oE.kO 55 (λP=>aI d=some P) w' d (n+1) g (L.take f++x::L.drop f)/\aj (λP=>aI a=some P) w w'/\∀P,aI d=some P->aI a=some P\/w.heap.size<=P):=by
 refine fS (FE.one (c:=oE.kO) (tb:=4) (x:=x) (D:=λ_=>False) vd kR ?_ j k l ⟨rfl,trivial⟩ (λP b=>b.elim) m ba (by unfold maxLen;omega) λd g w' s e p q=>Ok.mk ⟨d,g,rfl,aV.alone e,p,λP b=>?_⟩)
 ·intro i w
  rw[run_callFunc_extern Tryz.func285 kR kR kR (e:=Extern.SlicesOverlaps.overlaps #[50,50] #[4]) kR]
 ·rcases q P (e.self P b)with b|b|b
  ·exact .inl b
  ·exact b.elim
  ·exact .inr b
def R_{b:Nat}(e:aV oE.kO 55 (λP=>aI a=some P) w a n c L)(f:b<n)(i:n<=20000000):
  ZH 236 #[.slice a n c,QH (b:Int),QH (XH .i64 ((b:Int)+1))] w (Ok λg w'=>g= .slice a (n-1) c/\aV oE.kO 55 (λP=>aI a=some P) w' a (n-1) c (L.eraseIdx b)/\aj (λP=>aI a=some P) w w'):=
 fT (FG.one (c:=oE.kO) (tz:=0) vd kR e f (by unfold maxLen;omega) λw' d h=>Ok.mk ⟨rfl,d,h⟩)
def H_(f:gH w p M D most l){e:ah}{en ec:Nat}(O:Row aM 8 w E d en e.aJ)(hE:∀P,E P->P<w.heap.size)(he:e.Ok):
  ZH 159 #[XP p,jJ e d en ec] w (Ok λQ w'=>Q= .bool (eG most l e).1/\∃o q,gH w' p o q most (eG most l e).2/\aj M w w'/\(∀P,o P->M P\/w.heap.size<=P)/\∀P,q P->D P\/w.heap.size<=P):=by
 have b3:=f;obtain⟨B,a,n,c,L,f⟩:=f;have d7:L.length=l.length:=by rw[<-f.map,Q8]
 have hn:n=L.length:=f.oD.len dC;have d8:=f.dM p f.mp;have d9:=B.2.le;have j:(L.any λP=>aX P.x==aX e)=l.any (λi=>aX i==aX e):=by rw[<-f.map,List.any_map];rfl
 refine qC (PA.mk λc5 b4 e0 b5=>λR c6=>⟨λ_=>False,?_⟩);have S:ai c5 R:=c6.keep;have m:ai w R:=b4.then S;have T:=m.get f.at' id;have no:(eG most l e)=(false,l)->∀U,ai w U->Ok (λQ w'=>Q= .bool (eG most l e).1/\∃o q,gH w' p o q most (eG most l e).2/\aj M w w'/\(∀P,o P->M P\/w.heap.size<=P)/\∀P,q P->D P\/w.heap.size<=P) (.returned (.bool false)) U:=λhq U k1=>
  Ok.mk ⟨by rw[hq],M,D,by rw[hq];exact b3.af k1,ai.keep k1,λP b=>.inl b,λP b=>.inl b⟩
 refine⟨p,0,rfl,_,_,_,ae T rfl,p,0,rfl,_,ae T rfl,al.dec (λe1=>no (by unfold eG;rw[Zx (.inl oM)]) R m) (λe2=>⟨p,0,rfl,id,_,_,_,ae T rfl,aj.refl _,PC.ok (HZ (E:=λP=>aI a=some P) (((f.oD.af m).row (bytes:=96) dC ba)) (λP b=>by have:=(f.oD.aE P b);have:=m.size;omega) (S.get b5 id)) ?_⟩)⟩;rintro _ b6 ⟨rfl,C⟩;refine⟨_,rfl,C,al.mk (λr=>no (by unfold eG;rw[Zx (.inr (j▸r))]) b6 (m.then C)) (λr=>?_)⟩;have F:=m.then C;have b7:eG most l e=(true,dA e l):=by unfold eG;rw[Zq (by rw[<-j];rintro(g|g);omega;rw[r]at g;cases g)]
 have c7:∀i∈l,aX i≠aX e:=by
  rw[j]at r;simpa[List.any_eq_false]using r
 have V:=(S.then C).get b5 id;refine⟨_,_,_,ae V rfl,PC.ok (cC (O.af F) λP b=>by have:=hE P b;have:=F.size;omega) ?_⟩;rintro _ b8 ⟨H,I,J,G,rfl,W,X,Y⟩;have e3:=F.size;have e4:=X.size;refine⟨_,_,_,rfl,PS.mk (X.get V id) (by simp[aF]) λZ a9 e5 c8=>λK b9=>?_⟩;have s:ai Z K:=b9.keep;have e6:K.heap.size=Z.heap.size:=by rw[b9.heap]
 have a0:Z.heap[w.heap.size]? =some (.cells (aF e H I J).toArray 55 (0,0)):=c8;have a1:ai w K:=((F.then X).new a9 λP b=>.inr (by have b:P=w.heap.size:=b;omega)).then s;have b0:=f.keep a1 (λ_ _ f=>f) λ_ _ f=>f;have c0:RY (L.map (·.x)):=by rw[f.map];exact B.2.Nl
 refine⟨p,0,rfl,_,_,_,ae b0.at' rfl,ay (bf e H I J) (s.get a0 id) (PC.ok (Bb (b0.oD.row (bytes:=96) dC ba) c0) ?_)⟩;rintro _ e7 ⟨a4,rfl,c9⟩;refine⟨_,_,rfl,λd0 d1=>⟨λ_=>False,?_⟩⟩;have t:ai K d0:=c9.then d1.keep;have a2:=a1.then t;have c1:=b0.keep t (λ_ _ f=>f) λ_ _ f=>f;have h:=t.get (s.get a0 id) id;have d6:=Fy (λP:Bx ah=>eF P.x e) L;refine⟨p,0,rfl,id,_,_,_,ae c1.at' rfl,_,_,_,_,_,_,_,_,_,_,_,_,ae h rfl,ae h rfl,ae h rfl,ae h rfl,ae h rfl,ae h rfl,ae h rfl,ae h rfl,ae h rfl,ae h rfl,PA.mk λd2 u e8 d3=>⟨u,?_⟩⟩;have c3:=c1.keep u (λ_ _ f=>f) λ_ _ f=>f;have e9:=a2.size;refine PC.ok (RZ (x:=⟨e,H,I,J⟩) c3.oD oM d3 (λe=>by have:=f.oD.aE _ e;omega) oM) ?_;rintro _ f2 ⟨a',c',rfl,a3,v,x⟩;have b1:¬aI a=some p:=λe=>(f.ma p e).2 rfl;have f3:=v.size;refine⟨_,_,_,rfl,p,0,rfl,PS.mk (v.get c3.at' b1) sM λd4 N f5 d5=>?_⟩;have y:aj M w d4:=((ai.keep (a2.then u)).then (v.mono λP _ b=>(f.ma P b).1)).then (N.mono λP _ e=>by have e:P=p:=e;exact e▸f.mp);refine Ok.mk ⟨by rw[b7],λP=>M P\/aI a'=some P,λP=>D P\/G P,⟨⟨B.1,B.2.add he⟩,a',n+1,c',L.take (posOf (λP=>eF P.x e) L)++⟨e,H,I,J⟩::L.drop (posOf (λP=>eF P.x e) L),d5,?_,?_,?_,?_,.inl f.mp,?_,?_⟩,?_,?_,?_⟩
 ·refine a3.keep N λP b e=>?_
  have e:P=p:=e;rcases x P b with g|g
  ·exact b1 (e▸g)
  ·omega
 ·rw[b7]
  have c4:posOf (λi=>eF i e) l=posOf (λP:Bx ah=>eF P.x e) L:=by
   unfold posOf;rw[<-f.map,List.takeWhile_map,Q8];rfl
  show _=dA e l;rw[BX c7,c4,Q3,QY,List.map_take,List.map_drop,f.map]
 ·have b2:∀P,G P->b6.heap.size<=P/\P<b8.heap.size:=λP b=>⟨Y P b,W.aE P b⟩
  intro i k;rcases Q6.1 k with k|k
  ·exact((f.Ln i (List.mem_of_mem_take k)).keep y λP b=>(f.dD P b).2).mono λP b=>.inl b
  rcases Q2.1 k with rfl|k
  ·refine⟨(((((W.keep a9 λP b e=>?_).af s).af (t.then u)).keep v λP b e=>?_).keep N λP b e=>?_).row (bytes:=8) dC (by rw[<-O.len];exact O.ef)|>.mono λP b=>.inr b,he⟩
   ·have e:P=w.heap.size:=e;have:=b2 P b;have:=aB V;omega
   ·have:=f.oD.aE P e;have:=b2 P b;omega
   ·have e:P=p:=e;have:=b2 P b;omega
  ·exact((f.Ln i (List.mem_of_mem_drop k)).keep y λP b=>(f.dD P b).2).mono λP b=>.inl b
 ·intro P b
  have hz:b8.heap.size<=d2.heap.size:=by have:=a9.size;have:=s.size;have:=t.size;have:=u.size;omega
  rcases b with b|b
  ·have g:=f.dD P b
   refine⟨by have:=y.size;omega,λz=>z.elim g.2 λe=>?_⟩;rcases x P e with A|A
   ·exact g.2 (f.ma P A).1
   ·omega
  ·have g:=W.aE P b;have h3:=Y P b
   have f6:=b4.size;refine⟨by have:=v.size;have:=N.size;omega,λz=>?_⟩;rcases z with z|e
   ·have:=f.dM P z;omega
   rcases x P e with A|A
   ·have:=f.oD.aE P A;omega
   ·omega
 ·intro P b
  refine⟨.inr b,λe=>?_⟩;rcases x P b with g|g
  ·exact b1 (e▸g)
  ·omega
 ·intro P b
  rcases b with b|b
  ·have:=f.dM P b;have:=y.size;omega
  ·have:=a3.aE P b;omega
 ·exact y
 ·intro P b
  rcases b with b|b
  ·exact .inl b
  rcases x P b with g|g
  ·exact .inl (f.ma P g).1
  ·exact .inr oM
 ·intro P b
  rcases b with b|b
  ·exact .inl b
  ·exact .inr (by have:=Y P b;omega)
end
end Go.Proofs.YtblabbpipmodgaaGreatDoor
namespace Go.au
open Go
variable{I a c j p:Nat}{f:XM}{d:XU}{h:Program}{i:Type}{g n:TypeId}{b:World}
def aV.PE{k:Nat}{P:i->List Value}{o:i->Prop}{hl h1}{e:List i}{x:i}{s:XT}(l:aV (flat k P o hl h1) n f b d a c e)(z:I<e.length)(A:0<k)(B:o x)(C:d=some ⟨j,p,none⟩)(E:jf h g (P x)=true)(q:∀m,aV (flat k P o hl h1) n f m d a c (e.set I x)->aj (λj=>aI d=some j) b m->m.heap.size=b.heap.size->s m):BY h g (.pointer (some ⟨j,p+I*k,none⟩)) (.agg (P x).toArray) b s:=by
 have L:=l.len A;obtain⟨cs,D,t,F,u⟩:=l.body;have M:cs.length=a*k:=t.length;have N:(I+1)*k<=a*k:=Q0 _ oM;have H:(I+1)*k=I*k+k:=by rw[X7,Nat.one_mul]
 refine t.store (m:=I*k) C E (by rw[hl];omega) λJ K v w=>q J ⟨⟨_,D,K,?_,u⟩,l.self,λj r=>by rw[w];exact l.aE j r⟩ v w;have y:=F.keep v λj r=>(u j r).2;rw[hl,<-H,show e.set I x=e.take I++[x]++e.drop (I+1) by rw[XQ,List.singleton_append];exact List.set_eq_take_append_cons_drop .. |>.trans (Zx z)];exact bR.append (bR.append (y.take I) (bR.one ⟨rfl,B⟩)) (y.drop (I+1))
end Go.au
namespace Go.Proofs.YtblabbpipmodgaaGreatDoor
section
open Go.au
variable{a1 o:Array Value}{y:FuncId}{a2 f:XM}{d:XU}{C:ar}
section
variable {w w':World} {p:Nat} {M D T E:XM} {most:Nat} {l:List ah} {a:XU} {n c:Nat} {L:List (Bx ah)}
def Lp{pr:ah->Bool}(H:enters XG y=true)(m:aV oE.kO 55 (λP=>aI a=some P) w a n c L)(hl:L.length<=20000000)(I:∀(P:Bx ah) e,aj (λP=>aI a=some P) w e->ZH y (o++ #[jJ P.x P.a P.n P.c]++a1) e (Ok λs w'=>s= .bool (pr P.x)/\ai e w')):
  ZH 233 #[.slice a n c,.func (.func y) o a1] w (Ok λs w'=>∃p,s= .slice a p c/\aV oE.kO 55 (λP=>aI a=some P) w' a p c (L.filter λP=>!pr P.x)/\aj (λP=>aI a=some P) w w'):=by
 have hn:=m.len dC;have b6:=m.mL;have q:∀{e:World} {f:List (Bx ah)},aV oE.kO 55 (λP=>aI a=some P) e a n c f->f.length=L.length->Row oE.kO 96 e (λP=>aI a=some P) a n f:=λ{e f} Y b7=>Y.row dC ba;refine fq (PC.ok (yD (E:=λP=>aI a=some P) (L:=L) H (λd e=>(∀P∈L.take d,pr P.x=false)/\ai w e) (λd e=>(∀P∈L.take d,pr P.x=false)/\(∀P,L[d]? =some P->pr P.x=true)/\ai w e) ⟨sM,aj.refl _⟩ (λd e Z=>(q m rfl).af Z.2) ?_) ?_)
 ·rintro d P e h ⟨i,A⟩
  refine(I P e (ai.keep A)).mono ?_;rintro _ w2 ⟨s,rfl,rfl,J⟩;refine Ok.mk ?_
  cases K:pr P.x
  ·refine .inr ⟨rfl,λM g=>?_,A.then J⟩
   rw[Qw,h]at g;rcases Q6.1 g with g|g
   ·exact i M g
   ·simp at g;subst g;exact K
  ·exact .inl ⟨rfl,i,λM g=>by rw[h]at g;cases g;exact K,A.then J⟩
 rintro _ w4 (⟨k,b8,rfl,i,a0,r⟩|⟨rfl,i,r⟩)
 rotate_left
 ·refine⟨_,rfl,al.tt sM (Ok.mk ⟨n,rfl,?_,ai.keep r⟩)⟩
  rw[Qz oM]at i;rw[List.filter_eq_self.2 λP h=>by rw[i P h];rfl];exact m.af r
 have N:L[k]? =some L[k]:=Qq oM;have a8:(L.take (k+1)).filter (λP=>!pr P.x)=L.take k:=by
  rw[Qw,N,List.filter_append,List.filter_eq_self.2 λP h=>by rw[i P h];rfl];simp[a0 _ N]
 refine⟨_,rfl,al.ff sM ⟨λp l d w'=>∃(B j:Nat) (f:List (Bx ah)),l=B/\d=j/\B<j/\j<=n/\p=n-j/\aV oE.kO 55 (λP=>aI a=some P) w' a n c f/\f.length=L.length/\f.take B=(L.take j).filter (λP=>!pr P.x)/\f.drop j=L.drop j/\aj (λP=>aI a=some P) w w',
  ⟨_,k,k+1,L,rfl,an oM,oM,oM,rfl,m.af r,rfl,a8.symm,rfl,ai.keep r⟩,?_⟩⟩
 rintro p _ _ _ O ⟨l,d,f,rfl,rfl,b9,c0,rfl,t,C,u,Q,v⟩;refine al.dec (λc1=>?_) (λc2=>?_)
 ·have x:L[d]? =some L[d]:=Qq oM
  have R:f[d]? =some L[d]:=by
   have:=Zj (·[0]?) Q;simp only[List.getElem?_drop,Nat.add_zero]at this;rw[this,x]
  have S:f.drop (d+1)=L.drop (d+1):=by
   have:=Zj (List.drop 1) Q
   rwa [List.drop_drop,List.drop_drop]at this
  generalize L[d]=b at x R;obtain⟨P,T,es,E,c3,c4,a9,rfl,-⟩:=(q t C).el d b R;refine⟨P,T,E,oM,oM,bW (es:=aF b.x b.a b.n b.c) (k:=10) (bf _ _ _ _) rfl (λa2 ht=>by rw[Qx];exact a9 a2 ht) (PA.mk λc5 b0 c6 b1=>aC (bf b.x b.a b.n b.c) b1 rfl λU b2 c7 V=>ay (bf b.x b.a b.n b.c) V ⟨_,_,_,rfl,H,?_⟩)⟩;have W:ai O U:=b0.new b2 λP h=>.inr (by have h:P=O.heap.size:=h;omega);refine PC.ok (I b U (v.af W)) ?_;rintro _ c8 ⟨rfl,X⟩;have z:=W.then X;refine⟨_,rfl,al.not (al.mk (λF=>⟨_,?_,l,d+1,f,rfl,an oM,oM,oM,rfl,t.af z,C,?_,S,v.af z⟩) (λF=>?_))⟩
  ·omega
  ·rw[u,Qw,x,List.filter_append]
   simp[F]
  ·refine ay (bf b.x b.a b.n b.c) (X.get V id) ⟨P,T,E,oM,oM,?_⟩
   rw[Qx];refine aV.PE (x:=b) (k:=10) (t.af z) oM dC trivial E (bf b.x b.a b.n b.c) λc9 a7 b3 d0=>⟨_,?_,l+1,d+1,f.set l b,an oM,an oM,oM,oM,rfl,a7,by simpa using C,?_,?_,(v.af z).then b3⟩
   ·omega
   ·rw[Qw (l:=L),x,List.filter_append,<-u,Qw,List.getElem?_set_self oM,List.take_set_of_le (Q4 _)]
    simp[F]
   ·rw[List.drop_set_of_lt oM,S]
 ·obtain rfl:d=n:=oM
  rw[Qz (l:=L) oM]at u;refine⟨oM,oM,?_⟩;rw[Qx];refine yx vd kR t oM λd1 b4 b5 d2=>⟨oM,oM,Ok.mk ⟨l,rfl,?_,v.then b5⟩⟩
  rw[<-u];exact b4
def Lq{b c:Nat}(l:cF w b f C)(m:w.heap[c]? =some (.cells #[XP b] 96 (0,0))){a:ah}{n o:Nat}:
  ZH 231 #[jJ a d n o,XP c] w (Ok λp w'=>p= .bool (C.get (aX a)).isSome/\ai w w'):=by
 refine lP (PA.mk λv P x e=>⟨_,ae (P.get m id) rfl,_,_,ae e rfl,ae e rfl,PC.ok (PF (l.af P) (aX a)) ?_⟩);rintro _ q ⟨g,h,i,G,rfl,y,z,j⟩;exact cD (rR _ g h i) ⟨_,rfl,PA.mk λA r B s=>aC (bf _ g h i) s rfl λE t F H=>Ok.mk ⟨rfl,((P.then j).then r).new t λu k=>.inr (by have k:u=q.heap.size:=k;have:=P.size;have:=j.size;omega)⟩⟩
def Lr{g i:Nat}(m:cF w g f C)(n:w.heap[i]? =some (.cells #[XP g] 96 (0,0))){a:ah}{h j:Nat}(o:Row aM 8 w a2 d h a.aJ)(k:∀P,a2 P->P<w.heap.size/\¬f P)(p:a.Ok)(t:C.l.length<=20000000):
  ZH 234 #[jJ a d h j,XP i] w (Ok λq w'=>q= .bool (decide ((C.add a).1=0))/\∃c,cF w' g c (C.add a).2/\cO f w c w'):=by
 refine lQ (PA.mk λu b v r=>⟨_,ae (b.get n id) rfl,ay (bf a d h j) r (PC.ok (tk (m.af b) (o.af b) (λP e=>⟨by have:=(k P e).1;omega,(k P e).2⟩) p oM) ?_)⟩);rintro _ x ⟨rfl,c,s,l⟩;have:=b.size;exact⟨_,rfl,Ok.mk ⟨by congr 1,c,s,(ai.keep b).then l.keep,λP e=>(l.new P e).imp id oM⟩⟩
end
end
section
open Go.au
variable{f:XM}{d:XU}{b:World}{C:ar}
section
variable {w w':World} {p:Nat} {M D E:XM} {most:Nat} {l:List ah} {a:XU} {n c:Nat} {L:List (Bx ah)}
structure Pv (w:World) (p:Nat) (M:XM) (most:Nat) (a:XU) (c s tb:Nat) (T:ar) (nc:Nat) (Lc:List (Bx ah)) (oa:XU) (on oc:Nat) (Lo:List (Bx ah)) (w1:World):Prop where
 set:∃F1,cF w1 s F1 T/\(∀b,F1 b->w.heap.size<=b/\b≠tb)/\∀b,aI oa=some b->w.heap.size<=b/\¬F1 b/\b≠tb
 ptr:w1.heap[tb]? =some (.cells #[XP s] 96 (0,0))
 buf:w1.heap[p]? =some (.cells #[QH (most:Int),.slice a nc c] 146 (0,0))
 oD:aV oE.kO 55 (λb=>aI a=some b) w1 a nc c Lc
 out:aV oE.kO 55 (λb=>aI oa=some b) w1 oa on oc Lo
 keep:aj M w w1
def wo(i:Nj w p M D most l a n c L){r k:Nat}{j:Nat}{g:List (Bx ah)}{s t:Nat}{u:List (Bx ah)}(I:Pv w p M most a c r k C j g d s t u b)(O:∀P∈g,P∈L)(R:C.l.length<=20000000)(a6:g.length<=20000000):
  ZH 235 #[.slice a j c,.func (.func 234) #[] #[XP k]] b (Ok λA w'=>
   (A= QH (-1)/\(∀P∈g,(C.add P.x).1≠0)/\Pv w p M most a c r k C j g d s t u w')\/
   (∃h P,h<j/\A= QH (h:Int)/\g[h]? =some P/\(∀x∈g.take h,(C.add x.x).1≠0)/\(C.add P.x).1=0/\Pv w p M most a c r k (C.add P.x).2 j g d s t u w')):=by
 have S:=i.dM p i.mp;have a7:=I.oD.len dC;have T:∀P,aI a=some P->P<w.heap.size:=λP e=>i.dM P (i.ma P e).1;refine(yD (E:=λP=>aI a=some P) (L:=g) kR (λh m=>(∀P∈g.take h,(C.add P.x).1≠0)/\Pv w p M most a c r k C j g d s t u m) (λh m=>∃P,g[h]? =some P/\(∀x∈g.take h,(C.add x.x).1≠0)/\(C.add P.x).1=0/\Pv w p M most a c r k (C.add P.x).2 j g d s t u m) ⟨sM,I⟩
  (λh m f=>f.2.oD.row dC ba) ?_).mono ?_
 ·rintro h P m e ⟨J,f⟩
  obtain⟨U,V,y,B⟩:=f.set;have K:=(i.Ln P (O P (QZ e))).keep f.keep λP e=>(i.dD P e).2;have z2:=f.keep.size;refine(Lr V f.ptr K.1 (λP e=>⟨by have:=(i.dD P e).1;omega,λo=>by have:=(i.dD P e).1;have:=(y P o).1;omega⟩) K.2 R).mono ?_;rintro _ W ⟨A,rfl,rfl,X,Y,q⟩;have N:∀P,P<w.heap.size->¬U P:=λP e o=>by have:=(y P o).1;omega
  have Z:=aB f.ptr;have F:∀P,aI d=some P->P<m.heap.size:=λP e=>f.out.aE P e;have H:Pv w p M most a c r k (C.add P.x).2 j g d s t u W:=⟨⟨X,Y,λP e=>(q.new P e).elim (y P) λz=>⟨oM,oM⟩,λP e=>⟨(B P e).1,λo=>(q.new P o).elim (B P e).2.1 λz=>by have:=F P e;omega,(B P e).2.2⟩⟩,
   q.keep.get f.ptr λo=>(y _ o).2 rfl,q.keep.get f.buf (N p S),f.oD.keep q.keep λP e=>N P (T P e),f.out.keep q.keep λP e=>(B P e).2.1,f.keep.new q.keep λP e=>.inr (y P e).1⟩
  refine Ok.mk ?_
  by_cases v:(C.add P.x).1=0
  ·exact .inl ⟨by rw[Zy v],P,e,J,v,H⟩
  ·refine .inr ⟨by rw[Xv v],λx Q=>?_,?_⟩
   ·rw[Qw,e]at Q
    rcases Q6.1 Q with Q|Q
    ·exact J x Q
    ·simp at Q;subst Q;exact v
   ·rcases C.gJ P.x with⟨-,z⟩|⟨z,-⟩
    ·rw[z]at H;exact H
    ·rw[z]at v;exact Zz rfl v
 ·rintro _ m ⟨A,rfl,hv⟩
  rcases hv with⟨h,hj,rfl,P,E,f,h3,h4⟩|⟨rfl,E,f⟩
  ·exact Ok.mk (.inr ⟨h,P,hj,rfl,E,f,h3,h4⟩)
  ·rw[Qz oM]at E
   exact Ok.mk (.inl ⟨rfl,E,f⟩)
def Df(d7:gH w p M D most l){b3:Nat}(hs:cF w b3 f C)(g2:C.Cl)(k1:C.l.length<=19000000):
  ZH 160 #[XP p,XP b3] w (Ok λd9 w'=>∃q z E k,d9= .slice q z E/\aV oE.kO 55 (λP=>aI q=some P) w' q z E k/\k.map (·.x)=(bE C l).1/\(∀P∈k,oE.In w' D P)/\(∀P,aI q=some P->w.heap.size<=P)/\
   gH w' p M D most (bE C l).2/\aj M w w'):=by
 obtain⟨W,a,n,c,L,g⟩:=d7;have g3:=g.dM p g.mp;have X:∀P,aI a=some P->P<w.heap.size:=λP b=>g.dM P (g.ma P b).1;have k2:L.length=l.length:=by rw[<-g.map,Q8]
 have h2:l.length<=256:=Xx W.2.le W.1;have hN:=hs.1.n;refine nW (PC.ok (kQ hs) ?_);rintro _ w4 ⟨va,vn,vc,Fv,rfl,g5,k4,k3⟩;have d1:=g5.len dC;rw[C.bZ]at d1;subst d1;refine⟨_,_,_,rfl,PC.ok (Dg hN) ?_⟩;rintro _ A ⟨F,F2,rfl,d2,d3,k7⟩;have z4:=k4.size;have z7:=k7.size;refine⟨_,rfl,PA.mk λw9 k9 s9 g9=>PS.mk g9 sM λg6 g7 k5 g8=>?_⟩;have a1:ai A g6:=k9.new g7 λP b=>.inr (by have b:P=A.heap.size:=b;omega);have b4:=(k4.then k7).then a1;have Y:=d2.aE;refine PC.ok (qk (hs.af b4) oM) ?_;rintro _ Z ⟨ea,en,ec,G,rfl,b9,a6,hG⟩;have k6:=b9.len dC;have k8:=a1.size;have l0:=a6.size;have e6:Row iC 96 Z G ea en C.l:=b9.row dC ba;have h4:Z.heap[A.heap.size]? =some (.cells #[XP F] 96 (0,0)):=a6.get g8 id;have d5:=b9.aE;refine⟨_,_,_,rfl,λR a2 w'=>∃(e:Nat) (S:XM),a2=e/\e<=en/\R=en-e/\cF w' F S ((⟨C.n,[]⟩:ar).ey (C.l.take e))/\(∀P,S P->F2 P\/Z.heap.size<=P)/\aj F2 Z w',⟨_,0,F2,rfl,Qj _,rfl,d2.af (a1.then a6),λP b=>.inl b,aj.refl _⟩,?_⟩;rintro R _ _ a7 ⟨e,S,rfl,hj,rfl,a8,a9,T⟩;have l3:=T.size;have c0:=T.get h4 λH=>by have:=Y _ H;omega
 refine al.dec (λl4=>?_) (λl5=>?_)
 ·have K:C.l[e]? =some C.l[e]:=Qq oM
  generalize C.l[e]=N at K;have e7:=e6.keep T λP b H=>by have:=Y _ H;have:=hG P b;omega
  obtain⟨P,f0,es,ha,l6,l7,c1,xa,xn,xc,rfl,h6,f1⟩:=e7.el e N K;refine⟨P,f0,ha,oM,oM,bW (es:=aF N xa xn xc) (k:=10) (bf _ _ _ _) rfl (λa2 ht=>by rw[Qx];exact c1 a2 ht) (PA.mk λl8 h7 l9 h8=>aC (bf N xa xn xc) h8 rfl λh9 i1 m1 i3=>?_)⟩;have O:ai a7 h9:=h7.new i1 λP b=>.inr (by have b:P=a7.heap.size:=b;omega);have c2:=ar.lR (C.l.take e) ⟨C.n,[]⟩;rw[Qy]at c2;simp only[ZQ]at c2;refine⟨_,ae (O.get c0 id) rfl,ay (bf N xa xn xc) i3 (PC.ok (tk (a8.af O) (h6.af O) (λP b=>⟨by have:=d5 P b;have:=O.size;omega,λH=>?_⟩) f1 oM) ?_)⟩
  ·rcases a9 P H with j|j
   ·have:=Y _ j;have:=hG P b;omega
   ·have:=d5 P b;omega
  rintro _ i4 ⟨rfl,F3,i5,d8⟩;refine⟨_,rfl,_,oM,e+1,F3,an oM,oM,rfl,?_,λP b=>?_,?_⟩
  ·rw[Qw,K]
   show cF i4 F F3 (ar.ey _ (C.l.take e++[N]));rw[ar.ql];exact i5
  ·rcases d8.new P b with j|j
   ·exact a9 P j
   ·have:=O.size;exact .inr oM
  ·exact(T.af O).new d8.keep λP b=>a9 P b
 rw[Qz oM,g2.Sa]at a8;have b5:ai w a7:=(b4.then a6).new T λP b=>.inr (by have:=d3 P b;omega);have c3:=g.keep b5 (λ_ _ g=>g) λ_ _ g=>g;have s:∀P,S P->w.heap.size<=P/\P≠A.heap.size:=λP b=>by
  rcases a9 P b with j|j
  ·have:=d3 P j;have:=Y P j;omega
  ·omega
 refine⟨p,0,rfl,_,_,_,ae c3.at' rfl,PC.ok (Lp (pr:=λd=>(C.get (aX d)).isSome) kR c3.oD oM λP w1 hk=>?_) ?_⟩
 ·refine Lq (a8.keep hk λP b d=>?_) (hk.get c0 λd=>?_)
  ·have:=X P d;have:=(s P b).1;omega
  ·have:=X _ d;omega
 rintro _ m2 ⟨m0,rfl,f4,e0⟩;have b0:¬aI a=some p:=λd=>(g.ma p d).2 rfl;refine⟨_,_,_,rfl,p,0,rfl,PS.mk (e0.get c3.at' b0) sM λe1 e2 m3 e3=>⟨p,0,rfl,_,_,_,ae e3 rfl,?_⟩⟩;obtain⟨t,y⟩:∃t,t=L.filter λP=>!(C.get (aX P.x)).isSome:=⟨_,rfl⟩
 have a3:aj (λP=>aI a=some P\/P=p) a7 e1:=(e0.mono λP _ b=>.inl b).then (e2.mono λP _ b=>.inr b);have Tb:∀P,aI a=some P\/P=p->P<w.heap.size:=λP b=>b.elim (X P) λd=>d▸g3;have e4:Pv w p M most a c F A.heap.size C m0 t none 0 0 [] e1:=by
  refine⟨⟨S,a8.keep a3 λP b d=>by have:=Tb P d;have:=(s P b).1;omega,s,λP b=>by cases b⟩,a3.get c0 λd=>by have:=Tb _ d;omega,e3,?_,(aV.nil _).mono (λP b=>b.elim) λP b=>(by cases b),?_⟩
  ·rw[y];exact f4.keep e2 λP b d=>b0 (by have d:P=p:=d;rw[<-d];exact b)
  ·exact(ai.keep b5).then (a3.mono λP _ b=>b.elim (λd=>(g.ma P d).1) λd=>d▸g.mp)
 have b6:∀P∈t,P∈L:=λP b=>by rw[y]at b;exact(List.mem_filter.1 b).1
 have a4:t.map (·.x)=l.filter λd=>(C.get (aX d)).isNone:=by
  rw[y,<-g.map,List.filter_map]
  congr 1
  refine List.filter_congr λP b=>?_;show(!(C.get (aX P.x)).isSome)=(C.get (aX P.x)).isNone
  cases C.get (aX P.x)<;>rfl
 have b7:t.length<=L.length:=by rw[y];exact List.length_filter_le ..
 refine PC.ok (wo g e4 b6 oM oM) ?_;rintro i6 m4 b8;obtain⟨i0,i7⟩:∃u:Int,i6= QH u:=by
  rcases b8 with⟨m,-⟩|⟨e,P,-,m,-⟩
  ·exact⟨_,m⟩
  ·exact⟨_,m⟩
 subst i7;refine⟨_,rfl,λR q z E u w'=>∃(r:ar) (h k:List (Bx ah)) (B U:Nat),R=h.length/\(∀P∈h,P∈L)/\(∀P∈k,P∈L)/\(h.map (·.x)).Sublist l/\h.length<=U/\r.l.length+h.length<=C.l.length+L.length/\h.length<=L.length/\k.length+h.length<=L.length/\B=h.length/\
   de (U+1) r (h.map (·.x)) (k.map (·.x))=bE C l/\
   ((u= -1/\(∀P∈h,(r.add P.x).1≠0)/\Pv w p M most a c F A.heap.size r B h q z E k w')\/
    (∃e P,e<B/\u=(e:Int)/\h[e]? =some P/\(∀v∈h.take e,(r.add v.x).1≠0)/\(r.add P.x).1=0/\Pv w p M most a c F A.heap.size (r.add P.x).2 B h q z E k w')),?_,?_⟩
 ·have i8:=e4.oD.len dC
  refine⟨_,C,t,[],m0,t.length,rfl,b6,sM,by rw[a4];exact List.filter_sublist,Q4 _,oM,b7,by simpa using b7,i8,?_,?_⟩
  ·rw[a4]
   show de (t.length+1) C _ []=_;unfold bE;rw[<-a4];show _=de ((t.map (·.x)).length+1) C _ [];rw[Q8]
  ·rcases b8 with⟨m,I,J⟩|⟨e,P,m,I,J⟩
   ·exact .inl ⟨by simpa using m,I,J⟩
   ·exact .inr ⟨e,P,m,by simpa using I,J⟩
 rintro R q z E u _ i9 ⟨r,h,k,B,U,rfl,a5,c5,e5,hk,m5,j9,k0,m6,c6,j0⟩;rcases j0 with⟨rfl,c4,i⟩|⟨e,P,hj,rfl,b,c4,f6,i⟩
 ·refine al.ff sM (Ok.mk ⟨q,z,E,k,rfl,i.out,?_,λP b=>(g.Ln P (c5 P b)).keep i.keep λP b=>(g.dD P b).2,λP b=>by obtain⟨F1,-,-,j⟩:=i.set;exact(j P b).1,⟨⟨W.1,?_⟩,a,B,c,h,i.buf,i.oD,?_,λP b=>(g.Ln P (a5 P b)).keep i.keep λP b=>(g.dD P b).2,λP b=>⟨by have:=(g.dD P b).1;have:=i.keep.size;omega,(g.dD P b).2⟩,g.mp,g.ma,λP b=>by have:=g.dM P b;have:=i.keep.size;omega⟩,i.keep⟩)
  all_goals
   have f8:bE C l=(k.map (·.x),h.map (·.x)):=by
    rw[<-c6];unfold de;rw[qX λd he=>by obtain⟨P,b,rfl⟩:=Xk.1 he;exact c4 P b]
   rw[f8]
  exact W.2.sub e5
 ·have j1:e<h.length:=oM
  have m7:=i;obtain⟨F1,e8,e9,b1⟩:=i.set;have m8:=i.keep.size;have c2:=r.yf P.x;obtain⟨gb,go,es,ha,m9,n0,c1,rfl,-⟩:=(i.oD.row (bytes:=96) dC ba).el e P b;have d:=λu (hi:u<10)=>c1 u hi;refine al.dec (λ_=>⟨p,0,rfl,_,_,_,ae i.buf rfl,gb,go,ha,oM,oM,_,_,_,_,_,_,_,_,_,_,_,_,d 0 dC,d 1 dC,d 2 dC,d 3 dC,d 4 dC,d 5 dC,d 6 dC,d 7 dC,d 8 dC,d 9 dC,PA.mk λj2 f2 n1 j3=>?_⟩) (λhn=>oM);have n2:=i.out.len dC;refine fk (c:=oE.kO) (x:=P) (D:=λ_=>False) (i.out.af f2) vd j3 ⟨rfl,trivial⟩ (λP b=>b.elim) ba (by unfold maxLen;omega) λV b2 f3 Fo c9 j4 j5=>⟨_,_,_,rfl,p,0,rfl,?_⟩
  have f9:=c9.alone;have d0:∀P,aI V=some P->aI q=some P\/j2.heap.size<=P:=λP b=>(j5 P (c9.self P b)).imp id λg=>g.resolve_left id;have o:∀P,aI q=some P->w.heap.size<=P:=λP b=>(b1 P b).1;have Q:aj (λP=>aI q=some P) i9 f3:=(ai.keep f2).then j4;have f5:=Q.get i.buf λd=>by have:=o _ d;omega
  have g4:=i.oD.keep Q λP b d=>by have:=o _ d;have:=X P b;omega
  have n3:=Q.size;refine⟨_,_,_,ae f5 rfl,PC.ok (R_ g4 hj oM) ?_⟩;rintro _ n4 ⟨rfl,h0,c7⟩;have n8:=c7.size;refine⟨_,_,_,rfl,p,0,rfl,PS.mk (c7.get f5 b0) sM λf7 g0 n9 g1=>⟨p,0,rfl,_,_,_,ae g1 rfl,?_⟩⟩;have o0:(h.eraseIdx e).length=h.length-1:=List.length_eraseIdx_of_lt j1;have a0:aj (λP=>aI a=some P\/P=p) f3 f7:=(c7.mono λP _ b=>.inl b).then (g0.mono λP _ b=>.inr b);have c8:∀P,w.heap.size<=P->¬(aI a=some P\/P=p):=λP b d=>by have:=Tb P d;omega
  have j6:Pv w p M most a c F A.heap.size (r.add P.x).2 (B-1) (h.eraseIdx e) V (z+1) b2 (k++[P]) f7:=by
   refine⟨⟨F1,(e8.keep Q λP b d=>(b1 P d).2.1 b).keep a0 λP b=>c8 P (e9 P b).1,e9,λP b=>?_⟩,a0.get (Q.get i.ptr λd=>(b1 _ d).2.2 rfl) (c8 _ oM),g1,h0.keep g0 λP b d=>b0 (by have d:P=p:=d;rw[<-d];exact b),f9.keep a0 λP b=>c8 P ?_,?_⟩
   ·rcases d0 P b with j|j
    ·exact b1 P j
    ·have hd:=e8.aE
     have o1:=aB i.ptr;exact⟨oM,λH=>by have:=hd P H;omega,oM⟩
   ·rcases d0 P b with j|j
    ·exact o P j
    ·omega
   ·exact(i.keep.new Q λP b=>.inr (o P b)).then (a0.mono λP _ b=>b.elim (λd=>(g.ma P d).1) λd=>d▸g.mp)
  have d4:∀v∈h.eraseIdx e,v∈L:=λv x=>a5 v ((List.eraseIdx_sublist ..).subset x);refine PC.ok (wo g j6 d4 oM oM) ?_;rintro j7 o2 d6;obtain⟨i2,j8⟩:∃u:Int,j7= QH u:=by
   rcases d6 with⟨m,-⟩|⟨e,P,-,m,-⟩
   ·exact⟨_,m⟩
   ·exact⟨_,m⟩
  subst j8;have h1:∃k',U=k'+1:=⟨U-1,oM⟩
  obtain⟨k',rfl⟩:=h1;refine⟨_,rfl,(h.eraseIdx e).length,oM,(r.add P.x).2,h.eraseIdx e,k++[P],B-1,k',rfl,d4,?_,?_,oM,oM,oM,by simp;omega,oM,?_,?_⟩
  ·intro v x
   rcases Q6.1 x with x|x
   ·exact c5 v x
   ·simp at x;subst x;exact a5 v (QZ b)
  ·exact((List.eraseIdx_sublist ..).map _).trans e5
  ·rw[<-c6]
   conv=>rhs;unfold de
   rw[qY (i:=e) (e:=P.x) (λN K=>by rw[<-List.map_take]at K;obtain⟨v,x,rfl⟩:=Xk.1 K;exact c4 v x) (by rw[Q9,b];rfl) f6];show _=de (k'+1) (r.add P.x).2 ((h.map (·.x)).eraseIdx e) (k.map (·.x)++[P.x]);rw[map_eraseIdx,Q3];rfl
  ·rcases d6 with⟨m,I,J⟩|⟨e,P,m,I,J⟩
   ·exact .inl ⟨by simpa using m,I,J⟩
   ·exact .inr ⟨e,P,m,by simpa using I,J⟩
end
def IA:lv:=⟨[(2,[(10,QH 0)])],[],[],[],[]⟩
variable{z:XR}{e u:Int}{q:List Int}{c1:List cY}{a c:Nat}{H:Nat×Nat}{t:XU}{h:Program}{i:Type}{v:Value}{N:aW}{c9:kz}
def IB(j:(∃g:Nat->Int->XT,(∃f,g f 0 b)/\∀(f:Nat) (P:Int) (q:Nat->Value) (h:World),g f P h->al (decide (P<(a:Int))) ((ix_ d P a λk l=>PS h (ad k (l+Int.toNat P*5+1)) (.ii e) λm=>(ix_ d P a λn o=>PS m (ad n (o+Int.toNat P*5+2)) (.ii u) λp=>(∃i,i<f/\g i (XH .i64 (P+1)) p)))) (rt z ((.slice d a c)) h))):ZH 103 #[.ii e,.ii u,.slice d a c] b z:=DC IA Tryz.func103 rfl j
structure ET where
 m:cY
 va:XU
 vn:Nat
 vc:Nat
 ea:XU
 en:Nat
 ec:Nat
def QN:jK ET:=flat 5 (λP=>bV P.m P.va P.vn P.vc P.ea P.en P.ec) (λ_=>True) (λ_=>rfl) (λb c a=>by
 simp only[bV,Q2,List.not_mem_nil,or_false]at a;rcases a with rfl|rfl|rfl|rfl|rfl<;>rfl)
def ET.In(a:World)(D:XM)(P:ET):Prop:=Row aM 8 a D P.va P.vn P.m.vec/\Row iC 96 a D P.ea P.en P.m.events
def KW:jx XG 56 60 QN.k 72:=⟨kR,kR,dC⟩
def bj(c:World)(g:List cY)(h:Value)(b:World):Prop:=
 ∃(a:XU) (e f:Nat) (d:List ET) (D:XM),h= .slice a e f/\aV QN 60 (λP=>aI a=some P) b a e f d/\d.map (·.m)=g/\(∀P∈d,P.In b D)/\(∀P,D P->c.heap.size<=P/\P<b.heap.size/\aI a≠some P)/\(∀P,aI a=some P->c.heap.size<=P)/\ai c b
section
variable {w w':World} {p:Nat} {F D:XM} {S:ar} {a:XU} {n c:Nat}
def ET.In.keep{P:ET}(a:P.In w D)(b:aj f w w')(c:∀P,D P->¬f P):P.In w' D:=⟨a.1.keep b c,a.2.keep b c⟩
def ET.In.mono{P:ET}(a:P.In w D)(b:∀P,D P->f P):P.In w f:=⟨a.1.mono b,a.2.mono b⟩
def fp{P:jK i}{bytes:Nat}(w:World)(D:XM):Row P bytes w D none 0 []:=⟨rfl,sM,λb c a=>by simp at a⟩
def bj.nil(w:World):bj w [] (.slice none 0 0) w:=⟨none,0,0,[],λ_=>False,rfl,(aV.nil w).mono (λa P=>P.elim) (λa P=>(by cases P)),rfl,sM,λa P=>P.elim,λa P=>(by cases P),aj.refl _⟩
def bj.af(f:bj b c1 v w)(e:ai w w'):bj b c1 v w':=by
 obtain⟨a,n,c,h,D,i,j,k,l,g,m,o⟩:=f;exact⟨a,n,c,h,D,i,j.af e,k,λP d=>(l P d).keep e λ_ _ f=>f,λP d=>⟨(g P d).1,by have:=e.size;have:=(g P d).2.1;omega,(g P d).2.2⟩,m,o.then e⟩
def bj.push{q J:TypeId}(r:bj b c1 (.slice a n c) w)(K:jx h q 60 QN.k 72){m:cY}{i j k l v:Nat}{E:XM}(L:(⟨m,d,i,j,t,k,l⟩:ET).In w E)(x:∀P,E P->b.heap.size<=P/\P<w.heap.size/\aI a≠some P)(M:w.heap[v]? =some (.cells (bV m d i j t k l).toArray 60 H))(U:c1.length<=1000){y N:XN}(s:∀f g w',bj b (c1++[m]) (.slice f (n+1) g) w'->aj (λP=>aI a=some P) w w'->y (.slice f (n+1) g) w'):
  aG h (Builtin.append_ #[q,q] J #[.slice a n c,.slice (XL v) 1 1]) w y N:=by
 obtain⟨V,W,X,u,D,O,Q,z,R,A,B,C⟩:=r
 cases O
 have Z:u.length=c1.length:=by rw[<-z,Q8]
 refine fk (c:=QN) (x:=⟨m,d,i,j,t,k,l⟩) (D:=λ_=>False) Q K M ⟨rfl,trivial⟩ (λP e=>e.elim) ba (by unfold maxLen;omega) λf g w' F' o p S=>?_;have F:∀P,aI f=some P->aI a=some P\/w.heap.size<=P:=λP e=>(S P (o.self P e)).imp id λr=>r.resolve_left id;have a0:=p.size;have z7:=C.size;refine s f g w' ⟨f,n+1,g,u++[⟨m,d,i,j,t,k,l⟩],λP=>D P\/E P,rfl,(show aV QN 60 (λP=>aI f=some P) w' f (n+1) g (u++[⟨m,d,i,j,t,k,l⟩])from o.alone),by rw[Q3,z];rfl,λP e=>?_,λP e=>?_,λP e=>?_,C.new p λP e=>.inr (B P e)⟩ p
 ·rcases Q6.1 e with e|e
  ·exact((R P e).keep p λP e=>(A P e).2.2).mono λP e=>.inl e
  ·simp at e;subst e
   exact(L.keep p λP e=>(x P e).2.2).mono λP e=>.inr e
 ·have I:b.heap.size<=P/\P<w.heap.size/\aI a≠some P:=e.elim (A P) (x P)
  exact⟨I.1,oM,λT=>(F P T).elim I.2.2 oM⟩
 ·rcases F P e with Y|Y
  ·exact B P Y
  ·omega
def Lb(z:bj b c1 (.slice a n c) w)(O:c1.length<=1000):
  ZH 103 #[QH e,QH u,.slice a n c] w (Ok λA w'=>bj b (c1.map λm=>{m with bX:=e,oF:=u}) A w'):=by
 obtain⟨Q,R,S,d,D,B,r,x,C,o,y,E⟩:=z
 cases B
 have T:d.length=c1.length:=by rw[<-x,Q8]
 have U:=r.len dC;obtain⟨g,j⟩:∃g:ET->ET,g=λf=>{f with m:={f.m with bX:=e,oF:=u}}:=⟨_,rfl⟩
 refine IB ⟨λm h w'=>∃P:Nat,h=P/\P<=n/\m=n-P/\aV QN 60 (λf=>aI a=some f) w' a n c ((d.take P).map g++d.drop P)/\aj (λf=>aI a=some f) w w',⟨_,0,rfl,Qj _,rfl,by simpa using r,aj.refl _⟩,?_⟩;rintro m _ _ V ⟨P,rfl,W,rfl,s,p⟩;refine al.dec (λX=>?_) (λY=>?_)
 ·have q:d[P]? =some d[P]:=Qq oM
  have k:∃l,a=XL l:=by
   obtain⟨cs,D,F,-⟩:=r.body;rcases F.cases with⟨_,Z,_,_⟩|⟨l,H,rfl,_⟩
   ·omega
   ·exact⟨l,rfl⟩
  obtain⟨l,k⟩:=k;have t:((d.take P).map g++d.drop P)[P]? =some d[P]:=by
   rw[X8 bc];simp[Qy,X2 (show P<=d.length by omega)]
  generalize d[P]=h at q t;have I:P<((d.take P).map g++d.drop P).length:=(Qv.1 t).1;refine⟨l,0,k,oM,oM,?_⟩;rw[Qx];refine aV.set (x':={h with m:={h.m with bX:=e}}) (j:=1) s t dC rfl k λa3 J K a4=>⟨l,0,k,oM,oM,?_⟩
  refine aV.set (x:={h with m:={h.m with bX:=e}}) (x':=g h) (j:=2) J (by rw[List.getElem?_set_self I]) dC (by rw[j];rfl) k λa5 v L a6=>⟨_,?_,P+1,an oM,oM,rfl,?_,(p.then K).then L⟩
  ·omega
  ·rw[List.set_set]at v
   have M:((d.take P).map g++d.drop P).set P (g h)=(d.take (P+1)).map g++d.drop (P+1):=by
    have N:((d.take P).map g).length=P:=by simp;omega
    rw[Qw,q,Q3,XQ,List.set_append,Zq oM,N,Nat.sub_self,X4 (show P<d.length by omega)];rfl
   rw[M]at v;exact v
 ·obtain rfl:P=n:=oM
  rw[Qz oM,List.drop_eq_nil_of_le oM,List.append_nil]at s;refine Ok.mk ⟨a,P,c,d.map g,D,rfl,s,?_,λf i=>?_,λf i=>⟨(o f i).1,by have:=p.size;have:=(o f i).2.1;omega,(o f i).2.2⟩,y,E.new p λf i=>.inr (y f i)⟩
  ·rw[<-x,List.map_map,List.map_map,j];rfl
  ·obtain⟨h,q,rfl⟩:=Xk.1 i
   have:=(C h q).keep p λf i=>(o f i).2.2;rw[j];exact this
end
section
variable {w w':World} {p:Nat} {F D E:XM} {S:ar} {m:cY} {va ea:XU} {vn vc en ec:Nat}
def bj.Fw(e:bj b c1 v w)(c:ai w' b):bj w' c1 v w:=by
 obtain⟨f,g,h,i,D,j,k,l,m,d,n,o⟩:=e;have:=c.size;exact⟨f,g,h,i,D,j,k,l,m,λP a=>⟨by have:=(d P a).1;omega,(d P a).2⟩,λP a=>by have:=n P a;omega,c.then o⟩
def bj.len(P:bj b c1 (.slice d a c) w):a=c1.length:=by
 obtain⟨h,i,j,k,D,e,f,g,-⟩:=P
 cases e
 rw[f.len dC,<-g,Q8]
def bj.sl(P:bj b c1 v w):∃a c d,v= .slice a c d:=by
 obtain⟨f,g,h,i,D,e,-⟩:=P;exact⟨_,_,_,e⟩
def Hk(h:cF w p F S)(hl:S.l.length<=20000000)(Z:Row aM 8 w D va vn m.vec):
  ZH 49 #[XP p,QH e,jD m va vn vc ea en ec,QH u] w (Ok (bj w (lg S e m u))):=by
 have hS:=h.1;have hN:=hS.n;refine Bp (PA.mk λb n f7 x=>⟨λw'=>b=w'/\(m.kind=1\/m.kind=2),⟨_,ae x rfl,al.dQ (λo=>⟨_,ae x rfl,al.dQ (λd=>Ok.mk ?_) (λd=>⟨rfl,.inr d⟩)⟩) (λo=>⟨rfl,.inl o⟩)⟩,?_⟩)
 ·unfold lg;rw[Zx ⟨o,d⟩];exact(bj.nil b).Fw n
 rintro _ _ ⟨rfl,hk⟩;have b9:¬(m.kind≠1/\m.kind≠2):=oM
 obtain⟨r,K⟩:∃r,r=S.missing m.vec (max 1 (min u 32)):=⟨_,rfl⟩
 have b4:(if(if 32<u then 32 else u)>1 then(if 32<u then 32 else u)else 1)=max 1 (min u 32):=by split<;>split<;>omega
 obtain⟨f,E⟩:∃f:List cY,f=if 0<r.length then [⟨3,0,0,[],r⟩]else []:=⟨_,rfl⟩
 have g0:f.length<=1:=by rw[E];split<;>simp
 refine⟨λi j k w'=>bj b f (.slice i j k) w'/\ai b w',⟨_,_,_,ae x rfl,?_⟩,?_⟩
 ·refine PC.ok (by rw[b4];exact wX (h.af n) hl (Z.af n)) ?_
  rw[<-K];rintro _ g1 ⟨b7,n2,y,G,rfl,L,H,hG⟩;have g2:=L.len dC;have e0:=L.aE;refine⟨_,_,_,rfl,al.dec (λf5=>PA.mk λg3 M g4 e1=>?_) (λhz=>⟨?_,H⟩)⟩
  rotate_left
  ·rw[E,Zq oM]
   exact(bj.nil b).af H
  have g5:r.length<=20000000:=by
   rw[K];unfold ar.missing;rw[Qy];have:=List.length_filter_le (λg:ah=>decide (max 0 (fu m.vec g.origin)<g.seq)) S.l;omega
  refine bj.push (m:=⟨3,0,0,[],r⟩) (E:=G) ((bj.nil b).af (H.then M)) KW ⟨fp _ _,(L.af M).row dC ba⟩ (λP a=>⟨by have:=hG P a;omega,by have:=e0 P a;omega,λg=>by cases g⟩) e1 sM λa' c' g6 c0 e2=>⟨_,_,_,rfl,?_,?_⟩
  ·rw[E,Zx oM];exact c0
  ·exact(H.then M).new e2 λP a=>(by cases a)
 rintro I on oc _ e3 ⟨N,O⟩;have a0:=n.then O;have e4:=O.size;refine PC.ok (kQ (h.af a0)) ?_;rintro _ t ⟨a3,n3,c3,G3,rfl,c4,c6,c7⟩;have g7:=a0.size;have c8:=c4.aE;have c9:Row aM 8 t G3 a3 n3 S.vec:=c4.row dC (by rw[S.bZ];unfold aS;omega);obtain⟨c,v⟩:∃c:List cY,c=if m.kind=1/\(qd m.vec S.vec=2\/qd m.vec S.vec=3)then [⟨2,0,0,S.vec,[]⟩]else []:=⟨_,rfl⟩
 have g8:c.length<=1:=by rw[v];split<;>simp
 have z:=O.then c6;have Q:∀P,aI I=some P->P<e3.heap.size:=λP a=>by
  obtain⟨a1,n1,s,a2,D,l,d,-⟩:=N
  cases l
  exact d.aE P a
 refine⟨_,_,_,rfl,λi j k w'=>bj b (f++c) (.slice i j k) w'/\w'.heap[w.heap.size]? =some (.cells (bV m va vn vc ea en ec).toArray 60 (0,0))/\ai b w',⟨_,_,_,ae (z.get x id) rfl,PC.ok (K_ ((Z.af (n.then z)).rX) c9.rX) ?_⟩,?_⟩
 ·rintro _ _ ⟨rfl,rfl⟩
  have R:=z.get x id;have a4:=N.af c6;have q:∀P,aI I=some P->b.heap.size<=P:=λP a=>by
   obtain⟨a1,n1,s,a2,D,l,d,A,h4,h5,T,h7⟩:=N
   cases l
   exact T P a
  have no:c=[]->bj b (f++c) (.slice I on oc) t/\t.heap[w.heap.size]? =some (.cells (bV m va vn vc ea en ec).toArray 60 (0,0))/\ai b t:=λa=>⟨by rw[a,List.append_nil];exact a4,R,z⟩
  have B:∀{ε:XN} {U:XU->Nat->Nat->XT},c=[⟨2,0,0,S.vec,[]⟩]->(∀i j k w',bj b (f++c) (.slice i j k) w'/\w'.heap[w.heap.size]? =some (.cells (bV m va vn vc ea en ec).toArray 60 (0,0))/\ai b w'->U i j k w')->
    PA t (.cells #[QH 2,QH 0,QH 0,.slice a3 n3 c3,.slice none 0 0] 60) λd0=>aG XG (Builtin.append_ #[56,56] 56 #[.slice I on oc,.slice (XL t.heap.size) 1 1]) d0 (λe5 d1=>∃(a5:XU) (a6:Nat) (a7:Nat),e5= .slice a5 a6 a7/\U a5 a6 a7 d1) ε:=λ{ε U} a V=>by
   refine PA.mk λd0 J g9 e6=>bj.push (m:=⟨2,0,0,S.vec,[]⟩) (E:=G3) (a4.af J) KW ⟨c9.af J,fp _ _⟩ (λP a=>⟨by have:=c7 P a;omega,by have:=c8 P a;omega,λg=>by have:=Q P g;have:=c7 P a;omega⟩) e6 oM λa' c' d1 d2 d3=>⟨_,_,_,rfl,V _ _ _ _ ⟨by rw[a];exact d2,d3.get (J.get R id) λg=>?_,?_⟩⟩
   ·have:=q _ g;omega
   ·exact(z.then J).new d3 λP a=>.inr (q P a)
  refine⟨_,rfl,_,ae R rfl,al.dU (λo=>al.dU (λd=>B (by rw[v,Zx ⟨o,.inl d⟩]) λi j k w' h=>h) (λd=>al.dU (λA=>B (by rw[v,Zx ⟨o,.inr A⟩]) λi j k w' h=>h) (λA=>no (by rw[v,Zq];rintro⟨-,h|h⟩;exact d h;exact A h)))) (λo=>no (by rw[v,Zq λh=>o h.1]))⟩
 rintro e7 h8 h9 _ e8 ⟨C,W,a8⟩;have d4:=n.then a8;have e9:=a8.size;have a9:=C.len;have f6:(f++c).length<=2:=by rw[QX];omega
 have b0:∀{X:List cY},(if(f++c).isEmpty then [xZ S e m.bX]else(f++c).map λb5=>{b5 with bX:=e,oF:=m.bX})=X->lg S e m u=X:=λ{X} hq=>by
  rw[<-hq];unfold lg;rw[Zq b9,<-K];rw[E,v];have p1:(decide (qd m.vec S.vec=2\/qd m.vec S.vec=3))=decide (qd m.vec S.vec=2\/qd m.vec S.vec=3):=rfl
  by_cases s:0<r.length<;>by_cases y:m.kind=1/\(qd m.vec S.vec=2\/qd m.vec S.vec=3)
  ·simp[s,y]
  ·simp[s,y]
  ·simp[s,y]
  ·simp[s,y]
 refine al.dU (λh0=>⟨_,ae W rfl,PC.ok (Hc (h.af d4)) ?_⟩) (λh0=>⟨_,ae W rfl,PC.ok (Lb C oM) ?_⟩)
 ·have l:f++c=[]:=QW oM
  rintro _ i0 ⟨b8,n5,c5,G5,rfl,d5,d6,d7⟩;have d8:=d5.aE;rw[l]at C;refine⟨_,_,_,_,_,_,_,_,_,rfl,PA.mk λi1 Y i2 f2=>?_⟩;have b1:∀P,aI e7=some P->b.heap.size<=P/\P<e8.heap.size:=λP a=>by
   obtain⟨a1,n1,s,a2,D,l,d,A,h4,h5,T,h7⟩:=C
   cases l
   exact⟨T P a,d.aE P a⟩
  refine bj.push (m:=xZ S e m.bX) (E:=G5) (C.af (d7.then Y)) KW ⟨(d5.af Y).row dC (by show S.vec.length*8<=aS;rw[S.bZ];unfold aS;omega),fp _ _⟩ (λP a=>⟨by have:=d6 P a;have:=d4.size;omega,by have:=d8 P a;omega,λg=>by have:=(b1 P g).2;have:=d6 P a;omega⟩) f2 sM λa' c' i3 d9 f3=>⟨_,_,_,rfl,_,ae (f3.get ((d7.then Y).get W id) λg=>by have:=(b1 _ g).1;omega) rfl,?_⟩
  refine PC.ok (Lb d9 sM) ?_;rintro b6 i4 b2;obtain⟨i,j,k,rfl⟩:=b2.sl;refine⟨_,_,_,rfl,Ok.mk ?_⟩;rw[b0 (Zx (by rw[l];rfl))];exact b2.Fw n
 ·rintro b6 i5 b3
  obtain⟨i,j,k,rfl⟩:=b3.sl;refine⟨_,_,_,rfl,Ok.mk ?_⟩;rw[b0 (Zq (by
   intro l;have:f++c=[]:=by simpa using l
   rw[this]at a9;simp at a9;omega))]
  exact b3.Fw n
end
def g_(P:kz):List Value:=[QH P.bk,QH P.agg,QH P.field,QH P.op,QH P.arg,QH P.expect,QH P.key]
abbrev rW(P:kz):Value:=.agg (g_ P).toArray
def BZ(P:kz):jf XG 49 (g_ P)=true:=kR
section
variable {w w':World} {D:XM}
def Bf{tn n l o:Nat}(p:eP w)(h:bl w D N d tn t l)(q:∀b,D b->b<w.heap.size):
  ZH 82 #[.agg #[.slice d tn n,.slice t l o],rW c9] w (Ok λf w'=>f= QH (jh N c9)/\ai w w'):=by
 refine xr (PA.mk λv r x c=>PA.mk λs m y P=>?_);have c:=m.get c id;have e:=r.then m;have a:(c9.agg<0\/c9.key<0\/c9.expect< -1)->Ok (λf w'=>f= QH (jh N c9)/\ai w w') (.returned (QH 1)) s:=λg=>Ok.mk ⟨by unfold jh;rw[Zx g],e⟩;refine⟨_,ae P rfl,al.dec (λi=>a (.inl i)) (λi=>⟨_,ae P rfl,al.dec (λj=>a (.inr (.inl j))) (λj=>⟨_,ae P rfl,al.dec (λk=>a (.inr (.inr k))) (λk=>⟨_,_,_,_,_,_,ae c rfl,ae c rfl,_,ae P rfl,_,ae P rfl,_,ae P rfl,_,ae P rfl,PC.ok (wq (p.af e) (h.af e) λb g=>by have:=q b g;omega) ?_⟩)⟩)⟩)⟩;rintro _ z ⟨rfl,u⟩;exact⟨_,rfl,Ok.mk ⟨by unfold jh;rw[Zq (by rintro(h|h|h);exact i h;exact j h;exact k h)],e.then u⟩⟩
def Dw(b:∀c∈q,aN c)(P:Int):0<=fu q P/\fu q P<=9223372036854775807:=by
 unfold fu;split
 ·omega
 ·by_cases a:P.toNat<q.length
  ·have:=b _ (XY a)
   unfold aN at this;simp only[QQ,Qq a,Option.getD_some];omega
  ·simp only[QQ,Q7 (Nat.le_of_not_lt a),Option.getD_none]
   omega
def Lu(P a:List Int):(jN P a).length=max P.length a.length:=by unfold jN;rw[rb]
def PO(a b:List Int)(e:∀P∈a,aN P)(f:∀P∈b,aN P):∀P∈jN a b,aN P:=by
 intro P c;unfold jN oU at c;obtain⟨d,-,rfl⟩:=Xk.1 c;have g:=Dw e d;have h:=Dw f d;unfold aN;omega
def iZ(Q:Row aM 8 w D d a q)(hl:u<=9223372036854775807)(hn:q.length<=20000000):
  ZH 89 #[rW c9,QH e,.slice d a c,QH u] w (Ok λv w'=>∃d a k G,v= .tuple #[jJ (aY c9 e q u).2 d a k,QH (aY c9 e q u).1]/\Row aM 8 w' G d a (aY c9 e q u).2.aJ/\(∀P,G P->w.heap.size<=P/\P<w'.heap.size)/\ai w w'):=by
 have a9:=Q.len;have A:=Q.rX;refine xt (PA.mk λB k1 s1 K=>PA.mk λL R s2 S=>?_);have K:=R.get K id;have k:=k1.then R;have l:∀{n:World} {no:Int},ai L n->aY c9 e q u=(no,rf)->BY XG 55 (XP B.heap.size) (jJ rf none 0 0) n λw4=>ri XG 55 (XP B.heap.size) w4 λv=>Ok (λv w'=>∃d a k G,v= .tuple #[jJ (aY c9 e q u).2 d a k,QH (aY c9 e q u).1]/\Row aM 8 w' G d a (aY c9 e q u).2.aJ/\(∀P,G P->w.heap.size<=P/\P<w'.heap.size)/\ai w w') (.returned (.tuple #[v,QH no])) w4:=λ{n no} C T=>
  aC (bf rf none 0 0) (C.get S id) rfl λw4 m s4 M=>ay (bf rf none 0 0) M (Ok.mk ⟨none,0,0,λ_=>False,by rw[T],by rw[T];exact Row.nil _ _,λP b=>b.elim,(k.then C).new m λP b=>.inr oM⟩)
 refine al.dec (λU=>l (aj.refl _) ?_) (λU=>al.dec (λh2=>l (aj.refl _) ?_) (λh2=>al.dec (λC=>l (aj.refl _) ?_) (λC=>PC.ok (mN (A.af k)) ?_)))
 ·unfold aY;rw[Zx (.inl U)]
 ·unfold aY;rw[Zx (.inr (.inl oM))]
 ·unfold aY;rw[Zx (.inr (.inr C))]
 rintro _ _ ⟨rfl,rfl⟩;have N:¬(e<0\/(q.length:Int)<=e\/u<0):=by rintro(h|h|h)<;>omega
 refine⟨_,rfl,al.dU (λJ=>l (aj.refl _) ?_) (λJ=>al.dU (λE=>l (aj.refl _) ?_) (λE=>λn V=>?_))⟩
 ·unfold aY;rw[Zq N,Zx (.inl J)]
 ·unfold aY;rw[Zq N,Zx (.inr E)]
 have hg:=Dw A.yd e;have wl:XH .i64 (u+1)=u+1:=wrap_i64 bb;have ws:XH .i64 (fu q e+1)=fu q e+1:=wrap_i64 (by unfold aN;have:fu q e≠9223372036854775807:=J;omega);have W:aY c9 e q u=(0,⟨e,XH .i64 (fu q e+1),XH .i64 (u+1),jN q [],c9.bk,c9.agg,c9.field,c9.op,c9.arg,c9.key⟩):=by
  unfold aY;rw[Zq N,Zq (by rintro(h|h);exact J h;exact E h),wl,ws]
 have F:ai L n:=V.keep;have s3:n.heap.size=L.heap.size:=by rw[V.heap]
 have X:=k.then F;have y:=F.get K id;have Y:=F.get S id;have jl:(jN q []).length<=20000000:=by rw[Lu];simp;omega
 have jI:∀a0∈jN q [],aN a0:=PO q [] A.yd sM;have z:¬(n.heap.size<=w.heap.size):=oM
 have H:∀{w4 r:World} {f:XU} {i j x:Nat},ai w r->Own r 3 1 f i j (ints (jN q []))->(∀P,aI f=some P->n.heap.size<=P/\P≠x)->r.heap[B.heap.size]? =some (.cells (aF rf none 0 0).toArray 55 (0,0))->r.heap[x]? =some (.cells #[QH 0,QH 0,QH (XH .i64 (u+1)),.slice f i j,QH c9.bk,QH c9.agg,QH c9.field,QH c9.op,QH c9.arg,QH c9.key] 55 (0,0))->n.heap.size<=x->
   PS r ⟨x,0,none⟩ (QH e) λa4=>PS a4 ⟨x,0+1,none⟩ (QH (XH .i64 (fu q e+1))) λZ=>ri XG 55 (XP x) Z λa5=>BY XG 55 (XP B.heap.size) a5 Z λa2=>ri XG 55 (XP B.heap.size) a2 λa6=>Ok (λv w'=>∃d a k G,v= .tuple #[jJ (aY c9 e q u).2 d a k,QH (aY c9 e q u).1]/\Row aM 8 w' G d a (aY c9 e q u).2.aJ/\(∀P,G P->w.heap.size<=P/\P<w'.heap.size)/\ai w w') (.returned (.tuple #[a6,QH 0])) a2:=λ{w4 r f i j x} E s o hz a7 b0=>by
  refine PS.mk a7 sM λw6 g s6 I=>PS.mk I sM λw7 O s7 g7=>?_;have a8:=O.get (g.get hz oM) oM;refine ay (cs:=aF ⟨e,XH .i64 (fu q e+1),XH .i64 (u+1),jN q [],c9.bk,c9.agg,c9.field,c9.op,c9.arg,c9.key⟩ f i j) (bf _ _ _ _) g7 (aC (bf _ _ _ _) a8 rfl λw8 k8 s8 g8=>ay (bf _ _ _ _) g8 (Ok.mk ⟨f,i,j,λP=>aI f=some P,by rw[W],?_,λP b=>⟨by have:=o P b;omega,?_⟩,?_⟩))
  ·rw[W]
   have a3:=(((s.keep g (dq.2 λP b t=>(o P b).2 t)).keep O (dq.2 λP b t=>(o P b).2 t)).keep k8 (dq.2 λP b t=>by have:=o P b;omega))
   exact(⟨⟨_,λ_=>False,a3,jV.2 ⟨rfl,jI⟩,λ_ h=>h.elim⟩,λP b=>b,λP b=>a3.lt b⟩:aV aM 3 (λP=>aI f=some P) w8 f i j (jN q [])).row dC ba
  ·have:=s.lt b;omega
  ·exact((E.new g λP b=>.inr oM).new O λP b=>.inr oM).new k8 λP b=>.inr oM
 refine⟨λP=>n.heap.size<=P,z,_,ae y rfl,z,_,ae y rfl,z,_,ae y rfl,z,_,ae y rfl,z,_,ae y rfl,z,_,ae y rfl,PC.ok (yP ((A.af k).af F) (Ints.nil _)) ?_,PA.mk λw4 m s4 M=>⟨ai.keep m,PC.ok (yP (((A.af k).af F).af m) (Ints.nil _)) ?_⟩⟩
 ·rintro _ w4 ⟨f,i,j,rfl,s,m,o⟩
  have z4:=m.size;refine⟨_,_,_,rfl,ai.keep m,PA.mk λr p s5 g5=>⟨ai.keep p,aC (cs:=[QH 0,QH 0,QH (XH .i64 (u+1)),.slice f i j,QH c9.bk,QH c9.agg,QH c9.field,QH c9.op,QH c9.arg,QH c9.key]) (bf ⟨0,0,XH .i64 (u+1),[],c9.bk,c9.agg,c9.field,c9.op,c9.arg,c9.key⟩ f i j) g5 rfl λw6 g s6 I=>⟨g.mono λP _ t=>oM,H (w4:=w4) (((X.then m).then p).new g λP b=>.inr oM) ((s.af p).keep g (dq.2 λP b t=>by have:=s.lt b;omega)) (λP b=>⟨o P b,by have:=s.lt b;omega⟩) (g.get (p.get (m.get Y id) id) oM) I oM⟩⟩⟩
 ·rintro _ r ⟨f,i,j,rfl,s,p,o⟩
  have z5:=p.size;refine⟨_,_,_,rfl,ai.keep p,aC (cs:=[QH 0,QH 0,QH (XH .i64 (u+1)),.slice f i j,QH c9.bk,QH c9.agg,QH c9.field,QH c9.op,QH c9.arg,QH c9.key]) (bf ⟨0,0,XH .i64 (u+1),[],c9.bk,c9.agg,c9.field,c9.op,c9.arg,c9.key⟩ f i j) (p.get M id) rfl λw6 g s6 I=>⟨g.mono λP _ t=>oM,H (w4:=w4) (((X.then m).then p).new g λP b=>.inr oM) (s.keep g (dq.2 λP b t=>by have:=o P b;omega)) (λP b=>⟨by have:=o P b;omega,by have:=o P b;omega⟩) (g.get (p.get (m.get Y id) id) oM) I oM⟩⟩
