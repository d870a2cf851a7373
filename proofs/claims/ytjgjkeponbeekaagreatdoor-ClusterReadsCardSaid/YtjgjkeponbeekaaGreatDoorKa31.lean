import Derived.Test.YtjgjkeponbeekaaGreatDoorKa30
set_option linter.all false
set_option maxHeartbeats 4000000
set_option maxRecDepth 20000
namespace Go.Proofs.YtjgjkeponbeekaaGreatDoor
open Go.ar
section
variable {w w' wz A B w1:World} {D:Nat->Prop} {a:Option Addr} {n c:Nat} {l:List cy}
def Ik{J j g:Int}{most:Nat}(K:Row vF 120 w D a n l)(hD:∀b,D b->b<w.heap.size)(hm:most<=1000)(hl:l.length<=20000000)(k2:aH g):
  Calls XP 88 #[.slice a n c,XH J,XH j,XH g,XH (most:Int)] w (Ok λa6 w'=>∃P,a6= .tuple #[P,.bool (jO l J j g most).2]/\py vF 133 w (jO l J j g most).1 P w'):=by
 obtain⟨V,c3,hL,e9⟩:=ef.boxes (N:=Lh) K;have l0:V.length=l.length:=by rw[<-c3,Q8]
 obtain⟨own,r⟩:∃own,own=V.filter λb=>Tn J j b.x:=⟨_,rfl⟩
 obtain⟨k,hf⟩:∃k:Nat,k=(max g 0).toNat:=⟨_,rfl⟩
 have c7:own.map (·.x)=l.filter λd=>d.ev.aS==J&&d.ev.agg==j:=by rw[r,<-c3,List.filter_map];rfl
 have f2:jO l J j g most=(((own.drop k).take most).map (·.x),decide (most<(own.drop k).length)):=by
  unfold jO;rw[<-c7,<-hf];simp only[List.map_take,List.map_drop,XZ,Q8]
 rw[f2];have h3:own.length<=20000000:=by rw[r];have:=List.length_filter_le (λb:Bx cy=>Tn J j b.x) V;omega
 refine Cv (PA.mk λw6 k6 s6 g6=>PA.mk λx k7 s7 g7=>PA.mk λw8 k8 s8 g8=>PA.mk λm k9 s9 g9=>PA.mk λo a0 l3 f5=>PA.mk λp W l4 f6=>PA.mk λf8 Q l5 g0=>?_);have a7:=(((k8.then k9).then a0).then W).then Q;have c8:=a7.get (show x.heap[w6.heap.size]? =_ from g7) id;have k5:(if 0>(if False then(0:Int)else g)then 0 else g)=(k:Int):=by simp;split<;>omega
 refine⟨_,ae ((((k9.then a0).then W).then Q).get g8 id) rfl,?_⟩;have g1:(if 0>g then(0:Int)else g)=(k:Int):=by rw[hf];split<;>omega
 rw[g1];refine PS.mk ((((k9.then a0).then W).then Q).get g8 id) sM λF L l6 g2=>?_;have c9:F.heap[x.heap.size]? =some (.cells #[XH (k:Int)] 3 (0,0)):=g2;have d0:ai w f8:=((k6.then k7).then a7)
 have d1:ai w F:=d0.new L λb e=>.inr (by have e:b=x.heap.size:=e;omega);have d2:=L.get ((k7.then a7).get g6 id) (λd=>by have d:w.heap.size=x.heap.size:=d;omega);have d3:=L.get c8 (λd=>by have d:w6.heap.size=x.heap.size:=d;omega);have d6:=L.get (((a0.then W).then Q).get g9 id) (λd=>by have d:w8.heap.size=x.heap.size:=d;omega);have d7:=L.get ((W.then Q).get f5 id) (λd=>by have d:m.heap.size=x.heap.size:=d;omega);have d9:=L.get (Q.get f6 id) (λd=>by have d:o.heap.size=x.heap.size:=d;omega);have e2:=L.get g0 (λd=>by have d:p.heap.size=x.heap.size:=d;omega);refine PC.ok (φ:=λa6 w'=>a6= .func (.func 214) #[] #[ZQ F.heap.size,.pointer (some ⟨F.heap.size+1,0,none⟩)]/\w'.heap[F.heap.size]? =some (.cells #[.slice a n c] 50 (0,0))/\(∃d ff,w'.heap[F.heap.size+1]? =some (.cells #[.func (.func 148) #[] #[ZQ w.heap.size,ZQ w6.heap.size]] d ff))/\ai F w'/\w'.heap.size=F.heap.size+2)
  (Aq (PA.mk λw3 k3 s3 g3=>PA.mk λw4 k4 s4 g4=>Ok.mk ⟨by rw[s3],k4.get g3 id,⟨_,_,by rw[<-s3];exact g4⟩,k3.then k4,oM⟩)) ?_
 rintro _ wz ⟨rfl,g5,h0,z,sz⟩;have i:=d1.then z;have a8:=z.get d2 id;have a9:=z.get d3 id;have b0:=z.get d6 id;have b1:=z.get c9 id;have M:=z.get d7 id;have N:=z.get d9 id;have X:=z.get e2 id;have Y:p.heap.size<wz.heap.size:=ax X;have d4:m.heap.size<wz.heap.size:=ax M;have d5:o.heap.size<wz.heap.size:=ax N;have b2:∀b,D b->b<wz.heap.size/\b≠p.heap.size:=λb e=>⟨by have:=hD b e;have:=i.size;omega,λd=>by have:=hD b e;omega⟩
 have e3:∀b∈V,Lh.In wz D b:=λb e=>(e9 b e).af i λ_ _ K=>K;have e4:∀{c0:Nat} {b:Bx cy},own[c0]? =some b->b∈V:=λ{c0 b} e=>by
  have:=QZ e;rw[r]at this;exact(List.mem_filter.1 this).1
 refine⟨_,rfl,214,_,rfl,kR,Unit,(),λ_=>Oh wz p.heap.size own k most,λP _ A=>P= .ret/\UA wz p.heap.size m.heap.size o.heap.size own k most A,
  λf R=>∃b,own[f.length]? =some b/\R=[XH (f.length:Int),El b.x b.a b.n b.c],λC=>C.length=own.length,?_,λ_ f A B O u=>O.d_ Y u,λP f A B hx u=>⟨hx.1,hx.2.d_ ⟨Y,d4,d5⟩ ⟨oM,oM⟩ u⟩,?_,?_,?_,?_,trivial⟩
 ·intro w1 hk hs
  refine⟨ai.af hk,oM,none,0,0,λ_=>False,hk.get X id,?_,λb e=>e.elim,Qj _⟩;simpa using aO.nil w1
 ·rintro _ f A O l7 l8 l9 m0 m1 ta tn tc m2 m3 m4 m5 m6 m7 m8 m9 n0 ⟨b,e,he⟩
  simp only[gG,aC,List.cons_append,List.nil_append,List.cons.injEq,Value.agg.injEq,Array.mk.injEq,Value.int.injEq,XX,Value.bool.injEq,and_true,true_and]at he;obtain⟨rfl,rfl,rfl,rfl,⟨rfl,rfl,rfl⟩,rfl,rfl,rfl,rfl,rfl,rfl,rfl,rfl,rfl⟩:=he;have n1:f.length<own.length:=(Qv.1 e).1;refine PA.mk λn3 h8 n4 h9=>az (kW b.x b.a b.n b.c) h9 rfl λi0 i1 n8 i2=>?_;have c1:ai A i0:=h8.new i1 λb e=>.inr (by have e:b=A.heap.size:=e;omega);refine⟨ai.af c1,λb3 u=>?_⟩;have c2:=(O.ah c1).d_ Y u;have i3:=u.1.get i2 (λd=>by have d:A.heap.size=wz.heap.size+1:=d;omega);have n9:=u.2;have Z:=c2.af;have c4:∀R:List Value,(((own.take (f++[R]).length).drop k)=if f.length<k then []else((own.take f.length).drop k)++[b]):=λR=>by
   rw[QX,List.length_singleton,Qw,e];have i4:(own.take f.length).length=f.length:=by rw[Qy];omega
   split
   ·rename_i s
    exact List.drop_eq_nil_of_le (by rw[QX,i4];simp;omega)
   ·rename_i s
    rw[List.drop_append_of_le_length oM];rfl
  obtain⟨q,y,E,H,S,G,v,t,s,h6⟩:=c2;have a1:=t.len dC;rw[Q8,XZ,Qy,X2 oM]at a1;refine⟨_,ae (Z.get b1 (λd=>by have d:x.heap.size=p.heap.size:=d;omega)) rfl,al.dec (λo0=>⟨ak.refl _,?_⟩) (λo1=>⟨_,_,_,ae v rfl,_,ae (Z.get b0 (λd=>by have d:w8.heap.size=p.heap.size:=d;omega)) rfl,al.dec (λi5=>?_) (λi6=>λd8 i7=>?_)⟩)⟩
  ·refine⟨q,y,E,H,S,G,v,?_,s,h6⟩
   rw[c4,if_pos oM];rw[List.drop_eq_nil_of_le (by rw[Qy];omega)]at t;exact t
  ·have e6:H=most:=oM
   have b4:=Z.get M (λd=>by have d:m.heap.size=p.heap.size:=d;omega);have b5:=Z.get N (λd=>by have d:o.heap.size=p.heap.size:=d;omega);refine⟨_,_,_,ae v rfl,PS.mk b4 sM λo2 e0 o3 i8=>PS.mk (e0.get b5 (λd=>by have d:o.heap.size=m.heap.size:=d;omega)) sM λi9 e1 o4 j0=>?_⟩;have T:ak (λb=>b=m.heap.size\/b=o.heap.size) b3 i9:=(e0.mono λb _ d=>.inl d).then (e1.mono λb _ d=>.inr d);have j1:(own.drop k).take most=(own.take f.length).drop k:=by
    rw[<-e6,a1,List.drop_take]
   refine⟨T.mono λb _ e=>⟨by rcases e with rfl|rfl<;>omega,by rcases e with rfl|rfl<;>omega⟩,.inl rfl,rfl,(q.mono λb _ d=>.inl d).then (T.mono λb _ d=>.inr d),j0,by rw[XZ];omega,E,H,S,G,e1.get i8 (λd=>by have d:m.heap.size=o.heap.size:=d;omega),?_,s⟩;rw[j1];exact t.af T λb e d=>by have:=s b e;rcases d with rfl|rfl<;>omega
  ·have U:ai b3 d8:=i7.af
   have c5:=(e3 b (e4 e)).af Z λb e d=>(b2 b e).2 d;have e7:Row aJ 8 d8 D b.a b.n b.x.ev.aP:=c5.1.ah U;have e8:b.x.ev.Ok:=c5.2;refine⟨λ_=>False,id,_,_,_,ae (U.get v id) rfl,au (kW b.x b.a b.n b.c) (U.get i3 id) (PC.ok (CQ e7 λb e=>by have:=(b2 b e).1;have:=U.size;omega) ?_)⟩;rintro _ o5 ⟨f0,n2,f1,G2,rfl,j2,b6,b7⟩;have o6:=U.size;have o7:=b7.size;refine⟨_,_,_,_,_,_,_,_,_,_,_,_,_,_,_,rfl,b7,PA.mk λo8 b8 o9 j3=>⟨b8,?_⟩⟩;have a2:=(U.then b7).then b8;refine eV (c:=vF) (x:=b.x) (t.ah a2) QP j3 (D:=G2) ⟨f0,n2,f1,rfl,j2.ah b8,e8⟩ (λb e=>⟨by have:=b6 b e;omega,λd=>by have:=t.aB b (t.self b d);have:=b6 b e;omega⟩) (by rw[Q8,XZ,Qy];unfold aK;omega) (by rw[Q8,XZ,Qy];unfold maxLen;omega) λa' c' p0 F' f3 b9 j4=>⟨_,_,_,rfl,?_⟩
   have h:∀b,aF E=some b->wz.heap.size+2<=b:=λb e=>s b (t.self b e);have j5:¬aF E=some p.heap.size:=λd=>by have:=h _ d;omega
   have p1:=b9.size;have p2:=a2.size;have I:∀b,F' b->wz.heap.size+2<=b:=λb e=>by
    rcases j4 b e with h7|h7|h7
    ·exact s b h7
    ·have:=b6 b h7;omega
    ·omega
   refine PS.mk (b9.get (a2.get v id) j5) sM λj6 e5 p3 j7=>?_;have T:ak (λb=>aF E=some b\/b=p.heap.size) b3 j6:=((ai.af a2).then (b9.mono λb _ d=>.inl d)).then (e5.mono λb _ d=>.inr d);refine⟨T.mono λb _ e=>⟨?_,?_⟩,⟨(q.new (T.mono λb _ d=>d) λb e=>e.elim (λd=>.inr (by have:=h b d;omega)) .inl),oM,a',H+1,c',F',j7,?_,I,oM⟩⟩
   ·rcases e with e|rfl
    ·have:=h b e;omega
    ·omega
   ·rcases e with e|rfl
    ·have:=h b e;omega
    ·omega
   ·rw[c4,if_neg oM,Q3]
    exact f3.af e5 λb e d=>by have d:b=p.heap.size:=d;have:=I b e;omega
 ·intro f4 Rx hR _ p4 hy w1 j8 f7
  refine Calls.mono (SF (own:=own) (f:=k) (most:=most) (R:=f4) (Rx:=Rx .ret) (R1:=m.heap.size) (R2:=o.heap.size) Y a8 a9 oM oM ⟨_,_,z.size|>λ_=>g5⟩ oM h0 oM (hL.ah i) b2 r oM hR (λf R A O j9 u hN=>(hy () f R A O j9 u hN).mono ?_) j8 f7) ?_
  ·rintro b A' (K|⟨q,P,⟨rfl,y⟩,v⟩)
   ·exact .inl K
   ·exact .inr ⟨q,y,v⟩
  ·rintro d A' ⟨hv,K⟩
   refine⟨hv,?_⟩;rcases K with⟨q,C,y,v⟩|⟨q,y⟩
   ·exact .inl ⟨q,(),C,y,v⟩
   ·exact .inr ⟨.ret,[],⟨rfl,q⟩,y⟩
 ·rintro _ C A O c6 hm
  obtain⟨q,y,E,H,S,G,v,t,s,h6⟩:=O;have a1:=t.len dC;rw[c6,List.take_length]at t;rw[c6,List.take_length,Q8,XZ]at a1;have b4:=q.get M (λd=>by have d:m.heap.size=p.heap.size:=d;omega);have b5:=q.get N (λd=>by have d:o.heap.size=p.heap.size:=d;omega);refine⟨_,_,_,ae v rfl,PS.mk b4 sM λp5 a3 p6 k0=>PS.mk (a3.get b5 (λd=>by have d:o.heap.size=m.heap.size:=d;omega)) sM λp7 a4 p8 k1=>?_⟩;refine⟨a4.get (a3.get hm (λd=>by have d:wz.heap.size=m.heap.size:=d;omega)) (λd=>by have d:wz.heap.size=o.heap.size:=d;omega),λp9 u=>?_⟩;have a5:=u.1;have f9:=a5.get (a4.get k0 (λd=>by have d:m.heap.size=o.heap.size:=d;omega)) (λd=>by have d:m.heap.size=wz.heap.size:=d;omega);have h1:=a5.get k1 (λd=>by have d:o.heap.size=wz.heap.size:=d;omega);refine⟨_,_,_,ae f9 rfl,_,ae h1 rfl,Ok.mk ⟨_,?_,E,H,S,G,rfl,?_,?_,λb e=>by have:=s b e;have:=i.size;omega⟩⟩
  ·rw[Xv (by rw[XZ];omega)]
  ·rw[Qz (by rw[XZ];omega)]
   exact((t.af a3 λb e d=>by have d:b=m.heap.size:=d;have:=s b e;omega).af a4 λb e d=>by have d:b=o.heap.size:=d;have:=s b e;omega).af a5 λb e d=>by have d:b=wz.heap.size:=d;have:=s b e;omega
  ·refine(((i.new q λb e=>.inr (by have e:b=p.heap.size:=e;omega)).new a3 λb e=>.inr (by have e:b=m.heap.size:=e;omega)).new a4 λb e=>.inr (by have e:b=o.heap.size:=e;omega)).new a5 λb e=>.inr (by have e:b=wz.heap.size:=e;have:=i.size;omega)
 ·rintro f A ⟨-,hx⟩ hm
  refine⟨hm,λq0 u=>?_⟩;obtain⟨q,y,h2,E,H,S,G,v,t,s⟩:=hx.d_ ⟨Y,d4,d5⟩ ⟨oM,oM⟩ u;refine⟨_,_,_,ae v rfl,_,ae y rfl,Ok.mk ⟨_,by rw[decide_eq_true h2],E,H,S,G,rfl,t,?_,λb e=>by have:=s b e;have:=i.size;omega⟩⟩;exact i.new q λb e=>.inr (by rcases e with e|e|e<;>omega)
end
def yW(b:aM)(c:List aj)(d e a:Int):gA:=⟨0,(0,0),⟨0,[]⟩,(jO (cm b c).entries d e a 32).1,[],(jO (cm b c).entries d e a 32).2⟩
variable{A e m:Int}
section
variable {w w' w0 w1 w2:World} {p:Nat} {F E D:Nat->Prop} {cls:Nat->Nat} {h:jh} {c:bP} {self:Int} {X:bj}
def Jv(t:bO w p F c self X)(u:aH A):Calls XP 54 #[ZQ p,XH e,XH m,XH A] w (Ok λv w'=>dO w (yW c.decl X.S.l e m A) v w'/\ai w w'):=by
 obtain⟨K,h,cls,l⟩:=t;refine lI (PA.mk λx d L y=>PC.ok (BA (cu.ah l d)) ?_);rintro _ _ ⟨rfl,rfl⟩;have z:=cu.ah l d;have a:cO x h.bp (λb=>F b/\cls b=4) c.decl c.every.toNat X.S.l:=z.at' 4;have B:=(vE c.decl X.S.l a.1.2.2.2).1;refine⟨_,rfl,_,_,FY,PC.ok (Eo a) ?_⟩;rintro _ M ⟨N,O,P,G,rfl,n,f,Q⟩;refine⟨_,_,_,rfl,PC.ok (Ik (most:=32) (n.row dC (by unfold aK;omega)) n.aB oM B u) ?_⟩;rintro _ C ⟨R,rfl,g,i,j,E,rfl,o,k,q⟩;have H:=o.aB;have S:=f.size;have T:=k.size;have U:(jO (cm c.decl X.S.l).entries e m A 32).1.length<=32:=by unfold jO;rw[Qy];omega
 have I:ai w C:=(d.then f).then k;refine⟨_,_,_,_,rfl,az (gK (yW c.decl X.S.l e m A) none 0 0 g i j none 0 0) (k.get (f.get y id) id) rfl λV r W J=>au (gK (yW c.decl X.S.l e m A) none 0 0 g i j none 0 0) J (Ok.mk ⟨?_,I.new r λb a=>.inr (by have a:b=w.heap.size:=a;omega)⟩)⟩;refine⟨none,0,0,g,i,j,none,0,0,E,rfl,cU _ _,(o.af r λb a s=>by have s:b=w.heap.size:=s;have:=q b a;omega).row dC (by show(jO (cm c.decl X.S.l).entries e m A 32).1.length*120<=aK;unfold aK;omega),cU _ _,λb a=>⟨by have:=q b a;omega,by have:=H b a;omega⟩⟩
end
structure fG where
 kind:Int
 n:Int
 m:Int
 cmd:lF
structure fG.Ok (s:fG):Prop where
 kind:aH s.kind
 n:aH s.n
 m:aH s.m
 cmd:s.cmd.Ok
def mC(a:fG):List Value:=[XH a.kind,XH a.n,XH a.m]++gP a.cmd
abbrev iN(a:fG):Value:=.agg (mC a).toArray
structure dS where
 aD:List bj
 eg:List bR
 now:Int
def tS:bR:=⟨0,0,0,[],[]⟩
def eE(b:List bR)(a:Int):Option bR:=if 0<=a then b[a.toNat]? else none
def gN(a:List bR)(b:Int):List bR:=if(eE a b).isSome then a.eraseIdx b.toNat else a
def GU(a b:List bR):List bR:=a++b.take (1024-a.length)
def eD(b:List bj)(a:Int):Option bj:=if 0<=a then b[a.toNat]? else none
def iI(c:bP)(d:Int)(b:bj)(a:fG):gA×bj:=
 if a.kind=1 then(if(eF c d b a.cmd).1≠0 then bz (eF c d b a.cmd).1 else Hj (eF c d b a.cmd).2.1,(eF c d b a.cmd).2.2)else
 if a.kind=7 then(bz (vM c b a.m).1,(vM c b a.m).2)else
 if a.kind=8 then(bz (fJ c b).1,(fJ c b).2)else
 if a.kind=9 then(yW c.decl b.S.l a.cmd.aS a.cmd.agg a.m,b)else
 if a.kind=10 then(TC c.decl b.S.l a.cmd.aS a.cmd.agg,b)else
 if a.kind=11 then(Ac c.decl b.S.l a.cmd.field a.m,b)else
 (bz 0,{b with D:=b.D.OT a.m})
def dS.put(a:dS)(b:Int)(c:bj)(d:List bR):dS:=⟨a.aD.set b.toNat c,GU a.eg d,a.now⟩
def jW(c:bP)(b:dS):Option bR->gA×dS
 |none=>(bz 14,b)
 |some a=>match eD b.aD a.ng with
  |none=>(bz 1,b)
  |some d=>(bz (cg c a.ng d a).2.1,b.put a.ng (cg c a.ng d a).2.2 (cg c a.ng d a).1)
def tT(a:dS)(b:Nat):dS:=match a.aD[b]? with
 |none=>a
 |some c=>a.put b (pK b c a.now).2 (pK b c a.now).1
def Hd(a:dS):dS:=(List.range a.aD.length).foldl tT ⟨a.aD,a.eg,a.now+1⟩
def cE(c:bP)(b:dS)(a:fG):gA×dS:=
 if a.kind=3 then jW c ⟨b.aD,gN b.eg a.n,b.now⟩ (eE b.eg a.n)else
 if a.kind=5 then jW c b (eE b.eg a.n)else
 if a.kind=4 then(bz (if(eE b.eg a.n).isSome then 0 else 14),⟨b.aD,gN b.eg a.n,b.now⟩)else
 if a.kind=6 then(bz 0,Hd b)else
 if a.kind<1\/12<a.kind then(bz 2,b)else
 match eD b.aD a.n with
 |none=>(bz 1,b)
 |some d=>
  if a.kind=2 then(if(eD b.aD a.m).isNone\/a.m=a.n then(bz 1,b)else(bz 0,b.put a.n (gO c a.n d a.m b.now).2 (gO c a.n d a.m b.now).1))
  else((iI c a.n d a).1,⟨b.aD.set a.n.toNat (iI c a.n d a).2,b.eg,b.now⟩)
def zZ(a:bP):Int×dS:=((cz a 0).1,⟨List.replicate a.aD.toNat (cz a 0).2,[],0⟩)
structure Fit (k:Nat) (R:bj):Prop where
 evs:R.S.l.length<=16777216+300*k
 asked:R.fI.asked.length<=k
variable{n:Array Value}{U:Int}{g3:List (Bx aj)}{b1:List bR}{e0:List bj}{a9:List cD}{g1:List di}{a c:Nat}{f:Nat->Prop}{E:Nat×Nat}{R W:Operand}{d r:Option Addr}{h:Program}{g q:TypeId}{b9 v:Value}{M:Value->Prop}{b:World}{P:aM}{f0:bj}
def Fit.GZ{b c:bj}(h:Fit a b)(d:iU b c):Fit (a+1) c:=⟨by have:=h.evs;rcases d.evs with h|h<;>omega,by have:=h.asked;have:=d.asked;omega⟩
def Fit.mono(b:Fit a f0):Fit (a+1) f0:=⟨by have:=b.evs;omega,by have:=b.asked;omega⟩
def Fit.tick(c:Fit a f0)(d b:Int):Fit a (pK d f0 b).2:=⟨c.evs,by unfold pK;dsimp only;rw[jm.Pd];exact c.asked⟩
structure fH (k:Nat) (X:dS):Prop where
 aD:∀R∈X.aD,Fit k R
 MA:0<=X.now
 now:X.now<=k
section
variable {c:bP} {X:dS} {k:Nat} {i:Int} {R R':bj} {s:fG} {ms:List bR} {f:List bR}
def Da{i:Nat}:eD e0 (i:Int)=e0[i]? :=by
 unfold eD;rw[if_pos oM,Qx]
def jX(a:eD e0 i=some R):∃b:Nat,i=b/\e0[b]? =some R:=by
 unfold eD at a;split at a
 ·exact⟨i.toNat,oM,a⟩
 ·cases a
def Jp:eD e0 i=none↔i<0\/(e0.length:Int)<=i:=by
 unfold eD;split
 ·rw[List.getElem?_eq_none_iff];omega
 ·simp;omega
def JJ{i:Int}(a:i<0\/(b1.length:Int)<=i):eE b1 i=none:=by
 unfold eE;split
 ·exact Q7 oM
 ·rfl
def fH.mono(a:fH k X):fH (k+1) X:=⟨λR b=>(a.aD R b).mono,a.MA,by have:=a.now;omega⟩
def fH.eg(a:fH k X):fH k ⟨X.aD,f,X.now⟩:=⟨a.aD,a.MA,a.now⟩
def fH.put(b:fH k X)(c:Fit (k+1) R'):fH (k+1) (X.put a R' ms):=⟨λd e=>(List.mem_or_eq_of_mem_set e).elim (λf=>(b.aD d f).mono) λg=>g▸c,b.MA,by have b:=b.now;show X.now<=_;omega⟩
def fH.stay(a:fH k X){j:Nat}(b:Fit k R'):fH k (X.put j R' ms):=⟨λc d=>(List.mem_or_eq_of_mem_set d).elim (a.aD c) λe=>e▸b,a.MA,a.now⟩
def EG(a:eD X.aD i=some R):(⟨X.aD.set i.toNat R,X.eg,X.now⟩:dS)=X:=by
 obtain⟨d,rfl,b⟩:=jX a;obtain⟨e,c⟩:=Qv.1 b;rw[Qx,<-c,List.set_getElem_self]
def JG(b:s.kind=9\/s.kind=10\/s.kind=11):(cE c X s).2=X:=by
 unfold cE;rw[if_neg oM,if_neg oM,if_neg oM,if_neg oM,if_neg oM];split
 ·rfl
 ·rename_i R a
  rw[if_neg oM];have:(iI c s.n R s).2=R:=by
   unfold iI;rw[if_neg oM,if_neg oM,if_neg oM];split
   ·rfl
   split
   ·rfl
   rw[if_pos oM]
  rw[this];exact EG a
def ME(d:0<=i)(e:i<max 1 (min c.aD 64)):(cz c i).1=(cz c 0).1/\(cz c i).2=(cz c 0).2:=by
 have:eP c i=eP c 0:=by
  unfold eP within
  by_cases f:1<=c.aD/\c.aD<=64
  ·have a:(decide (0<=i)&&decide (i<=c.aD-1))=true:=by simp;omega
   have b:(decide (0<=(0:Int))&&decide (0<=c.aD-1))=true:=by simp;omega
   rw[a,b]
  ·have a:(decide (1<=c.aD)&&decide (c.aD<=64))=false:=by simp;omega
   simp only[a,Bool.false_and]
 unfold cz;rw[this];exact⟨rfl,rfl⟩
def Hf(b:(cz c i).1=0):1<=c.aD/\c.aD<=64/\cN c.decl=0/\eP c i=true:=by
 unfold cz at b;split at b
 ·contradiction
 rename_i d;split at b
 ·cases b
 ·rename_i a
  have a:eP c i=true:=by simpa using a
  have e:=a;unfold eP within at a;simp only[QK,decide_eq_true_eq]at a;exact⟨oM,oM,Classical.not_not.1 d,e⟩
end
section
variable {w w' w0 w1:World} {p q:Nat} {F D E T:Nat->Prop} {m:bR} {M:List bR} {va ea a:Option Addr} {vn vc en ec n c:Nat}
def yL(d:Row ml.jk 96 w D a n g3)(e:∀b,D b->b<w.heap.size):Calls XP 156 #[.slice a n c] w (Ok (py ml.jk 63 w g3)):=
 fV (vK sI dC d e λg w' f=>Ok.mk f)
def sf(I:Row aJ 8 w D va vn m.vec)(hD:∀a,D a->a<w.heap.size)(J:Row jj 96 w E ea en m.events)(T:∀a,E a->a<w.heap.size):
  Calls XP 96 #[gM m va vn vc ea en ec] w (Ok λa2 w'=>∃q r K s t L G,a2=gM m q r K s t L/\Row aJ 8 w' G q r m.vec/\Row jj 96 w' G s t m.events/\(∀a,G a->w.heap.size<=a/\a<w'.heap.size)/\ai w w'):=by
 obtain⟨i,U,l2,l3⟩:=ef.boxes (N:=ml) J;have b1:=I.dN;have b2:=I.len;have b3:=J.dN;have d0:=J.len;have d1:i.length=m.events.length:=by rw[<-U];simp
 refine yC (PA.mk λw1 V s1 W=>PA.mk λw2 y s2 g2=>⟨_,_,_,ae (y.get W id) rfl,PC.ok (bC (I.ah (V.then y)) λa B=>by have:=hD a B;omega) ?_⟩);rintro _ w3 ⟨l,n,o,M,rfl,X,z,A⟩;have a3:=X.aB;have z3:=z.size;refine⟨_,_,_,rfl,PS.mk (z.get (y.get W id) id) (by simp[dv]) λY N s4 Z=>⟨_,_,_,ae Z rfl,?_⟩⟩;have C:ai w Y:=((V.then y).then z).new N λa B=>.inr oM;refine PC.ok (yL (l2.ah C) λa B=>by have:=T a B;have:=C.size;omega) ?_;rintro _ w5 ⟨d,p,j,F5,rfl,F,u,b4⟩;have z5:=u.size;have k:∀a,aF d=some a->Y.heap.size<=a:=λa B=>b4 a (F.self a B);have a4:∀a,aF d=some a->a<w5.heap.size:=λa B=>F.aB a (F.self a B);refine⟨_,_,_,rfl,PS.mk (u.get Z id) (by simp[dv]) λv H s6 g6=>⟨_,_,_,ae g6 rfl,?_⟩⟩;have b5:ai w v:=(C.then u).new H λa B=>.inr oM;have b6:=H.get (u.get (N.get (z.get g2 id) oM) id) (show¬w1.heap.size=w.heap.size by omega);have b7:aO ml.jk 63 (λa=>aF d=some a) v d p j i:=F.alone.af H λa B b=>by have:=k a B;omega
 have a5:aO aJ 3 M v l n o m.vec:=((X.af N λa B b=>by have:=A a B;omega).ah u).af H λa B b=>by have:=A a B;omega
 refine⟨λmm a8 w'=>∃c:Nat,a8=c/\c<=p/\mm=p-c/\dt ml 63 v d p j i c w',⟨_,0,rfl,Qj _,rfl,dt.start b7⟩,?_⟩;rintro mm _ _ O ⟨c,rfl,hj,rfl,e⟩;have d2:=e.len;have P:ai w O:=b5.new e.af λa B=>.inr (by have:=k a B;have:=C.size;omega);have b8:¬aF d=some w.heap.size:=λb=>by have:=k _ b;omega
 have b9:¬aF d=some w1.heap.size:=λb=>by have:=k _ b;omega
 have g7:=e.af.get g6 b8;have c1:=e.af.get b6 b9;unfold aK at b3;refine al.dec (λd3=>λQ d8=>?_) (λd4=>?_)
 ·have f:ai O Q:=d8.af
  have a6:=e.ah f;obtain⟨g,rfl⟩:=e.some oM;have d5:=k g rfl;have c2:g<v.heap.size:=by have:=a4 g rfl;omega
  have R:i[c]? =some i[c]:=Qq oM;have x:=l3 i[c] (XY oM);generalize i[c]=bx at R x;have gx:=f.get g7 id;refine⟨λa=>a=g,by show w.heap.size≠g;omega,_,_,_,ae gx rfl,_,_,_,ae gx rfl,g,0,rfl,by omega,by omega,_,_,_,a6.cell rfl R (by show p*10<=aK;unfold aK;omega) 3 _ rfl,PC.ok (bC ((x.1.ah P).ah f) λa B=>by have:=T a B;have:=(P.then f).size;omega) ?_⟩;rintro _ w9 ⟨c0,n9,c9,G,rfl,a7,k9,hG⟩;refine⟨_,_,_,rfl,ai.af k9,g,0,rfl,oM,oM,?_⟩;have z7:=e.af.size;have z8:=f.size;refine(a6.ah k9).step (g:=g) rfl R (a7.row (bytes:=8) dC ?_) x.2 (λa0 hx=>⟨by have:=hG a0 hx;omega,a7.aB a0 hx⟩) c2 λd6 a9 c4 d7=>⟨c4.mono λa _ b=>(by simpa[aF]using b.symm),_,?_,c+1,aq oM,oM,rfl,a9⟩
  ·have:=x.1.dN;have h2:=x.1.len;rw[h2]at this;exact this
  ·omega
 ·obtain rfl:c=p:=oM
  obtain⟨Fd,S,c6⟩:=e.done;rw[U]at S;have z6:=e.af.size;have a1:aO aJ 3 M O l n o m.vec:=a5.af e.af λa B b=>by have:=k a b;have:=a3 a B;omega
  have b0:∀a,Fd a->w2.heap.size<=a:=λa B=>by
   rcases c6 a B with h|h
   ·have:=k a h;omega
   ·omega
  have c7:=S.aB;have c8:=a1.aB;refine au (dT m l n o d c j) g7 (az (dT m l n o d c j) c1 rfl λQ f s8 g8=>au (dT m l n o d c j) g8 (Ok.mk ⟨l,n,o,d,c,j,λa=>M a\/Fd a,rfl,?_,?_,?_,?_⟩))
  ·exact(((a1.af f λa B b=>by have b:a=w1.heap.size:=b;have:=A a B;omega).row dC (by rw[<-b2];exact b1)).mono λa B=>.inl B)
  ·exact(((show aO jj 63 Fd Q d c j m.events from S.af f λa B b=>by have b:a=w1.heap.size:=b;have:=b0 a B;omega).row dC (by unfold aK;omega)).mono λa B=>.inr B)
  ·rintro a (B|B)
   ·have:=A a B;have:=c8 a B;omega
   ·have:=b0 a B;have:=c7 a B;omega
  ·exact P.new f λa B=>.inr (by have B:a=w1.heap.size:=B;omega)
def dx(w:World)(q:Nat)(F:Nat->Prop)(M:List bR):Prop:=
 ∃(a:Option Addr) (n c:Nat) (d:List IU) (D:Nat->Prop),w.heap[q]? =some (.cells #[.slice a n c] 124 (0,0))/\aO Na 127 (λb=>aF a=some b) w a n c d/\d.map (·.m)=M/\(∀b∈d,b.In w D)/\(∀b,D b->F b/\aF a≠some b/\b≠q)/\(∀b,aF a=some b->F b/\b≠q)/\F q/\(∀b,F b->b<w.heap.size)/\M.length<=1024
def dx.af(j:dx w q F M)(e:ak T w w')(f:∀b,F b->¬T b):dx w' q F M:=by
 obtain⟨a,n,c,k,D,l,m,o,p,g,h,i,r,s⟩:=j;exact⟨a,n,c,k,D,e.get l (f q i),m.af e λb d=>f b (h b d).1,o,λb d=>(p b d).af e λb d=>f b (g b d).1,g,h,i,λb d=>Qk (r b d) e.size,s⟩
def dx.ah(a:dx w q F M)(b:ai w w'):dx w' q F M:=a.af b λ_ _ a=>a
def dx.aB(d:dx w q F M):∀b,F b->b<w.heap.size:=by obtain⟨a,n,c,f,D,g,h,i,j,k,l,m,e,o⟩:=d;exact e
def dx.len(b:dx w q F M):M.length<=1024:=by obtain⟨a,n,c,e,D,f,g,h,i,j,k,l,m,d⟩:=b;exact d
def JB:Calls XP 26 #[] w (Ok λc w'=>∃q F,c= ZQ q/\dx w' q F []/\(∀a,F a->w.heap.size<=a)/\ai w w'):=
 EV (PA.mk λw1 d f e=>Ok.mk ⟨_,λa=>a=w.heap.size,rfl,⟨none,0,0,[],λ_=>False,e,(aO.nil w1).mono (λa b=>b.elim) (λa b=>(by cases b)),rfl,sM,λa b=>b.elim,λa b=>(by cases b),rfl,λa b=>oM,sM⟩,λa b=>oM,d⟩)
def Jy(b:dx w q F M):Calls XP 28 #[ZQ q] w (Ok λd w'=>d= XH (M.length:Int)/\w=w'):=by
 obtain⟨a,n,c,i,D,e,f,g,j,k,l,m,o,p⟩:=b;have h:=f.len dC;exact rL ⟨q,0,rfl,_,_,_,ae e rfl,Ok.mk ⟨by rw[h,<-g,Q8],rfl⟩⟩
def zV(w0:World)(a:Option bR)(c:Value)(w:World):Prop:=
 ∃va vn vc ea en ec G,c= .tuple #[gM (a.getD tS) va vn vc ea en ec,.bool a.isSome]/\Row aJ 8 w G va vn (a.getD tS).vec/\Row jj 96 w G ea en (a.getD tS).events/\(∀b,G b->w0.heap.size<=b/\b<w.heap.size)
def xk(K:dx w q F M):Calls XP 63 #[ZQ q,XH e] w (Ok λj w'=>zV w (eE M e) j w'/\ai w w'):=by
 obtain⟨a,n,c,L,D,v,x,y,N,z,h6,h7,A,h9⟩:=K;have hn:=x.len dC;have a0:L.length=M.length:=by rw[<-y,Q8]
 refine pU (PA.mk λw1 h s1 B=>?_);have f:(e<0\/(M.length:Int)<=e)->mg XP 127 (ZQ w.heap.size) (gM tS none 0 0 none 0 0) w1 λk=>il XP 127 (ZQ w.heap.size) k λO=>Ok (λj w'=>zV w (eE M e) j w'/\ai w w') (.returned (.tuple #[O,.bool false])) k:=λP=>
  az (dT tS none 0 0 none 0 0) B rfl λk Q s4 R=>au (dT tS none 0 0 none 0 0) R (Ok.mk ⟨by rw[JJ P];exact⟨none,0,0,none,0,0,λ_=>False,rfl,cU _ _,cU _ _,λb d=>d.elim⟩,h.new Q λb d=>.inr (by have d:b=w.heap.size:=d;omega)⟩)
 refine al.dec (λC=>f (.inl C)) (λa1=>⟨q,0,rfl,_,_,_,ae (h.get v id) rfl,al.dec (λa2=>f (.inr oM)) (λC=>⟨q,0,rfl,_,_,_,ae (h.get v id) rfl,?_⟩)⟩);obtain⟨i,rfl⟩:∃i:Nat,e=i:=⟨e.toNat,oM⟩
 obtain⟨b,S,g,es,rfl,d,-,E,T,rfl,-⟩:=((x.ah h).row (bytes:=72) dC (by unfold aK;omega)).yV (i:=i) oM;have H:=N g (QZ E);have U:eE M (i:Int)=some g.m:=by
  unfold eE;rw[if_pos oM,Qx,<-y,Q9,E];rfl
 refine⟨b,S,rfl,oM,oM,bA (es:=dv g.m g.va g.vn g.vc g.ea g.en g.ec) (k:=5) (dT _ _ _ _ _ _ _) rfl (λV W=>by rw[Qx];exact T V W) (PC.ok (sf (H.1.ah h) (λb d=>by have:=A b (z b d).1;omega) (H.2.ah h) λb d=>by have:=A b (z b d).1;omega) ?_)⟩;rintro _ w2 ⟨l,m,o,p,r,s,G,rfl,X,Y,t,I⟩;refine bN (C_ _ _ _ _ _ _ _) ⟨rfl,az (dT _ _ _ _ _ _ _) (I.get B id) rfl λw3 u s3 Z=>au (dT _ _ _ _ _ _ _) Z (Ok.mk ⟨?_,(h.then I).new u λb d=>.inr (by have d:b=w.heap.size:=d;omega)⟩)⟩;have J:∀b,G b->¬b=w.heap.size:=λb d=>by have:=t b d;omega
 rw[U];exact⟨l,m,o,p,r,s,G,rfl,X.af u J,Y.af u J,λb d=>⟨by have:=t b d;omega,by have:=t b d;omega⟩⟩
def G_(z:dx w q F M)(hi:aH e):Calls XP 62 #[ZQ q,XH e] w (Ok λr w'=>zV w (eE M e) r w'/\dx w' q F (gN M e)/\ak F w w'):=by
 have m:=z.aB;refine pT (PA.mk λw1 A s1 T=>PC.ok (xk (z.ah A)) ?_);rintro _ j ⟨⟨va,vn,vc,ea,en,ec,G,rfl,K,L,k⟩,v⟩;have z2:=v.size;have U:=(z.ah A).ah v;obtain⟨x,g⟩:∃x,eE M e=x:=⟨_,rfl⟩
 rw[g]at K L⊢;refine bN (C_ _ _ _ _ _ _ _) ⟨_,rfl,PA.mk λw3 o s3 V=>az (dT _ _ _ _ _ _ _) V rfl λs t s4 W=>?_⟩;have X:ai w s:=((A.then v).then o).new t λb d=>.inr (by have d:b=j.heap.size:=d;omega);have N:dx s q F M:=(U.ah o).af t λb d f=>by have f:b=j.heap.size:=f;have:=m b d;omega
 have Y:=t.get (o.get (v.get T id) id) (show¬w.heap.size=j.heap.size by omega);have a7:∀b,G b->w1.heap.size<=b/\b<j.heap.size:=k;have Z:=(K.ah o).af t λb d f=>by have f:b=j.heap.size:=f;have:=k b d;omega
 have a2:=(L.ah o).af t λb d f=>by have f:b=j.heap.size:=f;have:=k b d;omega
 have last:∀{p:World} {B:List bR},ak (λb=>F b) s p->dx p q F B->gN M e=B->il XP 127 (ZQ j.heap.size) p λa0=>mg XP 127 (ZQ w.heap.size) a0 p λu=>il XP 127 (ZQ w.heap.size) u λa1=>Ok (λr w'=>zV w x r w'/\dx w' q F (gN M e)/\ak F w w') (.returned (.tuple #[a1,.bool x.isSome])) u:=λ{p B} h hf hM=>by
  have n1:¬F j.heap.size:=λf=>by have:=m _ f;omega
  have n2:¬F w.heap.size:=λf=>by have:=m _ f;omega
  refine au (dT _ _ _ _ _ _ _) (h.get W n1) (az (dT _ _ _ _ _ _ _) (h.get Y n2) rfl λu l s6 C=>au (dT _ _ _ _ _ _ _) C (Ok.mk ⟨?_,?_,?_⟩))
  ·have z5:=h.size;have z3:=o.size
   exact⟨va,vn,vc,ea,en,ec,G,rfl,(Z.af h λb d f=>by have:=k b d;have:=m b f;omega).af l λb d f=>by have f:b=w.heap.size:=f;have:=k b d;omega,(a2.af h λb d f=>by have:=k b d;have:=m b f;omega).af l λb d f=>by have f:b=w.heap.size:=f;have:=k b d;omega,λb d=>by have:=k b d;constructor<;>omega⟩
  ·rw[hM]
   exact hf.af l λb d f=>by have f:b=w.heap.size:=f;have:=m b d;omega
  ·exact((ai.af X).then h).new l λb d=>.inr (by have d:b=w.heap.size:=d;omega)
 refine al.mk (λE=>?_) (λE=>last (ak.refl _) N (by unfold gN;rw[g,E];rfl));obtain⟨m0,rfl⟩:=Option.isSome_iff_exists.1 E;have a3:0<=e:=by
  unfold eE at g;split at g
  ·assumption
  ·cases g
 unfold eE at g;rw[if_pos a3]at g;obtain⟨i,rfl⟩:∃i:Nat,e=i:=⟨e.toNat,oM⟩
 rw[Qx]at g;obtain⟨a8,a9⟩:=Qv.1 g;have a4:eE M (i:Int)=some m0:=by unfold eE;rw[if_pos oM,Qx];exact g
 have a5:gN M (i:Int)=M.eraseIdx i:=by unfold gN;rw[a4];rfl
 obtain⟨a,n,c,H,D,O,P,Q,f4,I,y,R,f8,f9⟩:=N;have hn:=P.len dC;have b0:H.length=M.length:=by rw[<-Q,Q8]
 refine⟨q,0,rfl,_,_,_,ae O rfl,PC.ok (iv (Es.one (c:=Na) (tz:=0) Dx kR P (show i<n by omega) (by unfold maxLen;omega) (R:=Ok λr w'=>r= .slice a (n-1) c/\aO Na 127 (λb=>aF a=some b) w' a (n-1) c (H.eraseIdx i)/\ak (λb=>aF a=some b) s w') λw' J hk=>Ok.mk ⟨rfl,J,hk⟩)) ?_⟩;rintro _ p ⟨rfl,a6,h⟩;refine⟨_,_,_,rfl,q,0,rfl,PS.mk (h.get O λf=>(y q f).2 rfl) sM λu l s6 C=>?_⟩;have S:ak (λb=>F b) s u:=(h.mono λb _ d=>(y b d).1).then (l.mono λb _ d=>by have d:b=q:=d;rw[d];exact R);refine last S ⟨a,n-1,c,H.eraseIdx i,D,C,a6.af l λb d f=>(y b d).2 f,?_,λb d=>((f4 b ((List.eraseIdx_sublist ..).subset d)).af h λb d=>(I b d).2.1).af l λb d f=>(I b d).2.2 f,I,y,R,λb d=>by have:=f8 b d;have:=S.size;omega,?_⟩ a5
 ·rw[<-Q,map_eraseIdx]
 ·have:=List.length_eraseIdx_le (l:=M) (i:=i);omega
def GV(g:dx w q F M){k lc:Nat}{R:List IU}(S:aO Na 127 (λb=>aF d=some b) w d k lc R)(a1:R.map (·.m)=b1)(a8:∀b∈R,b.In w f)(T:∀b,f b->b<w.heap.size/\¬F b)(a9:∀b,aF d=some b->¬F b)(c9:k<=1000000):
  Calls XP 64 #[ZQ q,.slice d k lc] w (Ok λa2 w'=>∃(a3:Int) (F':Nat->Prop),a2= XH a3/\dx w' q F' (GU M b1)/\bK F w F' w'):=by
 have hM:=g.len;have d0:=g.aB;have b0:=S.len dC;have d1:=S.jT;have d2:b1.length=k:=by rw[b0,<-a1,Q8]
 obtain⟨d3,t,d5,L0,D0,f1,f2,f3,f4,f5,f6,f7,f8,f9⟩:=id g;have a7:=f2.len dC;have b2:t=M.length:=by rw[a7,<-f3,Q8]
 have b3:IntKind.wrap .i64 (1024-((t:Nat):Int))=((1024-t:Nat):Int):=by rw[wrap_i64 (by unfold aH;omega)];omega
 have a0:(if(IntKind.wrap .i64 (1024-((t:Nat):Int)))<((k:Nat):Int)then(IntKind.wrap .i64 (1024-((t:Nat):Int)))else((k:Nat):Int))=((min (1024-t) k:Nat):Int):=by rw[b3];split<;>omega
 obtain⟨y,hr⟩:∃y,min (1024-t) k=y:=⟨_,rfl⟩
 have b4:M++b1.take y=GU M b1:=by
  unfold GU;rw[<-hr,<-b2];rcases Nat.le_total (1024-t) k with v|v
  ·rw[X2 v]
  ·rw[Nat.min_eq_right v,Qz oM,Qz oM]
 rw[hr]at a0;refine pg ⟨q,0,rfl,_,_,_,ae f1 rfl,?_⟩;dsimp only;rw[a0,Qx];refine⟨oM,oM,λmm U w'=>∃(j:Nat) (u:Nat->Prop),U=j/\j<=y/\mm=y-j/\dx w' q u (M++b1.take j)/\bK F w u w',⟨_,0,F,rfl,Qj _,rfl,by simpa using g,bK.refl _ _⟩,?_⟩;rintro mm _ _ w1 ⟨j,u,rfl,hj,rfl,v,z⟩;have d6:=v.aB;have z1:=z.af.size;have d7:∀b,b<w.heap.size->¬F b->¬u b:=λb e hf b5=>(z.new b b5).elim hf λg=>by omega
 refine al.dec (λd8=>?_) (λd9=>Ok.mk ⟨_,u,rfl,by rw[<-b4,show y=j by omega];exact v,z⟩);have b6:=S.af z.af λb e=>a9 b e;obtain⟨b,b7,i,es,rfl,e,-,hx,hc,rfl,-⟩:=(b6.row (bytes:=72) dC (by unfold aK;omega)).yV (i:=j) oM;have b8:=(a8 i (QZ hx)).af z.af λb e=>(T b e).2;refine⟨b,b7,rfl,oM,oM,bA (es:=dv i.m i.va i.vn i.vc i.ea i.en i.ec) (k:=5) (dT _ _ _ _ _ _ _) rfl (λU ht=>by rw[Qx];exact hc U ht) (PA.mk λw2 k2 s2 g2=>az (dT _ _ _ _ _ _ _) g2 rfl λw3 k3 s3 g3=>?_)⟩;have J:ai w1 w3:=k2.new k3 λb e=>.inr (by have e:b=w1.heap.size:=e;omega);have h3:=v.ah J;intro K d4;have E:ai w3 K:=d4.af;have h4:=h3.ah E;obtain⟨a,n,c,V,D,e1,e2,e3,e4,A,B,L,C,e9⟩:=h4;have hn:=e2.len dC;have e0:V.length=M.length+j:=by
  have:=congrArg List.length e3;rw[Q8,QX,Qy]at this;omega
 have z4:=(J.then E).size;have a4:i.In K f:=(b8.af J λ_ _ g=>g).af E λ_ _ g=>g;refine⟨λ_=>False,q,0,rfl,id,_,_,_,ae e1 rfl,au (dT _ _ _ _ _ _ _) (E.get g3 id) (PC.ok (sf a4.1 (λb e=>by have:=(T b e).1;omega) a4.2 λb e=>by have:=(T b e).1;omega) ?_)⟩;rintro _ w5 ⟨l,m,o,p,r,s,G,rfl,b9,c0,H,W⟩;refine⟨_,_,_,_,_,_,_,_,_,rfl,ai.af W,PA.mk λX Y s6 g6=>⟨ai.af Y,?_⟩⟩;have N:ai K X:=W.then Y;have z5:=W.size;refine eV (c:=Na) (x:=⟨i.m,l,m,o,p,r,s⟩) (D:=λ_=>False) (e2.ah N) Dx g6 ⟨rfl,trivial⟩ (λb e=>e.elim) (by unfold aK;omega) (by unfold maxLen;omega) λx c7 w7 F7 O I c1=>⟨_,_,_,rfl,q,0,rfl,PS.mk (I.get (N.get e1 id) λh=>(B q h).2 rfl) sM λZ P s8 g8=>?_⟩
 have Q:∀b,aF x=some b->aF a=some b\/X.heap.size<=b:=λb e=>(c1 b (O.self b e)).imp id λg=>g.resolve_left id;have z7:=I.size;have c2:ak u w1 Z:=(((ai.af ((J.then E).then N):ak u w1 X)).then (I.mono λb _ e=>(B b e).1)).then (P.mono λb _ e=>by have e:b=q:=e;rw[e];exact L);have a5:aF x≠some q:=λh=>(Q q h).elim (λg=>(B q g).2 rfl) λg=>by have:=C q L;omega
 have c3:∀b,D b->aF x≠some b:=λb e h=>(Q b h).elim (A b e).2.1 λg=>by have:=C b (A b e).1;omega
 have c4:∀b,G b->aF x≠some b:=λb e h=>(Q b h).elim (λg=>by have:=C b (B b g).1;have:=H b e;omega) λg=>by have:=H b e;omega
 have a6:∀b,G b->b≠q:=λb e h=>by have:=H b e;have:=C q L;omega
 have c5:∀b,G b->aF a≠some b:=λb e h=>by have:=C b (B b h).1;have:=H b e;omega
 have c6:aO Na 127 (λb=>aF x=some b) Z x (n+1) c7 (V++[⟨i.m,l,m,o,p,r,s⟩]):=O.alone.af P λb e h=>by have h:b=q:=h;exact a5 (h▸e)
 refine⟨_,oM,j+1,λb=>u b\/(K.heap.size<=b/\b<Z.heap.size),aq oM,oM,rfl,⟨x,n+1,c7,V++[⟨i.m,l,m,o,p,r,s⟩],λb=>D b\/G b,g8,c6,?_,?_,?_,?_,.inl L,?_,?_⟩,z.trans ⟨c2,λb e=>e.imp id λg=>oM⟩⟩
 ·have c8:b1[j]? =some i.m:=by rw[<-a1,Q9,hx];rfl
  rw[Q3,e3,Qw,c8,XQ];rfl
 ·intro b e
  rcases Q6.1 e with e|e
  ·exact((((e4 b e).af N λ_ _ g=>g).af I λb e=>(A b e).2.1).af P λb e h=>(A b e).2.2 h).mono λb e=>.inl e
  ·simp at e;subst e
   exact((((show IU.In w5 G ⟨i.m,l,m,o,p,r,s⟩from⟨b9,c0⟩).af Y λ_ _ g=>g).af I λb e=>c5 b e).af P λb e h=>a6 b e h).mono λb e=>.inr e
 ·rintro b (e|e)
  ·exact⟨.inl (A b e).1,c3 b e,(A b e).2.2⟩
  ·exact⟨.inr (by have:=H b e;omega),c4 b e,a6 b e⟩
 ·intro b e
  refine⟨(Q b e).elim (λg=>.inl (B b g).1) λg=>.inr ⟨oM,by have:=O.aB b (O.self b e);omega⟩,λh=>a5 (h▸e)⟩
 ·rintro b (e|e)
  ·have:=C b e;omega
  ·exact e.2
 ·rw[QX,Qy];omega
end
def VG:jo Nat:=flat 1 (λb=>[Value.pointer (ZX b)]) (λ_=>True) (λ_=>rfl) (λc d a=>by simp at a;subst a;rfl)
def VX:jC XP 68 64 VG.k 8:=⟨kR,kR,dC⟩
def Jk(a:fG):gH XP 40 (mC a)=true:=kR
structure Jl where
 q:Nat
 a:Option Addr
 n:Nat
 cc:Nat
 ps:List Nat
def iy(b c:World->(Nat->Prop)->Prop)(d:bP)(e:List (Nat×bj)):Nat->World->(Nat->Prop)->Prop
 |0=>b
 |1=>c
 |k+2=>λf G=>∀a,e[k]? =some a->bO f a.1 G d k a.2
def Kept(a:World->(Nat->Prop)->Prop):Prop:=∀b c G d,a b G->ak d b c->(∀e,G e->¬d e)->a c G
def EC(c:Nat)(a:Jl)(d:Int)(e:World)(G:Nat->Prop):Prop:=G c/\e.heap[c]? =some (.cells #[.slice a.a a.n a.cc,ZQ a.q,XH d] 82 (0,0))/\aO VG 64 (λb=>aF a.a=some b) e a.a a.n a.cc a.ps/\∀b,aF a.a=some b->G b/\b≠c
abbrev cF(a:World)(e:Nat->Prop)(b:Nat->Nat)(f:Nat)(d:Jl)(c:Int)(g:bP)(h:List (Nat×bj))(i:List bR):Prop:=aT a e b (iy (EC f d c) (λa G=>dx a d.q G i) g h)
section
variable {w w' w0 w1 w2:World} {p i:Nat} {F G G' T:Nat->Prop} {cls:Nat->Nat} {h:Jl} {c:bP} {X:dS} {now:Int} {rs:List (Nat×bj)} {eg fly' ms:List bR} {x:Nat×bj} {R':bj} {v:Value} {C0 C1 D0 D1:World->(Nat->Prop)->Prop}
def Jm(e:Kept C0)(f:Kept C1):kV (iy C0 C1 c rs):=by
 intro k w w' G T a b d
 match k,a with
 |0,a=>exact e _ _ _ _ a b d
 |1,a=>exact f _ _ _ _ a b d
 |k+2,a=>exact λx g=>(a x g).af b d
def My:Kept (EC p h now):=λw w' G T a b c=>⟨a.1,b.get a.2.1 (c p a.1),a.2.2.1.af b λd e=>c d (a.2.2.2 d e).1,a.2.2.2⟩
def eL:kV (iy (EC p h now) (λw G=>dx w h.q G eg) c rs):=Jm My λw w' G T a b d=>dx.af a b d
def CX(m:aT w F cls (iy C0 C1 c rs))(n:kV (iy C0 C1 c rs))(o:rs[i]? =some x)(g:bO w' x.1 G' c i R')(p:bK (λa=>F a/\cls a=i+2) w G' w'):
  ∃d b,aT w' d b (iy C0 C1 c (rs.set i (x.1,R')))/\bK F w d w'/\(λa=>d a/\b a=1)=(λa=>F a/\cls a=1)/\(λa=>d a/\b a=0)=(λa=>F a/\cls a=0)/\∀a,d a->(F a/\cls a≠i+2)\/G' a:=by
 obtain⟨d,b,q,r,s,h,-⟩:=aT.gv m n p g.aB (C2:=iy C0 C1 c (rs.set i (x.1,R'))) (λj e=>by
  rw[List.getElem?_set_self (Qv.1 o).1]at e
  injection e with e;subst e;exact g) λt G l f=>by
  match t,l,f with
  |0,_,f=>exact f
  |1,_,f=>exact f
  |k+2,l,f=>exact λj e=>f j (by rw[List.getElem?_set_ne oM]at e;exact e)
 exact⟨d,b,q,r,h 1 oM,h 0 oM,s⟩
def Mz(f:aT w F cls (iy C0 C1 c rs))(g:kV (iy C0 C1 c rs))(h:D1 w' G')(i:∀b,G' b->b<w'.heap.size)(j:bK (λb=>F b/\cls b=1) w G' w'):
  ∃d a,aT w' d a (iy C0 D1 c rs)/\bK F w d w'/\(λb=>d b/\a b=0)=(λb=>F b/\cls b=0)/\(λb=>d b/\a b=1)=G':=by
 obtain⟨d,a,l,m,-,n,o⟩:=aT.gv f g j i (C2:=iy C0 D1 c rs) h λp G q e=>by
  match p,q,e with
  |0,_,e=>exact e
  |k+2,_,e=>exact e
 exact⟨d,a,l,m,n 0 oM,o⟩
def Jn(e:aT w F cls (iy C0 C1 c rs))(f:kV (iy C0 C1 c rs))(d:ak (λa=>F a/\cls a=0) w w')(g:D0 w' λa=>F a/\cls a=0):aT w' F cls (iy D0 C1 c rs)/\bK F w F w':=by
 refine⟨aT.same e f d g λh G i b=>?_,d.mono λa _ j=>j.1,λa l=>.inl l⟩
 match h,i,b with
 |1,_,b=>exact b
 |k+2,_,b=>exact b
def cF.ah(a:cF w F cls p h now c rs eg)(b:ai w w'):cF w' F cls p h now c rs eg:=aT.ah a eL b
def cF.c0(b:cF w F cls p h now c rs eg):EC p h now w (λa=>F a/\cls a=0):=b.at' 0
def cF.cell(a:cF w F cls p h now c rs eg):w.heap[p]? =some (.cells #[.slice h.a h.n h.cc,ZQ h.q,XH now] 82 (0,0)):=a.c0.2.1
def cF.mf(a:cF w F cls p h now c rs eg):aO VG 64 (λb=>aF h.a=some b) w h.a h.n h.cc h.ps:=a.c0.2.2.1
def cF.UL(b:cF w F cls p h now c rs eg):dx w h.q (λa=>F a/\cls a=1) eg:=b.at' 1
def cF.rep(b:aT w F cls (iy C0 C1 c rs))(d:rs[i]? =some x):bO w x.1 (λa=>F a/\cls a=i+2) c i x.2:=b.at' (i+2) x d
def cF.gy(f:cF w F cls p h now c rs eg)(d:dx w' h.q G' fly')(g:bK (λe=>F e/\cls e=1) w G' w'):∃b a,cF w' b a p h now c rs fly'/\bK F w b w':=by
 obtain⟨b,a,i,j,-⟩:=Mz (D1:=λw G=>dx w h.q G fly') f eL d d.aB g;exact⟨b,a,i,j⟩
def cF.VY(e:cF w F cls p h now c rs eg){now':Int}(f:ak (·=p) w w')(g:w'.heap[p]? =some (.cells #[.slice h.a h.n h.cc,ZQ h.q,XH now'] 82 (0,0))):cF w' F cls p h now' c rs eg/\bK F w F w':=by
 have a:=e.c0;exact Jn (D0:=EC p h now') e eL (f.mono λb _ d=>by have d:b=p:=d;rw[d];exact a.1) ⟨a.1,g,a.2.2.1.af f λb i=>(a.2.2.2 b i).2,a.2.2.2⟩
def bY(w0 w:World)(p:Nat)(F:Nat->Prop)(c:bP)(X:dS):Prop:=
 ∃h cls rs,cF w F cls p h X.now c rs X.eg/\h.ps=rs.map (·.1)/\X.aD=rs.map (·.2)/\rs.length=c.aD.toNat/\iS c 0/\Env w0 w F
def bY.ah(b:bY w0 w p F c X)(a:ai w w'):bY w0 w' p F c X:=by
 obtain⟨h,cls,rs,d,e,f,g,i,j⟩:=b;exact⟨h,cls,rs,d.ah a,e,f,g,i,j.ah a⟩
def bY.af(e:bY w0 w p F c X)(d:ak T w w')(f:∀a,F a->¬T a)(g:∀a,T a->w0.heap.size<=a):bY w0 w' p F c X:=by
 obtain⟨h,cls,rs,i,j,k,l,m,b⟩:=e;exact⟨h,cls,rs,aT.af i eL d f,j,k,l,m,⟨b.oE,b.laid,b.gr.new d λa n=>.inr (g a n),b.aB⟩⟩
def bY.aB(b:bY w0 w p F c X):∀a,F a->a<w.heap.size:=by
 obtain⟨h,cls,rs,d,-⟩:=b;exact d.aB
def bY.env(a:bY w0 w p F c X):Env w0 w F:=by
 obtain⟨h,cls,rs,d,e,f,g,i,b⟩:=a;exact b
def bY.len(a:bY w0 w p F c X):X.aD.length=c.aD.toNat/\1<=c.aD/\c.aD<=64/\X.eg.length<=1024:=by
 obtain⟨h,cls,rs,b,g,d,e,f,i⟩:=a;obtain⟨j,k,l⟩:=f.aD;exact⟨by rw[d,Q8];exact e,oM,oM,b.UL.len⟩
def jq(w0:World)(h:Nat->Prop)(x:gA)(v:Value)(w:World):Prop:=∃(b:Option Addr) (c i:Nat) (d:Option Addr) (e j:Nat) (f:Option Addr) (g k:Nat) (G:Nat->Prop),v= .agg (fg x b c i d e j f g k).toArray/\
 Row ei 32 w G b c x.st.cells/\Row vF 120 w G d e x.Jo/\Row Gt 24 w G f g x.rows/\∀a,G a->w0.heap.size<=a/\a<w.heap.size/\¬h a
def Ls(c:World->(Nat->Prop)->dS->Prop)(w:World)(F:Nat->Prop)(d:Nat)(a:gA×dS)(v:Value)(w':World):Prop:=∃b,jq w b a.1 v w'/\c w' b a.2/\fH d a.2/\bK F w b w'
abbrev iq(w0 w:World)(p:Nat)(F:Nat->Prop)(c:bP)(a:Nat)(b:gA×dS)(v:Value)(w':World):Prop:=Ls (λw F X=>bY w0 w p F c X) w F a b v w'
def OM(b:World->(Nat->Prop)->dS->Prop)(c:Nat):Prop:=∀w w' F T X,b w F X->ak T w w'->(∀a,F a->¬T a)->(∀a,T a->c<=a)->b w' F X
def CY:OM (λw F X=>bY w0 w p F c X) w0.heap.size:=λ_ _ _ _ _ h a b d=>h.af a b d
def Env.part(b:Env w0 w F):Env w0 w (λc=>F c/\cls c=a):=⟨b.oE,b.laid,b.gr,λc d=>b.aB c d.1⟩
def zR(j:cF w F cls p h now c rs eg)(u:rs[i]? =some x)(y:bO w1 x.1 G' c i R')(z:bK (λa=>F a/\cls a=i+2) w G' w1)(A:eW w G' ms v w1)(M:ms.length<=10000):
  Calls XP 64 #[ZQ h.q,v] w1 (Ok λv w'=>∃(g:Int) (f:Nat->Prop) (b:Nat->Nat),v= XH g/\cF w' f b p h now c (rs.set i (x.1,R')) (GU eg ms)/\bK F w f w'/\ak (λa=>F a/\cls a=1) w1 w'):=by
 obtain⟨k,l,m,B,n,-⟩:=CX j eL u y z;obtain⟨N,O,P,C,D,rfl,o,q,E,r,H⟩:=A;have e:=cF.UL m;have I:=j.aB;have s:∀a,(k a/\l a=1)->a<w.heap.size:=λa d=>by
  have d:(λa=>k a/\l a=1) a:=d;rw[n]at d;exact I a d.1
 have Q:=o.len dC;have R:C.length=ms.length:=by rw[<-q,Q8]
 refine Calls.ok (GV e o q E (λa d=>⟨(r a d).2.1,λe=>by have:=s a e;have:=(r a d).1;omega⟩) (λa d e=>by have:=s a e;have:=(H a d).1;omega) oM) ?_;rintro _ w2 ⟨g,S,rfl,J,t⟩;obtain⟨f,b,K,L⟩:=cF.gy m J t;exact⟨g,f,b,rfl,K,B.trans L,by rw[<-n];exact t.af⟩
end
def TU:(do eqGuard .neq 46 R W (.agg #[XH e,XH m]) (.agg #[XH A,XH U]);binOp .neq 46 (.agg #[XH e,XH m]) (.agg #[XH A,XH U]):Sem Value).run XP b= .ok (.bool (!(e==A&&m==U))) b:=by
 have a:=FD (x:=R) (y:=W) (a:=e) (b:=m) (c:=A) (d:=U) (w:=b);rw[Sem.run_bind,run_eqGuard_agg b .eql _ R W _ _ kR,Result.andThen_ok,run_eql_struct]at a;rw[Sem.run_bind,run_eqGuard_agg b .neq _ R W _ _ kR,Result.andThen_ok,run_neq_struct];generalize(Op.equalIn 10000 46 (.agg #[XH e,XH m]) (.agg #[XH A,XH U])).run XP b=c at a⊢
 cases c with
 |ok d f=>simp only[Result.andThen_ok,Result.ok.injEq,Value.bool.injEq]at a⊢;obtain⟨rfl,rfl⟩:=a;exact⟨rfl,rfl⟩
 |_=>simp[Result.andThen]at a
def TV(b:di)(c:World):(do eqGuard .neq 135 R W (.agg (aY b).toArray) (.agg (aY b).toArray);binOp .neq 135 (.agg (aY b).toArray) (.agg (aY b).toArray):Sem Value).run XP c= .ok (.bool false) c:=by
 have f:Tryz.prog.underlying 135=some (.struct (Tryz.prog.fieldsOf 135)):=kR
 have d:Tryz.prog.underlying 3=some (.int .i64):=kR
 have a:(Tryz.prog.fieldsOf 135).toList.map (λe=>(e.name,e.type,e.offset))=[("Group",3,0),("Value",3,1),("Count",3,2)]:=kR
 rw[Sem.run_bind,run_eqGuard_agg c .neq _ R W _ _ kR,Result.andThen_ok,run_neq_struct,run_equalIn_struct c 9999 _ _ _ f kR];generalize(Tryz.prog.fieldsOf 135).toList=g at a
 match g,a with
 |[e,u,v],a=>
  simp only[QY,List.map_nil,List.cons.injEq,Prod.mk.injEq,and_true]at a;obtain⟨⟨h,i,j⟩,⟨k,l,m⟩,n,o,p⟩:=a;have q:(isAgg 3).run XP c= .ok false c:=cI _ _ _ kR ⟨_,d⟩ c;have r:=run_equalIn_int (P:=XP) c 9998 3 .i64 .i64 b.group b.group d;have s:=run_equalIn_int (P:=XP) c 9998 3 .i64 .i64 b.value b.value d;have t:=run_equalIn_int (P:=XP) c 9998 3 .i64 .i64 b.count b.count d;unfold Op.eqFields Op.eqFields Op.eqFields Op.eqFields;rw[h,i,j,k,l,m,n,o,p];simp[part,q,r,s,t,aY]
 |[],a=>simp at a
 |[_],a=>simp at a
 |[_,_],a=>simp at a
 |_::_::_::_::_,a=>simp at a
section
variable {w w':World} {D E:Nat->Prop} {a b:Option Addr} {n m c d:Nat}
def CC(g:Row ei 32 w D a n a9)(j:Row ei 32 w E b m a9):Calls XP 65 #[.slice a n c,.slice b m d] w (Ok λv w'=>v= .bool true/\ai w w'):=by
 have H:=g.len;have I:=j.len;have x:=g.dN;unfold aK at x;refine yv (al.dB (λf=>absurd oM f) (λ_=>?_));refine⟨λk i w'=>∃e:Nat,i=e/\e<=n/\k=n-e/\ai w w',⟨_,0,rfl,Qj _,rfl,ak.refl w⟩,?_⟩;rintro k i _ J ⟨e,rfl,K,rfl,l⟩;refine al.dec (λL y z=>?_) (λ_=>Ok.mk ⟨rfl,l⟩);have h:ai w y:=l.then z.af;obtain⟨o,p,M,N,rfl,_,_,A,q,O,P,Q,rfl,B,_⟩:=(g.ah h).yV (i:=e) oM;obtain⟨r,s,R,S,rfl,_,_,t,u,T,U,V,rfl,C,_⟩:=(j.ah h).yV (i:=e) oM;rw[A]at t;cases t
 refine⟨o,p,rfl,oM,oM,_,q 0 dC,r,s,rfl,oM,oM,_,u 0 dC,al.dB (λf=>absurd rfl f) (λ_=>?_)⟩;refine⟨o,p,rfl,oM,oM,_,_,_,q 1 dC,r,s,rfl,oM,oM,_,_,_,u 1 dC,PC.ok (sh B C) ?_⟩;rintro _ W ⟨rfl,F⟩;exact⟨_,rfl,al.not (al.dec (λ_=>⟨_,oM,e+1,aq oM,oM,rfl,h.then F.af⟩) (λf=>absurd rfl f))⟩
def CD{s:lS}(i:Row ei 32 w D a n s.cells)(j:Row ei 32 w E b m s.cells):Calls XP 36 #[.agg #[XH s.version,.slice a n c],.agg #[XH s.version,.slice b m d]] w (Ok λk w'=>k= .bool true/\ai w w'):=by
 refine yo (PA.mk λq f r l=>PA.mk λt e u g=>?_);have h:=e.get l id;refine⟨_,ae h rfl,_,ae g rfl,al.dA (λ_=>?_) (λo=>absurd rfl o)⟩;refine⟨_,_,_,ae h rfl,_,_,_,ae g rfl,PC.ok (CC (i.ah (f.then e)) (j.ah (f.then e))) ?_⟩;rintro _ v ⟨rfl,p⟩;exact⟨_,rfl,Ok.mk ⟨rfl,(f.then e).then p⟩⟩
def yM{F:List cy}(q:Row vF 120 w D a n F)(H:Row vF 120 w E b m F):Calls XP 37 #[.slice a n c,.slice b m d] w (Ok λO w'=>O= .bool true/\ai w w'):=by
 have Y:=q.len;have Z:=H.len;have P:=q.dN;unfold aK at P;refine tW (al.dB (λh=>absurd oM h) (λ_=>?_));refine⟨λI i w'=>∃f:Nat,i=f/\f<=n/\I=n-f/\ai w w',⟨_,0,rfl,Qj _,rfl,ak.refl w⟩,?_⟩;rintro I i _ w1 ⟨f,rfl,hj,rfl,J⟩;refine al.dec (λh1 r Q=>?_) (λ_=>Ok.mk ⟨rfl,J⟩);have s:ai w r:=J.then Q.af;obtain⟨j,k,l,es,rfl,R,_,S,K,t,u,v,rfl,T,_⟩:=(q.ah s).yV (i:=f) oM;obtain⟨o,p,a0,fs,rfl,U,_,L,M,x,y,z,rfl,V,_⟩:=(H.ah s).yV (i:=f) oM;rw[S]at L;cases L
 have W:∀e,e<10->r.cell? ⟨j,k+f*13+e,none⟩=(aC l.ev t u v)[e]? :=λe g=>(K e (show e<13 by omega)).trans (XW (show e<10 from g));have X:∀e,e<10->r.cell? ⟨o,p+f*13+e,none⟩=(aC l.ev x y z)[e]? :=λe g=>(M e (show e<13 by omega)).trans (XW (show e<10 from g));refine⟨j,k,rfl,oM,oM,bA (es:=aC l.ev t u v) (k:=10) (aV _ _ _ _) rfl (λe g=>by rw[Qx];exact W e g) ⟨o,p,rfl,oM,oM,bA (es:=aC l.ev x y z) (k:=10) (aV _ _ _ _) rfl (λe g=>by rw[Qx];exact X e g) (PC.ok (si T V) ?_)⟩⟩;rintro _ N ⟨rfl,A⟩;have B:∀e,e<13->N.cell? ⟨j,k+f*13+e,none⟩=(gG l t u v)[e]? :=λe g=>(A.cell (a:=⟨j,k+f*13+e,none⟩) R id).trans (K e g);have C:∀e,e<13->N.cell? ⟨o,p+f*13+e,none⟩=(gG l x y z)[e]? :=λe g=>(A.cell (a:=⟨o,p+f*13+e,none⟩) U id).trans (M e g);refine⟨_,rfl,al.not (al.dec (λ_=>?_) (λh=>absurd rfl h))⟩;refine⟨j,k,rfl,oM,oM,_,B 10 dC,o,p,rfl,oM,oM,_,C 10 dC,al.not (al.mk (λ_=>?_) (λh=>by simp at h))⟩;refine⟨j,k,rfl,oM,oM,_,_,B 11 dC,B 12 dC,o,p,rfl,oM,oM,_,_,C 11 dC,C 12 dC,_,λw'=>TU,al.mk (λh=>by simp at h) (λ_=>?_)⟩;exact⟨_,oM,f+1,aq oM,oM,rfl,s.then A⟩
def FE(h:Row Gt 24 w D a n g1)(o:Row Gt 24 w E b m g1):Calls XP 38 #[.slice a n c,.slice b m d] w (Ok λr w'=>r= .bool true/\ai w w'):=by
 have C:=h.len;have F:=o.len;have s:=h.dN;unfold aK at s;refine Ao (al.dB (λj=>absurd oM j) (λ_=>?_));refine⟨λp i w'=>∃e:Nat,i=e/\e<=n/\p=n-e/\ai w w',⟨_,0,rfl,Qj _,rfl,ak.refl w⟩,?_⟩;rintro p i _ H ⟨e,rfl,I,rfl,g⟩;refine al.dec (λJ=>?_) (λ_=>Ok.mk ⟨rfl,g⟩);obtain⟨t,u,f,K,rfl,L,_,v,x,rfl,_⟩:=(h.ah g).yV (i:=e) oM;obtain⟨y,z,M,N,rfl,O,_,q,A,rfl,_⟩:=(o.ah g).yV (i:=e) oM;rw[v]at q;cases q
 refine⟨t,u,rfl,oM,oM,bA (es:=aY f) (k:=3) (Ni f) rfl (λk l=>by rw[Qx];exact x k l) ⟨y,z,rfl,oM,oM,bA (es:=aY f) (k:=3) (Ni f) rfl (λk l=>by rw[Qx];exact A k l) ⟨false,λm=>TV f _,λP B=>al.mk (λj=>by cases j) λ_=>?_⟩⟩⟩;exact⟨_,oM,e+1,aq oM,oM,rfl,g.then B.af⟩
def Aa{n o:World}{f:gA}(p:dO n f v w)(q:dO o f b9 w):Calls XP 16 #[v,b9] w (Ok λb9 w'=>b9= .bool true/\ai w w'):=by
 obtain⟨C,E,F,H,I,J,K,L,M,G,rfl,r,s,t,N⟩:=p;obtain⟨O,tn,P,Q,R,S,T,U,V,W,rfl,u,x,y,X⟩:=q;refine vX (PA.mk λY z Z A=>PA.mk λB i s4 c=>?_);have d:=i.get A id;have a:ai w B:=z.then i;refine⟨_,ae d rfl,_,ae c rfl,al.dA (λ_=>?_) (λg=>absurd rfl g)⟩;refine⟨_,_,ae d rfl,ae d rfl,_,_,ae c rfl,ae c rfl,aG.mk FD ⟨_,rfl,al.mk (λ_=>?_) (λg=>by simp at g)⟩⟩;refine⟨_,_,_,_,ae d rfl,ae d rfl,_,_,_,_,ae c rfl,ae c rfl,PC.ok (CD (s:=f.st) (r.ah a) (u.ah a)) ?_⟩;rintro _ w5 ⟨rfl,b⟩;have j:=b.get d id;have k:=b.get c id;refine⟨_,rfl,al.tt rfl ⟨_,_,_,ae j rfl,_,_,_,ae k rfl,PC.ok (yM (s.ah (a.then b)) (x.ah (a.then b))) ?_⟩⟩;rintro _ w6 ⟨rfl,e⟩;have l:=e.get j id;have m:=e.get k id;refine⟨_,rfl,al.tt rfl ⟨_,_,_,ae l rfl,_,_,_,ae m rfl,PC.ok (FE (t.ah ((a.then b).then e)) (y.ah ((a.then b).then e))) ?_⟩⟩;rintro _ w7 ⟨rfl,h⟩;exact⟨_,rfl,al.tt rfl ⟨_,ae (h.get l id) rfl,_,ae (h.get m id) rfl,Ok.mk ⟨sM,((a.then b).then e).then h⟩⟩⟩
end
def Lt(a:gA)(b:Option Addr)(c d:Nat)(e:Option Addr)(f g:Nat)(h:Option Addr)(i j:Nat):RY (cJ XP 53) (.agg (fg a b c d e f g h i j).toArray)=true:=kR
def Vf(a:bP)(b:Option Addr)(tn c:Nat)(d:Option Addr)(e f:Nat):RY (cJ XP 27) (vN a b tn c d e f)=true:=kR
def Lu{es:List Value}(i:gH h g es=true)(j:b.heap[a]? =some (.cells n q E))(k:∀d,d<es.length->n[c+d]? =es[d]?)(l:M (.agg es.toArray)):il h g (.pointer (some ⟨a,c,none⟩)) b M:=
 bA i rfl (λd e=>by
  have f:=k d e;rw[Qq e]at f⊢;exact ae j f) l
section
variable {w w' w0 w1 w2:World} {p:Nat} {F E D Dv:Nat->Prop} {c:bP} {self:Int} {X:bj} {va ea:Option Addr} {vn vc en ec:Nat}
def JE{tn o l p:Nat}(i:bb w D P d tn r l):Calls XP 23 #[.agg #[.slice d tn o,.slice r l p]] w (Ok λq w'=>(∃f:Bool,q= .bool f)/\ai w w'):=by
 have B:=i.aS.len;have s:=i.aS.dN;unfold aK at s;refine EK (PA.mk λw1 a C b=>⟨_,_,_,ae b rfl,al.dec (λ_=>Ok.mk ⟨⟨_,rfl⟩,a⟩) (λ_=>⟨_,_,_,ae b rfl,al.dec (λ_=>Ok.mk ⟨⟨_,rfl⟩,a⟩) (λ_=>?_)⟩)⟩);refine⟨λg j w'=>∃c:Nat,j=c/\c<=tn/\g=tn-c/\w1=w',⟨_,0,rfl,Qj _,rfl,rfl⟩,?_⟩;rintro g _ _ _ ⟨c,rfl,E,rfl,rfl⟩;refine⟨_,_,_,ae b rfl,al.dec (λF=>?_) (λ_=>Ok.mk ⟨⟨_,rfl⟩,a⟩)⟩;obtain⟨f,k,H,I,rfl,J,-,K,t,L,m,M,rfl,n⟩:=(i.aS.ah a).yV (i:=c) oM;have h:=t 0 dC;have u:mj.k=1:=rfl;rw[u,Nat.mul_one]at h;have v:=n.dN;unfold aK at v;refine⟨_,_,_,ae b rfl,f,k,rfl,oM,oM,_,_,_,h,al.dec (λ_=>Ok.mk ⟨⟨_,rfl⟩,a⟩) (λ_=>?_)⟩;refine⟨λg j w'=>∃e:Nat,j=e/\e<=m/\g=m-e/\w1=w',⟨_,0,rfl,Qj _,rfl,rfl⟩,?_⟩;rintro g _ _ _ ⟨e,rfl,N,rfl,rfl⟩;refine⟨_,_,_,ae b rfl,f,k,rfl,oM,oM,_,_,_,h,al.dec (λO=>?_) (λ_=>⟨_,oM,c+1,aq oM,oM,rfl,rfl⟩)⟩;obtain⟨x,y,Q,z,rfl,-,-,R,A,S,T,U,rfl,-,-⟩:=n.yV (i:=e) oM;exact⟨_,_,_,ae b rfl,f,k,rfl,oM,oM,_,_,_,h,x,y,rfl,oM,oM,_,_,_,A 3 dC,al.dec (λ_=>Ok.mk ⟨⟨_,rfl⟩,a⟩) (λ_=>⟨_,oM,e+1,aq oM,oM,rfl,rfl⟩)⟩
def bO.waits(e:bO w p F c self X):X.waits.length<=256:=by
 obtain⟨h,f,a,g⟩:=e;obtain⟨i,D,b,-,-⟩:=(show Nj w (λd=>F d/\a d=5) f.wp c.buffer.toNat X.waits from g.at' 5)
 exact Xx b.1.2.le b.1.1
def bO.ok(a:bO w p F c self X):iS c self:=a.1
def bK.after(a:ai w w1)(b:bK F w1 f w2):bK F w f w2:=⟨(ai.af a).then b.af,λc d=>(b.new c d).imp id λe=>by have:=a.size;omega⟩
end
end Go.Proofs.YtjgjkeponbeekaaGreatDoor
