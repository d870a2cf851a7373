import Derived.Test.YtfchlbaidamodaaGreatDoorKc31
set_option linter.all false
set_option maxRecDepth 20000
namespace Go.Proofs.YtfchlbaidamodaaGreatDoor
open Go.ax
variable{C e m:Int}
section
variable {w w' wz A B w1:World} {D:Nat->Prop} {a:Option Addr} {n c:Nat} {l:List df}
def Kw{most:Nat}(K:Row Ab 120 w D a n l)(hD:∀b,D b->b<w.heap.size)(hm:most<=1000)(hl:l.length<=20000000)(k1:aN C):
  Calls ZQ 100 #[.slice a n c,QH e,QH m,QH C,QH (most:Int)] w (Ok λa6 w'=>∃P,a6= .tuple #[P,.bool (ll l e m C most).2]/\qD Ab 160 w (ll l e m C most).1 P w'):=by
 obtain⟨V,c1,hL,e8⟩:=fv.boxes (N:=NJ) K;have k5:V.length=l.length:=by rw[<-c1,Q8]
 obtain⟨own,r⟩:∃own,own=V.filter λb=>VB e m b.x:=⟨_,rfl⟩
 obtain⟨j,hf⟩:∃j:Nat,j=(max C 0).toNat:=⟨_,rfl⟩
 have c7:own.map (·.x)=l.filter λd=>d.ev.bd==e&&d.ev.agg==m:=by rw[r,<-c1,List.filter_map];rfl
 have e9:ll l e m C most=(((own.drop j).take most).map (·.x),decide (most<(own.drop j).length)):=by
  unfold ll;rw[<-c7,<-hf];simp only[List.map_take,List.map_drop,XZ,Q8]
 rw[e9];have h4:own.length<=20000000:=by rw[r];have:=List.length_filter_le (λb:Bx df=>VB e m b.x) V;omega
 refine EH (PA.mk λw6 k6 s6 g6=>PA.mk λx k7 s7 g7=>PA.mk λw8 k8 s8 g8=>PA.mk λk k9 s9 g9=>PA.mk λo a0 l0 f3=>PA.mk λp W l3 f4=>PA.mk λf5 Q l4 f6=>?_);have a7:=(((k8.then k9).then a0).then W).then Q;have c8:=a7.get (show x.heap[w6.heap.size]? =_ from g7) id;have k2:(if 0>(if False then(0:Int)else C)then 0 else C)=(j:Int):=by simp;split<;>omega
 refine⟨_,ae ((((k9.then a0).then W).then Q).get g8 id) rfl,?_⟩;have g0:(if 0>C then(0:Int)else C)=(j:Int):=by rw[hf];split<;>omega
 rw[g0];refine PS.mk ((((k9.then a0).then W).then Q).get g8 id) sM λH L l5 g1=>?_;have c9:H.heap[x.heap.size]? =some (.cells #[QH (j:Int)] 3 (0,0)):=g1;have d0:ai w f5:=((k6.then k7).then a7)
 have d1:ai w H:=d0.new L λb f=>.inr (by have f:b=x.heap.size:=f;omega);have d2:=L.get ((k7.then a7).get g6 id) (λd=>by have d:w.heap.size=x.heap.size:=d;omega);have d5:=L.get c8 (λd=>by have d:w6.heap.size=x.heap.size:=d;omega);have d6:=L.get (((a0.then W).then Q).get g9 id) (λd=>by have d:w8.heap.size=x.heap.size:=d;omega);have d8:=L.get ((W.then Q).get f3 id) (λd=>by have d:k.heap.size=x.heap.size:=d;omega);have e1:=L.get (Q.get f4 id) (λd=>by have d:o.heap.size=x.heap.size:=d;omega);have e2:=L.get f6 (λd=>by have d:p.heap.size=x.heap.size:=d;omega);refine PC.ok (φ:=λa6 w'=>a6= .func (.func 226) #[] #[ZX H.heap.size,.pointer (some ⟨H.heap.size+1,0,none⟩)]/\w'.heap[H.heap.size]? =some (.cells #[.slice a n c] 43 (0,0))/\(∃d ff,w'.heap[H.heap.size+1]? =some (.cells #[.func (.func 161) #[] #[ZX w.heap.size,ZX w6.heap.size]] d ff))/\ai H w'/\w'.heap.size=H.heap.size+2)
  (BV (PA.mk λw3 k3 s3 g3=>PA.mk λw4 k4 s4 g4=>Ok.mk ⟨by rw[s3],k4.get g3 id,⟨_,_,by rw[<-s3];exact g4⟩,k3.then k4,oM⟩)) ?_
 rintro _ wz ⟨rfl,g2,g5,z,sz⟩;have i:=d1.then z;have a8:=z.get d2 id;have a9:=z.get d5 id;have b0:=z.get d6 id;have b1:=z.get c9 id;have M:=z.get d8 id;have N:=z.get e1 id;have X:=z.get e2 id;have Y:p.heap.size<wz.heap.size:=aC X;have d3:k.heap.size<wz.heap.size:=aC M;have d4:o.heap.size<wz.heap.size:=aC N;have b2:∀b,D b->b<wz.heap.size/\b≠p.heap.size:=λb f=>⟨by have:=hD b f;have:=i.size;omega,λd=>by have:=hD b f;omega⟩
 have e3:∀b∈V,NJ.In wz D b:=λb f=>(e8 b f).keep i λ_ _ K=>K;have e5:∀{c0:Nat} {b:Bx df},own[c0]? =some b->b∈V:=λ{c0 b} f=>by
  have:=QZ f;rw[r]at this;exact(List.mem_filter.1 this).1
 refine⟨_,rfl,226,_,rfl,kR,Unit,(),λ_=>Rk wz p.heap.size own j most,λP _ A=>P= .ret/\W_ wz p.heap.size k.heap.size o.heap.size own j most A,
  λg R=>∃b,own[g.length]? =some b/\R=[QH (g.length:Int),GP b.x b.a b.n b.c],λE=>E.length=own.length,?_,λ_ g A B O u=>O.fr Y u,λP g A B hx u=>⟨hx.1,hx.2.fr ⟨Y,d3,d4⟩ ⟨oM,oM⟩ u⟩,?_,?_,?_,?_,trivial⟩
 ·intro w1 hk hs
  refine⟨ai.keep hk,oM,none,0,0,λ_=>False,hk.get X id,?_,λb f=>f.elim,Qj _⟩;simpa using aV.nil w1
 ·rintro _ g A O l6 l7 l8 l9 m0 ta tn tc m1 m2 m3 m4 m5 m6 m7 m8 m9 ⟨b,f,he⟩
  simp only[iG,aE,List.cons_append,List.nil_append,List.cons.injEq,Value.agg.injEq,Array.mk.injEq,Value.int.injEq,XX,Value.bool.injEq,and_true,true_and]at he;obtain⟨rfl,rfl,rfl,rfl,⟨rfl,rfl,rfl⟩,rfl,rfl,rfl,rfl,rfl,rfl,rfl,rfl,rfl⟩:=he;have n0:g.length<own.length:=(Qv.1 f).1;refine PA.mk λn1 h0 n3 h8=>aD (mg b.x b.a b.n b.c) h8 rfl λh9 i0 n4 i1=>?_;have c2:ai A h9:=h0.new i0 λb f=>.inr (by have f:b=A.heap.size:=f;omega);refine⟨ai.keep c2,λb3 u=>?_⟩;have c3:=(O.af c2).fr Y u;have i2:=u.1.get i1 (λd=>by have d:A.heap.size=wz.heap.size+1:=d;omega);have n8:=u.2;have Z:=c3.keep;have c4:∀R:List Value,(((own.take (g++[R]).length).drop j)=if g.length<j then []else((own.take g.length).drop j)++[b]):=λR=>by
   rw[QX,List.length_singleton,Qw,f];have i3:(own.take g.length).length=g.length:=by rw[Qy];omega
   split
   ·rename_i s
    exact List.drop_eq_nil_of_le (by rw[QX,i3];simp;omega)
   ·rename_i s
    rw[List.drop_append_of_le_length oM];rfl
  obtain⟨q,y,F,I,S,G,v,t,s,h6⟩:=c3;have a1:=t.len dC;rw[Q8,XZ,Qy,X2 oM]at a1;refine⟨_,ae (Z.get b1 (λd=>by have d:x.heap.size=p.heap.size:=d;omega)) rfl,al.dec (λn9=>⟨aj.refl _,?_⟩) (λo0=>⟨_,_,_,ae v rfl,_,ae (Z.get b0 (λd=>by have d:w8.heap.size=p.heap.size:=d;omega)) rfl,al.dec (λi4=>?_) (λi5=>λd7 i6=>?_)⟩)⟩
  ·refine⟨q,y,F,I,S,G,v,?_,s,h6⟩
   rw[c4,if_pos oM];rw[List.drop_eq_nil_of_le (by rw[Qy];omega)]at t;exact t
  ·have e6:I=most:=oM
   have b4:=Z.get M (λd=>by have d:k.heap.size=p.heap.size:=d;omega);have b5:=Z.get N (λd=>by have d:o.heap.size=p.heap.size:=d;omega);refine⟨_,_,_,ae v rfl,PS.mk b4 sM λo1 d9 o2 i7=>PS.mk (d9.get b5 (λd=>by have d:o.heap.size=k.heap.size:=d;omega)) sM λi8 e0 o3 i9=>?_⟩;have T:aj (λb=>b=k.heap.size\/b=o.heap.size) b3 i8:=(d9.mono λb _ d=>.inl d).then (e0.mono λb _ d=>.inr d);have j0:(own.drop j).take most=(own.take g.length).drop j:=by
    rw[<-e6,a1,List.drop_take]
   refine⟨T.mono λb _ f=>⟨by rcases f with rfl|rfl<;>omega,by rcases f with rfl|rfl<;>omega⟩,.inl rfl,rfl,(q.mono λb _ d=>.inl d).then (T.mono λb _ d=>.inr d),i9,by rw[XZ];omega,F,I,S,G,e0.get i7 (λd=>by have d:k.heap.size=o.heap.size:=d;omega),?_,s⟩;rw[j0];exact t.keep T λb f d=>by have:=s b f;rcases d with rfl|rfl<;>omega
  ·have U:ai b3 d7:=i6.keep
   have c5:=(e3 b (e5 f)).keep Z λb f d=>(b2 b f).2 d;have e7:Row aP 8 d7 D b.a b.n b.x.ev.aK:=c5.1.af U;have f0:b.x.ev.Ok:=c5.2;refine⟨λ_=>False,id,_,_,_,ae (U.get v id) rfl,aw (mg b.x b.a b.n b.c) (U.get i2 id) (PC.ok (Fh e7 λb f=>by have:=(b2 b f).1;have:=U.size;omega) ?_)⟩;rintro _ o4 ⟨f1,n2,f2,G2,rfl,j1,b6,b7⟩;have o5:=U.size;have o6:=b7.size;refine⟨_,_,_,_,_,_,_,_,_,_,_,_,_,_,_,rfl,b7,PA.mk λo7 b8 o8 j2=>⟨b8,?_⟩⟩;have a2:=(U.then b7).then b8;refine fh (c:=Ab) (x:=b.x) (t.af a2) Tm j2 (D:=G2) ⟨f1,n2,f2,rfl,j1.af b8,f0⟩ (λb f=>⟨by have:=b6 b f;omega,λd=>by have:=t.aF b (t.self b d);have:=b6 b f;omega⟩) (by rw[Q8,XZ,Qy];unfold aQ;omega) (by rw[Q8,XZ,Qy];unfold maxLen;omega) λa' c' o9 F' f7 b9 j3=>⟨_,_,_,rfl,?_⟩
   have h:∀b,aI F=some b->wz.heap.size+2<=b:=λb f=>s b (t.self b f);have j4:¬aI F=some p.heap.size:=λd=>by have:=h _ d;omega
   have p0:=b9.size;have p1:=a2.size;have J:∀b,F' b->wz.heap.size+2<=b:=λb f=>by
    rcases j3 b f with h7|h7|h7
    ·exact s b h7
    ·have:=b6 b h7;omega
    ·omega
   refine PS.mk (b9.get (a2.get v id) j4) sM λj5 e4 p2 j6=>?_;have T:aj (λb=>aI F=some b\/b=p.heap.size) b3 j5:=((ai.keep a2).then (b9.mono λb _ d=>.inl d)).then (e4.mono λb _ d=>.inr d);refine⟨T.mono λb _ f=>⟨?_,?_⟩,⟨(q.new (T.mono λb _ d=>d) λb f=>f.elim (λd=>.inr (by have:=h b d;omega)) .inl),oM,a',I+1,c',F',j6,?_,J,oM⟩⟩
   ·rcases f with f|rfl
    ·have:=h b f;omega
    ·omega
   ·rcases f with f|rfl
    ·have:=h b f;omega
    ·omega
   ·rw[c4,if_neg oM,Q3]
    exact f7.keep e4 λb f d=>by have d:b=p.heap.size:=d;have:=J b f;omega
 ·intro f8 Rx hR _ p3 hy w1 j7 f9
  refine Calls.mono (UZ (own:=own) (f:=j) (most:=most) (R:=f8) (Rx:=Rx .ret) (R1:=k.heap.size) (R2:=o.heap.size) Y a8 a9 oM oM ⟨_,_,z.size|>λ_=>g2⟩ oM g5 oM (hL.af i) b2 r oM hR (λg R A O j8 u hN=>(hy () g R A O j8 u hN).mono ?_) j7 f9) ?_
  ·rintro b A' (K|⟨q,P,⟨rfl,y⟩,v⟩)
   ·exact .inl K
   ·exact .inr ⟨q,y,v⟩
  ·rintro d A' ⟨hv,K⟩
   refine⟨hv,?_⟩;rcases K with⟨q,E,y,v⟩|⟨q,y⟩
   ·exact .inl ⟨q,(),E,y,v⟩
   ·exact .inr ⟨.ret,[],⟨rfl,q⟩,y⟩
 ·rintro _ E A O c6 hm
  obtain⟨q,y,F,I,S,G,v,t,s,h6⟩:=O;have a1:=t.len dC;rw[c6,List.take_length]at t;rw[c6,List.take_length,Q8,XZ]at a1;have b4:=q.get M (λd=>by have d:k.heap.size=p.heap.size:=d;omega);have b5:=q.get N (λd=>by have d:o.heap.size=p.heap.size:=d;omega);refine⟨_,_,_,ae v rfl,PS.mk b4 sM λp4 a3 p5 j9=>PS.mk (a3.get b5 (λd=>by have d:o.heap.size=k.heap.size:=d;omega)) sM λp6 a4 p7 k0=>?_⟩;refine⟨a4.get (a3.get hm (λd=>by have d:wz.heap.size=k.heap.size:=d;omega)) (λd=>by have d:wz.heap.size=o.heap.size:=d;omega),λp8 u=>?_⟩;have a5:=u.1;have h1:=a5.get (a4.get j9 (λd=>by have d:k.heap.size=o.heap.size:=d;omega)) (λd=>by have d:k.heap.size=wz.heap.size:=d;omega);have h2:=a5.get k0 (λd=>by have d:o.heap.size=wz.heap.size:=d;omega);refine⟨_,_,_,ae h1 rfl,_,ae h2 rfl,Ok.mk ⟨_,?_,F,I,S,G,rfl,?_,?_,λb f=>by have:=s b f;have:=i.size;omega⟩⟩
  ·rw[Xv (by rw[XZ];omega)]
  ·rw[Qz (by rw[XZ];omega)]
   exact((t.keep a3 λb f d=>by have d:b=k.heap.size:=d;have:=s b f;omega).keep a4 λb f d=>by have d:b=o.heap.size:=d;have:=s b f;omega).keep a5 λb f d=>by have d:b=wz.heap.size:=d;have:=s b f;omega
  ·refine(((i.new q λb f=>.inr (by have f:b=p.heap.size:=f;omega)).new a3 λb f=>.inr (by have f:b=k.heap.size:=f;omega)).new a4 λb f=>.inr (by have f:b=o.heap.size:=f;omega)).new a5 λb f=>.inr (by have f:b=wz.heap.size:=f;have:=i.size;omega)
 ·rintro g A ⟨-,hx⟩ hm
  refine⟨hm,λp9 u=>?_⟩;obtain⟨q,y,h3,F,I,S,G,v,t,s⟩:=hx.fr ⟨Y,d3,d4⟩ ⟨oM,oM⟩ u;refine⟨_,_,_,ae v rfl,_,ae y rfl,Ok.mk ⟨_,by rw[decide_eq_true h3],F,I,S,G,rfl,t,?_,λb f=>by have:=s b f;have:=i.size;omega⟩⟩;exact i.new q λb f=>.inr (by rcases f with f|f|f<;>omega)
end
def Ba(b:aR)(c:List ah)(d e a:Int):ve:=⟨0,(0,0),⟨0,[]⟩,(ll (cG b c).entries d e a 32).1,[],(ll (cG b c).entries d e a 32).2⟩
section
variable {w w' w0 w1 w2:World} {p:Nat} {F E D:Nat->Prop} {cls:Nat->Nat} {h:ko} {c:cz} {self:Int} {X:bw}
def CR(t:bP w p F c self X)(u:aN C):Calls ZQ 48 #[ZX p,QH e,QH m,QH C] w (Ok λv w'=>ju w (Ba c.decl X.S.l e m C) v w'/\ai w w'):=by
 obtain⟨K,h,cls,l⟩:=t;refine mN (PA.mk λx d L y=>PC.ok (DE (c_.af l d)) ?_);rintro _ _ ⟨rfl,rfl⟩;have z:=c_.af l d;have a:dF x h.bp (λb=>F b/\cls b=4) c.decl c.every.toNat X.S.l:=z.at' 4;have A:=(xE c.decl X.S.l a.1.2.2.2).1;refine⟨_,rfl,_,_,Ik,PC.ok (GR a) ?_⟩;rintro _ M ⟨N,O,P,G,rfl,n,f,Q⟩;refine⟨_,_,_,rfl,PC.ok (Kw (most:=32) (n.row dC (by unfold aQ;omega)) n.aF oM A u) ?_⟩;rintro _ B ⟨R,rfl,g,i,j,E,rfl,o,k,q⟩;have H:=o.aF;have S:=f.size;have T:=k.size;have U:(ll (cG c.decl X.S.l).entries e m C 32).1.length<=32:=by unfold ll;rw[Qy];omega
 have I:ai w B:=(d.then f).then k;refine⟨_,_,_,_,rfl,aD (lR (Ba c.decl X.S.l e m C) none 0 0 g i j none 0 0) (k.get (f.get y id) id) rfl λV r W J=>aw (lR (Ba c.decl X.S.l e m C) none 0 0 g i j none 0 0) J (Ok.mk ⟨?_,I.new r λb a=>.inr (by have a:b=w.heap.size:=a;omega)⟩)⟩;refine⟨none,0,0,g,i,j,none,0,0,E,rfl,eE _ _,(o.keep r λb a s=>by have s:b=w.heap.size:=s;have:=q b a;omega).row dC (by show(ll (cG c.decl X.S.l).entries e m C 32).1.length*120<=aQ;unfold aQ;omega),eE _ _,λb a=>⟨by have:=q b a;omega,by have:=H b a;omega⟩⟩
end
variable{X r:Array Value}{g4 z:FuncId}{V:Int}{a1 f1 h7:List PanicEntry->World->Prop}{b2:List du}{g5:List ep}{a c:Nat}{f:Nat->Prop}{F:Nat×Nat}{R Y:Operand}{d p:Option Addr}{h:Program}{g q:TypeId}{w:Value}{S:Value->Prop}{a9 b k:World}{y:World->Prop}{M:aR}{b9:bD}{e1:dz}{f2:ve}
def Sn:(do eqGuard .neq 39 R Y (.agg #[QH e,QH m]) (.agg #[QH C,QH V]);binOp .neq 39 (.agg #[QH e,QH m]) (.agg #[QH C,QH V]):Sem Value).run ZQ b= .ok (.bool (!(e==C&&m==V))) b:=by
 have a:=GN (x:=R) (y:=Y) (a:=e) (b:=m) (c:=C) (d:=V) (w:=b);rw[Sem.run_bind,run_eqGuard_agg b .eql _ R Y _ _ kR,Result.andThen_ok,run_eql_struct]at a;rw[Sem.run_bind,run_eqGuard_agg b .neq _ R Y _ _ kR,Result.andThen_ok,run_neq_struct];generalize(Op.equalIn 10000 39 (.agg #[QH e,QH m]) (.agg #[QH C,QH V])).run ZQ b=c at a⊢
 cases c with
 |ok d f=>simp only[Result.andThen_ok,Result.ok.injEq,Value.bool.injEq]at a⊢;obtain⟨rfl,rfl⟩:=a;exact⟨rfl,rfl⟩
 |_=>simp[Result.andThen]at a
def Wb(b:ep)(c:World):(do eqGuard .neq 268 R Y (.agg (bz b).toArray) (.agg (bz b).toArray);binOp .neq 268 (.agg (bz b).toArray) (.agg (bz b).toArray):Sem Value).run ZQ c= .ok (.bool false) c:=by
 have f:Tryz.prog.underlying 268=some (.struct (Tryz.prog.fieldsOf 268)):=kR
 have d:Tryz.prog.underlying 3=some (.int .i64):=kR
 have a:(Tryz.prog.fieldsOf 268).toList.map (λe=>(e.name,e.type,e.offset))=[("Group",3,0),("Value",3,1),("Count",3,2)]:=kR
 rw[Sem.run_bind,run_eqGuard_agg c .neq _ R Y _ _ kR,Result.andThen_ok,run_neq_struct,run_equalIn_struct c 9999 _ _ _ f kR];generalize(Tryz.prog.fieldsOf 268).toList=g at a
 match g,a with
 |[e,u,v],a=>
  simp only[QY,List.map_nil,List.cons.injEq,Prod.mk.injEq,and_true]at a;obtain⟨⟨h,i,j⟩,⟨k,l,m⟩,n,o,p⟩:=a;have q:(isAgg 3).run ZQ c= .ok false c:=dA _ _ _ kR ⟨_,d⟩ c;have r:=run_equalIn_int (P:=ZQ) c 9998 3 .i64 .i64 b.group b.group d;have s:=run_equalIn_int (P:=ZQ) c 9998 3 .i64 .i64 b.value b.value d;have t:=run_equalIn_int (P:=ZQ) c 9998 3 .i64 .i64 b.count b.count d;unfold Op.eqFields Op.eqFields Op.eqFields Op.eqFields;rw[h,i,j,k,l,m,n,o,p];simp[part,q,r,s,t,bz]
 |[],a=>simp at a
 |[_],a=>simp at a
 |[_,_],a=>simp at a
 |_::_::_::_::_,a=>simp at a
section
variable {w w':World} {D E:Nat->Prop} {a b:Option Addr} {n m c d:Nat}
def EO(g:Row fL 32 w D a n b2)(j:Row fL 32 w E b m b2):Calls ZQ 159 #[.slice a n c,.slice b m d] w (Ok λv w'=>v= .bool true/\ai w w'):=by
 have H:=g.len;have I:=j.len;have x:=g.d_;unfold aQ at x;refine Aw (al.dw (λf=>absurd oM f) (λ_=>?_));refine⟨λk i w'=>∃e:Nat,i=e/\e<=n/\k=n-e/\ai w w',⟨_,0,rfl,Qj _,rfl,aj.refl w⟩,?_⟩;rintro k i _ J ⟨e,rfl,K,rfl,l⟩;refine al.dec (λL y z=>?_) (λ_=>Ok.mk ⟨rfl,l⟩);have h:ai w y:=l.then z.keep;obtain⟨o,p,M,N,rfl,_,_,A,q,O,P,Q,rfl,B,_⟩:=(g.af h).sS (i:=e) oM;obtain⟨r,s,R,S,rfl,_,_,t,u,T,U,V,rfl,C,_⟩:=(j.af h).sS (i:=e) oM;rw[A]at t;cases t
 refine⟨o,p,rfl,oM,oM,_,q 0 dC,r,s,rfl,oM,oM,_,u 0 dC,al.dw (λf=>absurd rfl f) (λ_=>?_)⟩;refine⟨o,p,rfl,oM,oM,_,_,_,q 1 dC,r,s,rfl,oM,oM,_,_,_,u 1 dC,PC.ok (jM B C) ?_⟩;rintro _ W ⟨rfl,F⟩;exact⟨_,rfl,al.not (al.dec (λ_=>⟨_,oM,e+1,an oM,oM,rfl,h.then F.keep⟩) (λf=>absurd rfl f))⟩
def EP{s:mV}(i:Row fL 32 w D a n s.cells)(j:Row fL 32 w E b m s.cells):Calls ZQ 97 #[.agg #[QH s.version,.slice a n c],.agg #[QH s.version,.slice b m d]] w (Ok λk w'=>k= .bool true/\ai w w'):=by
 refine Ao (PA.mk λq f r l=>PA.mk λt e u g=>?_);have h:=e.get l id;refine⟨_,ae h rfl,_,ae g rfl,al.dX (λ_=>?_) (λo=>absurd rfl o)⟩;refine⟨_,_,_,ae h rfl,_,_,_,ae g rfl,PC.ok (EO (i.af (f.then e)) (j.af (f.then e))) ?_⟩;rintro _ v ⟨rfl,p⟩;exact⟨_,rfl,Ok.mk ⟨rfl,(f.then e).then p⟩⟩
def AM{F:List df}(q:Row Ab 120 w D a n F)(H:Row Ab 120 w E b m F):Calls ZQ 98 #[.slice a n c,.slice b m d] w (Ok λO w'=>O= .bool true/\ai w w'):=by
 have Y:=q.len;have Z:=H.len;have P:=q.d_;unfold aQ at P;refine vM (al.dw (λh=>absurd oM h) (λ_=>?_));refine⟨λI i w'=>∃f:Nat,i=f/\f<=n/\I=n-f/\ai w w',⟨_,0,rfl,Qj _,rfl,aj.refl w⟩,?_⟩;rintro I i _ w1 ⟨f,rfl,hj,rfl,J⟩;refine al.dec (λh1 r Q=>?_) (λ_=>Ok.mk ⟨rfl,J⟩);have s:ai w r:=J.then Q.keep;obtain⟨j,k,l,es,rfl,R,_,S,K,t,u,v,rfl,T,_⟩:=(q.af s).sS (i:=f) oM;obtain⟨o,p,a0,fs,rfl,U,_,L,M,x,y,z,rfl,V,_⟩:=(H.af s).sS (i:=f) oM;rw[S]at L;cases L
 have W:∀e,e<10->r.cell? ⟨j,k+f*13+e,none⟩=(aE l.ev t u v)[e]? :=λe g=>(K e (show e<13 by omega)).trans (XW (show e<10 from g));have X:∀e,e<10->r.cell? ⟨o,p+f*13+e,none⟩=(aE l.ev x y z)[e]? :=λe g=>(M e (show e<13 by omega)).trans (XW (show e<10 from g));refine⟨j,k,rfl,oM,oM,br (es:=aE l.ev t u v) (k:=10) (bg _ _ _ _) rfl (λe g=>by rw[Qx];exact W e g) ⟨o,p,rfl,oM,oM,br (es:=aE l.ev x y z) (k:=10) (bg _ _ _ _) rfl (λe g=>by rw[Qx];exact X e g) (PC.ok (mJ T V) ?_)⟩⟩;rintro _ N ⟨rfl,A⟩;have B:∀e,e<13->N.cell? ⟨j,k+f*13+e,none⟩=(iG l t u v)[e]? :=λe g=>(A.cell (a:=⟨j,k+f*13+e,none⟩) R id).trans (K e g);have C:∀e,e<13->N.cell? ⟨o,p+f*13+e,none⟩=(iG l x y z)[e]? :=λe g=>(A.cell (a:=⟨o,p+f*13+e,none⟩) U id).trans (M e g);refine⟨_,rfl,al.not (al.dec (λ_=>?_) (λh=>absurd rfl h))⟩;refine⟨j,k,rfl,oM,oM,_,B 10 dC,o,p,rfl,oM,oM,_,C 10 dC,al.not (al.mk (λ_=>?_) (λh=>by simp at h))⟩;refine⟨j,k,rfl,oM,oM,_,_,B 11 dC,B 12 dC,o,p,rfl,oM,oM,_,_,C 11 dC,C 12 dC,_,λw'=>Sn,al.mk (λh=>by simp at h) (λ_=>?_)⟩;exact⟨_,oM,f+1,an oM,oM,rfl,s.then A⟩
def HO(h:Row IN 24 w D a n g5)(o:Row IN 24 w E b m g5):Calls ZQ 99 #[.slice a n c,.slice b m d] w (Ok λr w'=>r= .bool true/\ai w w'):=by
 have C:=h.len;have F:=o.len;have s:=h.d_;unfold aQ at s;refine BT (al.dw (λj=>absurd oM j) (λ_=>?_));refine⟨λp i w'=>∃e:Nat,i=e/\e<=n/\p=n-e/\ai w w',⟨_,0,rfl,Qj _,rfl,aj.refl w⟩,?_⟩;rintro p i _ H ⟨e,rfl,I,rfl,g⟩;refine al.dec (λJ=>?_) (λ_=>Ok.mk ⟨rfl,g⟩);obtain⟨t,u,f,K,rfl,L,_,v,x,rfl,_⟩:=(h.af g).sS (i:=e) oM;obtain⟨y,z,M,N,rfl,O,_,q,A,rfl,_⟩:=(o.af g).sS (i:=e) oM;rw[v]at q;cases q
 refine⟨t,u,rfl,oM,oM,br (es:=bz f) (k:=3) (PM f) rfl (λk l=>by rw[Qx];exact x k l) ⟨y,z,rfl,oM,oM,br (es:=bz f) (k:=3) (PM f) rfl (λk l=>by rw[Qx];exact A k l) ⟨false,λm=>Wb f _,λP B=>al.mk (λj=>by cases j) λ_=>?_⟩⟩⟩;exact⟨_,oM,e+1,an oM,oM,rfl,g.then B.keep⟩
def CM{o p:World}{i f:Value}(q:ju o f2 i w)(r:ju p f2 f w):Calls ZQ 47 #[i,f] w (Ok λf w'=>f= .bool true/\ai w w'):=by
 obtain⟨C,E,F,H,I,J,K,L,M,G,rfl,s,t,u,N⟩:=q;obtain⟨O,tn,P,Q,R,S,T,U,V,W,rfl,v,x,y,X⟩:=r;refine xV (PA.mk λY z Z A=>PA.mk λB j s4 c=>?_);have d:=j.get A id;have a:ai w B:=z.then j;refine⟨_,ae d rfl,_,ae c rfl,al.dX (λ_=>?_) (λg=>absurd rfl g)⟩;refine⟨_,_,ae d rfl,ae d rfl,_,_,ae c rfl,ae c rfl,aH.mk GN ⟨_,rfl,al.mk (λ_=>?_) (λg=>by simp at g)⟩⟩;refine⟨_,_,_,_,ae d rfl,ae d rfl,_,_,_,_,ae c rfl,ae c rfl,PC.ok (EP (s:=f2.st) (s.af a) (v.af a)) ?_⟩;rintro _ w5 ⟨rfl,b⟩;have k:=b.get d id;have l:=b.get c id;refine⟨_,rfl,al.tt rfl ⟨_,_,_,ae k rfl,_,_,_,ae l rfl,PC.ok (AM (t.af (a.then b)) (x.af (a.then b))) ?_⟩⟩;rintro _ w6 ⟨rfl,e⟩;have m:=e.get k id;have n:=e.get l id;refine⟨_,rfl,al.tt rfl ⟨_,_,_,ae m rfl,_,_,_,ae n rfl,PC.ok (HO (u.af ((a.then b).then e)) (y.af ((a.then b).then e))) ?_⟩⟩;rintro _ w7 ⟨rfl,h⟩;exact⟨_,rfl,al.tt rfl ⟨_,ae (h.get m id) rfl,_,ae (h.get n id) rfl,Ok.mk ⟨sM,((a.then b).then e).then h⟩⟩⟩
end
section
variable {w w':World} {D E:Nat->Prop} {a b:Option Addr} {n m c:Nat}
def ER(h:Row gC 32 w D a n b9.bH):Calls ZQ 77 #[.agg (eg b9 a n c).toArray] w (Ok λI w'=>∃q y r f,I= .agg (eg b9 q y r).toArray/\aV gC 125 f w' q y r b9.bH/\ai w w'/\∀b,f b->w.heap.size<=b):=by
 have Y:=h.len;have d:=h.d_;unfold aQ at d;refine Al (PA.mk λz J Z K=>PA.mk λs A s7 L=>?_);have M:=A.get K id;have B:=J.then A;refine⟨λC l e m i w'=>i=(e:Int)/\e<=n/\C=n-e/\∃f,aV gC 125 f w' l e m (b9.bH.take e)/\ai s w'/\∀b,f b->s.heap.size<=b,
  ⟨_,rfl,Qj _,rfl,λ_=>False,by simpa using aV.nil s,aj.refl _,λ_ h=>h.elim⟩,?_⟩
 rintro C l e m i _ w1 ⟨rfl,hj,rfl,f,o,g,j⟩;have t:=g.get M id;have E:=B.then g;have F:(b9.bH.take e).length=e:=by simp;omega
 refine⟨_,_,_,ae t rfl,al.dec (λN=>?_) (λN=>?_)⟩
 ·obtain⟨b,u,x,es,rfl,_,_,O,p,rfl,P⟩:=(h.af E).sS (i:=e) oM
  refine⟨_,_,_,ae t rfl,b,u,rfl,oM,oM,_,_,_,_,p 0 dC,p 1 dC,p 2 dC,p 3 dC,IL o Ms (x:=x) (D:=λ_=>False) ⟨rfl,P⟩ (λ_ h=>h.elim) (by rw[F];unfold aQ;omega) (by rw[F];unfold maxLen;omega) λq r Q R S T U _=>?_⟩;refine⟨_,_,_,rfl,n-(e+1),oM,an oM,oM,rfl,R,?_,g.new T λb d=>.inr (j b (o.self b d)),?_⟩
  ·rw[Qw,O];exact S
  ·intro b d
   have:=g.size;rcases U b d with h|h|h
   ·exact j b h
   ·exact h.elim
   ·omega
 ·obtain rfl:e=n:=oM
  rw[Qz oM]at o;have V:=g.get L id;refine PS.mk t sM λw2 v s2 W=>aw (cs:=eg b9 l e m) (fD _ _ _ _) W (aD (fD _ _ _ _) (v.get V oM) rfl λQ H s3 X=>aw (fD _ _ _ _) X (Ok.mk ⟨l,e,m,f,rfl,?_,?_,λb d=>by have:=j b d;have:=B.size;omega⟩))
  ·exact(o.keep v λb d k=>by have k:b=w.heap.size:=k;have:=j b d;omega).keep H λb d k=>by have k:b=z.heap.size:=k;have:=j b d;omega
  ·exact(E.new v λb d=>.inr (by have d:b=w.heap.size:=d;omega)).new H λb d=>.inr (by have d:b=z.heap.size:=d;omega)
def HP{tn tc W pc:Nat}(q:bh w D M d tn p W):
  Calls ZQ 39 #[.agg #[.slice d tn tc,.slice p W pc]] w (Ok λe0 w'=>∃I AW a3 J K a7 G,e0= .agg #[.slice I AW a3,.slice J K a7]/\bh w' G M I AW J K/\(∀b,G b->w.heap.size<=b/\b<w'.heap.size)/\ai w w'):=by
 have g8:=q.bd.len;have b3:=q.bd.d_;have g9:=q.Bk.len;have b4:=q.Bk.d_;refine BP (PA.mk λL k4 s4 g4=>PA.mk λi k5 s5 g5=>PA.mk λw6 k6 s6 g6=>?_);have b5:=k4.then k5;have d7:=b5.then k6;have gp:=k6.get (k5.get g4 id) id;have gr:=k6.get g5 id;have z6:=d7.size;refine⟨λm N w'=>∃g:Nat,N=g/\g<=tn/\m=tn-g/\aj (·=i.heap.size) w6 w'/\∃O P X Z,w'.heap[i.heap.size]? =some (.cells #[.slice O P X,.slice none 0 0] 25 (0,0))/\aV lv 130 Z w' O P X (M.types.take g)/\∀b,Z b->w6.heap.size<=b,
  ⟨_,0,rfl,Qj _,rfl,aj.refl _,none,0,0,λ_=>False,g6,aV.nil _,λ_ q=>q.elim⟩,?_⟩
 rintro m _ _ h ⟨g,rfl,hj,rfl,Q,O,P,X,Z,go,x,F⟩;have a4:ai w h:=d7.new Q λb c=>.inr (by have c:b=i.heap.size:=c;have:=b5.size;omega);have zk:=Q.size;have a0:=Q.get gp λe=>by have e:w.heap.size=i.heap.size:=e;omega
 refine⟨_,_,_,ae a0 rfl,al.dec (λj7=>?_) (λj8=>?_)⟩
 ·have h0:g<M.types.length:=oM
  have b6:M.types[g]? =some M.types[g]:=Qq h0;generalize M.types[g]=r at b6;obtain⟨b,B,es,ha,c,j9,e1,fa,fn,fc,rfl,b8⟩:=(q.bd.af a4).el g r b6;have c0:=e1 0 dC;have h2:lv.k=1:=rfl;rw[h2,Nat.mul_one]at c0;have h3:=b8.len;have b9:=b8.d_;refine PA.mk λk0 h4 k1 h6=>PS.mk h6 sM λa5 h7 k2 h8=>?_;have C:ai h a5:=h4.new h7 λb c=>.inr (by have c:b=h.heap.size:=c;omega);have e2:=C.get a0 id;have d9:=C.size;have e3:=a4.then C;refine⟨λm N w'=>∃l:Nat,N=l/\l<=fn/\m=fn-l/\aj (·=h.heap.size) a5 w'/\∃t u y v,w'.heap[h.heap.size]? =some (.cells #[.slice t u y] 130 (0,0))/\aV pT 123 v w' t u y (r.take l)/\∀b,v b->a5.heap.size<=b,
   ⟨_,0,rfl,Qj _,rfl,aj.refl _,none,0,0,λ_=>False,h8,aV.nil _,λ_ q=>q.elim⟩,?_⟩
  rintro m _ _ a6 ⟨l,rfl,hk,rfl,j,t,u,y,v,z,k,s⟩;have zx:=j.size;have e4:ai w a6:=e3.new j λb c=>.inr (by have c:b=h.heap.size:=c;have:=a4.size;omega);have b2:=j.get e2 λe=>by have e:w.heap.size=h.heap.size:=e;have:=aC a0;omega
  have b7:a6.cell? ⟨b,B+Int.toNat (g:Int),none⟩=some (.slice fa fn fc):=by
   rw[Qx];refine(j.cell (a:=⟨b,B+g,none⟩) (Qk c d9) λe=>by have e:b=h.heap.size:=e;omega).trans ((C.cell (a:=⟨b,B+g,none⟩) c id).trans ?_);exact c0
  refine⟨_,_,_,ae b2 rfl,b,B,ha,oM,oM,_,_,_,b7,al.dec (λe5=>?_) (λe6=>?_)⟩
  ·intro c1 h9
   have o:ai a6 c1:=h9.keep;have j6:=e4.then o;have e7:=o.get z id;have e8:=o.get b2 id;have f0:c1.cell? ⟨b,B+Int.toNat (g:Int),none⟩=some (.slice fa fn fc):=(o.cell (a:=⟨b,B+Int.toNat (g:Int),none⟩) (Qk (Qk c d9) zx) id).trans b7;have i0:l<r.length:=oM
   have c2:r[l]? =some r[l]:=Qq i0;generalize r[l]=H at c2;have f1:ai h c1:=(C.new j λb c=>.inr (by have c:b=h.heap.size:=c;omega)).then o;obtain⟨fb,fo,a8,rfl,-,-,c4,ya,yn,yc,rfl,c5,a9⟩:=(b8.af f1).el l H c2;have f3:=c5.len;have f5:=c5.d_;refine⟨λ_=>False,id,_,_,_,ae e7 rfl,_,_,_,ae e8 rfl,b,B,ha,oM,oM,_,_,_,f0,fb,fo,rfl,oM,oM,br (es:=eg H ya yn yc) (k:=4) (fD _ _ _ _) rfl (λr ht=>by rw[Qx];exact c4 r ht) (PC.ok (ER c5) ?_)⟩;rintro _ k3 ⟨a,n,cc,Fm,rfl,c6,e9,f2⟩;have f6:=c6.aF;refine⟨_,_,_,_,_,_,rfl,e9,PA.mk λf4 c7 k7 i1=>⟨c7,?_⟩⟩;have a1:ai a6 f4:=(o.then e9).then c7;have k8:=c6.len dC;have f7:Row gC 32 f4 Fm a n H.bH:=(c6.af c7).row dC (by rw[<-f3];exact f5);refine fh (c:=pT) (x:=H) (k.af a1) RX i1 (D:=Fm) ⟨a,n,cc,rfl,f7,a9⟩ (λb c=>⟨by have:=f6 b c;omega,λe=>by have:=k.aF b (k.self b e);have:=f2 b c;have:=o.size;omega⟩) (by rw[Qy];unfold aQ at*;omega) (by rw[Qy];unfold aQ at b9;unfold maxLen;omega) λR S i2 A b0 E T=>⟨_,_,_,rfl,?_⟩
   have c9:¬aI t=some h.heap.size:=λe=>by have:=s _ (k.self _ e);omega
   have k9:=a1.size;have i3:=E.size;have zd:=o.size;have f:∀b,A b->a5.heap.size<=b:=λb c=>by
    rcases T b c with Y|Y|Y
    ·exact s b Y
    ·have:=f2 b Y;omega
    ·omega
   refine PS.mk (E.get (a1.get z id) c9) sM λi4 U i5 d0=>⟨_,oM,l+1,an (by unfold aQ at b9;omega),oM,rfl,((j.af a1).new E λb c=>.inr (s b (k.self b c))).then U,R,u+1,S,A,d0,?_,f⟩
   rw[Qw,c2];exact b0.keep U λb c e=>by have e:b=h.heap.size:=e;have:=f b c;omega
  ·rw[Qz oM]at k
   have c3:=j.get (C.get go id) λe=>by have e:i.heap.size=h.heap.size:=e;have:=aC go;omega
   refine⟨_,_,_,ae c3 rfl,_,_,_,ae z rfl,PA.mk λi6 d1 l0 i7=>?_⟩;have b1:ai h i6:=(C.new j λb c=>.inr (by have c:b=h.heap.size:=c;omega)).then d1;refine fh (c:=lv) (x:=r) (x.af b1) NO i7 (D:=v) ⟨t,u,y,rfl,(k.af d1).row dC (by rw[<-h3];exact b9)⟩ (λb c=>⟨by have:=k.aF b c;omega,λe=>by have:=x.aF b (x.self b e);have:=s b c;omega⟩) (by rw[Qy];unfold aQ at*;omega) (by rw[Qy];unfold aQ at b3;unfold maxLen;omega) λR S l3 A f8 d2 T=>⟨_,_,_,rfl,?_⟩
   have i8:¬aI O=some i.heap.size:=λe=>by have:=F _ (x.self _ e);omega
   have l4:=b1.size;have l5:=d2.size;have f:∀b,A b->w6.heap.size<=b:=λb c=>by
    rcases T b c with Y|Y|Y
    ·exact F b Y
    ·have:=s b Y;omega
    ·omega
   refine PS.mk (d2.get (d1.get c3 id) i8) sM λl6 c8 l7 i9=>⟨_,oM,g+1,an (by unfold aQ at b3;omega),oM,rfl,((Q.af b1).new d2 λb c=>.inr (F b (x.self b c))).then c8,R,P+1,S,A,i9,?_,f⟩
   rw[Qw,b6];exact f8.keep c8 λb c e=>by have e:b=i.heap.size:=e;have:=f b c;omega
 ·rw[Qz oM]at x
  have f9:=x.aF;refine⟨λm N w'=>∃g:Nat,N=g/\g<=W/\m=W-g/\aj (·=i.heap.size) h w'/\∃t u y v,w'.heap[i.heap.size]? =some (.cells #[.slice O P X,.slice t u y] 25 (0,0))/\aV wH 128 v w' t u y (M.projs.take g)/\∀b,v b->h.heap.size<=b,
   ⟨_,0,rfl,Qj _,rfl,aj.refl _,none,0,0,λ_=>False,go,aV.nil _,λ_ q=>q.elim⟩,?_⟩
  rintro m _ _ d3 ⟨l,rfl,hk,rfl,j,t,u,y,v,z,k,s⟩;have zx:=j.size;have d4:ai w d3:=a4.new j λb c=>.inr (by have c:b=i.heap.size:=c;have:=b5.size;omega);have d8:=j.get a0 λe=>by have e:w.heap.size=i.heap.size:=e;omega
  refine⟨_,_,_,ae d8 rfl,al.dec (λe5=>?_) (λe6=>?_)⟩
  ·intro j0 j1
   have o:ai d3 j0:=j1.keep;have g0:=o.get z id;obtain⟨fb,fo,H,a8,rfl,-,-,j2,c4,rfl,a9⟩:=(q.Bk.af (d4.then o)).sS (i:=l) oM;have V:=λr (ht:r<5)=>c4 r ht;refine⟨λ_=>False,id,_,_,_,ae g0 rfl,_,_,_,ae (o.get d8 id) rfl,fb,fo,rfl,oM,oM,_,_,_,_,_,V 0 dC,V 1 dC,V 2 dC,V 3 dC,V 4 dC,PA.mk λj3 g1 l8 j4=>⟨g1,?_⟩⟩;have a2:ai d3 j3:=o.then g1;refine fh (c:=wH) (x:=H) (k.af a2) Mh j4 (D:=λ_=>False) ⟨rfl,a9⟩ (λb c=>c.elim) (by rw[Qy];unfold aQ at*;omega) (by rw[Qy];unfold aQ at b4;unfold maxLen;omega) λR S i2 A b0 E T=>⟨_,_,_,rfl,?_⟩
   have c9:¬aI t=some i.heap.size:=λe=>by have:=s _ (k.self _ e);omega
   have l9:=a2.size;have i3:=E.size;have zd:=o.size;have f:∀b,A b->h.heap.size<=b:=λb c=>by
    rcases T b c with Y|Y|Y
    ·exact s b Y
    ·exact Y.elim
    ·omega
   refine PS.mk (E.get (a2.get z id) c9) sM λi4 U i5 d0=>⟨_,oM,l+1,an (by unfold aQ at b4;omega),oM,rfl,((j.af a2).new E λb c=>.inr (s b (k.self b c))).then U,R,u+1,S,A,d0,?_,f⟩
   rw[Qw,j2];exact b0.keep U λb c e=>by have e:b=i.heap.size:=e;have:=f b c;omega
  ·rw[Qz oM]at k
   have g2:=k.aF;have g3:=j.get (Q.get gr λe=>by have e:L.heap.size=i.heap.size:=e;omega) λe=>by have e:L.heap.size=i.heap.size:=e;omega
   have h1:=x.keep j λb c e=>by have e:b=i.heap.size:=e;have:=F b c;omega
   refine⟨_,_,_,_,_,_,ae z rfl,ae z rfl,PS.mk g3 sM λm0 d5 m1 j5=>PS.mk j5 sM λm2 d6 m3 g7=>⟨_,_,_,_,_,_,ae g7 rfl,ae g7 rfl,Ok.mk ⟨_,_,_,_,_,_,λb=>Z b\/v b,rfl,⟨?_,?_⟩,?_,?_⟩⟩⟩
   ·exact(((h1.row (bytes:=24) dC (by rw[<-g8];exact b3)).keep (d5.then d6) λb c e=>by have e:b=L.heap.size:=e;have:=F b c;omega)).mono λb c=>.inl c
   ·exact(((k.row (bytes:=40) dC (by rw[<-g9];exact b4)).keep (d5.then d6) λb c e=>by have e:b=L.heap.size:=e;have:=s b c;omega)).mono λb c=>.inr c
   ·have z4:=k4.size
    rintro b (c|c)
    ·have:=F b c;have:=f9 b c;omega
    ·have:=s b c;have:=g2 b c;omega
   ·exact d4.new (d5.then d6) λb c=>.inr (by have c:b=L.heap.size:=c;have:=k4.size;omega)
def wN{c:cz}{tn u r v:Nat}(x:bh w D c.decl d tn p r):
  Calls ZQ 13 #[lK c d tn u p r v] w (Ok λy w'=>∃a AW g e f h G,y=lK c a AW g e f h/\bh w' G c.decl a AW e f/\(∀b,G b->w.heap.size<=b/\b<w'.heap.size)/\ai w w'):=by
 refine BM (PA.mk λl s J z=>PA.mk λK m L A=>?_);have n:=m.get z id;refine⟨_,_,_,_,_,_,ae n rfl,ae n rfl,PC.ok (HP (x.af (s.then m))) ?_⟩;rintro _ M ⟨a,AW,g,e,f,h,G,rfl,B,o,k⟩;have N:=k.size;refine⟨_,_,_,_,_,_,rfl,PS.mk (k.get n id) sM λO C P E=>PS.mk E sM λQ F R H=>?_⟩;have q:=C.then F;refine aw (gD c a AW g e f h) H (aD (gD c a AW g e f h) (q.get (k.get A id) λj=>by have j:l.heap.size=w.heap.size:=j;omega) rfl λS t T I=>aw (gD c a AW g e f h) I (Ok.mk ⟨_,_,_,_,_,_,G,rfl,?_,λb i=>?_,?_⟩))
 ·exact(B.keep q λb i j=>by have j:b=w.heap.size:=j;have:=o b i;omega).keep t λb i j=>by have j:b=l.heap.size:=j;have:=o b i;omega
 ·have:=o b i;omega
 ·exact(((s.then m).then k).new q λb i=>.inr (by have i:b=w.heap.size:=i;omega)).new t λb i=>.inr (by have i:b=l.heap.size:=i;omega)
end
structure yE where
 kind:Int
 n:Int
 now:Int
 cmd:jS
 m:dz
section
variable (c:cz) (self:Int)
def CO(b:bw)(a:yE):Int×bw:=
 if a.kind=0 then((cm c self b a.cmd).1,(cm c self b a.cmd).2.2)else
 if a.kind=1 then(0,(gP c self b a.n (pick a.now 4611686018427387904)).2)else
 if a.kind=2 then(bA c self b a.m).2 else
 if a.kind=3 then(0,(KC self b (pick a.now 4611686018427387904)).2)else
 if a.kind=4 then iS c b a.n else
 if a.kind=5 then(0,{b with D:=b.D.Ma a.n})else
 if a.kind=6 then eC c b else(0,b)
end
structure ke (X Y:bw):Prop where
 evs:Y.S.l.length<=X.S.l.length+300\/Y.S.l.length<=16777216
 asked:Y.fP.asked.length<=X.fP.asked.length+1
def ke.refl(a:bw):ke a a:=⟨.inl oM,oM⟩
def KE{a b:Type}[BEq a][LawfulBEq a](c:a)(d:b):∀(e:List (a×b)),(aJ e c d).length<=e.length+1
 |[]=>by simp[aJ]
 |(g,h)::f=>by
  unfold aJ;split
  ·simp
  ·have:=KE c d f
   simp;omega
def Gx{b e:Type}[BEq b][LawfulBEq b](a:b)(f:e):∀(d:List (b×e)),a∈d.map (·.1)->(aJ d a f).map (·.1)=d.map (·.1)
 |[],h=>by simp at h
 |(i,k)::g,h=>by
  unfold aJ
  by_cases c:(a==i)=true
  ·rw[if_pos c]
   have:=eq_of_beq c;subst this;rfl
  ·rw[if_neg c]
   have j:a∈g.map (·.1):=by
    rcases Q2.1 h with h|h
    ·exact absurd (by rw[h];simp) c
    ·exact h
   simp[Gx a f g j]
def KF{a d:Type}[BEq a][LawfulBEq a](b:a):∀(c:List (a×d)),(bV c b).length<=c.length
 |[]=>by simp[bV]
 |(f,g)::e=>by
  unfold bV;split
  ·simp
  ·have:=KF b e
   simp;omega
def Iq(d a:Int)(b:List Int×List (Int×Int))(c:Int)(e:c∈b.2.map (·.1)):(gA d a b c).2.map (·.1)=b.2.map (·.1):=by
 unfold gA;split
 ·exact Gx _ _ _ e
 ·rfl
def xv(d a:Int):∀(c:List Int) (b:List Int×List (Int×Int)),(∀x∈c,x∈b.2.map (·.1))->(c.foldl (gA d a) b).2.map (·.1)=b.2.map (·.1)
 |[],b,_=>rfl
 |x::c,b,e=>by
  have f:=Iq d a b x (e x (QV ..));rw[List.foldl_cons,xv d a c _ λg h=>by rw[f];exact e g (QJ _ h),f]
def kr.SX(a:kr)(b:Int):(a.SV b).asked.length=a.asked.length:=by
 have d:=xv a.dx b (a.open.take a.open.length) ([],a.asked) λe c=>by
  have c:=List.mem_of_mem_take c;unfold kr.open at c;exact(List.mergeSort_perm _ _).mem_iff.1 c
 have:=congrArg List.length d;rw[Q8,Q8]at this;exact this
def sQ(a:Nat):∀(d:List ah) (f:aq) (b c:List ah),(dI a d f b c).2.1.length+(dI a d f b c).2.2.length<=b.length+c.length+d.length
 |[],f,b,c=>by simp[dI]
 |e::d,f,b,c=>by
  unfold dI;split
  ·have:=sQ a d (f.add e).2 (b++[e]) c
   simp at this⊢;omega
  split
  ·have:=sQ a d f b c
   simp;omega
  ·have:=sQ a d f b (dQ a c e).2
   have:=DI a c e;simp;omega
def sq:∀(b:List ah) (c:aq) (a:List ah),(dP b c a).2.length<=a.length+b.length
 |[],c,a=>by simp[dP]
 |e::b,c,a=>by
  unfold dP;split
  ·have:=sq b (c.add e).2 (a++[e])
   simp at this⊢;omega
  ·have:=sq b (c.add e).2 a
   simp;omega
def Gy:∀(k:Nat) (b:aq) (a c:List ah),(kW k b a c).1.length<=a.length+c.length
 |0,b,a,c=>by simp[kW]
 |k+1,b,a,c=>by
  unfold kW;have d:=xu b c;dsimp only;split
  ·simp
  ·have e:=sq (bI b c).1 b a
   have f:=Gy k (dP (bI b c).1 b a).1 (dP (bI b c).1 b a).2 (bI b c).2;omega
def CV(b:cz)(a:bw)(c:List ah):(fm b a c).1.length<=a.waits.length+c.length:=by
 have d:=sQ b.buffer.toNat c (dZ b a.S []) [] a.waits;have e:=Gy ((dI b.buffer.toNat c (dZ b a.S []) [] a.waits).2.2.length+1) (dI b.buffer.toNat c (dZ b a.S []) [] a.waits).1 (dI b.buffer.toNat c (dZ b a.S []) [] a.waits).2.1 (dI b.buffer.toNat c (dZ b a.S []) [] a.waits).2.2;simp at d;unfold fm;dsimp only;omega
def QC(c:cz)(a:aq)(b:List ah):(dZ c a b).l.length<=a.l.length+b.length:=by
 have:=aq.np (a.l++b) ⟨c.bl.toNat,[]⟩;unfold dZ;simp at this⊢;omega
def Gz(c:cz)(a:bw)(b:List ah):(bU c a b).2.S.l.length<=a.S.l.length+b.length/\(bU c a b).2.fP=a.fP:=by
 unfold bU
 cases a.log with
 |none=>exact⟨by dsimp only;omega,rfl⟩
 |some d=>
  dsimp only;split
  ·exact⟨by dsimp only;omega,rfl⟩
  split
  ·exact⟨by dsimp only;omega,rfl⟩
  ·exact⟨QC c a.S b,rfl⟩
def CP(c:cz)(b:Int)(a:bw)(d:jS):ke a (cm c b a d).2.2:=by
 unfold cm
 cases a.log with
 |none=>exact ke.refl a
 |some e=>
  dsimp only;split
  ·exact ke.refl a
  split
  ·have:=Gz c a [(kV c.decl a.S (cG c.decl a.S.l) b c.start d).1]
   simp at this;split
   ·exact⟨.inl (by dsimp only;omega),by dsimp only;rw[this.2];omega⟩
   ·exact⟨.inl (by dsimp only;omega),by dsimp only;rw[this.2];omega⟩
  ·exact ke.refl a
def mW(d:cz)(e:Int)(a:bw)(b:dz)(k:a.waits.length<=256)(l:d.chunk<=32):ke a (bA d e a b).2.2:=by
 unfold bA
 cases a.log with
 |none=>exact ke.refl a
 |some m=>
  dsimp only;split
  ·exact ke.refl a
  rename_i i;split
  ·exact ke.refl a
  split
  ·rename_i j
   have n:b.events.length<=32:=by
    rcases Nat.lt_or_ge 32 b.events.length with h|h
    ·exfalso
     apply i;unfold dJ;rw[if_pos j];intro c;split at c
     ·cases c
     ·unfold ez at c
      split at c
      ·cases c
      ·rw[if_pos (.inr oM)]at c;cases c
    ·exact h
   unfold ia;have o:=CV d a b.events;dsimp only;split
   ·exact⟨.inl (by dsimp only;omega),by dsimp only;omega⟩
   ·have f:=Gz d {a with waits:=(fm d a b.events).2} (fm d a b.events).1
    dsimp only at f;split
    ·exact⟨.inl (by dsimp only;omega),by dsimp only;rw[f.2];omega⟩
    ·exact⟨.inl (by dsimp only;omega),by dsimp only;rw[f.2];omega⟩
  ·have g:(a.fP.AP b.ck b.vec a.S.vec).asked.length<=a.fP.asked.length+1:=by
    unfold kr.AP;dsimp only;split
    ·have:=KF b.ck a.fP.asked;omega
    ·omega
   split
   ·exact⟨.inl (by dsimp only;omega),g⟩
   split
   ·exact⟨.inl (by dsimp only;omega),g⟩
   ·exact⟨.inl (by dsimp only;omega),g⟩
def CQ(e:cz)(a:Int)(c:bw)(b d:Int):ke c (gP e a c b d).2:=by
 unfold gP;split
 ·exact ke.refl c
 ·exact⟨.inl (by dsimp only;omega),KE _ _ _⟩
def Mx(a:Int)(c:bw)(b:Int):ke c (KC a c b).2:=by
 unfold KC;exact⟨.inl (by dsimp only;omega),by dsimp only;rw[kr.SX];omega⟩
def zl(b:cz)(a:bw):(eR b a).2.fP=a.fP:=by
 unfold eR;dsimp only;split<;>rfl
def ES(b:cz)(a:bw):ke a (eC b a).2:=by
 unfold eC
 cases a.log with
 |none=>exact ke.refl a
 |some c=>
  dsimp only;split
  ·exact⟨.inl (by dsimp only;omega),by dsimp only;omega⟩
  ·exact⟨.inl (by dsimp only;omega),by dsimp only;omega⟩
structure yE.Ok (x:yE):Prop where
 kind:aN x.kind
 n:aN x.n
 now:aN x.now
 cmd:x.cmd.Ok
def jZ(a:yE)(b:Option Addr)(c d:Nat)(e:Option Addr)(f g:Nat):List Value:=[QH a.kind,QH a.n,QH a.now]++gJ a.cmd++cD a.m b c d e f g
abbrev Wc(a:yE)(b:Option Addr)(c d:Nat)(e:Option Addr)(f g:Nat):Value:=.agg (jZ a b c d e f g).toArray
def Of(a:yE)(b:Option Addr)(c d:Nat)(e:Option Addr)(f g:Nat):jg ZQ 72 (jZ a b c d e f g)=true:=kR
def FT(a:ve)(b:Option Addr)(c d:Nat)(e:Option Addr)(f g:Nat)(h:Option Addr)(i j:Nat):TF (fe ZQ 46) (.agg (n_ a b c d e f g h i j).toArray)=true:=kR
def JH(a:cz)(b:Option Addr)(tn c:Nat)(d:Option Addr)(e f:Nat):TF (fe ZQ 28) (lK a b tn c d e f)=true:=kR
def PJ:kM yE where
 k:=15
 rep:=λn D i cs=>∃a b e c d f,cs=jZ i a b e c d f/\Row aP 8 n D a b i.m.vec/\Row fZ 96 n D c d i.m.events/\i.Ok
 keep:=λ⟨a,b,e,c,d,f,g,j,k,l⟩ o h=>⟨a,b,e,c,d,f,g,j.keep o h,k.keep o h,l⟩
 mono:=λ⟨a,b,e,c,d,f,g,j,k,l⟩ h=>⟨a,b,e,c,d,f,g,j.mono h,k.mono h,l⟩
 len:=λ⟨a,b,e,c,d,f,g,_⟩=>by rw[g];rfl
 one:=λ⟨a,b,e,c,d,f,g,_⟩ p m=>by
  rw[g]at m;simp only[jZ,gJ,cD,List.cons_append,List.nil_append,Q2,List.not_mem_nil,or_false]at m;rcases m with rfl|rfl|rfl|rfl|rfl|rfl|rfl|rfl|rfl|rfl|rfl|rfl|rfl|rfl|rfl<;>rfl
def Og{es:List Value}(i:jg h g es=true)(j:b.heap[a]? =some (.cells r q F))(k:∀d,d<es.length->r[c+d]? =es[d]?)(l:S (.agg es.toArray)):ow h g (.pointer (some ⟨a,c,none⟩)) b S:=
 br i rfl (λd e=>by
  have f:=k d e;rw[Qq e]at f⊢;exact ae j f) l
variable{g9:List yE}
section
variable {w w' w0 w1 w2:World} {p:Nat} {F E D Dv:Nat->Prop} {c:cz} {self:Int} {X:bw} {va ea:Option Addr} {vn vc en ec:Nat}
def JI:Calls ZQ 56 #[QH e] w (Ok λa w'=>a= QH (pick e 4611686018427387904)/\w=w'):=by
 refine LF (PC.ok (CN (by unfold aN;omega)) ?_);rintro _ _ ⟨rfl,rfl⟩;exact⟨_,rfl,Ok.mk ⟨rfl,rfl⟩⟩
def Mt(j:Row aP 8 w D va vn e1.vec)(f:Row fZ 96 w E ea en e1.events):
  Calls ZQ 28 #[kD e1 va vn vc ea en ec] w (Ok λg w'=>(∃d:Bool,g= .bool d/\(d=false->∀a∈e1.events,a.aK.length<=100))/\ai w w'):=by
 refine Hj (PA.mk λw1 b k e=>⟨_,_,_,ae e rfl,al.dec (λ_=>Ok.mk ⟨⟨_,rfl,sM⟩,b⟩) (λ_=>⟨_,_,_,ae e rfl,PC.ok (Mu (f.af b)) ?_⟩)⟩);rintro _ _ ⟨rfl,rfl⟩;refine⟨_,rfl,Ok.mk ⟨⟨_,rfl,λc a h=>?_⟩,b⟩⟩;have c:=Xy c;exact Nat.le_of_not_lt λi=>c (.inl ⟨a,h,i⟩)
def Mv{k l:Option Addr}{tn p m q:Nat}(h:bh w D M k tn l m):Calls ZQ 29 #[.agg #[.slice k tn p,.slice l m q]] w (Ok λr w'=>(∃e:Bool,r= .bool e)/\ai w w'):=by
 have B:=h.bd.len;have s:=h.bd.d_;unfold aQ at s;refine Hk (PA.mk λw1 a C b=>⟨_,_,_,ae b rfl,al.dec (λ_=>Ok.mk ⟨⟨_,rfl⟩,a⟩) (λ_=>⟨_,_,_,ae b rfl,al.dec (λ_=>Ok.mk ⟨⟨_,rfl⟩,a⟩) (λ_=>?_)⟩)⟩);refine⟨λf i w'=>∃c:Nat,i=c/\c<=tn/\f=tn-c/\w1=w',⟨_,0,rfl,Qj _,rfl,rfl⟩,?_⟩;rintro f _ _ _ ⟨c,rfl,E,rfl,rfl⟩;refine⟨_,_,_,ae b rfl,al.dec (λF=>?_) (λ_=>Ok.mk ⟨⟨_,rfl⟩,a⟩)⟩;obtain⟨e,j,H,I,rfl,J,-,K,t,L,n,N,rfl,o⟩:=(h.bd.af a).sS (i:=c) oM;have g:=t 0 dC;have u:lv.k=1:=rfl;rw[u,Nat.mul_one]at g;have v:=o.d_;unfold aQ at v;refine⟨_,_,_,ae b rfl,e,j,rfl,oM,oM,_,_,_,g,al.dec (λ_=>Ok.mk ⟨⟨_,rfl⟩,a⟩) (λ_=>?_)⟩;refine⟨λf i w'=>∃d:Nat,i=d/\d<=n/\f=n-d/\w1=w',⟨_,0,rfl,Qj _,rfl,rfl⟩,?_⟩;rintro f _ _ _ ⟨d,rfl,O,rfl,rfl⟩;refine⟨_,_,_,ae b rfl,e,j,rfl,oM,oM,_,_,_,g,al.dec (λP=>?_) (λ_=>⟨_,oM,c+1,an oM,oM,rfl,rfl⟩)⟩;obtain⟨x,y,Q,z,rfl,-,-,R,A,S,T,U,rfl,-,-⟩:=o.sS (i:=d) oM;exact⟨_,_,_,ae b rfl,e,j,rfl,oM,oM,_,_,_,g,x,y,rfl,oM,oM,_,_,_,A 3 dC,al.dec (λ_=>Ok.mk ⟨⟨_,rfl⟩,a⟩) (λ_=>⟨_,oM,d+1,an oM,oM,rfl,rfl⟩)⟩
def oX{q r s:Option Addr}{tn y t z l A:Nat}(B:bh w D c.decl q tn r t)(n:Row PJ 152 w E s l g9):
  Calls ZQ 10 #[lK c q tn y r t z,.slice s l A] w (Ok λC w'=>(∃f:Bool,C= .bool f/\(f=false->g9.length<=100/\∀d∈g9,∀h∈d.m.events,h.aK.length<=100))/\ai w w'):=by
 have U:=n.len;have F:=n.d_;unfold aQ at F;refine Hh (PA.mk λw1 m V H=>?_);refine⟨λo w'=>ai w1 w'/\(g9.length<=100->∀d∈g9,∀h∈d.m.events,h.aK.length<=100),⟨λu o b w'=>∃a:Nat,b=a/\a<=l/\u=l-a/\ai w1 w'/\∀d∈g9.take a,∀h∈d.m.events,h.aK.length<=100,⟨_,0,rfl,Qj _,rfl,aj.refl _,sM⟩,?_⟩,?_⟩
 ·rintro u o _ _ w2 ⟨a,rfl,W,rfl,i,j⟩
  refine al.dec (λX=>al.dec (λI=>?_) (λI=>⟨i,λJ=>oM⟩)) (λY=>⟨i,λ_=>by rw[Qz oM]at j;exact j⟩);obtain⟨f,k,K,Z,rfl,L,-,M,v,va,vn,vc,ea,en,ec,rfl,N,O,-⟩:=(n.af (m.then i)).sS (i:=a) oM;refine⟨f,k,rfl,oM,oM,br (es:=cD K.m va vn vc ea en ec) (k:=5) (j_ _ _ _ _ _ _ _) rfl (λb ht=>by
   rw[Qx];have:=v (10+b) (show 10+b<15 by omega);rw[show k+a*15+10+b=k+a*PJ.k+(10+b) by show _=k+a*15+_;omega,this];rcases b with _|_|_|_|_|b<;>first|rfl|omega) (PC.ok (Mt N O) ?_)⟩
  rintro _ P ⟨⟨Q,rfl,R⟩,e⟩;refine⟨_,rfl,al.mk (λ_=>Ok.mk ⟨⟨_,rfl,sM⟩,(m.then i).then e⟩) (λS=>?_)⟩;refine⟨f,k,rfl,oM,oM,_,_,_,(e.cell (a:=⟨f,_,none⟩) L id).trans (by rw[Qx];exact v 14 dC),_,oM,a+1,an oM,oM,rfl,i.then e,?_⟩;rw[Qw,M];intro d g;rcases Q6.1 g with g|g
  ·exact j d g
  ·simp at g;subst g;exact R S
 ·rintro o _ P ⟨e,j⟩
  have x:=e.get H id;refine⟨_,_,_,_,_,_,ae x rfl,ae x rfl,PC.ok (Mv (B.af (m.then e))) ?_⟩;rintro _ w4 ⟨⟨Q,rfl⟩,T⟩;have p:=(m.then e).then T;refine⟨_,rfl,al.mk (λ_=>Ok.mk ⟨⟨_,rfl,sM⟩,p⟩) (λ_=>al.dec (λ_=>Ok.mk ⟨⟨_,rfl,sM⟩,p⟩) (λJ=>Ok.mk ⟨⟨_,rfl,λ_=>⟨oM,j oM⟩⟩,p⟩))⟩
def JJ(r:Row aP 8 w D va vn e1.vec)(s:Row fZ 96 w E ea en e1.events)(J:∀c∈e1.events,c.aK.length<=100):
  Calls ZQ 57 #[kD e1 va vn vc ea en ec] w (Ok λK w'=>∃d e t f g u G,K=kD e1 d e t f g u/\Row aP 8 w' G d e e1.vec/\Row fZ 96 w' G f g e1.events/\(∀a,G a->w.heap.size<=a/\a<w'.heap.size)/\ai w w'):=by
 have L:=r.len;have M:=r.d_;have N:=s.len;have O:=s.d_;refine Eu (PA.mk λw1 P Z Q=>PA.mk λw2 z s2 R=>?_);have A:=P.then z;have B:=z.get Q id;refine⟨_,_,_,ae B rfl,PC.ok (tS (r.af A)) ?_⟩;rintro _ w3 ⟨i,j,k,S,rfl,C,l,m⟩;have z3:=l.size;have T:=C.aF;refine⟨_,_,_,rfl,PS.mk (l.get B id) (by simp[cD]) λU v s4 F=>⟨_,_,_,ae F rfl,?_⟩⟩;have H:ai w U:=(A.then l).new v λa b=>.inr (by have b:a=w.heap.size:=b;omega);refine PC.ok (rK (s.af H) J) ?_;rintro _ w5 ⟨n,o,p,V,rfl,I,h,x⟩;have z5:=h.size;have W:=I.aF;refine⟨_,_,_,rfl,PS.mk (h.get F id) (by simp[cD]) λw6 q s6 X=>aw (j_ e1 i j k n o p) X (aD (j_ e1 i j k n o p) (q.get (h.get (v.get (l.get R id) oM) id) oM) rfl λw7 y s7 Y=>aw (j_ e1 i j k n o p) Y (Ok.mk ⟨i,j,k,n,o,p,λa=>S a\/V a,rfl,?_,?_,?_,?_⟩))⟩
 ·refine Row.mono ?_ λa b=>Or.inl b
  exact((((C.keep v λa b c=>by have c:a=w.heap.size:=c;have:=m a b;omega).af h).keep q λa b c=>by have c:a=w.heap.size:=c;have:=m a b;omega).keep y λa b c=>by have c:a=w1.heap.size:=c;have:=m a b;omega).row dC (by rw[<-L];exact M)
 ·refine Row.mono ?_ λa b=>Or.inr b
  exact qz.row (((I.keep q λa b c=>by have c:a=w.heap.size:=c;have:=x a b;omega).keep y λa b c=>by have c:a=w1.heap.size:=c;have:=x a b;omega).row dC (by rw[<-N];exact O))
 ·rintro a (b|b)
  ·have:=m a b;have:=T a b;omega
  ·have:=x a b;have:=W a b;omega
 ·exact(((H.then h).new q λa b=>.inr (by have b:a=w.heap.size:=b;omega)).new y λa b=>.inr (by have b:a=w1.heap.size:=b;omega))
def bP.waits(e:bP w p F c self X):X.waits.length<=256:=by
 obtain⟨h,f,a,g⟩:=e;obtain⟨i,D,b,-,-⟩:=(show Mw w (λd=>F d/\a d=5) f.wp c.buffer.toNat X.waits from g.at' 5)
 exact Xx b.1.2.le b.1.1
def bP.ok(a:bP w p F c self X):kU c self:=a.1
def de.after(a:ai w w1)(b:de F w1 f w2):de F w f w2:=⟨(ai.keep a).then b.keep,λc d=>(b.new c d).imp id λe=>by have:=a.size;omega⟩
def oY(n:bP w p F c self X)(Q:Env w0 w F){b:yE}(o:b.Ok)(R:Row aP 8 w Dv va vn b.m.vec)(S:Row fZ 96 w E ea en b.m.events)(T:∀U∈b.m.events,U.aK.length<=100)(C:X.S.l.length<=18000000)(V:X.fP.asked.length<=1000):
  Calls ZQ 24 #[ZX p,Wc b va vn vc ea en ec] w (Ok λW w'=>∃a,W= QH (CO c self X b).1/\bP w' p a c self (CO c self X b).2/\de F w a w'/\ke X (CO c self X b).2):=by
 have H:=n.aF;have Y:=n.waits;have Z:=n.ok.vf;refine Hi (PA.mk λw1 d s1 i=>⟨_,ae i rfl,?_⟩);have g:=n.af d;have q:=Q.af d;unfold CO;refine al.dX (λs=>?_) (λs=>?_)
 ·rw[if_pos s]
  refine Og (es:=gJ b.cmd) (BF b.cmd) i (λk t=>by rcases k with _|_|_|_|_|_|_|k<;>first|rfl|exact absurd t (by simp[gJ])) (PC.ok (rL g q o.cmd oM) ?_);rintro _ w2 ⟨a,⟨sa,sn,sc,xa,xn,xc,ra,rn,rc,G,rfl,-,-,-,-⟩,a2,a0⟩;refine⟨_,_,_,_,_,_,_,_,_,_,_,_,_,_,rfl,Ok.mk ⟨a,?_,a2,de.after d a0,CP c self X b.cmd⟩⟩
  by_cases l:(cm c self X b.cmd).1≠0
  ·rw[if_pos l]
  ·rw[if_neg l];have l:(cm c self X b.cmd).1=0:=Classical.not_not.1 l;rw[l]
 rw[if_neg s];refine al.dX (λu=>?_) (λu=>?_)
 ·rw[if_pos u]
  intro w2 d2;have j:ai w1 w2:=d2.keep;have I:=j.get i id;refine⟨F,λv=>by have:=H _ v;omega,_,ae I rfl,_,ae I rfl,PC.ok JI ?_⟩;rintro _ _ ⟨rfl,rfl⟩;refine⟨_,rfl,aj.refl _,PC.ok (wO (g.af j) o.n) ?_⟩;rintro _ m ⟨a,⟨J,K,L,M,N,rfl,-⟩,f,e⟩;exact⟨_,_,_,rfl,e.keep,Ok.mk ⟨a,rfl,f,de.after (d.then j) e,CQ c self X _ _⟩⟩
 rw[if_neg u];refine al.dX (λx=>?_) (λx=>?_)
 ·rw[if_pos x]
  refine Og (es:=cD b.m va vn vc ea en ec) (j_ _ _ _ _ _ _ _) i (λk t=>by rcases k with _|_|_|_|_|k<;>first|rfl|exact absurd t (by simp[cD])) (PC.ok (JJ (R.af d) (S.af d) T) ?_);rintro _ w2 ⟨a1,a3,a4,a5,a6,a7,G,rfl,a8,a9,O,j⟩;have z1:=d.size;have P:∀h,G h->h<w2.heap.size/\¬F h:=λh r=>⟨(O h r).2,λv=>by have:=H h v;have:=O h r;omega⟩
  refine cu (XG _ _ _ _ _ _ _) ⟨rfl,PC.ok (kf (g.af j) (q.af j) a8 P a9 P C) ?_⟩;rintro _ m ⟨v1,a,rfl,⟨J,K,L,M,N,rfl,-⟩,f,e⟩;exact⟨_,_,_,_,rfl,Ok.mk ⟨a,rfl,f,de.after (d.then j) e,mW c self X b.m Y Z.2⟩⟩
 rw[if_neg x];refine al.dX (λy=>?_) (λy=>?_)
 ·rw[if_pos y]
  refine⟨_,ae i rfl,PC.ok JI ?_⟩;rintro _ _ ⟨rfl,rfl⟩;refine⟨_,rfl,PC.ok (Sp g V) ?_⟩;rintro _ m ⟨a,⟨J,K,L,M,N,rfl,-⟩,f,e⟩;exact⟨_,_,_,rfl,Ok.mk ⟨a,rfl,f,de.after d e,Mx self X _⟩⟩
 rw[if_neg y];refine al.dX (λz=>?_) (λz=>?_)
 ·rw[if_pos z]
  refine⟨_,ae i rfl,PC.ok (FU g q o.n) ?_⟩;rintro _ m ⟨a,rfl,f,e,b0⟩;refine⟨_,rfl,Ok.mk ⟨a,rfl,f,de.after d e,.inr b0,?_⟩⟩;unfold iS;rw[zl];exact Qj _
 rw[if_neg z];refine al.dX (λA=>?_) (λA=>?_)
 ·rw[if_pos A]
  refine⟨_,ae i rfl,PC.ok (Sq g o.n) ?_⟩;rintro _ m ⟨a,rfl,f,e⟩;exact⟨rfl,Ok.mk ⟨a,rfl,f,de.after d e,⟨.inl (by dsimp only;omega),by dsimp only;omega⟩⟩⟩
 rw[if_neg A];refine al.dX (λB=>?_) (λB=>?_)
 ·rw[if_pos B]
  refine PC.ok (zn g q C) ?_;rintro _ m ⟨a,rfl,f,e⟩;exact⟨_,rfl,Ok.mk ⟨a,rfl,f,de.after d e,ES c X⟩⟩
 ·rw[if_neg B]
  exact Ok.mk ⟨F,rfl,g,⟨ai.keep d,λh r=>.inl r⟩,ke.refl X⟩
end
def ju.af(f:ju b f2 w k)(a:ai k a9):ju b f2 w a9:=by
 obtain⟨g,h,i,j,l,m,n,o,p,G,q,r,s,t,c⟩:=f;exact⟨g,h,i,j,l,m,n,o,p,G,q,r.af a,s.af a,t.af a,λd e=>⟨(c d e).1,by have:=(c d e).2;have:=a.size;omega⟩⟩
def Oh{x:ve}(o:∀a,ai b a->Calls ZQ z r a (Ok λd c=>ju a x d c/\ai a c))(p:∀a,ai b a->Calls ZQ g4 X a (Ok λd c=>ju a x d c/\ai a c)){q:World->Prop}(f:∀c,ai b c->y c):
  PC ZQ z r b (λd a=>yY (fe ZQ 46) λx=>d=x/\PC ZQ g4 X a (λg h=>yY (fe ZQ 46) λi=>g=i/\PC ZQ 47 #[x,i] h (λs e=>∃j:Bool,s= .bool j/\al (!j) (q e) (y e)) a1) f1) h7:=by
 refine PC.ok (o b (aj.refl _)) ?_;rintro d a ⟨k,l⟩;have t:=k;obtain⟨u,v,w,A,B,C,E,F,H,G,rfl,-⟩:=k;refine cu (FT x u v w A B C E F H) ⟨rfl,PC.ok (p a l) ?_⟩;rintro g h ⟨m,n⟩;have I:=m;obtain⟨J,tn,K,L,M,N,O,P,Q,S,rfl,-⟩:=m;refine cu (FT x J tn K L M N O P Q) ⟨rfl,PC.ok (CM (t.af n) I) ?_⟩;rintro _ e ⟨rfl,R⟩;exact⟨_,rfl,al.ff rfl (f e ((l.then n).then R))⟩
section
variable {w w' w0:World} {p q:Nat} {F G D:Nat->Prop} {c e:cz} {self other:Int} {X Y:bw}
def rN(l:bP w p F c self X)(m:bP w q G e other Y)(n:c.decl=e.decl)(o:X.S.l=Y.S.l){u v:Option Addr}{tn B r C:Nat}(x:bh w D M u tn v r):
  Calls ZQ 21 #[ZX p,ZX q,.agg #[.slice u tn B,.slice v r C]] w (Ok λE w'=>E= .bool true/\ai w w'):=by
 have H:=x.bd.d_;have I:=x.Bk.d_;unfold aQ at H I;refine Ce (PA.mk λd y O z=>?_);have step:∀{a:Nat},a<1000000000000000->IntKind.wrap .i64 ((a:Int)-1+1)=((a+1:Nat):Int)-1:=λ{a} A=>by
  rw[wrap_i64 (by unfold aN;omega)];omega
 refine⟨λg k w'=>∃a:Nat,k=(a:Int)-1/\a<=tn+2/\g=tn+2-a/\ai d w',⟨_,0,rfl,Qj _,rfl,aj.refl _⟩,?_⟩;rintro g _ _ P ⟨a,rfl,A,rfl,s⟩;refine⟨_,_,_,ae (s.get z id) rfl,al.dec (λJ=>?_) (λQ=>?_)⟩
 ·refine⟨λg k w'=>∃h:Nat,k=h/\h<=4/\g=4-h/\ai d w',⟨_,0,rfl,Qj _,rfl,s⟩,?_⟩
  rintro g _ _ K ⟨h,rfl,R,rfl,i⟩;have f:=y.then i;refine al.dec (λS=>?_) (λ_=>⟨_,oM,a+1,step oM,oM,rfl,i⟩);refine Oh (x:=ET c.decl X.S.l ((a:Int)-1) h) (λd b=>A_ ((l.af f).af b)) (λd b=>by rw[n,o];exact A_ ((m.af f).af b)) λL j=>?_;refine Oh (x:=Ba c.decl X.S.l ((a:Int)-1) h h) (λd b=>CR (((l.af f).af j).af b) (by unfold aN;omega)) (λd b=>by rw[n,o];exact CR (((m.af f).af j).af b) (by unfold aN;omega)) λN t=>?_;exact⟨_,oM,h+1,an oM,oM,rfl,(i.then j).then t⟩
 ·refine⟨λg k w'=>∃a:Nat,k=(a:Int)-1/\a<=r+2/\g=r+2-a/\ai d w',⟨_,0,rfl,Qj _,rfl,s⟩,?_⟩
  rintro g _ _ K ⟨a,rfl,A,rfl,i⟩;have f:=y.then i;refine⟨_,_,_,ae (i.get z id) rfl,al.dec (λJ=>?_) (λ_=>Ok.mk ⟨rfl,f⟩)⟩;refine Oh (x:=yF c.decl X.S.l ((a:Int)-1) (-9223372036854775808)) (λd b=>sH ((l.af f).af b)) (λd b=>by rw[n,o];exact sH ((m.af f).af b)) λL j=>?_;refine Oh (x:=yF c.decl X.S.l ((a:Int)-1) 2) (λd b=>sH (((l.af f).af j).af b)) (λd b=>by rw[n,o];exact sH (((m.af f).af j).af b)) λN t=>?_;exact⟨_,oM,a+1,step oM,oM,rfl,(i.then j).then t⟩
end
end Go.Proofs.YtfchlbaidamodaaGreatDoor
