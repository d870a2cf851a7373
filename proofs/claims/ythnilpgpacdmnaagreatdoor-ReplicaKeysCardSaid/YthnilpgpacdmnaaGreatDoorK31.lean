import Derived.Test.YthnilpgpacdmnaaGreatDoorK30
namespace Go.Proofs.YthnilpgpacdmnaaGreatDoor
open Go.au
set_option linter.unusedVariables false
set_option maxRecDepth 20000
section
variable {w w' wz A B w1:World} {D:Nat->Prop} {a:Option Addr} {n c:Nat} {l:List cC}
theorem HB {J j g:Int} {most:Nat} (K:Row xt 120 w D a n l) (hD:∀b,D b->b<w.heap.size) (hm:most<=1000) (hl:l.length<=20000000) (l3:aK g):
  Calls Tryz.prog 97 #[.slice a n c,.int .i64 J,.int .i64 j,.int .i64 g,.int .i64 (most:Int)] w (Ok λa6 w'=>∃P,a6= .tuple #[P,.bool (jz l J j g most).2]/\oy xt 160 w (jz l J j g most).1 P w'):=by
 obtain⟨V,c1,hL,e8⟩:=eg.boxes (N:=Kk) K;have l5:V.length=l.length:=by rw [<-c1,Q8]
 obtain⟨own,r⟩:∃own,own=V.filter λb=>RQ J j b.x:=⟨_,rfl⟩
 obtain⟨k,hf⟩:∃k:Nat,k=(max g 0).toNat:=⟨_,rfl⟩
 have c7:own.map (·.x)=l.filter λd=>d.ev.aT==J&&d.ev.agg==j:=by rw [r,<-c1,List.filter_map];rfl
 have e9:jz l J j g most=(((own.drop k).take most).map (·.x),decide (most<(own.drop k).length)):=by
  unfold jz;rw [<-c7,<-hf];simp only [List.map_take,List.map_drop,XZ,Q8]
 rw [e9];have f9:own.length<=20000000:=by rw [r];have:=List.length_filter_le (λb:Bx cC=>RQ J j b.x) V;omega
 refine BT (PA.mk λw6 k6 s6 g6=>PA.mk λx k7 s7 g7=>PA.mk λw8 k8 s8 g8=>PA.mk λm k9 s9 g9=>PA.mk λo a0 l6 g0=>PA.mk λp W l7 g1=>PA.mk λg2 Q l8 g5=>?_);have a7:=(((k8.then k9).then a0).then W).then Q;have c8:=a7.get (show x.heap[w6.heap.size]? =_ from g7) id;have l4:(if 0>(if False then(0:Int)else g)then 0 else g)=(k:Int):=by simp;split<;>omega
 refine⟨_,ae ((((k9.then a0).then W).then Q).get g8 id) rfl,?_⟩;have h0:(if 0>g then(0:Int)else g)=(k:Int):=by rw [hf];split<;>omega
 rw [h0];refine PS.mk ((((k9.then a0).then W).then Q).get g8 id) sM λF L l9 h8=>?_;have c9:F.heap[x.heap.size]? =some (.cells #[.int .i64 (k:Int)] 3 (0,0)):=h8;have d0:ai w g2:=((k6.then k7).then a7)
 have d1:ai w F:=d0.new L λb e=>.inr (by have e:b=x.heap.size:=e;omega);have d2:=L.get ((k7.then a7).get g6 id) (λd=>by have d:w.heap.size=x.heap.size:=d;omega);have d5:=L.get c8 (λd=>by have d:w6.heap.size=x.heap.size:=d;omega);have d6:=L.get (((a0.then W).then Q).get g9 id) (λd=>by have d:w8.heap.size=x.heap.size:=d;omega);have d8:=L.get ((W.then Q).get g0 id) (λd=>by have d:m.heap.size=x.heap.size:=d;omega);have e1:=L.get (Q.get g1 id) (λd=>by have d:o.heap.size=x.heap.size:=d;omega);have e2:=L.get g5 (λd=>by have d:p.heap.size=x.heap.size:=d;omega);refine PC.ok (φ:=λa6 w'=>a6= .func (.func 223) #[] #[.pointer (some ⟨F.heap.size,0,none⟩),.pointer (some ⟨F.heap.size+1,0,none⟩)]/\w'.heap[F.heap.size]? =some (.cells #[.slice a n c] 52 (0,0))/\(∃d ff,w'.heap[F.heap.size+1]? =some (.cells #[.func (.func 157) #[] #[.pointer (some ⟨w.heap.size,0,none⟩),.pointer (some ⟨w6.heap.size,0,none⟩)]] d ff))/\ai F w'/\w'.heap.size=F.heap.size+2)
  (zr (PA.mk λw3 k3 s3 g3=>PA.mk λw4 k4 s4 g4=>Ok.mk ⟨by rw [s3],k4.get g3 id,⟨_,_,by rw [<-s3];exact g4⟩,k3.then k4,oM⟩)) ?_
 rintro _ wz ⟨rfl,h9,i0,z,sz⟩;have i:=d1.then z;have a8:=z.get d2 id;have a9:=z.get d5 id;have b0:=z.get d6 id;have b1:=z.get c9 id;have M:=z.get d8 id;have N:=z.get e1 id;have X:=z.get e2 id;have Y:p.heap.size<wz.heap.size:=ay X;have d3:m.heap.size<wz.heap.size:=ay M;have d4:o.heap.size<wz.heap.size:=ay N;have b2:∀b,D b->b<wz.heap.size/\b≠p.heap.size:=λb e=>⟨by have:=hD b e;have:=i.size;omega,λd=>by have:=hD b e;omega⟩
 have e3:∀b∈V,Kk.In wz D b:=λb e=>(e8 b e).af i λ_ _ K=>K;have e5:∀{c0:Nat} {b:Bx cC},own[c0]? =some b->b∈V:=λ{c0 b} e=>by
  have:=QZ e;rw [r]at this;exact(List.mem_filter.1 this).1
 refine⟨_,rfl,223,_,rfl,kR,Unit,(),λ_=>Nd wz p.heap.size own k most,λP _ A=>P= .ret/\Tg wz p.heap.size m.heap.size o.heap.size own k most A,
  λf R=>∃b,own[f.length]? =some b/\R=[.int .i64 (f.length:Int),DH b.x b.a b.n b.c],λC=>C.length=own.length,?_,λ_ f A B O u=>O.dZ Y u,λP f A B hx u=>⟨hx.1,hx.2.dZ ⟨Y,d3,d4⟩ ⟨oM,oM⟩ u⟩,?_,?_,?_,?_,trivial⟩
 ·intro w1 hk hs
  refine⟨ai.af hk,oM,none,0,0,λ_=>False,hk.get X id,?_,λb e=>e.elim,Qj _⟩;simpa using aO.nil w1
 ·rintro _ f A O m0 m1 m2 m3 m4 ta tn tc m5 m6 m7 m8 m9 n0 n1 n3 n4 ⟨b,e,he⟩
  simp only [gg,aB,List.cons_append,List.nil_append,List.cons.injEq,Value.agg.injEq,Array.mk.injEq,Value.int.injEq,XX,Value.bool.injEq,and_true,true_and]at he;obtain⟨rfl,rfl,rfl,rfl,⟨rfl,rfl,rfl⟩,rfl,rfl,rfl,rfl,rfl,rfl,rfl,rfl,rfl⟩:=he;have n8:f.length<own.length:=(Qv.1 e).1;refine PA.mk λn9 i1 o0 i2=>az (ko b.x b.a b.n b.c) i2 rfl λi3 i4 o1 i5=>?_;have c2:ai A i3:=i1.new i4 λb e=>.inr (by have e:b=A.heap.size:=e;omega);refine⟨ai.af c2,λb3 u=>?_⟩;have c3:=(O.ah c2).dZ Y u;have i6:=u.1.get i5 (λd=>by have d:A.heap.size=wz.heap.size+1:=d;omega);have o2:=u.2;have Z:=c3.af;have c4:∀R:List Value,(((own.take (f++[R]).length).drop k)=if f.length<k then []else((own.take f.length).drop k)++[b]):=λR=>by
   rw [QX,List.length_singleton,Qw,e];have i7:(own.take f.length).length=f.length:=by rw [Qy];omega
   split
   ·rename_i s
    exact List.drop_eq_nil_of_le (by rw [QX,i7];simp;omega)
   ·rename_i s
    rw [List.drop_append_of_le_length oM];rfl
  obtain⟨q,y,E,H,S,G,v,t,s,h6⟩:=c3;have a1:=t.len dC;rw [Q8,XZ,Qy,X2 oM]at a1;refine⟨_,ae (Z.get b1 (λd=>by have d:x.heap.size=p.heap.size:=d;omega)) rfl,al.dec (λo3=>⟨ak.refl _,?_⟩) (λo4=>⟨_,_,_,ae v rfl,_,ae (Z.get b0 (λd=>by have d:w8.heap.size=p.heap.size:=d;omega)) rfl,al.dec (λi8=>?_) (λi9=>λd7 j0=>?_)⟩)⟩
  ·refine⟨q,y,E,H,S,G,v,?_,s,h6⟩
   rw [c4,if_pos oM];rw [List.drop_eq_nil_of_le (by rw [Qy];omega)]at t;exact t
  ·have e6:H=most:=oM
   have b4:=Z.get M (λd=>by have d:m.heap.size=p.heap.size:=d;omega);have b5:=Z.get N (λd=>by have d:o.heap.size=p.heap.size:=d;omega);refine⟨_,_,_,ae v rfl,PS.mk b4 sM λo5 d9 o6 j1=>PS.mk (d9.get b5 (λd=>by have d:o.heap.size=m.heap.size:=d;omega)) sM λj2 e0 o7 j3=>?_⟩;have T:ak (λb=>b=m.heap.size\/b=o.heap.size) b3 j2:=(d9.mono λb _ d=>.inl d).then (e0.mono λb _ d=>.inr d);have j4:(own.drop k).take most=(own.take f.length).drop k:=by
    rw [<-e6,a1,List.drop_take]
   refine⟨T.mono λb _ e=>⟨by rcases e with rfl|rfl<;>omega,by rcases e with rfl|rfl<;>omega⟩,.inl rfl,rfl,(q.mono λb _ d=>.inl d).then (T.mono λb _ d=>.inr d),j3,by rw [XZ];omega,E,H,S,G,e0.get j1 (λd=>by have d:m.heap.size=o.heap.size:=d;omega),?_,s⟩;rw [j4];exact t.af T λb e d=>by have:=s b e;rcases d with rfl|rfl<;>omega
  ·have U:ai b3 d7:=j0.af
   have c5:=(e3 b (e5 e)).af Z λb e d=>(b2 b e).2 d;have e7:Row aG 8 d7 D b.a b.n b.x.ev.aN:=c5.1.ah U;have f0:b.x.ev.Ok:=c5.2;refine⟨λ_=>False,id,_,_,_,ae (U.get v id) rfl,ar (ko b.x b.a b.n b.c) (U.get i6 id) (PC.ok (Cs e7 λb e=>by have:=(b2 b e).1;have:=U.size;omega) ?_)⟩;rintro _ o8 ⟨f1,n2,f2,G2,rfl,j5,b6,b7⟩;have o9:=U.size;have p0:=b7.size;refine⟨_,_,_,_,_,_,_,_,_,_,_,_,_,_,_,rfl,b7,PA.mk λp1 b8 p2 j6=>⟨b8,?_⟩⟩;have a2:=(U.then b7).then b8;refine dQ (c:=xt) (x:=b.x) (t.ah a2) Pj j6 (D:=G2) ⟨f1,n2,f2,rfl,j5.ah b8,f0⟩ (λb e=>⟨by have:=b6 b e;omega,λd=>by have:=t.aC b (t.self b d);have:=b6 b e;omega⟩) (by rw [Q8,XZ,Qy];unfold aI;omega) (by rw [Q8,XZ,Qy];unfold maxLen;omega) λa' c' p3 F' f3 b9 j7=>⟨_,_,_,rfl,?_⟩
   have h:∀b,aF E=some b->wz.heap.size+2<=b:=λb e=>s b (t.self b e);have j8:¬aF E=some p.heap.size:=λd=>by have:=h _ d;omega
   have p4:=b9.size;have p5:=a2.size;have I:∀b,F' b->wz.heap.size+2<=b:=λb e=>by
    rcases j7 b e with h7|h7|h7
    ·exact s b h7
    ·have:=b6 b h7;omega
    ·omega
   refine PS.mk (b9.get (a2.get v id) j8) sM λj9 e4 p6 k0=>?_;have T:ak (λb=>aF E=some b\/b=p.heap.size) b3 j9:=((ai.af a2).then (b9.mono λb _ d=>.inl d)).then (e4.mono λb _ d=>.inr d);refine⟨T.mono λb _ e=>⟨?_,?_⟩,⟨(q.new (T.mono λb _ d=>d) λb e=>e.elim (λd=>.inr (by have:=h b d;omega)) .inl),oM,a',H+1,c',F',k0,?_,I,oM⟩⟩
   ·rcases e with e|rfl
    ·have:=h b e;omega
    ·omega
   ·rcases e with e|rfl
    ·have:=h b e;omega
    ·omega
   ·rw [c4,if_neg oM,Q3]
    exact f3.af e4 λb e d=>by have d:b=p.heap.size:=d;have:=I b e;omega
 ·intro f4 Rx hR _ p7 hy w1 k1 f5
  refine Calls.mono (Ri (own:=own) (f:=k) (most:=most) (R:=f4) (Rx:=Rx .ret) (R1:=m.heap.size) (R2:=o.heap.size) Y a8 a9 oM oM ⟨_,_,z.size|>λ_=>h9⟩ oM i0 oM (hL.ah i) b2 r oM hR (λf R A O k2 u hN=>(hy () f R A O k2 u hN).mono ?_) k1 f5) ?_
  ·rintro b A' (K|⟨q,P,⟨rfl,y⟩,v⟩)
   ·exact .inl K
   ·exact .inr ⟨q,y,v⟩
  ·rintro d A' ⟨hv,K⟩
   refine⟨hv,?_⟩;rcases K with⟨q,C,y,v⟩|⟨q,y⟩
   ·exact .inl ⟨q,(),C,y,v⟩
   ·exact .inr ⟨.ret,[],⟨rfl,q⟩,y⟩
 ·rintro _ C A O c6 hm
  obtain⟨q,y,E,H,S,G,v,t,s,h6⟩:=O;have a1:=t.len dC;rw [c6,List.take_length]at t;rw [c6,List.take_length,Q8,XZ]at a1;have b4:=q.get M (λd=>by have d:m.heap.size=p.heap.size:=d;omega);have b5:=q.get N (λd=>by have d:o.heap.size=p.heap.size:=d;omega);refine⟨_,_,_,ae v rfl,PS.mk b4 sM λp8 a3 p9 k5=>PS.mk (a3.get b5 (λd=>by have d:o.heap.size=m.heap.size:=d;omega)) sM λq0 a4 q1 l0=>?_⟩;refine⟨a4.get (a3.get hm (λd=>by have d:wz.heap.size=m.heap.size:=d;omega)) (λd=>by have d:wz.heap.size=o.heap.size:=d;omega),λq2 u=>?_⟩;have a5:=u.1;have f6:=a5.get (a4.get k5 (λd=>by have d:m.heap.size=o.heap.size:=d;omega)) (λd=>by have d:m.heap.size=wz.heap.size:=d;omega);have f7:=a5.get l0 (λd=>by have d:o.heap.size=wz.heap.size:=d;omega);refine⟨_,_,_,ae f6 rfl,_,ae f7 rfl,Ok.mk ⟨_,?_,E,H,S,G,rfl,?_,?_,λb e=>by have:=s b e;have:=i.size;omega⟩⟩
  ·rw [Xv (by rw [XZ];omega)]
  ·rw [Qz (by rw [XZ];omega)]
   exact((t.af a3 λb e d=>by have d:b=m.heap.size:=d;have:=s b e;omega).af a4 λb e d=>by have d:b=o.heap.size:=d;have:=s b e;omega).af a5 λb e d=>by have d:b=wz.heap.size:=d;have:=s b e;omega
  ·refine(((i.new q λb e=>.inr (by have e:b=p.heap.size:=e;omega)).new a3 λb e=>.inr (by have e:b=m.heap.size:=e;omega)).new a4 λb e=>.inr (by have e:b=o.heap.size:=e;omega)).new a5 λb e=>.inr (by have e:b=wz.heap.size:=e;have:=i.size;omega)
 ·rintro f A ⟨-,hx⟩ hm
  refine⟨hm,λq3 u=>?_⟩;obtain⟨q,y,f8,E,H,S,G,v,t,s⟩:=hx.dZ ⟨Y,d3,d4⟩ ⟨oM,oM⟩ u;refine⟨_,_,_,ae v rfl,_,ae y rfl,Ok.mk ⟨_,by rw [decide_eq_true f8],E,H,S,G,rfl,t,?_,λb e=>by have:=s b e;have:=i.size;omega⟩⟩;exact i.new q λb e=>.inr (by rcases e with e|e|e<;>omega)
end
def yv (b:aM) (c:List aj) (d e a:Int):pH:=⟨0,(0,0),⟨0,[]⟩,(jz (cg b c).entries d e a 32).1,[],(jz (cg b c).entries d e a 32).2⟩
section
variable {w w' w0 w1 w2:World} {p:Nat} {F E D:Nat->Prop} {cls:Nat->Nat} {h:iP} {c:cy} {self:Int} {X:bE}
theorem Aw (u:bz w p F c self X) {e f a:Int} (v:aK a):Calls Tryz.prog 44 #[.pointer (some ⟨p,0,none⟩),.int .i64 e,.int .i64 f,.int .i64 a] w (Ok λx w'=>g_ w (yv c.decl X.S.l e f a) x w'/\ai w w'):=by
 obtain⟨K,h,cls,n⟩:=u;refine kY (PA.mk λy g L z=>PC.ok (AW (cu.ah n g)) ?_);rintro _ _ ⟨rfl,rfl⟩;have A:=cu.ah n g;have b:cJ y h.bp (λd=>F d/\cls d=4) c.decl c.every.toNat X.S.l:=A.at' 4;have B:=(uY c.decl X.S.l b.1.2.2.2).1;refine⟨_,rfl,_,_,Fg,PC.ok (DJ b) ?_⟩;rintro _ M ⟨N,O,P,G,rfl,o,i,Q⟩;refine⟨_,_,_,rfl,PC.ok (HB (most:=32) (o.row dC (by unfold aI;omega)) o.aC oM B v) ?_⟩;rintro _ C ⟨R,rfl,j,k,l,E,rfl,q,m,r⟩;have H:=q.aC;have S:=i.size;have T:=m.size;have U:(jz (cg c.decl X.S.l).entries e f a 32).1.length<=32:=by unfold jz;rw [Qy];omega
 have I:ai w C:=(g.then i).then m;refine⟨_,_,_,_,rfl,az (iQ (yv c.decl X.S.l e f a) none 0 0 j k l none 0 0) (m.get (i.get z id) id) rfl λV s W J=>ar (iQ (yv c.decl X.S.l e f a) none 0 0 j k l none 0 0) J (Ok.mk ⟨?_,I.new s λd b=>.inr (by have b:d=w.heap.size:=b;omega)⟩)⟩;refine⟨none,0,0,j,k,l,none,0,0,E,rfl,dy _ _,(q.af s λd b t=>by have t:d=w.heap.size:=t;have:=r d b;omega).row dC (by show(jz (cg c.decl X.S.l).entries e f a 32).1.length*120<=aI;unfold aI;omega),dy _ _,λd b=>⟨by have:=r d b;omega,by have:=H d b;omega⟩⟩
end
variable{r:Array Value}{E V e n:Int}{b6:List cH}{g4:List du}{a c:Nat}{f:Nat->Prop}{F:Nat×Nat}{Q W:Operand}{d p:Option Addr}{h:Program}{g q:TypeId}{c0 v:Value}{R:Value->Prop}{b:World}{J:aM}{b5:a_}{f2:cN}{f1:pH}
theorem Ao :(do eqGuard .neq 48 Q W (.agg #[.int .i64 e,.int .i64 n]) (.agg #[.int .i64 E,.int .i64 V]);binOp .neq 48 (.agg #[.int .i64 e,.int .i64 n]) (.agg #[.int .i64 E,.int .i64 V]):Sem Value).run Tryz.prog b= .ok (.bool (!(e==E&&n==V))) b:=by
 have a:=Jo (x:=Q) (y:=W) (a:=e) (b:=n) (c:=E) (d:=V) (w:=b);rw [Sem.run_bind,run_eqGuard_agg b .eql _ Q W _ _ kR,Result.andThen_ok,run_eql_struct]at a;rw [Sem.run_bind,run_eqGuard_agg b .neq _ Q W _ _ kR,Result.andThen_ok,run_neq_struct];generalize(Op.equalIn 10000 48 (.agg #[.int .i64 e,.int .i64 n]) (.agg #[.int .i64 E,.int .i64 V])).run Tryz.prog b=c at a⊢
 cases c with
 |ok d f=>simp only [Result.andThen_ok,Result.ok.injEq,Value.bool.injEq]at a⊢;obtain⟨rfl,rfl⟩:=a;exact⟨rfl,rfl⟩
 |_=>simp [Result.andThen]at a
theorem Su (b:du) (c:World):(do eqGuard .neq 262 Q W (.agg (aX b).toArray) (.agg (aX b).toArray);binOp .neq 262 (.agg (aX b).toArray) (.agg (aX b).toArray):Sem Value).run Tryz.prog c= .ok (.bool false) c:=by
 have f:Tryz.prog.underlying 262=some (.struct (Tryz.prog.fieldsOf 262)):=kR
 have d:Tryz.prog.underlying 3=some (.int .i64):=kR
 have a:(Tryz.prog.fieldsOf 262).toList.map (λe=>(e.name,e.type,e.offset))=[("Group",3,0),("Value",3,1),("Count",3,2)]:=kR
 rw [Sem.run_bind,run_eqGuard_agg c .neq _ Q W _ _ kR,Result.andThen_ok,run_neq_struct,run_equalIn_struct c 9999 _ _ _ f kR];generalize(Tryz.prog.fieldsOf 262).toList=g at a
 match g,a with
 |[e,u,v],a=>
  simp only [QY,List.map_nil,List.cons.injEq,Prod.mk.injEq,and_true]at a;obtain⟨⟨h,i,j⟩,⟨k,l,m⟩,n,o,p⟩:=a;have q:(isAgg 3).run Tryz.prog c= .ok false c:=cK _ _ _ kR ⟨_,d⟩ c;have r:=run_equalIn_int (P:=Tryz.prog) c 9998 3 .i64 .i64 b.group b.group d;have s:=run_equalIn_int (P:=Tryz.prog) c 9998 3 .i64 .i64 b.value b.value d;have t:=run_equalIn_int (P:=Tryz.prog) c 9998 3 .i64 .i64 b.count b.count d;unfold Op.eqFields Op.eqFields Op.eqFields Op.eqFields;rw [h,i,j,k,l,m,n,o,p];simp [part,q,r,s,t,aX]
 |[],a=>simp at a
 |[_],a=>simp at a
 |[_,_],a=>simp at a
 |_::_::_::_::_,a=>simp at a
section
variable {w w':World} {D E:Nat->Prop} {a b:Option Addr} {n m c d:Nat}
theorem Ca (g:Row eP 32 w D a n b6) (j:Row eP 32 w E b m b6):Calls Tryz.prog 155 #[.slice a n c,.slice b m d] w (Ok λv w'=>v= .bool true/\ai w w'):=by
 have H:=g.len;have I:=j.len;have x:=g.dt;unfold aI at x;refine xO (al.df (λf=>absurd oM f) (λ_=>?_));refine⟨λk i w'=>∃e:Nat,i=e/\e<=n/\k=n-e/\ai w w',⟨_,0,rfl,Qj _,rfl,ak.refl w⟩,?_⟩;rintro k i _ J ⟨e,rfl,K,rfl,l⟩;refine al.dec (λL y z=>?_) (λ_=>Ok.mk ⟨rfl,l⟩);have h:ai w y:=l.then z.af;obtain⟨o,p,M,N,rfl,_,_,A,q,O,P,Q,rfl,B,_⟩:=(g.ah h).vO (i:=e) oM;obtain⟨r,s,R,S,rfl,_,_,t,u,T,U,V,rfl,C,_⟩:=(j.ah h).vO (i:=e) oM;rw [A]at t;cases t
 refine⟨o,p,rfl,oM,oM,_,q 0 dC,r,s,rfl,oM,oM,_,u 0 dC,al.df (λf=>absurd rfl f) (λ_=>?_)⟩;refine⟨o,p,rfl,oM,oM,_,_,_,q 1 dC,r,s,rfl,oM,oM,_,_,_,u 1 dC,PC.ok (lq B C) ?_⟩;rintro _ W ⟨rfl,F⟩;exact⟨_,rfl,al.not (al.dec (λ_=>⟨_,oM,e+1,aq oM,oM,rfl,h.then F.af⟩) (λf=>absurd rfl f))⟩
theorem Cb {s:lr} (i:Row eP 32 w D a n s.cells) (j:Row eP 32 w E b m s.cells):Calls Tryz.prog 94 #[.agg #[.int .i64 s.version,.slice a n c],.agg #[.int .i64 s.version,.slice b m d]] w (Ok λk w'=>k= .bool true/\ai w w'):=by
 refine xH (PA.mk λq f r l=>PA.mk λt e u g=>?_);have h:=e.get l id;refine⟨_,ae h rfl,_,ae g rfl,al.dJ (λ_=>?_) (λo=>absurd rfl o)⟩;refine⟨_,_,_,ae h rfl,_,_,_,ae g rfl,PC.ok (Ca (i.ah (f.then e)) (j.ah (f.then e))) ?_⟩;rintro _ v ⟨rfl,p⟩;exact⟨_,rfl,Ok.mk ⟨rfl,(f.then e).then p⟩⟩
theorem yf {F:List cC} (q:Row xt 120 w D a n F) (H:Row xt 120 w E b m F):Calls Tryz.prog 95 #[.slice a n c,.slice b m d] w (Ok λO w'=>O= .bool true/\ai w w'):=by
 have Y:=q.len;have Z:=H.len;have P:=q.dt;unfold aI at P;refine tu (al.df (λh=>absurd oM h) (λ_=>?_));refine⟨λI i w'=>∃f:Nat,i=f/\f<=n/\I=n-f/\ai w w',⟨_,0,rfl,Qj _,rfl,ak.refl w⟩,?_⟩;rintro I i _ w1 ⟨f,rfl,hj,rfl,J⟩;refine al.dec (λh1 r Q=>?_) (λ_=>Ok.mk ⟨rfl,J⟩);have s:ai w r:=J.then Q.af;obtain⟨j,k,l,es,rfl,R,_,S,K,t,u,v,rfl,T,_⟩:=(q.ah s).vO (i:=f) oM;obtain⟨o,p,a0,fs,rfl,U,_,L,M,x,y,z,rfl,V,_⟩:=(H.ah s).vO (i:=f) oM;rw [S]at L;cases L
 have W:∀e,e<10->r.cell? ⟨j,k+f*13+e,none⟩=(aB l.ev t u v)[e]? :=λe g=>(K e (show e<13 by omega)).trans (XW (show e<10 from g));have X:∀e,e<10->r.cell? ⟨o,p+f*13+e,none⟩=(aB l.ev x y z)[e]? :=λe g=>(M e (show e<13 by omega)).trans (XW (show e<10 from g));refine⟨j,k,rfl,oM,oM,bq (es:=aB l.ev t u v) (k:=10) (aV _ _ _ _) rfl (λe g=>by rw [Qx];exact W e g) ⟨o,p,rfl,oM,oM,bq (es:=aB l.ev x y z) (k:=10) (aV _ _ _ _) rfl (λe g=>by rw [Qx];exact X e g) (PC.ok (ru T V) ?_)⟩⟩;rintro _ N ⟨rfl,A⟩;have B:∀e,e<13->N.cell? ⟨j,k+f*13+e,none⟩=(gg l t u v)[e]? :=λe g=>(A.cell (a:=⟨j,k+f*13+e,none⟩) R id).trans (K e g);have C:∀e,e<13->N.cell? ⟨o,p+f*13+e,none⟩=(gg l x y z)[e]? :=λe g=>(A.cell (a:=⟨o,p+f*13+e,none⟩) U id).trans (M e g);refine⟨_,rfl,al.not (al.dec (λ_=>?_) (λh=>absurd rfl h))⟩;refine⟨j,k,rfl,oM,oM,_,B 10 dC,o,p,rfl,oM,oM,_,C 10 dC,al.not (al.mk (λ_=>?_) (λh=>by simp at h))⟩;refine⟨j,k,rfl,oM,oM,_,_,B 11 dC,B 12 dC,o,p,rfl,oM,oM,_,_,C 11 dC,C 12 dC,_,λw'=>Ao,al.mk (λh=>by simp at h) (λ_=>?_)⟩;exact⟨_,oM,f+1,aq oM,oM,rfl,s.then A⟩
theorem EI (h:Row FV 24 w D a n g4) (o:Row FV 24 w E b m g4):Calls Tryz.prog 96 #[.slice a n c,.slice b m d] w (Ok λr w'=>r= .bool true/\ai w w'):=by
 have C:=h.len;have F:=o.len;have s:=h.dt;unfold aI at s;refine zo (al.df (λj=>absurd oM j) (λ_=>?_));refine⟨λp i w'=>∃e:Nat,i=e/\e<=n/\p=n-e/\ai w w',⟨_,0,rfl,Qj _,rfl,ak.refl w⟩,?_⟩;rintro p i _ H ⟨e,rfl,I,rfl,g⟩;refine al.dec (λJ=>?_) (λ_=>Ok.mk ⟨rfl,g⟩);obtain⟨t,u,f,K,rfl,L,_,v,x,rfl,_⟩:=(h.ah g).vO (i:=e) oM;obtain⟨y,z,M,N,rfl,O,_,q,A,rfl,_⟩:=(o.ah g).vO (i:=e) oM;rw [v]at q;cases q
 refine⟨t,u,rfl,oM,oM,bq (es:=aX f) (k:=3) (Mg f) rfl (λk l=>by rw [Qx];exact x k l) ⟨y,z,rfl,oM,oM,bq (es:=aX f) (k:=3) (Mg f) rfl (λk l=>by rw [Qx];exact A k l) ⟨false,λm=>Su f _,λP B=>al.mk (λj=>by cases j) λ_=>?_⟩⟩⟩;exact⟨_,oM,e+1,aq oM,oM,rfl,g.then B.af⟩
theorem Ap {m n:World} (o:g_ m f1 v w) (p:g_ n f1 c0 w):Calls Tryz.prog 43 #[v,c0] w (Ok λc0 w'=>c0= .bool true/\ai w w'):=by
 obtain⟨B,C,E,F,H,I,J,K,L,G,rfl,q,r,s,M⟩:=o;obtain⟨N,tn,O,P,Q,R,S,T,U,V,rfl,t,u,x,W⟩:=p;refine vo (PA.mk λX y Y z=>PA.mk λA h Z c=>?_);have d:=h.get z id;have a:ai w A:=y.then h;refine⟨_,ae d rfl,_,ae c rfl,al.dJ (λ_=>?_) (λf=>absurd rfl f)⟩;refine⟨_,_,ae d rfl,ae d rfl,_,_,ae c rfl,ae c rfl,aE.mk Jo ⟨_,rfl,al.mk (λ_=>?_) (λf=>by simp at f)⟩⟩;refine⟨_,_,_,_,ae d rfl,ae d rfl,_,_,_,_,ae c rfl,ae c rfl,PC.ok (Cb (s:=f1.st) (q.ah a) (t.ah a)) ?_⟩;rintro _ w5 ⟨rfl,b⟩;have i:=b.get d id;have j:=b.get c id;refine⟨_,rfl,al.tt rfl ⟨_,_,_,ae i rfl,_,_,_,ae j rfl,PC.ok (yf (r.ah (a.then b)) (u.ah (a.then b))) ?_⟩⟩;rintro _ w6 ⟨rfl,e⟩;have k:=e.get i id;have l:=e.get j id;refine⟨_,rfl,al.tt rfl ⟨_,_,_,ae k rfl,_,_,_,ae l rfl,PC.ok (EI (s.ah ((a.then b).then e)) (x.ah ((a.then b).then e))) ?_⟩⟩;rintro _ w7 ⟨rfl,g⟩;exact⟨_,rfl,al.tt rfl ⟨_,ae (g.get k id) rfl,_,ae (g.get l id) rfl,Ok.mk ⟨sM,((a.then b).then e).then g⟩⟩⟩
end
section
variable {w w':World} {D E:Nat->Prop} {a b:Option Addr} {n m c:Nat}
theorem Cc (h:Row fp 32 w D a n b5.bh):Calls Tryz.prog 59 #[.agg (di b5 a n c).toArray] w (Ok λI w'=>∃q y r f,I= .agg (di b5 q y r).toArray/\aO fp 182 f w' q y r b5.bh/\ai w w'/\∀b,f b->w.heap.size<=b):=by
 have Y:=h.len;have d:=h.dt;unfold aI at d;refine xF (PA.mk λz J Z K=>PA.mk λs A s7 L=>?_);have M:=A.get K id;have B:=J.then A;refine⟨λC l e m i w'=>i=(e:Int)/\e<=n/\C=n-e/\∃f,aO fp 182 f w' l e m (b5.bh.take e)/\ai s w'/\∀b,f b->s.heap.size<=b,
  ⟨_,rfl,Qj _,rfl,λ_=>False,by simpa using aO.nil s,ak.refl _,λ_ h=>h.elim⟩,?_⟩
 rintro C l e m i _ w1 ⟨rfl,hj,rfl,f,o,g,j⟩;have t:=g.get M id;have E:=B.then g;have F:(b5.bh.take e).length=e:=by simp;omega
 refine⟨_,_,_,ae t rfl,al.dec (λN=>?_) (λN=>?_)⟩
 ·obtain⟨b,u,x,es,rfl,_,_,O,p,rfl,P⟩:=(h.ah E).vO (i:=e) oM
  refine⟨_,_,_,ae t rfl,b,u,rfl,oM,oM,_,_,_,_,p 0 dC,p 1 dC,p 2 dC,p 3 dC,FT o Jp (x:=x) (D:=λ_=>False) ⟨rfl,P⟩ (λ_ h=>h.elim) (by rw [F];unfold aI;omega) (by rw [F];unfold maxLen;omega) λq r Q R S T U _=>?_⟩;refine⟨_,_,_,rfl,n-(e+1),oM,aq oM,oM,rfl,R,?_,g.new T λb d=>.inr (j b (o.self b d)),?_⟩
  ·rw [Qw,O];exact S
  ·intro b d
   have:=g.size;rcases U b d with h|h|h
   ·exact j b h
   ·exact h.elim
   ·omega
 ·obtain rfl:e=n:=oM
  rw [Qz oM]at o;have V:=g.get L id;refine PS.mk t sM λw2 v s2 W=>ar (cs:=di b5 l e m) (eD _ _ _ _) W (az (eD _ _ _ _) (v.get V oM) rfl λQ H s3 X=>ar (eD _ _ _ _) X (Ok.mk ⟨l,e,m,f,rfl,?_,?_,λb d=>by have:=j b d;have:=B.size;omega⟩))
  ·exact(o.af v λb d k=>by have k:b=w.heap.size:=k;have:=j b d;omega).af H λb d k=>by have k:b=z.heap.size:=k;have:=j b d;omega
  ·exact(E.new v λb d=>.inr (by have d:b=w.heap.size:=d;omega)).new H λb d=>.inr (by have d:b=z.heap.size:=d;omega)
theorem EJ {tn tc W pc:Nat} (q:aW w D J d tn p W):
  Calls Tryz.prog 28 #[.agg #[.slice d tn tc,.slice p W pc]] w (Ok λe0 w'=>∃I BX a3 K L a7 G,e0= .agg #[.slice I BX a3,.slice K L a7]/\aW w' G J I BX K L/\(∀b,G b->w.heap.size<=b/\b<w'.heap.size)/\ai w w'):=by
 have h3:=q.aT.len;have b3:=q.aT.dt;have h4:=q.yF.len;have b4:=q.yF.dt;refine zi (PA.mk λM k4 s4 g4=>PA.mk λi k5 s5 g5=>PA.mk λw6 k6 s6 g6=>?_);have b5:=k4.then k5;have d7:=b5.then k6;have gp:=k6.get (k5.get g4 id) id;have gr:=k6.get g5 id;have z6:=d7.size;refine⟨λm N w'=>∃g:Nat,N=g/\g<=tn/\m=tn-g/\ak (·=i.heap.size) w6 w'/\∃O P X Z,w'.heap[i.heap.size]? =some (.cells #[.slice O P X,.slice none 0 0] 25 (0,0))/\aO jE 107 Z w' O P X (J.types.take g)/\∀b,Z b->w6.heap.size<=b,
  ⟨_,0,rfl,Qj _,rfl,ak.refl _,none,0,0,λ_=>False,g6,aO.nil _,λ_ q=>q.elim⟩,?_⟩
 rintro m _ _ h ⟨g,rfl,hj,rfl,Q,O,P,X,Z,go,x,F⟩;have a4:ai w h:=d7.new Q λb c=>.inr (by have c:b=i.heap.size:=c;have:=b5.size;omega);have zk:=Q.size;have a0:=Q.get gp λe=>by have e:w.heap.size=i.heap.size:=e;omega
 refine⟨_,_,_,ae a0 rfl,al.dec (λk1=>?_) (λk2=>?_)⟩
 ·have h6:g<J.types.length:=oM
  have b6:J.types[g]? =some J.types[g]:=Qq h6;generalize J.types[g]=r at b6;obtain⟨b,B,es,ha,c,k3,e1,fa,fn,fc,rfl,b8⟩:=(q.aT.ah a4).el g r b6;have c0:=e1 0 dC;have h7:jE.k=1:=rfl;rw [h7,Nat.mul_one]at c0;have h8:=b8.len;have b9:=b8.dt;refine PA.mk λk7 h9 k8 i0=>PS.mk i0 sM λa5 i1 k9 i2=>?_;have C:ai h a5:=h9.new i1 λb c=>.inr (by have c:b=h.heap.size:=c;omega);have e2:=C.get a0 id;have d9:=C.size;have e3:=a4.then C;refine⟨λm N w'=>∃l:Nat,N=l/\l<=fn/\m=fn-l/\ak (·=h.heap.size) a5 w'/\∃t u y v,w'.heap[h.heap.size]? =some (.cells #[.slice t u y] 107 (0,0))/\aO nQ 110 v w' t u y (r.take l)/\∀b,v b->a5.heap.size<=b,
   ⟨_,0,rfl,Qj _,rfl,ak.refl _,none,0,0,λ_=>False,i2,aO.nil _,λ_ q=>q.elim⟩,?_⟩
  rintro m _ _ a6 ⟨l,rfl,hk,rfl,j,t,u,y,v,z,k,s⟩;have zx:=j.size;have e4:ai w a6:=e3.new j λb c=>.inr (by have c:b=h.heap.size:=c;have:=a4.size;omega);have b2:=j.get e2 λe=>by have e:w.heap.size=h.heap.size:=e;have:=ay a0;omega
  have b7:a6.cell? ⟨b,B+Int.toNat (g:Int),none⟩=some (.slice fa fn fc):=by
   rw [Qx];refine(j.cell (a:=⟨b,B+g,none⟩) (Qk c d9) λe=>by have e:b=h.heap.size:=e;omega).trans ((C.cell (a:=⟨b,B+g,none⟩) c id).trans ?_);exact c0
  refine⟨_,_,_,ae b2 rfl,b,B,ha,oM,oM,_,_,_,b7,al.dec (λe5=>?_) (λe6=>?_)⟩
  ·intro c1 i3
   have o:ai a6 c1:=i3.af;have k0:=e4.then o;have e7:=o.get z id;have e8:=o.get b2 id;have f0:c1.cell? ⟨b,B+Int.toNat (g:Int),none⟩=some (.slice fa fn fc):=(o.cell (a:=⟨b,B+Int.toNat (g:Int),none⟩) (Qk (Qk c d9) zx) id).trans b7;have i4:l<r.length:=oM
   have c2:r[l]? =some r[l]:=Qq i4;generalize r[l]=H at c2;have f1:ai h c1:=(C.new j λb c=>.inr (by have c:b=h.heap.size:=c;omega)).then o;obtain⟨fb,fo,a8,rfl,-,-,c4,ya,yn,yc,rfl,c5,a9⟩:=(b8.ah f1).el l H c2;have f3:=c5.len;have f4:=c5.dt;refine⟨λ_=>False,id,_,_,_,ae e7 rfl,_,_,_,ae e8 rfl,b,B,ha,oM,oM,_,_,_,f0,fb,fo,rfl,oM,oM,bq (es:=di H ya yn yc) (k:=4) (eD _ _ _ _) rfl (λr ht=>by rw [Qx];exact c4 r ht) (PC.ok (Cc c5) ?_)⟩;rintro _ l0 ⟨a,n,cc,Fm,rfl,c6,e9,f2⟩;have g0:=c6.aC;refine⟨_,_,_,_,_,_,rfl,e9,PA.mk λg1 c7 l3 i5=>⟨c7,?_⟩⟩;have a1:ai a6 g1:=(o.then e9).then c7;have l4:=c6.len dC;have f5:Row fp 32 g1 Fm a n H.bh:=(c6.ah c7).row dC (by rw [<-f3];exact f4);refine dQ (c:=nQ) (x:=H) (k.ah a1) NR i5 (D:=Fm) ⟨a,n,cc,rfl,f5,a9⟩ (λb c=>⟨by have:=g0 b c;omega,λe=>by have:=k.aC b (k.self b e);have:=f2 b c;have:=o.size;omega⟩) (by rw [Qy];unfold aI at*;omega) (by rw [Qy];unfold aI at b9;unfold maxLen;omega) λR S i6 A b0 E T=>⟨_,_,_,rfl,?_⟩
   have c9:¬aF t=some h.heap.size:=λe=>by have:=s _ (k.self _ e);omega
   have l5:=a1.size;have i7:=E.size;have zd:=o.size;have f:∀b,A b->a5.heap.size<=b:=λb c=>by
    rcases T b c with Y|Y|Y
    ·exact s b Y
    ·have:=f2 b Y;omega
    ·omega
   refine PS.mk (E.get (a1.get z id) c9) sM λi8 U i9 d0=>⟨_,oM,l+1,aq (by unfold aI at b9;omega),oM,rfl,((j.ah a1).new E λb c=>.inr (s b (k.self b c))).then U,R,u+1,S,A,d0,?_,f⟩
   rw [Qw,c2];exact b0.af U λb c e=>by have e:b=h.heap.size:=e;have:=f b c;omega
  ·rw [Qz oM]at k
   have c3:=j.get (C.get go id) λe=>by have e:i.heap.size=h.heap.size:=e;have:=ay go;omega
   refine⟨_,_,_,ae c3 rfl,_,_,_,ae z rfl,PA.mk λj0 d1 l6 j1=>?_⟩;have b1:ai h j0:=(C.new j λb c=>.inr (by have c:b=h.heap.size:=c;omega)).then d1;refine dQ (c:=jE) (x:=r) (x.ah b1) Ko j1 (D:=v) ⟨t,u,y,rfl,(k.ah d1).row dC (by rw [<-h8];exact b9)⟩ (λb c=>⟨by have:=k.aC b c;omega,λe=>by have:=x.aC b (x.self b e);have:=s b c;omega⟩) (by rw [Qy];unfold aI at*;omega) (by rw [Qy];unfold aI at b3;unfold maxLen;omega) λR S l7 A g2 d2 T=>⟨_,_,_,rfl,?_⟩
   have j2:¬aF O=some i.heap.size:=λe=>by have:=F _ (x.self _ e);omega
   have l8:=b1.size;have l9:=d2.size;have f:∀b,A b->w6.heap.size<=b:=λb c=>by
    rcases T b c with Y|Y|Y
    ·exact F b Y
    ·have:=s b Y;omega
    ·omega
   refine PS.mk (d2.get (d1.get c3 id) j2) sM λm0 c8 m1 j3=>⟨_,oM,g+1,aq (by unfold aI at b3;omega),oM,rfl,((Q.ah b1).new d2 λb c=>.inr (F b (x.self b c))).then c8,R,P+1,S,A,j3,?_,f⟩
   rw [Qw,b6];exact g2.af c8 λb c e=>by have e:b=i.heap.size:=e;have:=f b c;omega
 ·rw [Qz oM]at x
  have g3:=x.aC;refine⟨λm N w'=>∃g:Nat,N=g/\g<=W/\m=W-g/\ak (·=i.heap.size) h w'/\∃t u y v,w'.heap[i.heap.size]? =some (.cells #[.slice O P X,.slice t u y] 25 (0,0))/\aO t_ 119 v w' t u y (J.projs.take g)/\∀b,v b->h.heap.size<=b,
   ⟨_,0,rfl,Qj _,rfl,ak.refl _,none,0,0,λ_=>False,go,aO.nil _,λ_ q=>q.elim⟩,?_⟩
  rintro m _ _ d3 ⟨l,rfl,hk,rfl,j,t,u,y,v,z,k,s⟩;have zx:=j.size;have d4:ai w d3:=a4.new j λb c=>.inr (by have c:b=i.heap.size:=c;have:=b5.size;omega);have d8:=j.get a0 λe=>by have e:w.heap.size=i.heap.size:=e;omega
  refine⟨_,_,_,ae d8 rfl,al.dec (λe5=>?_) (λe6=>?_)⟩
  ·intro j4 j5
   have o:ai d3 j4:=j5.af;have g7:=o.get z id;obtain⟨fb,fo,H,a8,rfl,-,-,j6,c4,rfl,a9⟩:=(q.yF.ah (d4.then o)).vO (i:=l) oM;have V:=λr (ht:r<5)=>c4 r ht;refine⟨λ_=>False,id,_,_,_,ae g7 rfl,_,_,_,ae (o.get d8 id) rfl,fb,fo,rfl,oM,oM,_,_,_,_,_,V 0 dC,V 1 dC,V 2 dC,V 3 dC,V 4 dC,PA.mk λj7 g8 m2 j8=>⟨g8,?_⟩⟩;have a2:ai d3 j7:=o.then g8;refine dQ (c:=t_) (x:=H) (k.ah a2) Jd j8 (D:=λ_=>False) ⟨rfl,a9⟩ (λb c=>c.elim) (by rw [Qy];unfold aI at*;omega) (by rw [Qy];unfold aI at b4;unfold maxLen;omega) λR S i6 A b0 E T=>⟨_,_,_,rfl,?_⟩
   have c9:¬aF t=some i.heap.size:=λe=>by have:=s _ (k.self _ e);omega
   have m3:=a2.size;have i7:=E.size;have zd:=o.size;have f:∀b,A b->h.heap.size<=b:=λb c=>by
    rcases T b c with Y|Y|Y
    ·exact s b Y
    ·exact Y.elim
    ·omega
   refine PS.mk (E.get (a2.get z id) c9) sM λi8 U i9 d0=>⟨_,oM,l+1,aq (by unfold aI at b4;omega),oM,rfl,((j.ah a2).new E λb c=>.inr (s b (k.self b c))).then U,R,u+1,S,A,d0,?_,f⟩
   rw [Qw,j6];exact b0.af U λb c e=>by have e:b=i.heap.size:=e;have:=f b c;omega
  ·rw [Qz oM]at k
   have g9:=k.aC;have h0:=j.get (Q.get gr λe=>by have e:M.heap.size=i.heap.size:=e;omega) λe=>by have e:M.heap.size=i.heap.size:=e;omega
   have f6:=x.af j λb c e=>by have e:b=i.heap.size:=e;have:=F b c;omega
   refine⟨_,_,_,_,_,_,ae z rfl,ae z rfl,PS.mk h0 sM λm4 d5 m5 j9=>PS.mk j9 sM λm6 d6 m7 h2=>⟨_,_,_,_,_,_,ae h2 rfl,ae h2 rfl,Ok.mk ⟨_,_,_,_,_,_,λb=>Z b\/v b,rfl,⟨?_,?_⟩,?_,?_⟩⟩⟩
   ·exact(((f6.row (bytes:=24) dC (by rw [<-h3];exact b3)).af (d5.then d6) λb c e=>by have e:b=M.heap.size:=e;have:=F b c;omega)).mono λb c=>.inl c
   ·exact(((k.row (bytes:=40) dC (by rw [<-h4];exact b4)).af (d5.then d6) λb c e=>by have e:b=M.heap.size:=e;have:=s b c;omega)).mono λb c=>.inr c
   ·have z4:=k4.size
    rintro b (c|c)
    ·have:=F b c;have:=g3 b c;omega
    ·have:=s b c;have:=g9 b c;omega
   ·exact d4.new (d5.then d6) λb c=>.inr (by have c:b=M.heap.size:=c;have:=k4.size;omega)
theorem uh {c:cy} {tn u r v:Nat} (x:aW w D c.decl d tn p r):
  Calls Tryz.prog 7 #[pI c d tn u p r v] w (Ok λy w'=>∃a BX g e f h G,y=pI c a BX g e f h/\aW w' G c.decl a BX e f/\(∀b,G b->w.heap.size<=b/\b<w'.heap.size)/\ai w w'):=by
 refine ze (PA.mk λl s J z=>PA.mk λK m L A=>?_);have n:=m.get z id;refine⟨_,_,_,_,_,_,ae n rfl,ae n rfl,PC.ok (EJ (x.ah (s.then m))) ?_⟩;rintro _ M ⟨a,BX,g,e,f,h,G,rfl,B,o,k⟩;have N:=k.size;refine⟨_,_,_,_,_,_,rfl,PS.mk (k.get n id) sM λO C P E=>PS.mk E sM λQ F R H=>?_⟩;have q:=C.then F;refine ar (uj c a BX g e f h) H (az (uj c a BX g e f h) (q.get (k.get A id) λj=>by have j:l.heap.size=w.heap.size:=j;omega) rfl λS t T I=>ar (uj c a BX g e f h) I (Ok.mk ⟨_,_,_,_,_,_,G,rfl,?_,λb i=>?_,?_⟩))
 ·exact(B.af q λb i j=>by have j:b=w.heap.size:=j;have:=o b i;omega).af t λb i j=>by have j:b=l.heap.size:=j;have:=o b i;omega
 ·have:=o b i;omega
 ·exact(((s.then m).then k).new q λb i=>.inr (by have i:b=w.heap.size:=i;omega)).new t λb i=>.inr (by have i:b=l.heap.size:=i;omega)
end
structure Cd where
 kind:Int
 n:Int
 now:Int
 cmd:iU
 m:cN
section
variable (c:cy) (self:Int)
def KI (b:bE) (a:Cd):Int×bE:=
 if a.kind=0 then((bI c self b a.cmd).1,(bI c self b a.cmd).2.2)else
 if a.kind=1 then(0,(fP c self b a.n (pick a.now 4611686018427387904)).2)else
 if a.kind=2 then(bT c self b a.m).2 else
 if a.kind=3 then(0,(HH self b (pick a.now 4611686018427387904)).2)else
 if a.kind=4 then Av c b a.n else
 if a.kind=5 then(0,{b with D:=b.D.PQ a.n})else
 if a.kind=6 then gJ c b else(0,b)
end
structure iK (X Y:bE):Prop where
 evs:Y.S.l.length<=X.S.l.length+300\/Y.S.l.length<=16777216
 asked:Y.fu.asked.length<=X.fu.asked.length+1
theorem iK.refl (a:bE):iK a a:=⟨.inl oM,oM⟩
theorem HJ {a b:Type} [BEq a] [LawfulBEq a] (c:a) (d:b):∀(e:List (a×b)),(aH e c d).length<=e.length+1
 |[]=>by simp [aH]
 |(g,h)::f=>by
  unfold aH;split
  ·simp
  ·have:=HJ c d f
   simp;omega
theorem Dr {b e:Type} [BEq b] [LawfulBEq b] (a:b) (f:e):∀(d:List (b×e)),a∈d.map (·.1)->(aH d a f).map (·.1)=d.map (·.1)
 |[],h=>by simp at h
 |(i,k)::g,h=>by
  unfold aH
  by_cases c:(a==i)=true
  ·rw [if_pos c]
   have:=eq_of_beq c;subst this;rfl
  ·rw [if_neg c]
   have j:a∈g.map (·.1):=by
    rcases Q2.1 h with h|h
    ·exact absurd (by rw [h];simp) c
    ·exact h
   simp [Dr a f g j]
theorem HK {a d:Type} [BEq a] [LawfulBEq a] (b:a):∀(c:List (a×d)),(bV c b).length<=c.length
 |[]=>by simp [bV]
 |(f,g)::e=>by
  unfold bV;split
  ·simp
  ·have:=HK b e
   simp;omega
theorem Fk (d a:Int) (b:List Int×List (Int×Int)) (c:Int) (e:c∈b.2.map (·.1)):(fl d a b c).2.map (·.1)=b.2.map (·.1):=by
 unfold fl;split
 ·exact Dr _ _ _ e
 ·rfl
theorem uM (d a:Int):∀(c:List Int) (b:List Int×List (Int×Int)),(∀x∈c,x∈b.2.map (·.1))->(c.foldl (fl d a) b).2.map (·.1)=b.2.map (·.1)
 |[],b,_=>rfl
 |x::c,b,e=>by
  have f:=Fk d a b x (e x (QV ..));rw [List.foldl_cons,uM d a c _ λg h=>by rw [f];exact e g (QJ _ h),f]
theorem iS.OT (a:iS) (b:Int):(a.OS b).asked.length=a.asked.length:=by
 have d:=uM a.cQ b (a.open.take a.open.length) ([],a.asked) λe c=>by
  have c:=List.mem_of_mem_take c;unfold iS.open at c;exact(List.mergeSort_perm _ _).mem_iff.1 c
 have:=congrArg List.length d;rw [Q8,Q8]at this;exact this
theorem qw (a:Nat):∀(d:List aj) (f:aw) (b c:List aj),(ia a d f b c).2.1.length+(ia a d f b c).2.2.length<=b.length+c.length+d.length
 |[],f,b,c=>by simp [ia]
 |e::d,f,b,c=>by
  unfold ia;split
  ·have:=qw a d (f.add e).2 (b++[e]) c
   simp at this⊢;omega
  split
  ·have:=qw a d f b c
   simp;omega
  ·have:=qw a d f b (eI a c e).2
   have:=Ba a c e;simp;omega
theorem qb:∀(b:List aj) (c:aw) (a:List aj),(ep b c a).2.length<=a.length+b.length
 |[],c,a=>by simp [ep]
 |e::b,c,a=>by
  unfold ep;split
  ·have:=qb b (c.add e).2 (a++[e])
   simp at this⊢;omega
  ·have:=qb b (c.add e).2 a
   simp;omega
theorem Ds:∀(k:Nat) (b:aw) (a c:List aj),(uL k b a c).1.length<=a.length+c.length
 |0,b,a,c=>by simp [uL]
 |k+1,b,a,c=>by
  unfold uL;have d:=uK b c;dsimp only;split
  ·simp
  ·have e:=qb (bw b c).1 b a
   have f:=Ds k (ep (bw b c).1 b a).1 (ep (bw b c).1 b a).2 (bw b c).2;omega
theorem JT (b:cy) (a:bE) (c:List aj):(jV b a c).1.length<=a.waits.length+c.length:=by
 have d:=qw b.buffer.toNat c (ef b a.S []) [] a.waits;have e:=Ds ((ia b.buffer.toNat c (ef b a.S []) [] a.waits).2.2.length+1) (ia b.buffer.toNat c (ef b a.S []) [] a.waits).1 (ia b.buffer.toNat c (ef b a.S []) [] a.waits).2.1 (ia b.buffer.toNat c (ef b a.S []) [] a.waits).2.2;simp at d;unfold jV;dsimp only;omega
theorem MJ (c:cy) (a:aw) (b:List aj):(ef c a b).l.length<=a.l.length+b.length:=by
 have:=aw.lH (a.l++b) ⟨c.bR.toNat,[]⟩;unfold ef;simp at this⊢;omega
theorem Dt (c:cy) (a:bE) (b:List aj):(cR c a b).2.S.l.length<=a.S.l.length+b.length/\(cR c a b).2.fu=a.fu:=by
 unfold cR
 cases a.log with
 |none=>exact⟨by dsimp only;omega,rfl⟩
 |some d=>
  dsimp only;split
  ·exact⟨by dsimp only;omega,rfl⟩
  split
  ·exact⟨by dsimp only;omega,rfl⟩
  ·exact⟨MJ c a.S b,rfl⟩
theorem sP (c:cy) (b:Int) (a:bE) (d:iU):iK a (bI c b a d).2.2:=by
 unfold bI
 cases a.log with
 |none=>exact iK.refl a
 |some e=>
  dsimp only;split
  ·exact iK.refl a
  split
  ·have:=Dt c a [(mg c.decl a.S (cg c.decl a.S.l) b c.start d).1]
   simp at this;split
   ·exact⟨.inl (by dsimp only;omega),by dsimp only;rw [this.2];omega⟩
   ·exact⟨.inl (by dsimp only;omega),by dsimp only;rw [this.2];omega⟩
  ·exact iK.refl a
theorem lu (d:cy) (e:Int) (a:bE) (b:cN) (k:a.waits.length<=256) (l:d.chunk<=32):iK a (bT d e a b).2.2:=by
 unfold bT
 cases a.log with
 |none=>exact iK.refl a
 |some m=>
  dsimp only;split
  ·exact iK.refl a
  rename_i i;split
  ·exact iK.refl a
  split
  ·rename_i j
   have n:b.events.length<=32:=by
    rcases Nat.lt_or_ge 32 b.events.length with h|h
    ·exfalso
     apply i;unfold eX;rw [if_pos j];intro c;split at c
     ·cases c
     ·unfold eH at c
      split at c
      ·cases c
      ·rw [if_pos (.inr oM)]at c;cases c
    ·exact h
   unfold np;have o:=JT d a b.events;dsimp only;split
   ·exact⟨.inl (by dsimp only;omega),by dsimp only;omega⟩
   ·have f:=Dt d {a with waits:=(jV d a b.events).2} (jV d a b.events).1
    dsimp only at f;split
    ·exact⟨.inl (by dsimp only;omega),by dsimp only;rw [f.2];omega⟩
    ·exact⟨.inl (by dsimp only;omega),by dsimp only;rw [f.2];omega⟩
  ·have g:(a.fu.yj b.bD b.vec a.S.vec).asked.length<=a.fu.asked.length+1:=by
    unfold iS.yj;dsimp only;split
    ·have:=HK b.bD a.fu.asked;omega
    ·omega
   split
   ·exact⟨.inl (by dsimp only;omega),g⟩
   split
   ·exact⟨.inl (by dsimp only;omega),g⟩
   ·exact⟨.inl (by dsimp only;omega),g⟩
theorem Au (e:cy) (a:Int) (c:bE) (b d:Int):iK c (fP e a c b d).2:=by
 unfold fP;split
 ·exact iK.refl c
 ·exact⟨.inl (by dsimp only;omega),HJ _ _ _⟩
theorem Ju (a:Int) (c:bE) (b:Int):iK c (HH a c b).2:=by
 unfold HH;exact⟨.inl (by dsimp only;omega),by dsimp only;rw [iS.OT];omega⟩
theorem wP (b:cy) (a:bE):(gK b a).2.fu=a.fu:=by
 unfold gK;dsimp only;split<;>rfl
theorem Ce (b:cy) (a:bE):iK a (gJ b a).2:=by
 unfold gJ
 cases a.log with
 |none=>exact iK.refl a
 |some c=>
  dsimp only;split
  ·exact⟨.inl (by dsimp only;omega),by dsimp only;omega⟩
  ·exact⟨.inl (by dsimp only;omega),by dsimp only;omega⟩
structure Cd.Ok (x:Cd):Prop where
 kind:aK x.kind
 n:aK x.n
 now:aK x.now
 cmd:x.cmd.Ok
def mi (a:Cd) (b:Option Addr) (c d:Nat) (e:Option Addr) (f g:Nat):List Value:=[.int .i64 a.kind,.int .i64 a.n,.int .i64 a.now]++fx a.cmd++bH a.m b c d e f g
abbrev Sv (a:Cd) (b:Option Addr) (c d:Nat) (e:Option Addr) (f g:Nat):Value:=.agg (mi a b c d e f g).toArray
theorem RD (a:Cd) (b:Option Addr) (c d:Nat) (e:Option Addr) (f g:Nat):gP Tryz.prog 44 (mi a b c d e f g)=true:=kR
theorem Aq (a:pH) (b:Option Addr) (c d:Nat) (e:Option Addr) (f g:Nat) (h:Option Addr) (i j:Nat):Pw (dT Tryz.prog 55) (.agg (mj a b c d e f g h i j).toArray)=true:=kR
theorem KG (a:cy) (b:Option Addr) (tn c:Nat) (d:Option Addr) (e f:Nat):Pw (dT Tryz.prog 27) (pI a b tn c d e f)=true:=kR
def Qd:jk Cd where
 k:=15
 rep:=λn D i cs=>∃a b e c d f,cs=mi i a b e c d f/\Row aG 8 n D a b i.m.vec/\Row f_ 96 n D c d i.m.events/\i.Ok
 af:=λ⟨a,b,e,c,d,f,g,j,k,l⟩ o h=>⟨a,b,e,c,d,f,g,j.af o h,k.af o h,l⟩
 mono:=λ⟨a,b,e,c,d,f,g,j,k,l⟩ h=>⟨a,b,e,c,d,f,g,j.mono h,k.mono h,l⟩
 len:=λ⟨a,b,e,c,d,f,g,_⟩=>by rw [g];rfl
 one:=λ⟨a,b,e,c,d,f,g,_⟩ p m=>by
  rw [g]at m;simp only [mi,fx,bH,List.cons_append,List.nil_append,Q2,List.not_mem_nil,or_false]at m;rcases m with rfl|rfl|rfl|rfl|rfl|rfl|rfl|rfl|rfl|rfl|rfl|rfl|rfl|rfl|rfl<;>rfl
theorem KH {es:List Value} (i:gP h g es=true) (j:b.heap[a]? =some (.cells r q F)) (k:∀d,d<es.length->r[c+d]? =es[d]?) (l:R (.agg es.toArray)):nR h g (.pointer (some ⟨a,c,none⟩)) b R:=
 bq i rfl (λd e=>by
  have f:=k d e;rw [Qq e]at f⊢;exact ae j f) l
variable{h2:List Cd}
section
variable {w w' w0 w1 w2:World} {p:Nat} {F E D Dv:Nat->Prop} {c:cy} {self:Int} {X:bE} {va ea:Option Addr} {vn vc en ec:Nat}
theorem GV :Calls Tryz.prog 30 #[.int .i64 e] w (Ok λa w'=>a= .int .i64 (pick e 4611686018427387904)/\w=w'):=by
 refine IF (PC.ok (Oj (by unfold aK;omega)) ?_);rintro _ _ ⟨rfl,rfl⟩;exact⟨_,rfl,Ok.mk ⟨rfl,rfl⟩⟩
theorem Jq (j:Row aG 8 w D va vn f2.vec) (f:Row f_ 96 w E ea en f2.events):
  Calls Tryz.prog 14 #[jb f2 va vn vc ea en ec] w (Ok λg w'=>(∃d:Bool,g= .bool d/\(d=false->∀a∈f2.events,a.aN.length<=100))/\ai w w'):=by
 refine Eb (PA.mk λw1 b k e=>⟨_,_,_,ae e rfl,al.dec (λ_=>Ok.mk ⟨⟨_,rfl,sM⟩,b⟩) (λ_=>⟨_,_,_,ae e rfl,PC.ok (Jr (f.ah b)) ?_⟩)⟩);rintro _ _ ⟨rfl,rfl⟩;refine⟨_,rfl,Ok.mk ⟨⟨_,rfl,λc a h=>?_⟩,b⟩⟩;have c:=Xy c;exact Nat.le_of_not_lt λi=>c (.inl ⟨a,h,i⟩)
theorem Js {k l:Option Addr} {tn p m q:Nat} (h:aW w D J k tn l m):Calls Tryz.prog 15 #[.agg #[.slice k tn p,.slice l m q]] w (Ok λr w'=>(∃e:Bool,r= .bool e)/\ai w w'):=by
 have B:=h.aT.len;have s:=h.aT.dt;unfold aI at s;refine Ec (PA.mk λw1 a C b=>⟨_,_,_,ae b rfl,al.dec (λ_=>Ok.mk ⟨⟨_,rfl⟩,a⟩) (λ_=>⟨_,_,_,ae b rfl,al.dec (λ_=>Ok.mk ⟨⟨_,rfl⟩,a⟩) (λ_=>?_)⟩)⟩);refine⟨λf i w'=>∃c:Nat,i=c/\c<=tn/\f=tn-c/\w1=w',⟨_,0,rfl,Qj _,rfl,rfl⟩,?_⟩;rintro f _ _ _ ⟨c,rfl,E,rfl,rfl⟩;refine⟨_,_,_,ae b rfl,al.dec (λF=>?_) (λ_=>Ok.mk ⟨⟨_,rfl⟩,a⟩)⟩;obtain⟨e,j,H,I,rfl,K,-,L,t,M,n,N,rfl,o⟩:=(h.aT.ah a).vO (i:=c) oM;have g:=t 0 dC;have u:jE.k=1:=rfl;rw [u,Nat.mul_one]at g;have v:=o.dt;unfold aI at v;refine⟨_,_,_,ae b rfl,e,j,rfl,oM,oM,_,_,_,g,al.dec (λ_=>Ok.mk ⟨⟨_,rfl⟩,a⟩) (λ_=>?_)⟩;refine⟨λf i w'=>∃d:Nat,i=d/\d<=n/\f=n-d/\w1=w',⟨_,0,rfl,Qj _,rfl,rfl⟩,?_⟩;rintro f _ _ _ ⟨d,rfl,O,rfl,rfl⟩;refine⟨_,_,_,ae b rfl,e,j,rfl,oM,oM,_,_,_,g,al.dec (λP=>?_) (λ_=>⟨_,oM,c+1,aq oM,oM,rfl,rfl⟩)⟩;obtain⟨x,y,Q,z,rfl,-,-,R,A,S,T,U,rfl,-,-⟩:=o.vO (i:=d) oM;exact⟨_,_,_,ae b rfl,e,j,rfl,oM,oM,_,_,_,g,x,y,rfl,oM,oM,_,_,_,A 3 dC,al.dec (λ_=>Ok.mk ⟨⟨_,rfl⟩,a⟩) (λ_=>⟨_,oM,d+1,aq oM,oM,rfl,rfl⟩)⟩
theorem Jt {q r s:Option Addr} {tn y t z l A:Nat} (B:aW w D c.decl q tn r t) (n:Row Qd 152 w E s l h2):
  Calls Tryz.prog 4 #[pI c q tn y r t z,.slice s l A] w (Ok λC w'=>(∃f:Bool,C= .bool f/\(f=false->h2.length<=100/\∀d∈h2,∀h∈d.m.events,h.aN.length<=100))/\ai w w'):=by
 have U:=n.len;have F:=n.dt;unfold aI at F;refine DZ (PA.mk λw1 m V H=>?_);refine⟨λo w'=>ai w1 w'/\(h2.length<=100->∀d∈h2,∀h∈d.m.events,h.aN.length<=100),⟨λu o b w'=>∃a:Nat,b=a/\a<=l/\u=l-a/\ai w1 w'/\∀d∈h2.take a,∀h∈d.m.events,h.aN.length<=100,⟨_,0,rfl,Qj _,rfl,ak.refl _,sM⟩,?_⟩,?_⟩
 ·rintro u o _ _ w2 ⟨a,rfl,W,rfl,i,j⟩
  refine al.dec (λX=>al.dec (λI=>?_) (λI=>⟨i,λJ=>oM⟩)) (λY=>⟨i,λ_=>by rw [Qz oM]at j;exact j⟩);obtain⟨f,k,K,Z,rfl,L,-,M,v,va,vn,vc,ea,en,ec,rfl,N,O,-⟩:=(n.ah (m.then i)).vO (i:=a) oM;refine⟨f,k,rfl,oM,oM,bq (es:=bH K.m va vn vc ea en ec) (k:=5) (iJ _ _ _ _ _ _ _) rfl (λb ht=>by
   rw [Qx];have:=v (10+b) (show 10+b<15 by omega);rw [show k+a*15+10+b=k+a*Qd.k+(10+b) by show _=k+a*15+_;omega,this];rcases b with _|_|_|_|_|b<;>first|rfl|omega) (PC.ok (Jq N O) ?_)⟩
  rintro _ P ⟨⟨Q,rfl,R⟩,e⟩;refine⟨_,rfl,al.mk (λ_=>Ok.mk ⟨⟨_,rfl,sM⟩,(m.then i).then e⟩) (λS=>?_)⟩;refine⟨f,k,rfl,oM,oM,_,_,_,(e.cell (a:=⟨f,_,none⟩) L id).trans (by rw [Qx];exact v 14 dC),_,oM,a+1,aq oM,oM,rfl,i.then e,?_⟩;rw [Qw,M];intro d g;rcases Q6.1 g with g|g
  ·exact j d g
  ·simp at g;subst g;exact R S
 ·rintro o _ P ⟨e,j⟩
  have x:=e.get H id;refine⟨_,_,_,_,_,_,ae x rfl,ae x rfl,PC.ok (Js (B.ah (m.then e))) ?_⟩;rintro _ w4 ⟨⟨Q,rfl⟩,T⟩;have p:=(m.then e).then T;refine⟨_,rfl,al.mk (λ_=>Ok.mk ⟨⟨_,rfl,sM⟩,p⟩) (λ_=>al.dec (λ_=>Ok.mk ⟨⟨_,rfl,sM⟩,p⟩) (λJ=>Ok.mk ⟨⟨_,rfl,λ_=>⟨oM,j oM⟩⟩,p⟩))⟩
theorem GW (r:Row aG 8 w D va vn f2.vec) (s:Row f_ 96 w E ea en f2.events) (J:∀c∈f2.events,c.aN.length<=100):
  Calls Tryz.prog 32 #[jb f2 va vn vc ea en ec] w (Ok λK w'=>∃d e t f g u G,K=jb f2 d e t f g u/\Row aG 8 w' G d e f2.vec/\Row f_ 96 w' G f g f2.events/\(∀a,G a->w.heap.size<=a/\a<w'.heap.size)/\ai w w'):=by
 have L:=r.len;have M:=r.dt;have N:=s.len;have O:=s.dt;refine BG (PA.mk λw1 P Z Q=>PA.mk λw2 z s2 R=>?_);have A:=P.then z;have B:=z.get Q id;refine⟨_,_,_,ae B rfl,PC.ok (ry (r.ah A)) ?_⟩;rintro _ w3 ⟨i,j,k,S,rfl,C,l,m⟩;have z3:=l.size;have T:=C.aC;refine⟨_,_,_,rfl,PS.mk (l.get B id) (by simp [bH]) λU v s4 F=>⟨_,_,_,ae F rfl,?_⟩⟩;have H:ai w U:=(A.then l).new v λa b=>.inr (by have b:a=w.heap.size:=b;omega);refine PC.ok (Ar (s.ah H) J) ?_;rintro _ w5 ⟨n,o,p,V,rfl,I,h,x⟩;have z5:=h.size;have W:=I.aC;refine⟨_,_,_,rfl,PS.mk (h.get F id) (by simp [bH]) λw6 q s6 X=>ar (iJ f2 i j k n o p) X (az (iJ f2 i j k n o p) (q.get (h.get (v.get (l.get R id) oM) id) oM) rfl λw7 y s7 Y=>ar (iJ f2 i j k n o p) Y (Ok.mk ⟨i,j,k,n,o,p,λa=>S a\/V a,rfl,?_,?_,?_,?_⟩))⟩
 ·refine Row.mono ?_ λa b=>Or.inl b
  exact((((C.af v λa b c=>by have c:a=w.heap.size:=c;have:=m a b;omega).ah h).af q λa b c=>by have c:a=w.heap.size:=c;have:=m a b;omega).af y λa b c=>by have c:a=w1.heap.size:=c;have:=m a b;omega).row dC (by rw [<-L];exact M)
 ·refine Row.mono ?_ λa b=>Or.inr b
  exact pw.row (((I.af q λa b c=>by have c:a=w.heap.size:=c;have:=x a b;omega).af y λa b c=>by have c:a=w1.heap.size:=c;have:=x a b;omega).row dC (by rw [<-N];exact O))
 ·rintro a (b|b)
  ·have:=m a b;have:=T a b;omega
  ·have:=x a b;have:=W a b;omega
 ·exact(((H.then h).new q λa b=>.inr (by have b:a=w.heap.size:=b;omega)).new y λa b=>.inr (by have b:a=w1.heap.size:=b;omega))
theorem bz.waits (e:bz w p F c self X):X.waits.length<=256:=by
 obtain⟨h,f,a,g⟩:=e;obtain⟨i,D,b,-,-⟩:=(show Mh w (λd=>F d/\a d=5) f.wp c.buffer.toNat X.waits from g.at' 5)
 exact Xx b.1.2.le b.1.1
theorem bz.ok (a:bz w p F c self X):kH c self:=a.1
theorem cz.after (a:ai w w1) (b:cz F w1 f w2):cz F w f w2:=⟨(ai.af a).then b.af,λc d=>(b.new c d).imp id λe=>by have:=a.size;omega⟩
theorem As (n:bz w p F c self X) (Q:Env w0 w F) {b:Cd} (o:b.Ok) (R:Row aG 8 w Dv va vn b.m.vec) (S:Row f_ 96 w E ea en b.m.events) (T:∀U∈b.m.events,U.aN.length<=100) (C:X.S.l.length<=18000000) (V:X.fu.asked.length<=1000):
  Calls Tryz.prog 8 #[.pointer (some ⟨p,0,none⟩),Sv b va vn vc ea en ec] w (Ok λW w'=>∃a,W= .int .i64 (KI c self X b).1/\bz w' p a c self (KI c self X b).2/\cz F w a w'/\iK X (KI c self X b).2):=by
 have H:=n.aC;have Y:=n.waits;have Z:=n.ok.EK;refine D_ (PA.mk λw1 d s1 i=>⟨_,ae i rfl,?_⟩);have g:=n.ah d;have q:=Q.ah d;unfold KI;refine al.dJ (λs=>?_) (λs=>?_)
 ·rw [if_pos s]
  refine KH (es:=fx b.cmd) (wB b.cmd) i (λk t=>by rcases k with _|_|_|_|_|_|_|k<;>first|rfl|exact absurd t (by simp [fx])) (PC.ok (kJ g q o.cmd oM) ?_);rintro _ w2 ⟨a,⟨sa,sn,sc,xa,xn,xc,ra,rn,rc,G,rfl,-,-,-,-⟩,a2,a0⟩;refine⟨_,_,_,_,_,_,_,_,_,_,_,_,_,_,rfl,Ok.mk ⟨a,?_,a2,cz.after d a0,sP c self X b.cmd⟩⟩
  by_cases l:(bI c self X b.cmd).1≠0
  ·rw [if_pos l]
  ·rw [if_neg l];have l:(bI c self X b.cmd).1=0:=Classical.not_not.1 l;rw [l]
 rw [if_neg s];refine al.dJ (λu=>?_) (λu=>?_)
 ·rw [if_pos u]
  intro w2 d2;have j:ai w1 w2:=d2.af;have I:=j.get i id;refine⟨F,λv=>by have:=H _ v;omega,_,ae I rfl,_,ae I rfl,PC.ok GV ?_⟩;rintro _ _ ⟨rfl,rfl⟩;refine⟨_,rfl,ak.refl _,PC.ok (uk (g.ah j) o.n) ?_⟩;rintro _ m ⟨a,⟨J,K,L,M,N,rfl,-⟩,f,e⟩;exact⟨_,_,_,rfl,e.af,Ok.mk ⟨a,rfl,f,cz.after (d.then j) e,Au c self X _ _⟩⟩
 rw [if_neg u];refine al.dJ (λx=>?_) (λx=>?_)
 ·rw [if_pos x]
  refine KH (es:=bH b.m va vn vc ea en ec) (iJ _ _ _ _ _ _ _) i (λk t=>by rcases k with _|_|_|_|_|k<;>first|rfl|exact absurd t (by simp [bH])) (PC.ok (GW (R.ah d) (S.ah d) T) ?_);rintro _ w2 ⟨a1,a3,a4,a5,a6,a7,G,rfl,a8,a9,O,j⟩;have z1:=d.size;have P:∀h,G h->h<w2.heap.size/\¬F h:=λh r=>⟨(O h r).2,λv=>by have:=H h v;have:=O h r;omega⟩
  refine bF (TG _ _ _ _ _ _ _) ⟨rfl,PC.ok (pJ (g.ah j) (q.ah j) a8 P a9 P C) ?_⟩;rintro _ m ⟨v1,a,rfl,⟨J,K,L,M,N,rfl,-⟩,f,e⟩;exact⟨_,_,_,_,rfl,Ok.mk ⟨a,rfl,f,cz.after (d.then j) e,lu c self X b.m Y Z.2⟩⟩
 rw [if_neg x];refine al.dJ (λy=>?_) (λy=>?_)
 ·rw [if_pos y]
  refine⟨_,ae i rfl,PC.ok GV ?_⟩;rintro _ _ ⟨rfl,rfl⟩;refine⟨_,rfl,PC.ok (Ol g V) ?_⟩;rintro _ m ⟨a,⟨J,K,L,M,N,rfl,-⟩,f,e⟩;exact⟨_,_,_,rfl,Ok.mk ⟨a,rfl,f,cz.after d e,Ju self X _⟩⟩
 rw [if_neg y];refine al.dJ (λz=>?_) (λz=>?_)
 ·rw [if_pos z]
  refine⟨_,ae i rfl,PC.ok (Mi g q o.n) ?_⟩;rintro _ m ⟨a,rfl,f,e,b0⟩;refine⟨_,rfl,Ok.mk ⟨a,rfl,f,cz.after d e,.inr b0,?_⟩⟩;unfold Av;rw [wP];exact Qj _
 rw [if_neg z];refine al.dJ (λA=>?_) (λA=>?_)
 ·rw [if_pos A]
  refine⟨_,ae i rfl,PC.ok (Om g o.n) ?_⟩;rintro _ m ⟨a,rfl,f,e⟩;exact⟨rfl,Ok.mk ⟨a,rfl,f,cz.after d e,⟨.inl (by dsimp only;omega),by dsimp only;omega⟩⟩⟩
 rw [if_neg A];refine al.dJ (λB=>?_) (λB=>?_)
 ·rw [if_pos B]
  refine PC.ok (GX g q C) ?_;rintro _ m ⟨a,rfl,f,e⟩;exact⟨_,rfl,Ok.mk ⟨a,rfl,f,cz.after d e,Ce c X⟩⟩
 ·rw [if_neg B]
  exact Ok.mk ⟨F,rfl,g,⟨ai.af d,λh r=>.inl r⟩,iK.refl X⟩
end
end Go.Proofs.YthnilpgpacdmnaaGreatDoor
