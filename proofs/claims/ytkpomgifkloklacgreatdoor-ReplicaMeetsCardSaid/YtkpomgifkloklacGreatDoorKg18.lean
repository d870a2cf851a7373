import Derived.Test.YtkpomgifkloklacGreatDoorKg17
set_option maxHeartbeats 4000000
set_option linter.all false
set_option maxRecDepth 20000
namespace Go.Proofs.YtkpomgifkloklacGreatDoor
open Go.aw
variable{R e q:Int}
section
variable {w w' wz A B w1:World} {D:XN} {a:ZH} {n c:Nat} {l:List cM}
def Gw{most:Nat}(I:Row wK 120 w D a n l)(hD:∀P,D P->P<w.heap.size)(hm:most<=1000)(hl:l.length<=20000000)(l3:aP R):
  ZG 82 #[.slice a n c,XH e,XH q,XH R,XH (most:Int)] w (Ok λa6 w'=>∃N,a6= .tuple #[N,.bool (jz l e q R most).2]/\qw wK 141 w (jz l e q R most).1 N w'):=by
 obtain⟨V,c1,hL,e8⟩:=ez.boxes (N:=Jo) I;have l5:V.length=l.length:=by rw[<-c1,Q8]
 obtain⟨own,p⟩:∃own,own=V.filter λP=>QH e q P.x:=⟨_,rfl⟩
 obtain⟨i,hf⟩:∃i:Nat,i=(max R 0).toNat:=⟨_,rfl⟩
 have c7:own.map (·.x)=l.filter λb=>b.ev.aW==e&&b.ev.agg==q:=by rw[p,<-c1,List.filter_map];rfl
 have e9:jz l e q R most=(((own.drop i).take most).map (·.x),decide (most<(own.drop i).length)):=by
  unfold jz;rw[<-c7,<-hf];simp only[List.map_take,List.map_drop,XZ,Q8]
 rw[e9];have f9:own.length<=20000000:=by rw[p];have:=List.length_filter_le (λP:Bx cM=>QH e q P.x) V;omega
 refine AU (PA.mk λw6 k6 s6 g6=>PA.mk λv k7 s7 g7=>PA.mk λw8 k8 s8 g8=>PA.mk λj k9 s9 g9=>PA.mk λk a0 l6 g0=>PA.mk λm W l7 g1=>PA.mk λg2 O l8 g5=>?_);have a7:=(((k8.then k9).then a0).then W).then O;have c8:=a7.get (show v.heap[w6.heap.size]? =_ from g7) id;have l4:(if 0>(if False then(0:Int)else R)then 0 else R)=(i:Int):=by simp;split<;>omega
 refine⟨_,ae ((((k9.then a0).then W).then O).get g8 id) rfl,?_⟩;have h0:(if 0>R then(0:Int)else R)=(i:Int):=by rw[hf];split<;>omega
 rw[h0];refine PS.mk ((((k9.then a0).then W).then O).get g8 id) sM λE J l9 h8=>?_;have c9:E.heap[v.heap.size]? =some (.cells #[XH (i:Int)] 3 (0,0)):=h8;have d0:ai w g2:=((k6.then k7).then a7)
 have d1:ai w E:=d0.new J λP d=>.inr (by have d:P=v.heap.size:=d;omega);have d2:=J.get ((k7.then a7).get g6 id) (λb=>by have b:w.heap.size=v.heap.size:=b;omega);have d5:=J.get c8 (λb=>by have b:w6.heap.size=v.heap.size:=b;omega);have d6:=J.get (((a0.then W).then O).get g9 id) (λb=>by have b:w8.heap.size=v.heap.size:=b;omega);have d8:=J.get ((W.then O).get g0 id) (λb=>by have b:j.heap.size=v.heap.size:=b;omega);have e1:=J.get (O.get g1 id) (λb=>by have b:k.heap.size=v.heap.size:=b;omega);have e2:=J.get g5 (λb=>by have b:m.heap.size=v.heap.size:=b;omega);refine PC.ok (φ:=λa6 w'=>a6= .func (.func 192) #[] #[XL E.heap.size,.pointer (some ⟨E.heap.size+1,0,none⟩)]/\w'.heap[E.heap.size]? =some (.cells #[.slice a n c] 43 (0,0))/\(∃b ff,w'.heap[E.heap.size+1]? =some (.cells #[.func (.func 131) #[] #[XL w.heap.size,XL w6.heap.size]] b ff))/\ai E w'/\w'.heap.size=E.heap.size+2)
  (yu (PA.mk λw3 k3 s3 g3=>PA.mk λw4 k4 s4 g4=>Ok.mk ⟨by rw[s3],k4.get g3 id,⟨_,_,by rw[<-s3];exact g4⟩,k3.then k4,oM⟩)) ?_
 rintro _ wz ⟨rfl,h9,i0,y,sz⟩;have h:=d1.then y;have a8:=y.get d2 id;have a9:=y.get d5 id;have b0:=y.get d6 id;have b1:=y.get c9 id;have K:=y.get d8 id;have L:=y.get e1 id;have X:=y.get e2 id;have Y:m.heap.size<wz.heap.size:=az X;have d3:j.heap.size<wz.heap.size:=az K;have d4:k.heap.size<wz.heap.size:=az L;have b2:∀P,D P->P<wz.heap.size/\P≠m.heap.size:=λP d=>⟨by have:=hD P d;have:=h.size;omega,λb=>by have:=hD P d;omega⟩
 have e3:∀P∈V,Jo.In wz D P:=λP d=>(e8 P d).af h λ_ _ I=>I;have e5:∀{c0:Nat} {P:Bx cM},own[c0]? =some P->P∈V:=λ{c0 P} d=>by
  have:=QZ d;rw[p]at this;exact(List.mem_filter.1 this).1
 refine⟨_,rfl,192,_,rfl,kR,Unit,(),λ_=>Mc wz m.heap.size own i most,λN _ A=>N= .ret/\RZ wz m.heap.size j.heap.size k.heap.size own i most A,
  λf Q=>∃P,own[f.length]? =some P/\Q=[XH (f.length:Int),Cr P.x P.a P.n P.c],λz=>z.length=own.length,?_,λ_ f A B M t=>M.fC Y t,λN f A B hx t=>⟨hx.1,hx.2.fC ⟨Y,d3,d4⟩ ⟨oM,oM⟩ t⟩,?_,?_,?_,?_,trivial⟩
 ·intro w1 hk hs
  refine⟨ai.af hk,oM,none,0,0,λ_=>False,hk.get X id,?_,λP d=>d.elim,Qj _⟩;simpa using aU.nil w1
 ·rintro _ f A M m0 m1 m2 m3 m4 ta tn tc m5 m6 m7 m8 m9 n0 n1 n3 n4 ⟨P,d,he⟩
  simp only[gB,aD,List.cons_append,List.nil_append,List.cons.injEq,Value.agg.injEq,Array.mk.injEq,Value.int.injEq,XX,Value.bool.injEq,and_true,true_and]at he;obtain⟨rfl,rfl,rfl,rfl,⟨rfl,rfl,rfl⟩,rfl,rfl,rfl,rfl,rfl,rfl,rfl,rfl,rfl⟩:=he;have n8:f.length<own.length:=(Qv.1 d).1;refine PA.mk λn9 i1 o0 i2=>aB (kv P.x P.a P.n P.c) i2 rfl λi3 i4 o1 i5=>?_;have c2:ai A i3:=i1.new i4 λP d=>.inr (by have d:P=A.heap.size:=d;omega);refine⟨ai.af c2,λb3 t=>?_⟩;have c3:=(M.ah c2).fC Y t;have i6:=t.1.get i5 (λb=>by have b:A.heap.size=wz.heap.size+1:=b;omega);have o2:=t.2;have Z:=c3.af;have c4:∀Q:List Value,(((own.take (f++[Q]).length).drop i)=if f.length<i then []else((own.take f.length).drop i)++[P]):=λQ=>by
   rw[QX,List.length_singleton,Qw,d];have i7:(own.take f.length).length=f.length:=by rw[Qy];omega
   split
   ·rename_i r
    exact List.drop_eq_nil_of_le (by rw[QX,i7];simp;omega)
   ·rename_i r
    rw[List.drop_append_of_le_length oM];rfl
  obtain⟨o,x,C,F,S,G,u,s,r,h6⟩:=c3;have a1:=s.len dC;rw[Q8,XZ,Qy,X2 oM]at a1;refine⟨_,ae (Z.get b1 (λb=>by have b:v.heap.size=m.heap.size:=b;omega)) rfl,an.dec (λo4=>⟨ak.refl _,?_⟩) (λo5=>⟨_,_,_,ae u rfl,_,ae (Z.get b0 (λb=>by have b:w8.heap.size=m.heap.size:=b;omega)) rfl,an.dec (λi8=>?_) (λi9=>λd7 j0=>?_)⟩)⟩
  ·refine⟨o,x,C,F,S,G,u,?_,r,h6⟩
   rw[c4,Zx oM];rw[List.drop_eq_nil_of_le (by rw[Qy];omega)]at s;exact s
  ·have e6:F=most:=oM
   have b4:=Z.get K (λb=>by have b:j.heap.size=m.heap.size:=b;omega);have b5:=Z.get L (λb=>by have b:k.heap.size=m.heap.size:=b;omega);refine⟨_,_,_,ae u rfl,PS.mk b4 sM λo6 d9 o7 j1=>PS.mk (d9.get b5 (λb=>by have b:k.heap.size=j.heap.size:=b;omega)) sM λj2 e0 o8 j3=>?_⟩;have T:ak (λP=>P=j.heap.size\/P=k.heap.size) b3 j2:=(d9.mono λP _ b=>.inl b).then (e0.mono λP _ b=>.inr b);have j4:(own.drop i).take most=(own.take f.length).drop i:=by
    rw[<-e6,a1,List.drop_take]
   refine⟨T.mono λP _ d=>⟨by rcases d with rfl|rfl<;>omega,by rcases d with rfl|rfl<;>omega⟩,.inl rfl,rfl,(o.mono λP _ b=>.inl b).then (T.mono λP _ b=>.inr b),j3,by rw[XZ];omega,C,F,S,G,e0.get j1 (λb=>by have b:j.heap.size=k.heap.size:=b;omega),?_,r⟩;rw[j4];exact s.af T λP d b=>by have:=r P d;rcases b with rfl|rfl<;>omega
  ·have U:ai b3 d7:=j0.af
   have c5:=(e3 P (e5 d)).af Z λP d b=>(b2 P d).2 b;have e7:Row aQ 8 d7 D P.a P.n P.x.ev.aN:=c5.1.ah U;have f0:P.x.ev.Ok:=c5.2;refine⟨λ_=>False,id,_,_,_,ae (U.get u id) rfl,au (kv P.x P.a P.n P.c) (U.get i6 id) (PC.ok (Bn e7 λP d=>by have:=(b2 P d).1;have:=U.size;omega) ?_)⟩;rintro _ o9 ⟨f1,n2,f2,G2,rfl,j5,b6,b7⟩;have p0:=U.size;have p1:=b7.size;refine⟨_,_,_,_,_,_,_,_,_,_,_,_,_,_,_,rfl,b7,PA.mk λp2 b8 p3 j6=>⟨b8,?_⟩⟩;have a2:=(U.then b7).then b8;refine d_ (c:=wK) (x:=P.x) (s.ah a2) Oe j6 (D:=G2) ⟨f1,n2,f2,rfl,j5.ah b8,f0⟩ (λP d=>⟨by have:=b6 P d;omega,λb=>by have:=s.aF P (s.self P b);have:=b6 P d;omega⟩) (by rw[Q8,XZ,Qy];unfold aT;omega) (by rw[Q8,XZ,Qy];unfold maxLen;omega) λa' c' p4 F' f3 b9 j7=>⟨_,_,_,rfl,?_⟩
   have g:∀P,aI C=some P->wz.heap.size+2<=P:=λP d=>r P (s.self P d);have j8:¬aI C=some m.heap.size:=λb=>by have:=g _ b;omega
   have p5:=b9.size;have p6:=a2.size;have H:∀P,F' P->wz.heap.size+2<=P:=λP d=>by
    rcases j7 P d with h7|h7|h7
    ·exact r P h7
    ·have:=b6 P h7;omega
    ·omega
   refine PS.mk (b9.get (a2.get u id) j8) sM λj9 e4 p7 k0=>?_;have T:ak (λP=>aI C=some P\/P=m.heap.size) b3 j9:=((ai.af a2).then (b9.mono λP _ b=>.inl b)).then (e4.mono λP _ b=>.inr b);refine⟨T.mono λP _ d=>⟨?_,?_⟩,⟨(o.new (T.mono λP _ b=>b) λP d=>d.elim (λb=>.inr (by have:=g P b;omega)) .inl),oM,a',F+1,c',F',k0,?_,H,oM⟩⟩
   ·rcases d with d|rfl
    ·have:=g P d;omega
    ·omega
   ·rcases d with d|rfl
    ·have:=g P d;omega
    ·omega
   ·rw[c4,Zq oM,Q3]
    exact f3.af e4 λP d b=>by have b:P=m.heap.size:=b;have:=H P d;omega
 ·intro f4 Rx hR _ p8 hy w1 k1 f5
  refine Calls.mono (PW (own:=own) (f:=i) (most:=most) (R:=f4) (Rx:=Rx .ret) (R1:=j.heap.size) (R2:=k.heap.size) Y a8 a9 oM oM ⟨_,_,y.size|>λ_=>h9⟩ oM i0 oM (hL.ah h) b2 p oM hR (λf Q A M k2 t hN=>(hy () f Q A M k2 t hN).mono ?_) k1 f5) ?_
  ·rintro P A' (I|⟨o,N,⟨rfl,x⟩,u⟩)
   ·exact .inl I
   ·exact .inr ⟨o,x,u⟩
  ·rintro b A' ⟨hv,I⟩
   refine⟨hv,?_⟩;rcases I with⟨o,z,x,u⟩|⟨o,x⟩
   ·exact .inl ⟨o,(),z,x,u⟩
   ·exact .inr ⟨.ret,[],⟨rfl,o⟩,x⟩
 ·rintro _ z A M c6 hm
  obtain⟨o,x,C,F,S,G,u,s,r,h6⟩:=M;have a1:=s.len dC;rw[c6,List.take_length]at s;rw[c6,List.take_length,Q8,XZ]at a1;have b4:=o.get K (λb=>by have b:j.heap.size=m.heap.size:=b;omega);have b5:=o.get L (λb=>by have b:k.heap.size=m.heap.size:=b;omega);refine⟨_,_,_,ae u rfl,PS.mk b4 sM λp9 a3 q0 k5=>PS.mk (a3.get b5 (λb=>by have b:k.heap.size=j.heap.size:=b;omega)) sM λq1 a4 q2 l0=>?_⟩;refine⟨a4.get (a3.get hm (λb=>by have b:wz.heap.size=j.heap.size:=b;omega)) (λb=>by have b:wz.heap.size=k.heap.size:=b;omega),λq3 t=>?_⟩;have a5:=t.1;have f6:=a5.get (a4.get k5 (λb=>by have b:j.heap.size=k.heap.size:=b;omega)) (λb=>by have b:j.heap.size=wz.heap.size:=b;omega);have f7:=a5.get l0 (λb=>by have b:k.heap.size=wz.heap.size:=b;omega);refine⟨_,_,_,ae f6 rfl,_,ae f7 rfl,Ok.mk ⟨_,?_,C,F,S,G,rfl,?_,?_,λP d=>by have:=r P d;have:=h.size;omega⟩⟩
  ·rw[Xv (by rw[XZ];omega)]
  ·rw[Qz (by rw[XZ];omega)]
   exact((s.af a3 λP d b=>by have b:P=j.heap.size:=b;have:=r P d;omega).af a4 λP d b=>by have b:P=k.heap.size:=b;have:=r P d;omega).af a5 λP d b=>by have b:P=wz.heap.size:=b;have:=r P d;omega
  ·refine(((h.new o λP d=>.inr (by have d:P=m.heap.size:=d;omega)).new a3 λP d=>.inr (by have d:P=j.heap.size:=d;omega)).new a4 λP d=>.inr (by have d:P=k.heap.size:=d;omega)).new a5 λP d=>.inr (by have d:P=wz.heap.size:=d;have:=h.size;omega)
 ·rintro f A ⟨-,hx⟩ hm
  refine⟨hm,λq4 t=>?_⟩;obtain⟨o,x,f8,C,F,S,G,u,s,r⟩:=hx.fC ⟨Y,d3,d4⟩ ⟨oM,oM⟩ t;refine⟨_,_,_,ae u rfl,_,ae x rfl,Ok.mk ⟨_,by rw[Zy f8],C,F,S,G,rfl,s,?_,λP d=>by have:=r P d;have:=h.size;omega⟩⟩;exact h.new o λP d=>.inr (by rcases d with d|d|d<;>omega)
end
def xD(a:aM)(b:List aj)(c d P:Int):sq:=⟨0,(0,0),⟨0,[]⟩,(jz (b_ a b).entries c d P 32).1,[],(jz (b_ a b).entries c d P 32).2⟩
section
variable {w w' w0 w1 w2:World} {p:Nat} {F E D:XN} {cls:Nat->Nat} {h:jj} {c:cH} {self:Int} {X:bQ}
def zi(s:cd w p F c self X)(t:aP R):ZG 40 #[XL p,XH e,XH q,XH R] w (Ok λu w'=>ic w (xD c.decl X.S.l e q R) u w'/\ai w w'):=by
 obtain⟨I,h,cls,k⟩:=s;refine lk (PA.mk λv b J x=>PC.ok (zS (cY.ah k b)) ?_);rintro _ _ ⟨rfl,rfl⟩;have y:=cY.ah k b;have P:cZ v h.bp (λa=>F a/\cls a=4) c.decl c.every.toNat X.S.l:=y.at' 4;have z:=(uK c.decl X.S.l P.1.2.2.2).1;refine⟨_,rfl,_,_,DU,PC.ok (Cu P) ?_⟩;rintro _ K ⟨L,M,N,G,rfl,l,d,O⟩;refine⟨_,_,_,rfl,PC.ok (Gw (most:=32) (l.row dC ba) l.aF oM z t) ?_⟩;rintro _ A ⟨Q,rfl,f,g,i,B,rfl,m,j,n⟩;have C:=m.aF;have S:=d.size;have T:=j.size;have U:(jz (b_ c.decl X.S.l).entries e q R 32).1.length<=32:=by unfold jz;rw[Qy];omega
 have E:ai w A:=(b.then d).then j;refine⟨_,_,_,_,rfl,aB (kh (xD c.decl X.S.l e q R) none 0 0 f g i none 0 0) (j.get (d.get x id) id) rfl λV o W H=>au (kh (xD c.decl X.S.l e q R) none 0 0 f g i none 0 0) H (Ok.mk ⟨?_,E.new o λa P=>.inr (by have P:a=w.heap.size:=P;omega)⟩)⟩;refine⟨none,0,0,f,g,i,none,0,0,B,rfl,dS _ _,(m.af o λa P r=>by have r:a=w.heap.size:=r;have:=n a P;omega).row dC (by show(jz (b_ c.decl X.S.l).entries e q R 32).1.length*120<=aT;unfold aT;omega),dS _ _,λa P=>⟨by have:=n a P;omega,by have:=C a P;omega⟩⟩
end
variable{U n:Array Value}{g1 y:FuncId}{b9:Int}{a2 e6 h6:List PanicEntry->XU}{b4:List cO}{g2:List dz}{Q W:Operand}{c0 d r:ZH}{b7 t:Value}{a8 b k:World}{C:aM}{b3:bg}{e7:sq}
def Nd:(do eqGuard .neq 39 Q W (.agg #[XH e,XH q]) (.agg #[XH R,XH b9]);binOp .neq 39 (.agg #[XH e,XH q]) (.agg #[XH R,XH b9]):Sem Value).run XP b= .ok (.bool (!(e==R&&q==b9))) b:=by
 have P:=Cp (x:=Q) (y:=W) (a:=e) (b:=q) (c:=R) (d:=b9) (w:=b);rw[Sem.run_bind,run_eqGuard_agg b .eql _ Q W _ _ kR,Result.andThen_ok,run_eql_struct]at P;rw[Sem.run_bind,run_eqGuard_agg b .neq _ Q W _ _ kR,Result.andThen_ok,run_neq_struct];generalize(Op.equalIn 10000 39 (.agg #[XH e,XH q]) (.agg #[XH R,XH b9])).run XP b=a at P⊢
 cases a with
 |ok c d=>simp only[Result.andThen_ok,Result.ok.injEq,Value.bool.injEq]at P⊢;obtain⟨rfl,rfl⟩:=P;exact⟨rfl,rfl⟩
 |_=>simp[Result.andThen]at P
def Rp(a:dz)(b:World):(do eqGuard .neq 244 Q W (.agg (a_ a).toArray) (.agg (a_ a).toArray);binOp .neq 244 (.agg (a_ a).toArray) (.agg (a_ a).toArray):Sem Value).run XP b= .ok (.bool false) b:=by
 have e:Tryz.prog.underlying 244=some (.struct (Tryz.prog.fieldsOf 244)):=kR
 have c:Tryz.prog.underlying 3=some (.int .i64):=kR
 have P:(Tryz.prog.fieldsOf 244).toList.map (λd=>(d.name,d.type,d.offset))=[("Group",3,0),("Value",3,1),("Count",3,2)]:=kR
 rw[Sem.run_bind,run_eqGuard_agg b .neq _ Q W _ _ kR,Result.andThen_ok,run_neq_struct,run_equalIn_struct b 9999 _ _ _ e kR];generalize(Tryz.prog.fieldsOf 244).toList=f at P
 match f,P with
 |[d,t,u],P=>
  simp only[QY,List.map_nil,List.cons.injEq,Prod.mk.injEq,and_true]at P;obtain⟨⟨g,h,i⟩,⟨j,k,l⟩,m,n,o⟩:=P;have p:(isAgg 3).run XP b= .ok false b:=cW _ _ _ kR ⟨_,c⟩ b;have q:=run_equalIn_int (P:=XP) b 9998 3 .i64 .i64 a.group a.group c;have r:=run_equalIn_int (P:=XP) b 9998 3 .i64 .i64 a.value a.value c;have s:=run_equalIn_int (P:=XP) b 9998 3 .i64 .i64 a.count a.count c;unfold Op.eqFields Op.eqFields Op.eqFields Op.eqFields;rw[g,h,i,j,k,l,m,n,o];simp[part,p,q,r,s,a_]
 |[],P=>simp at P
 |[_],P=>simp at P
 |[_,_],P=>simp at P
 |_::_::_::_::_,P=>simp at P
section
variable {w w':World} {D E:XN} {a b:ZH} {n m c d:Nat}
def A_(f:Row eT 32 w D a n b4)(h:Row eT 32 w E b m b4):ZG 129 #[.slice a n c,.slice b m d] w (Ok λu w'=>u= .bool true/\ai w w'):=by
 have F:=f.len;have H:=h.len;have v:=f.dK;unfold aT at v;refine w_ (an.dX (λe=>Zz oM e) (λ_=>?_));refine⟨λj i w'=>∃P:Nat,i=P/\P<=n/\j=n-P/\ai w w',⟨_,0,rfl,Qj _,rfl,ak.refl w⟩,?_⟩;rintro j i _ I ⟨P,rfl,J,rfl,k⟩;refine an.dec (λK x y=>?_) (λ_=>Ok.mk ⟨rfl,k⟩);have g:ai w x:=k.then y.af;obtain⟨l,o,L,M,rfl,_,_,z,p,N,O,Q,rfl,A,_⟩:=(f.ah g).uH (i:=P) oM;obtain⟨q,r,R,S,rfl,_,_,s,t,T,U,V,rfl,B,_⟩:=(h.ah g).uH (i:=P) oM;rw[z]at s;cases s
 refine⟨l,o,rfl,oM,oM,_,p 0 dC,q,r,rfl,oM,oM,_,t 0 dC,an.dX (λe=>Zz rfl e) (λ_=>?_)⟩;refine⟨l,o,rfl,oM,oM,_,_,_,p 1 dC,q,r,rfl,oM,oM,_,_,_,t 1 dC,PC.ok (iF A B) ?_⟩;rintro _ W ⟨rfl,C⟩;exact⟨_,rfl,an.not (an.dec (λ_=>⟨_,oM,P+1,aq oM,oM,rfl,g.then C.af⟩) (λe=>Zz rfl e))⟩
def Ba{s:lA}(h:Row eT 32 w D a n s.cells)(i:Row eT 32 w E b m s.cells):ZG 79 #[.agg #[XH s.version,.slice a n c],.agg #[XH s.version,.slice b m d]] w (Ok λj w'=>j= .bool true/\ai w w'):=by
 refine wT (PA.mk λp e q k=>PA.mk λr P t f=>?_);have g:=P.get k id;refine⟨_,ae g rfl,_,ae f rfl,an.eG (λ_=>?_) (λl=>Zz rfl l)⟩;refine⟨_,_,_,ae g rfl,_,_,_,ae f rfl,PC.ok (A_ (h.ah (e.then P)) (i.ah (e.then P))) ?_⟩;rintro _ u ⟨rfl,o⟩;exact⟨_,rfl,Ok.mk ⟨rfl,(e.then P).then o⟩⟩
def xp{C:List cM}(p:Row wK 120 w D a n C)(F:Row wK 120 w E b m C):ZG 80 #[.slice a n c,.slice b m d] w (Ok λN w'=>N= .bool true/\ai w w'):=by
 have Y:=p.len;have Z:=F.len;have O:=p.dK;unfold aT at O;refine sZ (an.dX (λg=>Zz oM g) (λ_=>?_));refine⟨λH i w'=>∃e:Nat,i=e/\e<=n/\H=n-e/\ai w w',⟨_,0,rfl,Qj _,rfl,ak.refl w⟩,?_⟩;rintro H i _ w1 ⟨e,rfl,hj,rfl,I⟩;refine an.dec (λh1 q Q=>?_) (λ_=>Ok.mk ⟨rfl,I⟩);have r:ai w q:=I.then Q.af;obtain⟨h,j,k,es,rfl,R,_,S,J,s,t,u,rfl,T,_⟩:=(p.ah r).uH (i:=e) oM;obtain⟨l,o,a0,fs,rfl,U,_,K,L,v,x,y,rfl,V,_⟩:=(F.ah r).uH (i:=e) oM;rw[S]at K;cases K
 have W:∀P,P<10->q.cell? ⟨h,j+e*13+P,none⟩=(aD k.ev s t u)[P]? :=λP f=>(J P (show P<13 by omega)).trans (XW (show P<10 from f));have X:∀P,P<10->q.cell? ⟨l,o+e*13+P,none⟩=(aD k.ev v x y)[P]? :=λP f=>(L P (show P<13 by omega)).trans (XW (show P<10 from f));refine⟨h,j,rfl,oM,oM,bq (es:=aD k.ev s t u) (k:=10) (aX _ _ _ _) rfl (λP f=>by rw[Qx];exact W P f) ⟨l,o,rfl,oM,oM,bq (es:=aD k.ev v x y) (k:=10) (aX _ _ _ _) rfl (λP f=>by rw[Qx];exact X P f) (PC.ok (kZ T V) ?_)⟩⟩;rintro _ M ⟨rfl,z⟩;have A:∀P,P<13->M.cell? ⟨h,j+e*13+P,none⟩=(gB k s t u)[P]? :=λP f=>(z.cell (a:=⟨h,j+e*13+P,none⟩) R id).trans (J P f);have B:∀P,P<13->M.cell? ⟨l,o+e*13+P,none⟩=(gB k v x y)[P]? :=λP f=>(z.cell (a:=⟨l,o+e*13+P,none⟩) U id).trans (L P f);refine⟨_,rfl,an.not (an.dec (λ_=>?_) (λg=>Zz rfl g))⟩;refine⟨h,j,rfl,oM,oM,_,A 10 dC,l,o,rfl,oM,oM,_,B 10 dC,an.not (an.mk (λ_=>?_) (λg=>by simp at g))⟩;refine⟨h,j,rfl,oM,oM,_,_,A 11 dC,A 12 dC,l,o,rfl,oM,oM,_,_,B 11 dC,B 12 dC,_,λw'=>Nd,an.mk (λg=>by simp at g) (λ_=>?_)⟩;exact⟨_,oM,e+1,aq oM,oM,rfl,r.then z⟩
def Dw(g:Row EA 24 w D a n g2)(l:Row EA 24 w E b m g2):ZG 81 #[.slice a n c,.slice b m d] w (Ok λq w'=>q= .bool true/\ai w w'):=by
 have B:=g.len;have C:=l.len;have r:=g.dK;unfold aT at r;refine yr (an.dX (λh=>Zz oM h) (λ_=>?_));refine⟨λo i w'=>∃P:Nat,i=P/\P<=n/\o=n-P/\ai w w',⟨_,0,rfl,Qj _,rfl,ak.refl w⟩,?_⟩;rintro o i _ F ⟨P,rfl,H,rfl,f⟩;refine an.dec (λI=>?_) (λ_=>Ok.mk ⟨rfl,f⟩);obtain⟨s,t,e,J,rfl,K,_,u,v,rfl,_⟩:=(g.ah f).uH (i:=P) oM;obtain⟨x,y,L,M,rfl,N,_,p,z,rfl,_⟩:=(l.ah f).uH (i:=P) oM;rw[u]at p;cases p
 refine⟨s,t,rfl,oM,oM,bq (es:=a_ e) (k:=3) (Lb e) rfl (λj k=>by rw[Qx];exact v j k) ⟨x,y,rfl,oM,oM,bq (es:=a_ e) (k:=3) (Lb e) rfl (λj k=>by rw[Qx];exact z j k) ⟨false,λm=>Rp e _,λO A=>an.mk (λh=>by cases h) λ_=>?_⟩⟩⟩;exact⟨_,oM,P+1,aq oM,oM,rfl,f.then A.af⟩
def zf{l m:World}(n:ic l e7 t w)(o:ic m e7 b7 w):ZG 39 #[t,b7] w (Ok λb7 w'=>b7= .bool true/\ai w w'):=by
 obtain⟨A,B,C,E,F,H,I,J,K,G,rfl,p,q,r,L⟩:=n;obtain⟨M,tn,N,O,Q,R,S,T,U,V,rfl,s,u,v,W⟩:=o;refine uW (PA.mk λX x Y y=>PA.mk λz g Z b=>?_);have c:=g.get y id;have P:ai w z:=x.then g;refine⟨_,ae c rfl,_,ae b rfl,an.eG (λ_=>?_) (λe=>Zz rfl e)⟩;refine⟨_,_,ae c rfl,ae c rfl,_,_,ae b rfl,ae b rfl,aH.mk Cp ⟨_,rfl,an.mk (λ_=>?_) (λe=>by simp at e)⟩⟩;refine⟨_,_,_,_,ae c rfl,ae c rfl,_,_,_,_,ae b rfl,ae b rfl,PC.ok (Ba (s:=e7.st) (p.ah P) (s.ah P)) ?_⟩;rintro _ w5 ⟨rfl,a⟩;have h:=a.get c id;have i:=a.get b id;refine⟨_,rfl,an.tt rfl ⟨_,_,_,ae h rfl,_,_,_,ae i rfl,PC.ok (xp (q.ah (P.then a)) (u.ah (P.then a))) ?_⟩⟩;rintro _ w6 ⟨rfl,d⟩;have j:=d.get h id;have k:=d.get i id;refine⟨_,rfl,an.tt rfl ⟨_,_,_,ae j rfl,_,_,_,ae k rfl,PC.ok (Dw (r.ah ((P.then a).then d)) (v.ah ((P.then a).then d))) ?_⟩⟩;rintro _ w7 ⟨rfl,f⟩;exact⟨_,rfl,an.tt rfl ⟨_,ae (f.get j id) rfl,_,ae (f.get k id) rfl,Ok.mk ⟨sM,((P.then a).then d).then f⟩⟩⟩
end
section
variable {w w':World} {D E:XN} {a b:ZH} {n m c:Nat}
def Bb(h:Row fy 32 w D a n b3.bl):ZG 54 #[.agg (dv b3 a n c).toArray] w (Ok λH w'=>∃p v q e,H= .agg (dv b3 p v q).toArray/\aU fy 106 e w' p v q b3.bl/\ai w w'/\∀b,e b->w.heap.size<=b):=by
 have Y:=h.len;have P:=h.dK;unfold aT at P;refine wR (PA.mk λy I Z J=>PA.mk λr z s7 K=>?_);have L:=z.get J id;have A:=I.then z;refine⟨λB k d l i w'=>i=(d:Int)/\d<=n/\B=n-d/\∃e,aU fy 106 e w' k d l (b3.bl.take d)/\ai r w'/\∀b,e b->r.heap.size<=b,
  ⟨_,rfl,Qj _,rfl,λ_=>False,by simpa using aU.nil r,ak.refl _,λ_ h=>h.elim⟩,?_⟩
 rintro B k d l i _ w1 ⟨rfl,hj,rfl,e,m,f,g⟩;have s:=f.get L id;have C:=A.then f;have E:(b3.bl.take d).length=d:=by simp;omega
 refine⟨_,_,_,ae s rfl,an.dec (λM=>?_) (λM=>?_)⟩
 ·obtain⟨b,t,x,es,rfl,_,_,N,o,rfl,O⟩:=(h.ah C).uH (i:=d) oM
  refine⟨_,_,_,ae s rfl,b,t,rfl,oM,oM,_,_,_,_,o 0 dC,o 1 dC,o 2 dC,o 3 dC,Kx m Im (x:=x) (D:=λ_=>False) ⟨rfl,O⟩ (λ_ h=>h.elim) (by rw[E];unfold aT;omega) (by rw[E];unfold maxLen;omega) λp q Q R S T U _=>?_⟩;refine⟨_,_,_,rfl,n-(d+1),oM,aq oM,oM,rfl,R,?_,f.new T λb P=>.inr (g b (m.self b P)),?_⟩
  ·rw[Qw,N];exact S
  ·intro b P
   have:=f.size;rcases U b P with h|h|h
   ·exact g b h
   ·exact h.elim
   ·omega
 ·obtain rfl:d=n:=oM
  rw[Qz oM]at m;have V:=f.get K id;refine PS.mk s sM λw2 u s2 W=>au (cs:=dv b3 k d l) (eL _ _ _ _) W (aB (eL _ _ _ _) (u.get V oM) rfl λQ F s3 X=>au (eL _ _ _ _) X (Ok.mk ⟨k,d,l,e,rfl,?_,?_,λb P=>by have:=g b P;have:=A.size;omega⟩))
  ·exact(m.af u λb P j=>by have j:b=w.heap.size:=j;have:=g b P;omega).af F λb P j=>by have j:b=y.heap.size:=j;have:=g b P;omega
  ·exact(C.new u λb P=>.inr (by have P:b=w.heap.size:=P;omega)).new F λb P=>.inr (by have P:b=y.heap.size:=P;omega)
def Dx{tn tc W pc:Nat}(o:aZ w D C d tn r W):
  ZG 30 #[.agg #[.slice d tn tc,.slice r W pc]] w (Ok λe0 w'=>∃I xy a3 J K a7 G,e0= .agg #[.slice I xy a3,.slice J K a7]/\aZ w' G C I xy J K/\(∀b,G b->w.heap.size<=b/\b<w'.heap.size)/\ai w w'):=by
 have h3:=o.aW.len;have b3:=o.aW.dK;have h4:=o.xM.len;have b4:=o.xM.dK;refine ym (PA.mk λL k4 s4 g4=>PA.mk λh k5 s5 g5=>PA.mk λw6 k6 s6 g6=>?_);have b5:=k4.then k5;have d7:=b5.then k6;have gp:=k6.get (k5.get g4 id) id;have gr:=k6.get g5 id;have z6:=d7.size;refine⟨λm M w'=>∃f:Nat,M=f/\f<=tn/\m=tn-f/\ak (·=h.heap.size) w6 w'/\∃N O X Z,w'.heap[h.heap.size]? =some (.cells #[.slice N O X,.slice none 0 0] 25 (0,0))/\aU jG 111 Z w' N O X (C.types.take f)/\∀b,Z b->w6.heap.size<=b,
  ⟨_,0,rfl,Qj _,rfl,ak.refl _,none,0,0,λ_=>False,g6,aU.nil _,λ_ o=>o.elim⟩,?_⟩
 rintro m _ _ g ⟨f,rfl,hj,rfl,Q,N,O,X,Z,go,v,F⟩;have a4:ai w g:=d7.new Q λb P=>.inr (by have P:b=h.heap.size:=P;have:=b5.size;omega);have zk:=Q.size;have a0:=Q.get gp λc=>by have c:w.heap.size=h.heap.size:=c;omega
 refine⟨_,_,_,ae a0 rfl,an.dec (λk1=>?_) (λk2=>?_)⟩
 ·have h6:f<C.types.length:=oM
  have b6:C.types[f]? =some C.types[f]:=Qq h6;generalize C.types[f]=p at b6;obtain⟨b,A,es,ha,P,k3,e1,fa,fn,fc,rfl,b8⟩:=(o.aW.ah a4).el f p b6;have c0:=e1 0 dC;have h7:jG.k=1:=rfl;rw[h7,Nat.mul_one]at c0;have h8:=b8.len;have b9:=b8.dK;refine PA.mk λk7 h9 k8 i0=>PS.mk i0 sM λa5 i1 k9 i2=>?_;have B:ai g a5:=h9.new i1 λb P=>.inr (by have P:b=g.heap.size:=P;omega);have e2:=B.get a0 id;have d9:=B.size;have e3:=a4.then B;refine⟨λm M w'=>∃k:Nat,M=k/\k<=fn/\m=fn-k/\ak (·=g.heap.size) a5 w'/\∃s t x u,w'.heap[g.heap.size]? =some (.cells #[.slice s t x] 111 (0,0))/\aU nV 104 u w' s t x (p.take k)/\∀b,u b->a5.heap.size<=b,
   ⟨_,0,rfl,Qj _,rfl,ak.refl _,none,0,0,λ_=>False,i2,aU.nil _,λ_ o=>o.elim⟩,?_⟩
  rintro m _ _ a6 ⟨k,rfl,hk,rfl,i,s,t,x,u,y,j,q⟩;have zx:=i.size;have e4:ai w a6:=e3.new i λb P=>.inr (by have P:b=g.heap.size:=P;have:=a4.size;omega);have b2:=i.get e2 λc=>by have c:w.heap.size=g.heap.size:=c;have:=az a0;omega
  have b7:a6.cell? ⟨b,A+Int.toNat (f:Int),none⟩=some (.slice fa fn fc):=by
   rw[Qx];refine(i.cell (a:=⟨b,A+f,none⟩) (Qk P d9) λc=>by have c:b=g.heap.size:=c;omega).trans ((B.cell (a:=⟨b,A+f,none⟩) P id).trans ?_);exact c0
  refine⟨_,_,_,ae b2 rfl,b,A,ha,oM,oM,_,_,_,b7,an.dec (λe5=>?_) (λe6=>?_)⟩
  ·intro c1 i3
   have l:ai a6 c1:=i3.af;have k0:=e4.then l;have e7:=l.get y id;have e8:=l.get b2 id;have f0:c1.cell? ⟨b,A+Int.toNat (f:Int),none⟩=some (.slice fa fn fc):=(l.cell (a:=⟨b,A+Int.toNat (f:Int),none⟩) (Qk (Qk P d9) zx) id).trans b7;have i4:k<p.length:=oM
   have c2:p[k]? =some p[k]:=Qq i4;generalize p[k]=H at c2;have f1:ai g c1:=(B.new i λb P=>.inr (by have P:b=g.heap.size:=P;omega)).then l;obtain⟨fb,fo,a8,rfl,-,-,c4,ya,yn,yc,rfl,c5,a9⟩:=(b8.ah f1).el k H c2;have f3:=c5.len;have f4:=c5.dK;refine⟨λ_=>False,id,_,_,_,ae e7 rfl,_,_,_,ae e8 rfl,b,A,ha,oM,oM,_,_,_,f0,fb,fo,rfl,oM,oM,bq (es:=dv H ya yn yc) (k:=4) (eL _ _ _ _) rfl (λp ht=>by rw[Qx];exact c4 p ht) (PC.ok (Bb c5) ?_)⟩;rintro _ l0 ⟨a,n,cc,Fm,rfl,c6,e9,f2⟩;have g0:=c6.aF;refine⟨_,_,_,_,_,_,rfl,e9,PA.mk λg1 c7 l3 i5=>⟨c7,?_⟩⟩;have a1:ai a6 g1:=(l.then e9).then c7;have l4:=c6.len dC;have f5:Row fy 32 g1 Fm a n H.bl:=(c6.ah c7).row dC (by rw[<-f3];exact f4);refine d_ (c:=nV) (x:=H) (j.ah a1) MK i5 (D:=Fm) ⟨a,n,cc,rfl,f5,a9⟩ (λb P=>⟨by have:=g0 b P;omega,λc=>by have:=j.aF b (j.self b c);have:=f2 b P;have:=l.size;omega⟩) (by rw[Qy];unfold aT at*;omega) (by rw[Qy];unfold aT at b9;unfold maxLen;omega) λR S i6 z b0 E T=>⟨_,_,_,rfl,?_⟩
   have c9:¬aI s=some g.heap.size:=λc=>by have:=q _ (j.self _ c);omega
   have l5:=a1.size;have i7:=E.size;have zd:=l.size;have e:∀b,z b->a5.heap.size<=b:=λb P=>by
    rcases T b P with Y|Y|Y
    ·exact q b Y
    ·have:=f2 b Y;omega
    ·omega
   refine PS.mk (E.get (a1.get y id) c9) sM λi8 U i9 d0=>⟨_,oM,k+1,aq (by unfold aT at b9;omega),oM,rfl,((i.ah a1).new E λb P=>.inr (q b (j.self b P))).then U,R,t+1,S,z,d0,?_,e⟩
   rw[Qw,c2];exact b0.af U λb P c=>by have c:b=g.heap.size:=c;have:=e b P;omega
  ·rw[Qz oM]at j
   have c3:=i.get (B.get go id) λc=>by have c:h.heap.size=g.heap.size:=c;have:=az go;omega
   refine⟨_,_,_,ae c3 rfl,_,_,_,ae y rfl,PA.mk λj0 d1 l6 j1=>?_⟩;have b1:ai g j0:=(B.new i λb P=>.inr (by have P:b=g.heap.size:=P;omega)).then d1;refine d_ (c:=jG) (x:=p) (v.ah b1) Ju j1 (D:=u) ⟨s,t,x,rfl,(j.ah d1).row dC (by rw[<-h8];exact b9)⟩ (λb P=>⟨by have:=j.aF b P;omega,λc=>by have:=v.aF b (v.self b c);have:=q b P;omega⟩) (by rw[Qy];unfold aT at*;omega) (by rw[Qy];unfold aT at b3;unfold maxLen;omega) λR S l7 z g2 d2 T=>⟨_,_,_,rfl,?_⟩
   have j2:¬aI N=some h.heap.size:=λc=>by have:=F _ (v.self _ c);omega
   have l8:=b1.size;have l9:=d2.size;have e:∀b,z b->w6.heap.size<=b:=λb P=>by
    rcases T b P with Y|Y|Y
    ·exact F b Y
    ·have:=q b Y;omega
    ·omega
   refine PS.mk (d2.get (d1.get c3 id) j2) sM λm0 c8 m1 j3=>⟨_,oM,f+1,aq (by unfold aT at b3;omega),oM,rfl,((Q.ah b1).new d2 λb P=>.inr (F b (v.self b P))).then c8,R,O+1,S,z,j3,?_,e⟩
   rw[Qw,b6];exact g2.af c8 λb P c=>by have c:b=h.heap.size:=c;have:=e b P;omega
 ·rw[Qz oM]at v
  have g3:=v.aF;refine⟨λm M w'=>∃f:Nat,M=f/\f<=W/\m=W-f/\ak (·=h.heap.size) g w'/\∃s t x u,w'.heap[h.heap.size]? =some (.cells #[.slice N O X,.slice s t x] 25 (0,0))/\aU tP 109 u w' s t x (C.projs.take f)/\∀b,u b->g.heap.size<=b,
   ⟨_,0,rfl,Qj _,rfl,ak.refl _,none,0,0,λ_=>False,go,aU.nil _,λ_ o=>o.elim⟩,?_⟩
  rintro m _ _ d3 ⟨k,rfl,hk,rfl,i,s,t,x,u,y,j,q⟩;have zx:=i.size;have d4:ai w d3:=a4.new i λb P=>.inr (by have P:b=h.heap.size:=P;have:=b5.size;omega);have d8:=i.get a0 λc=>by have c:w.heap.size=h.heap.size:=c;omega
  refine⟨_,_,_,ae d8 rfl,an.dec (λe5=>?_) (λe6=>?_)⟩
  ·intro j4 j5
   have l:ai d3 j4:=j5.af;have g7:=l.get y id;obtain⟨fb,fo,H,a8,rfl,-,-,j6,c4,rfl,a9⟩:=(o.xM.ah (d4.then l)).uH (i:=k) oM;have V:=λp (ht:p<5)=>c4 p ht;refine⟨λ_=>False,id,_,_,_,ae g7 rfl,_,_,_,ae (l.get d8 id) rfl,fb,fo,rfl,oM,oM,_,_,_,_,_,V 0 dC,V 1 dC,V 2 dC,V 3 dC,V 4 dC,PA.mk λj7 g8 m2 j8=>⟨g8,?_⟩⟩;have a2:ai d3 j7:=l.then g8;refine d_ (c:=tP) (x:=H) (j.ah a2) HY j8 (D:=λ_=>False) ⟨rfl,a9⟩ (λb P=>P.elim) (by rw[Qy];unfold aT at*;omega) (by rw[Qy];unfold aT at b4;unfold maxLen;omega) λR S i6 z b0 E T=>⟨_,_,_,rfl,?_⟩
   have c9:¬aI s=some h.heap.size:=λc=>by have:=q _ (j.self _ c);omega
   have m3:=a2.size;have i7:=E.size;have zd:=l.size;have e:∀b,z b->g.heap.size<=b:=λb P=>by
    rcases T b P with Y|Y|Y
    ·exact q b Y
    ·exact Y.elim
    ·omega
   refine PS.mk (E.get (a2.get y id) c9) sM λi8 U i9 d0=>⟨_,oM,k+1,aq (by unfold aT at b4;omega),oM,rfl,((i.ah a2).new E λb P=>.inr (q b (j.self b P))).then U,R,t+1,S,z,d0,?_,e⟩
   rw[Qw,j6];exact b0.af U λb P c=>by have c:b=h.heap.size:=c;have:=e b P;omega
  ·rw[Qz oM]at j
   have g9:=j.aF;have h0:=i.get (Q.get gr λc=>by have c:L.heap.size=h.heap.size:=c;omega) λc=>by have c:L.heap.size=h.heap.size:=c;omega
   have f6:=v.af i λb P c=>by have c:b=h.heap.size:=c;have:=F b P;omega
   refine⟨_,_,_,_,_,_,ae y rfl,ae y rfl,PS.mk h0 sM λm4 d5 m5 j9=>PS.mk j9 sM λm6 d6 m7 h2=>⟨_,_,_,_,_,_,ae h2 rfl,ae h2 rfl,Ok.mk ⟨_,_,_,_,_,_,λb=>Z b\/u b,rfl,⟨?_,?_⟩,?_,?_⟩⟩⟩
   ·exact(((f6.row (bytes:=24) dC (by rw[<-h3];exact b3)).af (d5.then d6) λb P c=>by have c:b=L.heap.size:=c;have:=F b P;omega)).mono λb P=>.inl P
   ·exact(((j.row (bytes:=40) dC (by rw[<-h4];exact b4)).af (d5.then d6) λb P c=>by have c:b=L.heap.size:=c;have:=q b P;omega)).mono λb P=>.inr P
   ·have z4:=k4.size
    rintro b (P|P)
    ·have:=F b P;have:=g3 b P;omega
    ·have:=q b P;have:=g9 b P;omega
   ·exact d4.new (d5.then d6) λb P=>.inr (by have P:b=L.heap.size:=P;have:=k4.size;omega)
def Dy{c:cH}{tn t p u:Nat}(v:aZ w D c.decl d tn r p):
  ZG 9 #[pg c d tn t r p u] w (Ok λx w'=>∃P xy f a e g G,x=pg c P xy f a e g/\aZ w' G c.decl P xy a e/\(∀b,G b->w.heap.size<=b/\b<w'.heap.size)/\ai w w'):=by
 refine yj (PA.mk λk q I y=>PA.mk λJ l K z=>?_);have m:=l.get y id;refine⟨_,_,_,_,_,_,ae m rfl,ae m rfl,PC.ok (Dx (v.ah (q.then l))) ?_⟩;rintro _ L ⟨P,xy,f,a,e,g,G,rfl,A,n,j⟩;have M:=j.size;refine⟨_,_,_,_,_,_,rfl,PS.mk (j.get m id) sM λN B O C=>PS.mk C sM λQ E R F=>?_⟩;have o:=B.then E;refine au (ph c P xy f a e g) F (aB (ph c P xy f a e g) (o.get (j.get z id) λi=>by have i:k.heap.size=w.heap.size:=i;omega) rfl λS s T H=>au (ph c P xy f a e g) H (Ok.mk ⟨_,_,_,_,_,_,G,rfl,?_,λb h=>?_,?_⟩))
 ·exact(A.af o λb h i=>by have i:b=w.heap.size:=i;have:=n b h;omega).af s λb h i=>by have i:b=k.heap.size:=i;have:=n b h;omega
 ·have:=n b h;omega
 ·exact(((q.then l).then j).new o λb h=>.inr (by have h:b=w.heap.size:=h;omega)).new s λb h=>.inr (by have h:b=k.heap.size:=h;omega)
end
structure Nf where
 kind:Int
 n:Int
 now:Int
 cmd:iu
 m:cG
structure nJ (X Y:bQ):Prop where
 evs:Y.S.l.length<=X.S.l.length+300\/Y.S.l.length<=16777216
 asked:Y.jA.asked.length<=X.jA.asked.length+1
def nJ.refl(P:bQ):nJ P P:=⟨.inl oM,oM⟩
def uz{P a:Type}[BEq P][LawfulBEq P](b:P)(c:a):∀(d:List (P×a)),(aJ d b c).length<=d.length+1
 |[]=>by simp[aJ]
 |(f,g)::e=>by
  unfold aJ;split
  ·simp
  ·have:=uz b c e
   simp;omega
def Cd{a d:Type}[BEq a][LawfulBEq a](P:a)(e:d):∀(c:List (a×d)),P∈c.map (·.1)->(aJ c P e).map (·.1)=c.map (·.1)
 |[],h=>by simp at h
 |(g,j)::f,h=>by
  unfold aJ
  by_cases b:(P==g)=true
  ·rw[Zx b]
   have:=eq_of_beq b;subst this;rfl
  ·rw[Zq b]
   have i:P∈f.map (·.1):=by
    rcases Q2.1 h with h|h
    ·exact Zz (by rw[h];simp) b
    ·exact h
   simp[Cd P e f i]
def GD{P c:Type}[BEq P][LawfulBEq P](a:P):∀(b:List (P×c)),(bI b a).length<=b.length
 |[]=>by simp[bI]
 |(e,f)::d=>by
  unfold bI;split
  ·simp
  ·have:=GD a d
   simp;omega
def qp(P:Nat):∀(c:List aj) (d:ar) (a b:List aj),(eN P c d a b).2.1.length+(eN P c d a b).2.2.length<=a.length+b.length+c.length
 |[],d,a,b=>by simp[eN]
 |e::c,d,a,b=>by
  unfold eN;split
  ·have:=qp P c (d.add e).2 (a++[e]) b
   simp at this⊢;omega
  split
  ·have:=qp P c d a b
   simp;omega
  ·have:=qp P c d a (eP P b e).2
   have:=zY P b e;simp;omega
def pR:∀(a:List aj) (b:ar) (P:List aj),(eE a b P).2.length<=P.length+a.length
 |[],b,P=>by simp[eE]
 |e::a,b,P=>by
  unfold eE;split
  ·have:=pR a (b.add e).2 (P++[e])
   simp at this⊢;omega
  ·have:=pR a (b.add e).2 P
   simp;omega
def Ce:∀(k:Nat) (a:ar) (P b:List aj),(pQ k a P b).1.length<=P.length+b.length
 |0,a,P,b=>by simp[pQ]
 |k+1,a,P,b=>by
  unfold pQ;have c:=uy a b;dsimp only;split
  ·simp
  ·have d:=pR (bz a b).1 a P
   have e:=Ce k (eE (bz a b).1 a P).1 (eE (bz a b).1 a P).2 (bz a b).2;omega
def IW(a:cH)(P:bQ)(b:List aj):(iD a P b).1.length<=P.waits.length+b.length:=by
 have c:=qp a.buffer.toNat b (dZ a P.S []) [] P.waits;have d:=Ce ((eN a.buffer.toNat b (dZ a P.S []) [] P.waits).2.2.length+1) (eN a.buffer.toNat b (dZ a P.S []) [] P.waits).1 (eN a.buffer.toNat b (dZ a P.S []) [] P.waits).2.1 (eN a.buffer.toNat b (dZ a P.S []) [] P.waits).2.2;simp at c;unfold iD;dsimp only;omega
def LG(b:cH)(P:ar)(a:List aj):(dZ b P a).l.length<=P.l.length+a.length:=by
 have:=ar.lM (P.l++a) ⟨b.bB.toNat,[]⟩;unfold dZ;simp at this⊢;omega
def Cf(b:cH)(P:bQ)(a:List aj):(cT b P a).2.S.l.length<=P.S.l.length+a.length/\(cT b P a).2.jA=P.jA:=by
 unfold cT
 cases P.log with
 |none=>exact⟨by dsimp only;omega,rfl⟩
 |some c=>
  dsimp only;split
  ·exact⟨by dsimp only;omega,rfl⟩
  split
  ·exact⟨by dsimp only;omega,rfl⟩
  ·exact⟨LG b P.S a,rfl⟩
def IX(b:cH)(a:Int)(P:bQ)(c:iu):nJ P (bF b a P c).2.2:=by
 unfold bF
 cases P.log with
 |none=>exact nJ.refl P
 |some d=>
  dsimp only;split
  ·exact nJ.refl P
  split
  ·have:=Cf b P [(jV b.decl P.S (b_ b.decl P.S.l) a b.start c).1]
   simp at this;split
   ·exact⟨.inl be,by dsimp only;rw[this.2];omega⟩
   ·exact⟨.inl be,by dsimp only;rw[this.2];omega⟩
  ·exact nJ.refl P
def rm(c:cH)(d:Int)(P:bQ)(a:cG)(j:P.waits.length<=256)(k:c.chunk<=32):nJ P (bh c d P a).2.2:=by
 unfold bh
 cases P.log with
 |none=>exact nJ.refl P
 |some l=>
  dsimp only;split
  ·exact nJ.refl P
  rename_i h;split
  ·exact nJ.refl P
  split
  ·rename_i i
   have m:a.events.length<=32:=by
    rcases Nat.lt_or_ge 32 a.events.length with g|g
    ·exfalso
     apply h;unfold de;rw[Zx i];intro b;split at b
     ·cases b
     ·unfold ej at b
      split at b
      ·cases b
      ·rw[Zx (.inr oM)]at b;cases b
    ·exact g
   unfold lF;have n:=IW c P a.events;dsimp only;split
   ·exact⟨.inl be,by dsimp only;omega⟩
   ·have e:=Cf c {P with waits:=(iD c P a.events).2} (iD c P a.events).1
    dsimp only at e;split
    ·exact⟨.inl be,by dsimp only;rw[e.2];omega⟩
    ·exact⟨.inl be,by dsimp only;rw[e.2];omega⟩
  ·have f:(P.jA.vK a.bE a.vec P.S.vec).asked.length<=P.jA.asked.length+1:=by
    unfold Bi.vK;dsimp only;split
    ·have:=GD a.bE P.jA.asked;omega
    ·omega
   split
   ·exact⟨.inl be,f⟩
   split
   ·exact⟨.inl be,f⟩
   ·exact⟨.inl be,f⟩
def ID(d:cH)(P:Int)(b:bQ)(a c:Int):nJ b (eW d P b a c).2:=by
 unfold eW;split
 ·exact nJ.refl b
 ·exact⟨.inl be,uz _ _ _⟩
structure Nf.Ok (x:Nf):Prop where
 kind:aP x.kind
 n:aP x.n
 now:aP x.now
 cmd:x.cmd.Ok
def FC(P:Nf)(a:ZH)(b c:Nat)(d:ZH)(e f:Nat):List Value:=[XH P.kind,XH P.n,XH P.now]++iK P.cmd++cU P.m a b c d e f
def zh(P:sq)(a:ZH)(b c:Nat)(d:ZH)(e f:Nat)(g:ZH)(h i:Nat):Ph (fz XP 46) (.agg (l_ P a b c d e f g h i).toArray)=true:=kR
def JK(P:cH)(a:ZH)(tn b:Nat)(c:ZH)(d e:Nat):Ph (fz XP 28) (pg P a tn b c d e)=true:=kR
def Sx:jB Nf where
 k:=15
 rep:=λm D h cs=>∃P a d b c e,cs=FC h P a d b c e/\Row aQ 8 m D P a h.m.vec/\Row iX 96 m D b c h.m.events/\h.Ok
 af:=λ⟨P,a,d,b,c,e,f,i,j,k⟩ n g=>⟨P,a,d,b,c,e,f,i.af n g,j.af n g,k⟩
 mono:=λ⟨P,a,d,b,c,e,f,i,j,k⟩ g=>⟨P,a,d,b,c,e,f,i.mono g,j.mono g,k⟩
 len:=λ⟨P,a,d,b,c,e,f,_⟩=>by rw[f];rfl
 one:=λ⟨P,a,d,b,c,e,f,_⟩ o l=>by
  rw[f]at l;simp only[FC,iK,cU,List.cons_append,List.nil_append,Q2,List.not_mem_nil,or_false]at l;rcases l with rfl|rfl|rfl|rfl|rfl|rfl|rfl|rfl|rfl|rfl|rfl|rfl|rfl|rfl|rfl<;>rfl
section
variable {w w' w0 w1 w2:World} {p:Nat} {F E D Dv:XN} {c:cH} {self:Int} {X:bQ} {va ea:ZH} {vn vc en ec:Nat}
def Io{P:cG}(j:Row aQ 8 w D va vn P.vec)(f:Row iX 96 w E ea en P.events):
  ZG 19 #[m_ P va vn vc ea en ec] w (Ok λg w'=>(∃d:Bool,g= .bool d/\(d=false->∀a∈P.events,a.aN.length<=100))/\ai w w'):=by
 refine CO (PA.mk λw1 b k e=>⟨_,_,_,ae e rfl,an.dec (λ_=>Ok.mk ⟨⟨_,rfl,sM⟩,b⟩) (λ_=>⟨_,_,_,ae e rfl,PC.ok (Ip (f.ah b)) ?_⟩)⟩);rintro _ _ ⟨rfl,rfl⟩;refine⟨_,rfl,Ok.mk ⟨⟨_,rfl,λc a h=>?_⟩,b⟩⟩;have c:=Xy c;exact Nat.le_of_not_lt λi=>c (.inl ⟨a,h,i⟩)
def Iq{tn n k o:Nat}(h:aZ w D C d tn r k):ZG 20 #[.agg #[.slice d tn n,.slice r k o]] w (Ok λp w'=>(∃e:Bool,p= .bool e)/\ai w w'):=by
 have A:=h.aW.len;have q:=h.aW.dK;unfold aT at q;refine CP (PA.mk λw1 P B a=>⟨_,_,_,ae a rfl,an.dec (λ_=>Ok.mk ⟨⟨_,rfl⟩,P⟩) (λ_=>⟨_,_,_,ae a rfl,an.dec (λ_=>Ok.mk ⟨⟨_,rfl⟩,P⟩) (λ_=>?_)⟩)⟩);refine⟨λf i w'=>∃b:Nat,i=b/\b<=tn/\f=tn-b/\w1=w',⟨_,0,rfl,Qj _,rfl,rfl⟩,?_⟩;rintro f _ _ _ ⟨b,rfl,E,rfl,rfl⟩;refine⟨_,_,_,ae a rfl,an.dec (λF=>?_) (λ_=>Ok.mk ⟨⟨_,rfl⟩,P⟩)⟩;obtain⟨e,j,H,I,rfl,J,-,K,s,L,l,M,rfl,m⟩:=(h.aW.ah P).uH (i:=b) oM;have g:=s 0 dC;have t:jG.k=1:=rfl;rw[t,Nat.mul_one]at g;have u:=m.dK;unfold aT at u;refine⟨_,_,_,ae a rfl,e,j,rfl,oM,oM,_,_,_,g,an.dec (λ_=>Ok.mk ⟨⟨_,rfl⟩,P⟩) (λ_=>?_)⟩;refine⟨λf i w'=>∃c:Nat,i=c/\c<=l/\f=l-c/\w1=w',⟨_,0,rfl,Qj _,rfl,rfl⟩,?_⟩;rintro f _ _ _ ⟨c,rfl,N,rfl,rfl⟩;refine⟨_,_,_,ae a rfl,e,j,rfl,oM,oM,_,_,_,g,an.dec (λO=>?_) (λ_=>⟨_,oM,b+1,aq oM,oM,rfl,rfl⟩)⟩;obtain⟨v,x,Q,y,rfl,-,-,R,z,S,T,U,rfl,-,-⟩:=m.uH (i:=c) oM;exact⟨_,_,_,ae a rfl,e,j,rfl,oM,oM,_,_,_,g,v,x,rfl,oM,oM,_,_,_,z 3 dC,an.dec (λ_=>Ok.mk ⟨⟨_,rfl⟩,P⟩) (λ_=>⟨_,oM,c+1,aq oM,oM,rfl,rfl⟩)⟩
def Ir{tn x s y m z:Nat}{f:List Nf}(A:aZ w D c.decl d tn r s)(o:Row Sx 152 w E c0 m f):
  ZG 6 #[pg c d tn x r s y,.slice c0 m z] w (Ok λB w'=>(∃g:Bool,B= .bool g/\(g=false->f.length<=100/\∀b∈f,∀i∈b.m.events,i.aN.length<=100))/\ai w w'):=by
 have U:=o.len;have C:=o.dK;unfold aT at C;refine CN (PA.mk λw1 n V F=>?_);refine⟨λp w'=>ai w1 w'/\(f.length<=100->∀b∈f,∀i∈b.m.events,i.aN.length<=100),⟨λt p a w'=>∃P:Nat,a=P/\P<=m/\t=m-P/\ai w1 w'/\∀b∈f.take P,∀i∈b.m.events,i.aN.length<=100,⟨_,0,rfl,Qj _,rfl,ak.refl _,sM⟩,?_⟩,?_⟩
 ·rintro t p _ _ w2 ⟨P,rfl,W,rfl,j,k⟩
  refine an.dec (λX=>an.dec (λH=>?_) (λH=>⟨j,λI=>oM⟩)) (λY=>⟨j,λ_=>by rw[Qz oM]at k;exact k⟩);obtain⟨g,l,J,Z,rfl,K,-,L,u,va,vn,vc,ea,en,ec,rfl,M,N,-⟩:=(o.ah (n.then j)).uH (i:=P) oM;refine⟨g,l,rfl,oM,oM,bq (es:=cU J.m va vn vc ea en ec) (k:=5) (mf _ _ _ _ _ _ _) rfl (λa ht=>by
   rw[Qx];have:=u (10+a) (show 10+a<15 by omega);rw[show l+P*15+10+a=l+P*Sx.k+(10+a) by show _=l+P*15+_;omega,this];rcases a with _|_|_|_|_|a<;>first|rfl|omega) (PC.ok (Io M N) ?_)⟩
  rintro _ O ⟨⟨Q,rfl,R⟩,e⟩;refine⟨_,rfl,an.mk (λ_=>Ok.mk ⟨⟨_,rfl,sM⟩,(n.then j).then e⟩) (λS=>?_)⟩;refine⟨g,l,rfl,oM,oM,_,_,_,(e.cell (a:=⟨g,_,none⟩) K id).trans (by rw[Qx];exact u 14 dC),_,oM,P+1,aq oM,oM,rfl,j.then e,?_⟩;rw[Qw,L];intro b h;rcases Q6.1 h with h|h
  ·exact k b h
  ·simp at h;subst h;exact R S
 ·rintro p _ O ⟨e,k⟩
  have v:=e.get F id;refine⟨_,_,_,_,_,_,ae v rfl,ae v rfl,PC.ok (Iq (A.ah (n.then e))) ?_⟩;rintro _ w4 ⟨⟨Q,rfl⟩,T⟩;have q:=(n.then e).then T;refine⟨_,rfl,an.mk (λ_=>Ok.mk ⟨⟨_,rfl,sM⟩,q⟩) (λ_=>an.dec (λ_=>Ok.mk ⟨⟨_,rfl,sM⟩,q⟩) (λI=>Ok.mk ⟨⟨_,rfl,λ_=>⟨oM,k oM⟩⟩,q⟩))⟩
def cd.waits(d:cd w p F c self X):X.waits.length<=256:=by
 obtain⟨g,e,P,f⟩:=d;obtain⟨h,D,a,-,-⟩:=(show Ng w (λb=>F b/\P b=5) e.wp c.buffer.toNat X.waits from f.at' 5)
 exact Xx a.1.2.le a.1.1
def cd.ok(P:cd w p F c self X):jU c self:=P.1
end
def ic.ah(e:ic b e7 t k)(P:ai k a8):ic b e7 t a8:=by
 obtain⟨f,g,h,i,j,l,m,n,o,G,p,q,r,s,a⟩:=e;exact⟨f,g,h,i,j,l,m,n,o,G,p,q.ah P,r.ah P,s.ah P,λc d=>⟨(a c d).1,by have:=(a c d).2;have:=P.size;omega⟩⟩
def JL{x:sq}(p:∀P,ai b P->ZG y n P (Ok λc a=>ic P x c a/\ai P a))(q:∀P,ai b P->ZG g1 U P (Ok λc a=>ic P x c a/\ai P a)){f:XU}{r:XU}(e:∀a,ai b a->f a):
  PC XP y n b (λc P=>AB (fz XP 46) λx=>c=x/\PC XP g1 U P (λg h=>AB (fz XP 46) λi=>g=i/\PC XP 39 #[x,i] h (λs d=>∃j:Bool,s= .bool j/\an (!j) (r d) (f d)) a2) e6) h6:=by
 refine PC.ok (p b (ak.refl _)) ?_;rintro c P ⟨k,l⟩;have t:=k;obtain⟨u,v,w,z,A,B,C,E,F,G,rfl,-⟩:=k;refine bS (zh x u v w z A B C E F) ⟨rfl,PC.ok (q P l) ?_⟩;rintro g h ⟨m,o⟩;have H:=m;obtain⟨I,tn,J,K,L,M,N,O,Q,S,rfl,-⟩:=m;refine bS (zh x I tn J K L M N O Q) ⟨rfl,PC.ok (zf (t.ah o) H) ?_⟩;rintro _ d ⟨rfl,R⟩;exact⟨_,rfl,an.ff rfl (e d ((l.then o).then R))⟩
section
variable {w w' w0:World} {p q:Nat} {F G D:XN} {c e:cH} {self other:Int} {X Y:bQ}
def FD(l:cd w p F c self X)(m:cd w q G e other Y)(n:c.decl=e.decl)(o:X.S.l=Y.S.l){tn A s B:Nat}(v:aZ w D C d tn r s):
  ZG 17 #[XL p,XL q,.agg #[.slice d tn A,.slice r s B]] w (Ok λE w'=>E= .bool true/\ai w w'):=by
 have H:=v.aW.dK;have I:=v.xM.dK;unfold aT at H I;refine yC (PA.mk λb x N y=>?_);have step:∀{P:Nat},P<1000000000000000->IntKind.wrap .i64 ((P:Int)-1+1)=((P+1:Nat):Int)-1:=λ{P} z=>by
  rw[wrap_i64 bb];omega
 refine⟨λg k w'=>∃P:Nat,k=(P:Int)-1/\P<=tn+2/\g=tn+2-P/\ai b w',⟨_,0,rfl,Qj _,rfl,ak.refl _⟩,?_⟩;rintro g _ _ O ⟨P,rfl,z,rfl,t⟩;refine⟨_,_,_,ae (t.get y id) rfl,an.dec (λJ=>?_) (λQ=>?_)⟩
 ·refine⟨λg k w'=>∃h:Nat,k=h/\h<=4/\g=4-h/\ai b w',⟨_,0,rfl,Qj _,rfl,t⟩,?_⟩
  rintro g _ _ K ⟨h,rfl,R,rfl,i⟩;have f:=x.then i;refine an.dec (λS=>?_) (λ_=>⟨_,oM,P+1,step oM,oM,rfl,i⟩);refine JL (x:=Bc c.decl X.S.l ((P:Int)-1) h) (λb a=>xC ((l.ah f).ah a)) (λb a=>by rw[n,o];exact xC ((m.ah f).ah a)) λL j=>?_;refine JL (x:=xD c.decl X.S.l ((P:Int)-1) h h) (λb a=>zi (((l.ah f).ah j).ah a) bb) (λb a=>by rw[n,o];exact zi (((m.ah f).ah j).ah a) bb) λM u=>?_;exact⟨_,oM,h+1,aq oM,oM,rfl,(i.then j).then u⟩
 ·refine⟨λg k w'=>∃P:Nat,k=(P:Int)-1/\P<=s+2/\g=s+2-P/\ai b w',⟨_,0,rfl,Qj _,rfl,t⟩,?_⟩
  rintro g _ _ K ⟨P,rfl,z,rfl,i⟩;have f:=x.then i;refine⟨_,_,_,ae (i.get y id) rfl,an.dec (λJ=>?_) (λ_=>Ok.mk ⟨rfl,f⟩)⟩;refine JL (x:=vz c.decl X.S.l ((P:Int)-1) (-9223372036854775808)) (λb a=>qg ((l.ah f).ah a)) (λb a=>by rw[n,o];exact qg ((m.ah f).ah a)) λL j=>?_;refine JL (x:=vz c.decl X.S.l ((P:Int)-1) 2) (λb a=>qg (((l.ah f).ah j).ah a)) (λb a=>by rw[n,o];exact qg (((m.ah f).ah j).ah a)) λM u=>?_;exact⟨_,oM,P+1,step oM,oM,rfl,(i.then j).then u⟩
