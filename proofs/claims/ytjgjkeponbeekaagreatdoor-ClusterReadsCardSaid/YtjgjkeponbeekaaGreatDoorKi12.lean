import Derived.Test.YtjgjkeponbeekaaGreatDoorKi11
import Derived.RangeFuncSeq
import Derived.RangeFuncLeaves
set_option maxHeartbeats 4000000
set_option linter.all false
set_option maxRecDepth 20000
namespace Go.Proofs.YtjgjkeponbeekaaGreatDoor
open Go.au
variable{a c:Nat}{d:ZH}{h:Program}{m s:XR}{o:aj}
section
variable {w w' w1:World} {p:Nat} {F T:XN} {S:aw} {q:Qt}
def CE{S:aw}:((List.range a).any λn=>!S.lI o n)=false↔∀n,n<a->S.lI o n=true:=by
 simp[List.any_eq_false]
def tM(b:cf w p F S){e:aj}{D:XN}(A:Row aJ 8 w D d a e.aP)(hD:∀n,D n->n<w.heap.size/\¬F n)(he:e.Ok)(hl:S.l.length<4611686018427387904):
  ZG 74 #[XL p,jD e d a c] w (Ok λB w'=>B= XH (S.add e).1/\∃C,cf w' p C (S.add e).2/\bL F w C w'):=by
 have e_:=b;obtain⟨E,q,b⟩:=b;have hN:=E.n;have b2:=b.len;have j0:=ax b.at';have j1:=b.map.lt;have d5:=b.Vm E;have f:∀{no:Int} {w':World},ai w w'->S.add e=(no,S)->Ok (λB w'=>B= XH (S.add e).1/\∃C,cf w' p C (S.add e).2/\bL F w C w') (.returned (XH no)) w':=λ{no w'} hg ha=>by
  refine Ok.mk ⟨by rw[ha],F,?_,ai.af hg,λn P=>.inl P⟩;rw[ha];exact e_.ah hg
 refine vT (PA.mk λw1 k1 s1 g1=>λw2 d2=>?_);have k2:ai w1 w2:=d2.af;have s2:w2.heap.size=w1.heap.size:=by rw[d2.heap]
 have N:=k1.then k2;have g2:=k2.get g1 id;have h5:=b.ah N;refine ar (aV e d a c) g2 ⟨p,0,rfl,_,_,_,ae h5.at' rfl,PC.ok (xr (A.ah N) (by rw[b2];omega)) ?_⟩;rintro _ w3 ⟨rfl,O⟩;rw[b2];refine⟨_,rfl,an.dF (λH=>f (N.then O) ?_) (λQ=>?_)⟩
 ·rw[aw.add_def,Zx H]
 obtain⟨c1,c4,c3,c5,c6,c7,c8,c9,f0,j2⟩:=qR Q;obtain⟨o,m⟩:∃o:Nat,e.origin=o:=⟨e.origin.toNat,oM⟩
 have I:o<S.n:=oM
 intro w4 d4;have k4:ai w3 w4:=d4.af;have s4:w4.heap.size=w3.heap.size:=by rw[d4.heap]
 have d6:=(N.then O).then k4;have z3:=O.size;have g4:=k4.get (O.get g2 id) id;have b3:=b.ah d6;obtain⟨r,a5,n5,d8,n,l,J,h⟩:∃(r:aj) (d:ZH) (a c:Nat) (n:Bool),(aE q.l (aW e)).getD (jD rm none 0 0)=jD r d a c/\(aE q.l (aW e)).isSome=n/\(S.get (aW e)).isSome=n:=by
  rcases b3.look E (aW e)with⟨l,J⟩|⟨B,a0,l,J,b8,n3,c3,rfl,j3,j4⟩
  ·exact⟨rm,none,0,0,false,by rw[l];rfl,by rw[l];rfl,by rw[J];rfl⟩
  ·exact⟨a0,b8,n3,c3,true,by rw[l];rfl,by rw[l];rfl,by rw[J];rfl⟩
 refine⟨λn=>n=w4.heap.size,p,0,rfl,oM,_,ae b3.at' rfl,oM,_,_,ae g4 rfl,ae g4 rfl,bO (rk r a5 n5 d8) ⟨n,λw' K=>?_,PA.mk λw5 k5 s5 g5=>⟨ai.af k5,az (aV r a5 n5 d8) g5 rfl λw6 k6 s6 g6=>⟨k6,?_⟩⟩⟩⟩
 ·have:=dK Qr Vy (b3.map.af K oM) (aW e) true
  rw[l,J]at this;exact this
 have R:ai w w6:=(d6.then k5).new k6 λn P=>.inr oM;have b4:=k6.get (k5.get g4 id) oM;have h6:=b.ah R;refine an.mk (λs=>f R ?_) (λhf=>?_)
 ·rw[aw.add_def,Zq (by simpa using Q),Zx (by rw[h,s])]
 obtain⟨c0,o8,x8,h7,d9,-,h8⟩:=(d5.ah R).mr (i:=o) oM;have e0:x8=(S.Es o:Int):=by rw[S.oz I]at d9;exact(XJ d9).symm
 subst e0;have j5:=S.Qe o;refine⟨_,ae b4 rfl,p,0,rfl,_,_,_,ae h6.at' rfl,_,ae b4 rfl,c0,o8,h7,c1,oM,_,by rw[m];exact h8,λw7 d7=>?_⟩;have k7:ai w6 w7:=d7.af;have s7:w7.heap.size=w6.heap.size:=by rw[d7.heap]
 have b5:=R.then k7;rw[aq oM];refine an.dF (λH=>f b5 ?_) (λe1=>?_)
 ·rw[aw.add_def,Zq (by simpa using Q),Zq (by rw[h,hf];simp),Zx]
  rw[m,Qx,S.tP I];simpa using H
 have h9:=b.ah b5;have i0:=k7.get b4 id;have c2:e.seq=S.vec.getD e.origin.toNat 0+1:=by rw[m,Qx,S.tP I];simpa using e1
 have j:∀{a1:Int×aw},(if(List.range S.n).any λo=>!S.lI e o then((9:Int),S)else(0,⟨S.n,c_ e S.l⟩))=a1->S.add e=a1:=λ{a1} A=>by
  rw[aw.add_def,Zq (by simpa using Q),Zq (by rw[h,hf];simp),Zq (by simpa using c2)];exact A
 refine⟨p,0,rfl,_,_,_,ae h9.at' rfl,λa3 i w'=>∃g:Nat,i=g/\g<=S.n/\a3=S.n-g/\(∀k,k<g->S.lI e k=true)/\ai w7 w',⟨_,0,rfl,Qj _,rfl,λk s=>oM,ak.refl _⟩,?_⟩;rintro a3 i _ w8 ⟨g,rfl,hj,rfl,a4,T⟩;have U:=b5.then T;have e2:=T.get i0 id;have z8:=T.size;rw[b2];refine an.dec (λj6=>?_) (λj7=>?_)
 ·refine ar (aV e d a c) e2 (PC.ok (Qu (e_.ah U) (A.ah U) he oM (o:=g) oM) ?_)
  rintro _ w9 ⟨rfl,k9⟩;refine⟨_,rfl,an.not (an.mk (λK=>?_) (λK=>f (U.then k9) (j (Zx ?_))))⟩
  ·refine⟨_,oM,g+1,aq oM,oM,rfl,λk s=>?_,T.then k9⟩
   by_cases i1:k=g
   ·rw[i1];exact K
   ·exact a4 k oM
  ·rw[List.any_eq_true]
   exact⟨g,by simp;omega,by rw[K];rfl⟩
 ·have a6:=j (Zq (by rw[Bool.not_eq_true,CE];intro k s;exact a4 k oM))
  intro e3 e4;have e5:ai w8 e3:=e4.af;have j8:e3.heap.size=w8.heap.size:=by rw[e4.heap]
  have L:=U.then e5;have V:=e5.get e2 id;have e6:=b.ah L;have i2:=(A.ah L)
  refine⟨λn=>n=q.r,p,0,rfl,b.Vk,_,ae e6.at' rfl,oM,_,_,ae V rfl,ae V rfl,ar (aV e d a c) V (PC.ok (mq i2 λn P=>by have:=(hD n P).1;have:=L.size;omega) ?_)⟩;rintro _ i3 ⟨b7,b9,d0,G,rfl,e7,hG,W⟩;have a7:=L.then W;have X:=b.ah a7;have i9:=L.size;refine bO (rk e b7 b9 d0) ⟨rfl,ai.af W,cV (enc:=DT) (k:=aW e) Qr Vy X.map λe8 e9 t j9=>⟨t,λf2 f3=>?_⟩⟩;have u:ai e8 f2:=f3.af;have k0:f2.heap.size=e8.heap.size:=by rw[f3.heap]
  have a8:=u.get (t.get X.at' b.Vk) id;have a9:=u.get (t.get (W.get V id) oM) id;have b0:=(X.vec.af t λn P e=>b.Up.2 (e▸P)).ah u;obtain⟨f5,f6,i4,a2,b1,-,f8⟩:=(b0.row (bytes:=8) dC (by rw[S.bM];unfold aK;omega)).mr (i:=o) oM;have d1:i4=(S.Es o:Int):=by rw[S.oz I]at b1;exact(XJ b1).symm
  subst d1;refine⟨p,0,rfl,_,_,_,ae a8 rfl,_,ae a9 rfl,f5,f6,a2,c1,oM,_,by rw[m];exact f8,f5,f6,a2,c1,oM,?_⟩;rw[m,Qx,aq oM];refine Qs b0 (by rw[S.bM];exact I) bc a2 λg0 g3 M l0=>λg7 g8=>?_;have v:ai g0 g7:=g8.af;have l3:g7.heap.size=g0.heap.size:=by rw[g8.heap]
  have x:∀n,aF q.a=some n->q.V n:=λn P=>b.vec.self n P;have i5:¬aF q.a=some p:=λe=>b.Up.1 (x p e);have i6:¬aF q.a=some w.heap.size:=λe=>by have:=b.vec.aB _ (x _ e);omega
  have b6:=v.get (M.get a8 i5) id;have g9:=v.get (M.get a9 i6) id;refine⟨p,0,rfl,_,ae b6 rfl,_,ae g9 rfl,p,0,rfl,PS.mk b6 sM λh3 Y l4 i7=>?_⟩;have l5:=W.size;have i8:¬aF q.a=some q.r:=λe=>b.Up.2 (x _ e);refine Ok.mk ⟨by rw[a6],λn=>F n\/G n,?_,?_,?_⟩
  rotate_left
  ·have Z:ak F w h3:=((((ai.af a7).then (t.mono λn _ P=>b.sub n (.inr (.inl P)))).then (ai.af u)).then ((M.mono λn _ P=>b.sub n (.inr (.inr (.inl (x n P))))).then (ai.af v))).then (Y.mono λn _ P=>b.sub n (.inl P))
   exact Z
  ·intro n P;rcases P with P|P
   ·exact .inl P
   ·exact .inr (by have:=hG n P;omega)
  have h4:=(aw.zo E he).1;rw[a6]at h4⊢;have y:∀n,G n->n≠p/\n≠q.r/\¬q.V n:=λn P=>by
   have:=hG n P;refine⟨oM,oM,λhv=>?_⟩;have:=b.vec.aB n hv;omega
  refine⟨h4,⟨q.a,q.n,q.c,q.r,q.V,λn=>q.D n\/G n,aI q.l (aW e) (jD e b7 b9 d0),aI q.L (aW e) e⟩,?_,?_,?_,?_,?_,?_,?_,?_,b.Vk,b.Up,?_,?_⟩
  ·have s:(if e.ay>S.top then e.ay else S.top)=max S.top e.ay:=by split<;>omega
   rw[i7,aw.Sm,<-s];rfl
  ·rw[show aw.vec ⟨S.n,c_ e S.l⟩=S.vec.set o ((S.Es o+1:Nat):Int) by rw[aw.Sn S e m];simp]
   exact(g3.ah v).af Y λn P e=>b.Up.1 (e▸P)
  ·exact(((e9.ah u).af M i8).ah v).af Y λe=>b.Vk e.symm
  ·have Z:ak (λn=>n=q.r\/aF q.a=some n\/n=p) i3 h3:=((t.mono λn _ P=>.inl P).then (ai.af u)).then (((M.mono λn _ P=>.inr (.inl P)).then (ai.af v)).then (Y.mono λn _ P=>.inr (.inr P)))
   have hd:∀n,q.D n\/G n->¬(n=q.r\/aF q.a=some n\/n=p):=by
    rintro n (P|P) (e|e|e)
    ·exact b.Vl.2 (e▸P)
    ·exact b.WA n (x n e) P
    ·exact b.Vl.1 (e▸P)
    ·exact(y n P).2.1 e
    ·exact(y n P).2.2 (x n e)
    ·exact(y n P).1 e
   refine eW.aI ⟨b7,b9,d0,rfl,(e7.mono λn P=>.inr P).af Z hd,he⟩ (X.rel.mono λB f1 hu=>(hu.mono λn P=>.inl P).af Z hd)
  ·intro r h
   rcases eQ h with rfl|h
   ·rfl
   ·exact b.key r h
  ·have d3:aE q.L (aW e)=none:=by
    rw[Ix E b.key b.Vj b.tidy];have:=h.trans hf;simpa using this
   have:∀z:List ((Int×Int)×aj),aE z (aW e)=none->aI z (aW e) e=z++[(aW e,e)]:=by
    intro z
    induction z with
    |nil=>intro _;rfl
    |cons a0 z ih=>
     intro hL;obtain⟨y1,y2⟩:=a0;unfold aE at hL;unfold aI;split at hL
     ·cases hL
     ·rename_i H
      rw[Zq H,ih hL];rfl
   rw[this _ d3,Q3];exact(List.perm_append_comm.trans (List.Perm.cons e b.Vj)).trans (cU e S.l).symm
  ·intro n P
   rcases P with P|P
   ·have:=b.aB n P;omega
   ·have:=hG n P;omega
  ·rintro n (P|P|P|P|P)
   ·exact .inl (b.sub n (.inl P))
   ·exact .inl (b.sub n (.inr (.inl P)))
   ·exact .inl (b.sub n (.inr (.inr (.inl P))))
   ·exact .inl (b.sub n (.inr (.inr (.inr P))))
   ·exact .inr P
  ·refine⟨?_,?_⟩
   ·rintro(P|P)
    ·exact b.Vl.1 P
    ·exact(y _ P).1 rfl
   ·rintro(P|P)
    ·exact b.Vl.2 P
    ·exact(y _ P).2.1 rfl
  ·rintro n hv (P|P)
   ·exact b.WA n hv P
   ·exact(y _ P).2.2 hv
def Sp{b n:TypeId}(f:jF h b n 1 8)(d:(h.info? n).bind (·.zero)=some (XH 0))(g:a<=c)(P:c*8<=aK){w:World}(e:∀w',aO aJ n (·=w.heap.size) w' (XM w.heap.size) a c (List.replicate a 0)->ai w w'->w'.heap.size=w.heap.size+1->m (.slice (XM w.heap.size) a c) w'):
  aG h (Instr.makeSlice b (XH (a:Int)) (XH (c:Int))) w m s:=by
 unfold aK at P;obtain⟨l,o,i,j,p,q,y⟩:=f.info;have r:o= XH 0:=by
  rw[i]at d;simp only[Option.bind_some,j]at d;exact XJ d
 subst r;have k:=run_make (P:=h) w b n l _ f.under i j .i64 .i64 a c oM oM (by rw[q];omega) oM;rw[Qx,Qx,p,Nat.mul_one]at k;have t:ai w (w.alloc (.cells (madeCells (Value.int .i64 0).cells c) n)):=ak.alloc w _;have u:(madeCells (Value.int .i64 0).cells c).toList=List.replicate c (XH 0):=by
  unfold madeCells;rw[Array.toList_map];apply List.ext_getElem
  ·simp
  ·intro z A B
   simp[Value.cells,Nat.mod_one]
 refine aG.mk k (e _ ⟨⟨List.replicate a (XH 0),λ_=>False,⟨⟨by simp[aJ,flat],.inr ⟨w.heap.size,c,_,rfl,Qj _,heap_alloc_new w _,g,by unfold maxLen;omega,by simp[size_madeCells,aJ,flat],?_⟩⟩⟩,?_,λ_ e=>e.elim⟩,λv P=>by simpa[aF]using P.symm,λv P=>by subst P;simp⟩ t sM)
 ·rw[u]
  simp only[aJ,flat,Nat.mul_one,List.take_replicate];rw[X2 g]
 ·exact jV.2 ⟨by simp[ints],λC x=>by rw[List.eq_of_mem_replicate x];simp[aH]⟩
def El(f:a<=64):ZG 71 #[XH (a:Int)] w (Ok λg w'=>∃p F,g= XL p/\cf w' p F ⟨a,[]⟩/\(∀n,F n->w.heap.size<=n)/\ai w w'):=by
 refine EF (Sp tO kR (Q4 _) ba λw1 h i r=>⟨_,_,_,rfl,PA.mk λd e s j=>PA.mk λk b t l=>Ok.mk ⟨_,λn=>w.heap.size<=n/\n<k.heap.size,rfl,⟨aw.sE f,⟨_,a,a,w1.heap.size,(·=w.heap.size),λ_=>False,[],[]⟩,l,?_,bB.new (b.get j id),trivial,sM,List.Perm.refl _,λn P=>P.2,?_,by show d.heap.size≠w1.heap.size;omega,⟨by show d.heap.size≠_;omega,by show w1.heap.size≠_;omega⟩,⟨id,id⟩,λ_ _ m=>m⟩,λn P=>P.1,(i.then e).then b⟩⟩)
 ·have o:aw.vec ⟨a,[]⟩=List.replicate a 0:=by
   apply X3;intro q
   by_cases c:q<a
   ·rw[aw.oz ⟨a,[]⟩ c];simp[c,aw.Es]
   ·rw[Q7 (by rw[aw.bM];exact Nat.le_of_not_lt c),Q7 be]
  rw[o];exact(h.ah e).ah b
 ·rintro n (rfl|rfl|rfl|P)
  ·show _/\_;omega
  ·show _<=w1.heap.size/\w1.heap.size<_;omega
  ·omega
  ·exact P.elim
end
end Go.Proofs.YtjgjkeponbeekaaGreatDoor
namespace Go.au
open Go
abbrev FW(n:Option Nat):Fence:={Fence.wide with round:=n}
variable{H:Act}{U:Array Oper}{l:Array Value}{K:Bool}{h1 h2:Bool->XU}{a1:Code}{A:XT}{e4:Exit}{d5:Exit->Act->XU}{a6:Func}{z:FuncId}{b4:List Nat}{a3 e3:List Value}{a c i:Nat}{f:XN}{c8:Obj}{S:Oper}{T:Operand}{e2:Operand->Value}{c9:Option Nat}{h:Program}{m:XR}{b k:World}{V:bG}{Q:cu}{c1:gJ}{e1:jN}
def tE:CallsIn (FW c9) a h z l b A↔Calls h z l b A:=
 ⟨λn=>callsIn_wide.1 (show CallsIn Fence.wide a h z l b A from n),λn=>show CallsIn (FW c9) a h z l b A from(callsIn_wide (n:=a)).2 n⟩
def Se(n:Nat):(FW c9).room n:=λ_ P=>by simp[Fence.wide]at P
def NG{n:String}(P:Rows h n l b m):RowsIn (FW c9) a h n l b m:=by
 intro c cs _;obtain⟨d,e,f,g⟩:=P c cs;exact⟨d,e,f,(stepsIn_wide (P:=h)).2 g⟩
def vm(n:Oper):Bool:=match n.op with
 | .defer _=>false
 |_=>true
def vm.out(n:vm S=true):∀P,S.op≠.defer P:=by
 intro P a;unfold vm at n;rw[a]at n;cases n
section
variable {P:Program} {ro:Option Nat} {n:Nat}
def LU{next:Act->XU}(d:ro=none\/vm S=true)(a:S.wp P H b next d5):S.wpIn (FW ro) n P H b next d5:=by
 refine⟨λ_ _=>trivial,?_⟩;have f:S.semAt (FW ro).round H.eval=execOp H.eval S:=by
  rcases d with rfl|d
  ·rfl
  ·exact Oper.semAt_eq _ _ _ (vm.out d)
 rw[f];unfold Oper.wp at a;generalize(execOp H.eval S).run P b=g at a⊢
 cases g with
 |ok e h=>
  cases e with
  |value i=>exact a
  |skip=>exact a
  |defer j=>exact a
  |enter k c=>exact⟨λa=>by simp[Fence.wide]at a,tE.2 a⟩
  |row row c=>exact⟨λa=>by simp[Fence.wide]at a,NG a⟩
  |_=>exact a.elim
 |halt e h=>cases e<;>first|exact a|exact a.elim
def qJ{b:Array Oper}{g:Exit->Act->XU}(h:∀d c,¬g .outgrown d c)(e:ro=none\/∀i∈b.toList,vm i=true):∀(f:List Nat) (d:Act) (c:World),wpOps P b g f d c->wpOpsIn (FW ro) n P b g f d c
 |[],d,c,a=>a
 |l::f,d,c,a=>by
  unfold wpOps at a;unfold wpOpsIn
  cases j:b[l]? with
  |none=>rw[j]at a;exact qJ h e f d c a
  |some i=>
   rw[j]at a;simp only at a⊢;split
   ·rename_i k
    rw[Zx k]at a;rcases a with a|⟨-,m,o,a⟩
    ·have p:i.wp P d c (wpOpsIn (FW ro) n P b g f) g:=Oper.wp_mono (λd c a=>qJ h e f d c a) a
     refine LU ?_ p;rcases e with e|e
     ·exact .inl e
     ·refine .inr (e i ?_)
      obtain⟨q,rfl⟩:=Q5.1 j;simp
    ·exact Zz a (h m o)
   ·rename_i k
    rw[Zq k]at a;exact⟨λ_ _=>trivial,qJ h e f _ c a⟩
end
section
variable {F:Fence} {n:Nat} {P:Program} {Q:Exit->Act->XU} {a:Act} {w:World} {b:Frame} {k:List Item} {cs:List Frame}
def gA:step P (lone (b.atR a (.code (.scope a1)::k)) cs w)= .next (lone (b.atR a (.code a1:: .inScope a1::k)) cs w):=
 step_lone_go (by simp[stepG,stepG.exec,Frame.atR])
def CB:step P (lone (b.atR a (.inScope a1::k)) cs w)= .next (lone (b.atR a k) cs w):=
 step_lone_go (by simp[stepG,stepG.exec,Frame.atR])
def KG(o:a1.wpIn F n P (Exit.noGoto Q) a w):(Code.scope a1).wpIn F n P Q a w:=by
 intro b k cs p h i;have e:(lone (b.atR a (.code (.scope a1)::k)) cs w).fenced P F:=fenced_calm h i rfl;obtain⟨q,c,d,f,g⟩:=o b (.inScope a1::k) cs p h i
 cases q with
 |normal=>exact⟨.normal,c,d,f,.head e gA (StepsIn.trans g (.one (fenced_calm h i rfl) CB))⟩
 |exit id=>
  have m:exitTo id (.inScope a1::k)=exitTo id k:=by simp[exitTo]
  exact⟨.exit id,c,d,f,λr j=>.head e gA (g.1 r (by rw[m];exact j)),
   λl j=>let⟨k₁,h1,h2⟩:=g.2 l (by rw[m];exact j);⟨k₁,h1,.head e gA h2⟩⟩
 |goto s=>exact f.elim
 |ret=>exact⟨_,c,d,f,.of_steps (.one e gA) g⟩
 |panic t=>exact⟨_,c,d,f,.of_steps (.one e gA) g⟩
 |outgrown=>exact⟨_,c,d,f,.of_steps (.one e gA) g⟩
def wpIn_loop_ghost(b:Nat->Act->XU)(c:Nat)(g:b c a w)(d:∀e a w,b e a w->a1.wpIn F n P (Exit.then (λh i=>∃l,l<e/\b l h i) Q) a w):(Code.loop a1).wpIn F n P Q a w:=by
 refine wpIn_loop (λa w=>∃e,b e a w) (λa w=>leastOf (λe=>b e a w)) ⟨c,g⟩ ?_;intro a w m;refine wpIn_mono (d _ a w (leastOf_spec m).1) ?_;intro o h i f
 cases o with
 |normal=>
  obtain⟨j,p,k⟩:=f;exact show(∃n,b n h i)/\leastOf (λn=>b n h i)<leastOf (λn=>b n a w)from⟨⟨j,k⟩,Nat.lt_of_le_of_lt ((leastOf_spec ⟨j,k⟩).2 j k) p⟩
 |exit id=>exact f
 |goto q=>exact f
 |ret=>exact f
 |panic r=>exact f
 |outgrown=>exact f
end
def KH(B:h.follows .mixedOrders=true){n id:Nat}(C:∀a,a∈writes (.region id U K)->a<n)(p:Rel n V Q H)(P:D h e1 (.region id U K) c1 V Q H.defers b):
  (K=false->wpOps h U (cJ n V Q (writes (.region id U K)) c1) (List.range U.size) H b)/\
  (K=true->∀a,wpOps h U (cJ n V Q (writes (.region id U K)) c1) (Region.schedule (h.follows .mixedOrders) U a) H {b with drawn:=b.drawn+1}):=by
 have j:∀k∈U.toList,∀l,k.dst=some l->l<n/\l∈writes (.region id U K):=λk i l z=>⟨C l (jW i z),jW i z⟩
 have q:∀s a,iC U s=some a->a<n:=by
  intro s a m;unfold iC at m
  cases i:U[s]? with
  |none=>rw[i]at m;simp at m
  |some k=>
   rw[i]at m;have E:k∈U.toList:=by
    have:=Q5.1 i;obtain⟨N,rfl⟩:=this;simp
   exact(j k E a m).1
 cases K with
 |false=>
  refine⟨λ_=>?_,λP=>by cases P⟩;rw[List.range_eq_range',<-XK,wpOps_eq_wpList U.toList 0 sM];exact yW q U.toList Q H b j p (λ_ _=>rfl) P
 |true=>
  refine⟨λP=>(by cases P),λ_ a=>?_⟩;simp only[Region.schedule,B,Bool.true_or,if_true];refine wpAny_sound U.size a _ H _ ?_;unfold D at P;simp only at P;split at P
  ·obtain⟨t,P⟩:=dL.out P
   simp only[Region.lexB,QK]at t;have F:=qu (B0:=V) (e0:=Q) (W:=writes (.region id U true)) q U.toList Q H j p (λ_ _=>rfl) P;have I:wpQuiet h U (bF b) (λr=>∀c,bF b c->cJ n V Q (writes (.region id U true)) c1 .normal r c) U.toList H:=by
    refine jP ?_ _ _ F;rintro r ⟨J,u,v,L,M⟩ c g;exact⟨V,J,u,L,by rw[v];exact M c g⟩
   refine wpAny_of_quiet (C:=bF b) (Q:=λr=>∀c,bF b c->cJ n V Q (writes (.region id U true)) c1 .normal r c) (λ_ c g P=>P c g) _ _ _ _ ⟨1,rfl⟩ ?_;have:=wpAnyQ_lex (C:=bF b) (md:=.any) t.1 U.toList 0 (Array.replicate U.size false) H sM (by simpa using t.2) I;simpa using this
  ·obtain⟨A,P⟩:=dL.out P
   have d:∀(e:Bool) (f:XN) (w:Nat->Bool),uR h V U e f (λo x b=>∀V Q,c1 (.panic o) V Q x b) (λQ x b=>c1 .normal V Q x b) w U.size (Array.replicate U.size false) Q H.defers (b.drewN 1)->
     wpAny h .any U (cJ n V Q (writes (.region id U true)) c1) U.size (Array.replicate U.size false) H {b with drawn:=b.drawn+1}:=λe f w P=>
    iR (λo H b P=>qx.post o H b P) (λ_ _ P=>P) _ _ _ _ _ (lE (B0:=V) (e0:=Q) (W:=writes (.region id U true)) q A j w _ _ Q H _ p (λ_ _=>rfl) P)
   split at P
   ·split at P
    ·obtain⟨f,P⟩:=P _ ⟨1,rfl⟩
     exact d _ f _ P
    ·exact d _ _ _ (P _ ⟨1,rfl⟩)
   ·obtain⟨y,P⟩:=dL.out P
    split at P
    ·split at P
     ·obtain⟨f,P⟩:=P _ ⟨1,rfl⟩
      rw[wK y _ _ _ (BL.init _)]at P;exact iR (λo H b P=>qx.post o H b P) (λ_ _ P=>P) _ _ _ _ _ (ky (B0:=V) (e0:=Q) (W:=writes (.region id U true)) q A j f _ _ _ Q H _ p (λ_ _=>rfl) P)
     ·obtain⟨f,P⟩:=P _ ⟨1,rfl⟩
      rw[qz y _ _ (BL.init _)]at P;exact d _ f _ P
    ·have P:=P _ ⟨1,rfl⟩
     rw[qz y _ _ (BL.init _)]at P;exact d _ _ _ P
def jx(P:Program)(a:Nat)(b:List Value)(c:World)(d:Bool->XU):Prop:=
 YieldAt (FW none) 0 P a b.toArray c λe f=>∃n,e= .returned (.bool n)/\d n f
def jx.mono(f:jx h a a3 b h1)(g:∀P e,h1 P e->h2 P e):jx h a a3 b h2:=by
 obtain⟨i,c,n,d,j,k⟩:=f;exact⟨i,c,n,d,j,k.mono λm e ⟨P,l,f⟩=>⟨P,l,g P e f⟩⟩
def Ub(a:Program)(b:Value)(n:Array Value)(c:World)(d:XR):Prop:=
 ∃P,b= .func (.yield P) #[] #[]/\jx a P n.toList c λe f=>d (.bool e) f
def yY(n:Oper):Option (Operand×Array Operand):=match n.op with
 | .call {callee:=.value (.func _),..}=>none
 | .call {callee:=.value f,args,..}=>some (f,args)
 |_=>none
def Qh(d:Program)(a:bG)(b:Array Oper)(h:gJ)(c:Oper)(e:cu->List Deferred->XU)(P:cu)(f:List Deferred)(g:World):Prop:=match yY c with
 |some (i,n)=>Ub d (ev a P i) (n.map (ev a P)) g λj k=>e (bH P c.dst j) f k
 |none=>PJ d b a c h e P f g
def qK(b:Program)(a:bG)(n:Array Oper)(c:gJ):List Oper->(cu->List Deferred->XU)->cu->List Deferred->XU
 |[],e,d,f,g=>e d f g
 |i::P,e,d,f,g=>match i.guard with
  |none=>Qh b a n c i (qK b a n c P e) d f g
  |some (k,h)=>match iC n k with
   |none=>False
   |some j=>match get a d j with
    | .bool l=>an l
     (match h with
      |true=>Qh b a n c i (qK b a n c P e) ((j,.bool true)::d) f g
      |false=>qK b a n c P e (bH ((j,.bool true)::d) i.dst undef) f g)
     (match h with
      |true=>qK b a n c P e (bH ((j,.bool false)::d) i.dst undef) f g
      |false=>Qh b a n c i (qK b a n c P e) ((j,.bool false)::d) f g)
    | .tuple _=>qK b a n c P e (bH d i.dst undef) f g
    |_=>False
def KI{n P:Code}(d:RoundIn (FW none) c h i z l n P b A):RoundIn (FW c9) a h i z l n P b A:=
 ⟨trivial,λe cs _=>d.2 e cs (Se _)⟩
def FQ{n:Array Operand}{l:Nat}(P:yY S=some (T,n))(c:e2 T= .func (.yield l) #[] #[]):
  (execOp e2 S).run h b=(Instr.yield l (n.map e2)).run h b:=by
 unfold yY at P;split at P
 ·cases P
 ·rename_i e a f d
  simp only[Q1,Prod.mk.injEq]at P;obtain⟨rfl,rfl⟩:=P;simp only[execOp,d,resolve,c];simp[Deferred.ofValue,invoke,Sem.run_bind,Sem.run_pure,Result.andThen]
 ·cases P
def vo{w:Program}{B:Option Nat}{L o:Nat}{e t:bG}{u:cu}{k:List Nat}{P:Array Oper}{l:gJ}(M:∀m a,iC P m=some a->a<o)(S:∀a1 e n y f,l a1 e n y f->a1≠.outgrown)(v:B=none\/∀d∈P.toList,vm d=true):
  ∀(N:List Oper) (p:Nat) (n:cu) (i:Act) (f:World),(∀m,N[m]? =P[p+m]?)->(∀d∈N,∀g,d.dst=some g->g<o/\g∈k)->Rel o e n i->(∀a,a∉k->get e n a=get t u a)->
   qK w e P l N (λn y f=>l .normal e n y f) n i.defers f->wpOpsIn (FW B) L w P (cJ o t u k l) (List.range' p N.length) i f
 |[],p,n,i,f,_,_,j,h,c=>⟨e,n,j,h,c⟩
 |d::b,p,n,i,f,a2,T,j,h,c=>by
  have h0:P[p]? =some d:=by simpa using(a2 0).symm
  have a4:d∈P.toList:=by
   obtain⟨a7,rfl⟩:=Q5.1 h0;simp
  have U:∀m,b[m]? =P[p+1+m]? :=λm=>by have:=a2 (m+1);simpa[Nat.add_assoc,Nat.add_comm 1 m]using this
  have V:∀g,d.dst=some g->g<o:=λg v=>(T d (QV ..) g v).1;have W:∀(n:cu),(∀a,a∉k->get e n a=get t u a)->∀C a,a∉k->get e (bH n d.dst C) a=get t u a:=by
   intro n h C a X
   cases v:d.dst with
   |none=>exact h a X
   |some g=>
    have a5:=(T d (QV ..) g v).2;show get e ((g,C)::n) a=_;rw[dx,Zq (by rintro rfl;exact X a5)];exact h a X
  have z:∀d∈b,∀g,d.dst=some g->g<o/\g∈k:=λd ho=>T d (QJ _ ho);have A:∀(n:cu),Rel o e n i->(∀a,a∉k->get e n a=get t u a)->Qh w e P l d (qK w e P l b λn y f=>l .normal e n y f) n i.defers f->
    d.wpIn (FW B) L w i f (wpOpsIn (FW B) L w P (cJ o t u k l) (List.range' (p+1) b.length)) (cJ o t u k l):=λn j h c=>by
   unfold Qh at c;split at c
   ·rename_i a8 E q
    obtain⟨Y,hf,fn,F,x,H,h1,h2⟩:=c;refine⟨λ_ _=>trivial,?_⟩;have Z:∀a3,d.op≠.defer a3:=by
     intro a3 Z;unfold yY at q;rw[Z]at q;cases q
    rw[Oper.semAt_eq _ _ _ Z,j.eval,FQ (l:=Y) q hf];have a6:(Instr.yield Y (E.map (ev e n))).run w f= .ok (.round Y fn F x H) f:=by
     have:=h1
     rwa [Array.toArray_toList]at this
    rw[a6,Oper.uponIn_round];refine⟨λc=>by simp[Fence.wide]at c,(KI h2).mono ?_⟩;rintro _ w' ⟨I,rfl,hK⟩;exact vo M S v b (p+1) _ _ _ U z (j.put _ V _) (W n h _) (by rw[put_defers];exact hK)
   ·refine LU (v.imp id λv=>v d a4) ?_
    exact Fy j V c (λC a' w' a0 hK=>vo M S v b (p+1) _ _ _ U z a0 (W n h C) hK) (λch w' hq=>⟨e,n,j,h,hq⟩)
  have r:∀(n:cu),Rel o e n i->(∀a,a∉k->get e n a=get t u a)->qK w e P l b (λn y f=>l .normal e n y f) (bH n d.dst undef) i.defers f->
    wpOpsIn (FW B) L w P (cJ o t u k l) (List.range' (p+1) b.length) (i.put d.dst undef) f:=λn j h c=>
   vo M S v b (p+1) _ _ _ U z (j.put _ V _) (W n h _) (by rw[put_defers];exact c)
  simp only[Xq,List.range'_succ];unfold wpOpsIn;rw[h0];simp only;unfold qK at c;split at c
  ·rename_i O
   rw[Zx (by simp[Region.wanted,O])];exact A n j h c
  ·rename_i m s O
   split at c
   ·exact c.elim
   ·rename_i a hj
    have q:=od j hj (M m a hj);split at c
    ·rename_i I J
     rw[J]at q;simp only at q;have hw:Region.wanted d (yielded P i.tmps)=(I==s):=by
      simp only[Region.wanted,O,q]
      cases I<;>cases s<;>rfl
     rw[hw];have Q:=j.again J;have R:∀K,K∉k->get e ((a,.bool I)::n) K=get t u K:=λK hu=>by rw[qW J];exact h K hu
     cases I<;>cases s<;>simp only[an]at c
     ·exact A _ Q R c
     ·exact⟨λ_ _=>trivial,r _ Q R c⟩
     ·exact⟨λ_ _=>trivial,r _ Q R c⟩
     ·exact A _ Q R c
    ·rename_i vs J
     rw[J]at q;simp only at q;have hw:Region.wanted d (yielded P i.tmps)=false:=by
      simp[Region.wanted,O,q]
     rw[hw];exact⟨λ_ _=>trivial,r _ j h c⟩
    ·exact c.elim
def pM(a:Nat)(n P:World):Prop:=ak (λb=>b=a) n P/\P.heap.size=n.heap.size
def p_(n:Nat)(P:World):Prop:=P.heap[n]? =some (.deferred (some []))
def LV(n:Nat):Deferred:={target:=.collected n,args:= #[]}
def KJ:List Value->(List Value->Prop)->Prop
 |[],n=>n []
 |z::b,n=>match z with
  | .agg cs=>mh cs.toList λP=>KJ b λa=>n (.agg P.toArray::a)
  |z=>mh [z] λP=>KJ b λa=>n (P++a)
def nI(n:World):XN:=λP=>P≠n.heap.size/\P≠n.heap.size+1
def sQ(P a:List Value):Prop:=∀n:List Value->Prop,KJ P n->n a
def NH:List (Exit×(XU))->(Exit->(XU)->Prop)->Prop
 |[],_=>True
 |(P,a)::b,n=>n P a/\NH b n
def Vf(n:Exit->XU):List Exit->List (Exit×(XU))
 |[]=>[]
 |x::P=>(x,λa=>n x a)::Vf n P
def Vx(n:Exit):List (Exit×(XU))->Prop
 |[]=>False
 |(P,_)::a=>n=P\/Vx n a
def NH.out{a:Exit->XU}{φ:Exit->(XU)->Prop}:∀{l:List Exit},NH (Vf a l) φ->∀n,Vx n (Vf a l)->n∈l/\φ n (λb=>a n b)
 |[],_,n,P=>P.elim
 |y::h,c,n,P=>by
  obtain⟨d,e⟩:=c;rcases P with rfl|P
  ·exact⟨QV ..,d⟩
  ·obtain⟨f,g⟩:=NH.out e n P
   exact⟨QJ _ f,g⟩
def EO(m:Program)(v:Value)(w:List Value)(a:World)(y:(List Value->Prop)->(List Value->Exit->XU)->XU)(z:XU)(p:List (Exit×(XU))):Prop:=
 ∃o k,v= .func (.func o) #[] k/\enters m o=true/\
 ∃(q:Type) (r:q) (f:q->List (List Value)->XU) (j:Exit->List (List Value)->XU) (s:List (List Value)->List Value->Prop) (t:List (List Value)->Prop),
  (∀h,ak (λ_=>False) a h->h.heap.size=a.heap.size+2->f r [] h)/\
  (∀b n P d,f b n P->pM (a.heap.size+1) P d->f b n d)/\
  (∀x n P d,j x n P->pM (a.heap.size+1) P d->j x n d)/\
  (∀b n P,f b n P->a.heap.size+2<=P.heap.size->y (s n) (λg x c=>match x with
   | .normal=>f b (n++[g]) c
   |x=>Vx x p/\j x (n++[g]) c) P)/\
  (∀(i:XU) (l:Exit->XU),(∀P d,i P->ak (nI a) P d->i d)->(∀x P d,l x P->ak (nI a) P d->l x d)->
   (∀P,i P->a.heap.size+2<=P.heap.size)->
   (∀b n g P,f b n P->i P->sQ w g->s n g->jx m (a.heap.size+1) g P λu c=>(u=true/\f b (n++[g]) c/\i c)\/(u=false/\∃x,j x (n++[g]) c/\l x c))->
   ∀h,f r [] h->i h->Calls m o (#[.func (.yield (a.heap.size+1)) #[] #[]]++k) h λA c=>(∃B,A= .returned B)/\((i c/\∃b e,f b e c/\t e)\/∃x n,j x n c/\l x c))/\
  (∀b e P,f b e P->t e->p_ a.heap.size P->z P)/\
  NH p λx C=>∀n P,j x n P->p_ a.heap.size P->C P
def LW:List Nat->List Value->cu->cu
 |P::a,b::c,n=>LW a c ((P,b)::n)
 |_,_,n=>n
def NI:List (Nat×Value)->List Nat
 |[]=>[]
 |(n,_)::P=>n::NI P
def ig:Code->Bool
 | .region _ P _=>P.toList.all vm
 | .seq a b=>ig a&&ig b
 | .cond _ a b=>ig a&&ig b
 | .block _ n=>ig n
 | .loop n=>ig n
 | .scope n=>ig n
 | .rangeFunc .. =>false
 |_=>true
def fV:Code->List Exit
 | .exit id=>[.exit id]
 | .ret=>[.ret]
 | .seq P a=>fV P++fV a
 | .cond _ P a=>fV P++fV a
 | .block _ n=>fV n
 | .loop n=>fV n
 | .scope n=>fV n
 |_=>[]
def Qi:Exit->Code
 | .ret=>.ret
 | .exit id=>.exit id
 | .goto n=>.goto n
 |_=>.skip
def Uc(n:Exit->XU):gJ:=λa _ _ _ P=>match a with
 | .normal=>n .normal P
 | .ret=>n .ret P
 | .exit id=>n (.exit id) P
 |_=>False
def DR(f:Program)(e:jN)(g:List Nat):Bool->Code->gJ->bG->cu->List Deferred->XU
 |_,.skip,c,b,n,a,P=>c .normal b n a P
 |_,.label _,c,b,n,a,P=>c .normal b n a P
 |_,.exit id,c,b,n,a,P=>c (.exit id) b n a P
 |_,.ret,c,b,n,a,P=>c .ret b n a P
 |_,.region id q p,c,b,n,a,P=>match Ba g id with
  |true=>(match p with
   |false=>qK f b q c q.toList (λn a P=>c .normal b n a P) n a P
   |true=>False)
  |false=>D f e (.region id q p) c b n a P
 |top,.seq h k,c,b,n,a,P=>match Nl e.Pv (key k)with
  |none=>DR f e g top h (Bc (λb n a P=>DR f e g top k c b n a P) c) b n a P
  |some d=>∃x:Fn (ia d) (XU),DR f e g top h (Bc (λl s j i=>Bb j a (ap (ia d) x (yH l s d) i)) c) b n a P/\
    eA (writes h) n λu=>mh (ia d) λm=>∀(l:bG) (i:World),ap (ia d) x m i->DR f e g top k c l (xy d m u) a i
 |top,.cond o h k,c,b,n,a,P=>match ev b n o with
  | .bool A=>an A (DR f e g top h c b n a P) (DR f e g top k c b n a P)
  |_=>False
 |top,.block id o,c,b,n,a,P=>DR f e g top o (wL id c) b n a P
 |top,.scope o,c,b,n,a,P=>DR f e g top o (FB c) b n a P
 |top,.loop o,c,b,n,a,P=>match Nl e.loops (key o)with
  |none=>False
  |some d=>∃v:Nat->Fn (ia d) (XU),(∃t,ap (ia d) (v t) (yH b n d) P)/\
    ∀t,eA (writes o) n λu=>mh (ia d) λm=>∀(l:bG) (i:World),ap (ia d) (v t) m i->
     DR f e g top o (Bc (λl s j i=>Bb j a (∃y,y<t/\ap (ia d) (v y) (yH l s d) i)) c) l (xy d m u) a i
 |top,.rangeFunc B C h k,c,b,n,a,P=>match top with
  |false=>False
  |true=>match Nl e.loops (key k)with
   |none=>False
   |some d=>dL (Nk (NI d) C.toList&&(ig h&&ig k)) (EO f (ev b n B) (ia d) P
     (λE F r=>KJ (ia d) λm=>E m->DR f e g false h (Bc (λl s j i=>ak (nI P) r i/\∀w,pM (P.heap.size+1) i w->DR f e g false k (Uc λh z=>ak (nI P) w z/\F m h z) l s j w) (λ_ _ _ _ _=>False)) b (LW (NI d) m n) [] r)
     (λr=>c .normal b n (LV P.heap.size::a) r) (Vf (λh r=>c h b n (LV P.heap.size::a) r) (fV k)))
 |_,_,_,_,_,_,_=>False
def kO:Code->List Nat
 | .region _ b _=>Dw b.toList
 | .seq n P=>kO n++kO P
 | .cond _ n P=>kO n++kO P
 | .block _ a=>kO a
 | .loop a=>kO a
 | .scope a=>kO a
 | .rangeFunc _ c n P=>c.toList++(kO n++kO P)
 |_=>[]
def Ql:∀(P:List Value) (b:List Value->Prop),(∀n,n.length=P.length->b n)->KJ P b:=by
 have d:∀(P:List Value) (b:List Value->Prop),(∀n,n.length=P.length->b n)->mh P b:=by
  intro P
  induction P with
  |nil=>intro b a;exact a [] rfl
  |cons g P e=>
   intro b a
   cases g
   case pointer h=>cases h<;>simp only[mh]<;>intros<;>exact e _ λn c=>a _ (by simp[c])
   all_goals(simp only[mh];intros;exact e _ λn c=>a _ (by simp[c]))
 intro P
 induction P with
 |nil=>intro b a;exact a [] rfl
 |cons g P e=>
  intro b a
  cases g
  case pointer h=>cases h<;>(simp only[KJ];exact d [_] _ λn c=>e _ λj f=>a _ (by have i:n.length=1:=c;simp[i,f,Nat.add_comm]))
  case agg cs=>exact d cs.toList _ λn c=>e _ λj f=>a _ (by simp[f])
  all_goals(simp only[KJ];exact d [_] _ λn c=>e _ λj f=>a _ (by have i:n.length=1:=c;simp[i,f,Nat.add_comm]))
def sQ.len(n:sQ a3 e3):e3.length=a3.length:=n _ (Ql a3 _ λ_ n=>n)
def Il:∀n:List (Nat×Value),(NI n).length=(ia n).length
 |[]=>rfl
 |(_,_)::P=>by simp[NI,ia,Il P]
def DQ{e:Nat}{i:bG}:∀(b:List Nat) (P:List Value) (c:cu) (n:Array Value),(∀a∈b,a<e)->P.length=b.length->Rel e i c {tmps:=n,defers:=[]}->
  Rel e i (LW b P c) {tmps:=(b.zip P).foldl (λa (j:Nat×Value)=>a.setIfInBounds j.1 j.2) n,defers:=[]}
 |[],P,c,n,_,d,f=>by
  cases P with
  |nil=>exact f
  |cons g P=>simp at d
 |a::b,P,c,n,k,d,f=>by
  cases P with
  |nil=>simp at d
  |cons g P=>
   exact DQ b P ((a,g)::c) _ (λl h=>k l (QJ _ h)) (by simpa using d) (f.put (some a) (λl h=>by cases h;exact k a (QV ..)) g)
def Im:∀(P:Code) (a:Exit),a∈fV P->a= .ret\/∃id,a= .exit id:=by
 intro P
 induction P with
 |exit id=>intro a n;simp only[fV,List.mem_singleton]at n;exact .inr ⟨id,n⟩
 |ret=>intro a n;simp only[fV,List.mem_singleton]at n;exact .inl n
 |seq a f b c=>intro d n;exact(Q6.1 n).elim (b d) (c d)
 |cond P a f b c=>intro d n;exact(Q6.1 n).elim (b d) (c d)
 |block id P e=>exact e
 |loop P e=>exact e
 |scope P e=>exact e
 |_=>intro d n;cases n
def jm{w:World}{l:Nat}{o:Obj}:pM l w (w.putObj l o):=
 ⟨⟨rfl,rfl,rfl,sM,λP _ n=>World.putObj_heap_other n⟩,sM⟩
def ak.obj(P:ak f b k)(n:b.heap[a]? =some c8)(c:¬f a):k.heap[a]? =some c8:=
 (P.block a (Q5.1 n).1 c).trans n
def cJ.of(n:Rel a V Q H)(P:c1 e4 V Q H.defers b):cJ a V Q b4 c1 e4 H b:=⟨V,Q,n,λ_ _=>rfl,P⟩
def Vg(hm:h.follows .mixedOrders=true){n m:Nat}:∀(I:Code) (r:Option Nat) (d:Bool) (t:gJ) (e:bG) (f:cu) (l:Act) (b:World),
  (r=none\/(d=false/\ig I=true))->(∀a,a∈kO I->a<n)->(∀u e f Y b,t u e f Y b->u≠.outgrown)->Rel n e f l->DR h e1 b4 d I t e f l.defers b->I.wpIn (FW r) m h (cJ n e f (writes I) t) l b:=by
 intro I
 induction I generalizing m with
 |skip=>intro r d t e f l b _ _ _ k P;exact wpIn_skip (cJ.of k P)
 |label a0=>intro r d t e f l b _ _ _ k P;exact wpIn_label (cJ.of k P)
 |exit id=>intro r d t e f l b _ _ _ k P;exact wpIn_exit (cJ.of k P)
 |ret=>intro r d t e f l b _ _ _ k P;exact wpIn_ret (cJ.of k P)
 |goto a0=>intro r d t e f l b _ _ _ k P;exact P.elim
 |refuse uV=>intro r d t e f l b _ _ _ k P;exact P.elim
 |scope I ih=>
  intro r d t e f l b C y J k P;refine KG (wpIn_mono (ih r d (FB t) e f l b C y (by intro q e f Y b c Q;subst Q;exact J _ _ _ _ _ c rfl) k P) ?_);intro q v x o;obtain⟨z,w,B,F,c⟩:=o
  cases q with
  |goto a0=>exact c.elim
  |normal=>exact⟨z,w,B,F,c⟩
  |exit id=>exact⟨z,w,B,F,c⟩
  |ret=>exact⟨z,w,B,F,c⟩
  |panic ch=>exact⟨z,w,B,F,c⟩
  |outgrown=>exact⟨z,w,B,F,c⟩
 |region id A Z=>
  intro r d t e f l b C y J k P;have hd:r=none\/∀V∈A.toList,vm V=true:=C.imp (λP=>P) λP=>by
   have:=P.2;unfold ig at this;exact ZY.1 this
  have d1:∀v x,¬cJ n e f (writes (.region id A Z)) t .outgrown v x:=λl b ⟨e,f,_,_,c⟩=>J _ _ _ _ _ c rfl;unfold DR at P;split at P
  ·split at P
   ·have W:∀V∈A.toList,∀a5,V.dst=some a5->a5<n/\a5∈writes (.region id A false):=λV ho a5 hd=>⟨y a5 (jW ho hd),jW ho hd⟩
    have e9:∀c4 a,iC A c4=some a->a<n:=by
     intro c4 a N;unfold iC at N
     cases ho:A[c4]? with
     |none=>rw[ho]at N;simp at N
     |some V=>
      rw[ho]at N;have f0:V∈A.toList:=by
       obtain⟨d2,rfl⟩:=Q5.1 ho;simp
      exact(W V f0 a N).1
    refine wpIn_region ?_;rw[List.range_eq_range',<-XK];exact vo e9 J hd A.toList 0 f l b sM W k (λ_ _=>rfl) P
   ·exact P.elim
  ·obtain⟨h1,h2⟩:=KH hm (n:=n) y k P
   cases Z with
   |false=>exact wpIn_region (qJ d1 hd _ _ _ (h1 rfl))
   |true=>exact wpIn_region_draw λa=>qJ d1 hd _ _ _ (h2 rfl a)
 |seq u R K L=>
  intro r d t e f l b C y J k P;have b0:r=none\/(d=false/\ig u=true):=C.imp (λP=>P) λP=>⟨P.1,by have:=P.2;simp only[ig,QK]at this;exact this.1⟩
  have b5:r=none\/(d=false/\ig R=true):=C.imp (λP=>P) λP=>⟨P.1,by have:=P.2;simp only[ig,QK]at this;exact this.2⟩
  have b6:∀a,a∈kO u->a<n:=λa j=>y a (Q6.2 (.inl j));have b7:∀a,a∈kO R->a<n:=λa j=>y a (Q6.2 (.inr j));have g:∀(a3:bG->cu->List Deferred->XU) (q:Exit) (v:Act) (x:World),q≠.normal->cJ n e f (writes u) (Bc a3 t) q v x->cJ n e f (writes (u.seq R)) t q v x:=by
   intro a3 q v x f4 o;refine o.mono (λa j=>Q6.2 (.inl j)) (λ_ _=>rfl) λz w i8 w1 c=>?_
   cases q with
   |normal=>exact Zz rfl f4
   |outgrown=>exact c.elim
   |_=>exact c
  have d3:∀(a3:bG->cu->List Deferred->XU) q e f Y b,Bc a3 t q e f Y b->q≠.outgrown:=by
   intro a3 q e f Y b c Q;subst Q;exact c.elim
  unfold DR at P;split at P
  ·have hx:=K (m:=m) r d _ e f l b b0 b6 (d3 _) k P
   refine wpIn_seq (wpIn_mono hx ?_);intro q v x o
   cases q with
   |normal=>
    obtain⟨z,w,B,F,c⟩:=o;have hy:=L (m:=m) r d t z w v x b5 b7 J B c;refine wpIn_mono hy (λq d4 d5 o=>?_);refine o.mono (λa j=>Q6.2 (.inr j)) (λa j=>F a λhm=>j (Q6.2 (.inl hm))) λ_ _ _ _ c=>c
   |exit id=>exact g _ _ _ _ sM o
   |goto a0=>exact g _ _ _ _ sM o
   |ret=>exact g _ _ _ _ sM o
   |panic ch=>exact g _ _ _ _ sM o
   |outgrown=>exact g _ _ _ _ sM o
  ·rename_i H hS
   obtain⟨f5,P,c5⟩:=P;obtain⟨w,h1,h2,c5⟩:=eA.out c5;have hx:=K (m:=m) r d _ e f l b b0 b6 (d3 _) k P;refine wpIn_seq (wpIn_mono hx ?_);intro q v x o
   cases q with
   |normal=>
    obtain⟨B2,e2,O,b8,c⟩:=o;obtain⟨b9,hJ⟩:=Bb.out c;have hv:=nh O H;have a7:=jh B2 e2 H;have d6:=ap.all a7 hJ c5 (λa=>v.tmps.getD a undef) x hJ;rw[hv,<-b9]at d6;have d7:=uU (n:=n) H O.size h1 h2 (B0:=e) (λa j=>(O.slot a).trans (b8 a j));have hy:=L (m:=m) r d t _ _ v x b5 b7 J d7 d6;refine wpIn_mono hy (λq d4 d5 o=>?_);refine o.mono (λa j=>Q6.2 (.inr j)) (λa j=>?_) λ_ _ _ _ c=>c;rw[<-d7.slot];exact(O.slot a).trans (b8 a λhm=>j (Q6.2 (.inl hm)))
   |exit id=>exact g _ _ _ _ sM o
   |goto a0=>exact g _ _ _ _ sM o
   |ret=>exact g _ _ _ _ sM o
   |panic ch=>exact g _ _ _ _ sM o
   |outgrown=>exact g _ _ _ _ sM o
 |cond I u R K L=>
  intro r d t e f l b C y J k P;have b0:r=none\/(d=false/\ig u=true):=C.imp (λP=>P) λP=>⟨P.1,by have:=P.2;simp only[ig,QK]at this;exact this.1⟩
  have b5:r=none\/(d=false/\ig R=true):=C.imp (λP=>P) λP=>⟨P.1,by have:=P.2;simp only[ig,QK]at this;exact this.2⟩
  unfold DR at P;split at P
  ·rename_i f6 S
   refine wpIn_cond_split (t:=f6) (by rw[k.eval];exact S) (λj=>?_) (λhf=>?_)
   ·subst j
    refine wpIn_mono (K r d t e f l b b0 (λa j=>y a (Q6.2 (.inl j))) J k P) (λq v x o=>?_);exact o.mono (λa j=>Q6.2 (.inl j)) (λ_ _=>rfl) λ_ _ _ _ c=>c
   ·subst hf
    refine wpIn_mono (L r d t e f l b b5 (λa j=>y a (Q6.2 (.inr j))) J k P) (λq v x o=>?_);exact o.mono (λa j=>Q6.2 (.inr j)) (λ_ _=>rfl) λ_ _ _ _ c=>c
  ·exact P.elim
 |block id I ih=>
  intro r d t e f l b C y J k P;refine wpIn_block (wpIn_mono (ih r d (wL id t) e f l b C y (by intro q e f Y b c Q;subst Q;exact c.elim) k P) ?_);intro q v x o;obtain⟨z,w,B,F,c⟩:=o
  cases q with
  |exit a8=>
   show(if a8=id then _ else _);simp only[wL]at c
   cases S:Nat.beq a8 id with
   |true=>
    rw[S]at c;rw[Zx (X9 S)];exact⟨z,w,B,F,c⟩
   |false=>
    rw[S]at c;rw[Zq (by rintro rfl;simp at S)];exact⟨z,w,B,F,c⟩
  |normal=>exact⟨z,w,B,F,c⟩
  |goto a0=>exact⟨z,w,B,F,c⟩
  |ret=>exact⟨z,w,B,F,c⟩
  |panic ch=>exact⟨z,w,B,F,c⟩
  |outgrown=>exact c.elim
 |loop I ih=>
  intro r d t e f l b C y J k P;unfold DR at P;split at P
  ·exact P.elim
  ·rename_i H hS
   obtain⟨f7,⟨m0,h0⟩,f8⟩:=P;refine wpIn_loop_ghost (λm v x=>v.tmps.size=n/\(∀a,a∉writes I->v.tmps.getD a undef=get e f a)/\v.defers=l.defers/\
    ap (ia H) (f7 m) (H.map λa4=>v.tmps.getD a4.1 undef) x) m0 ⟨k.size,λa _=>k.slot a,rfl,by rw[<-nh k H];exact h0⟩ ?_
   rintro mm v x ⟨f9,d8,b9,hI⟩;obtain⟨w,h1,h2,g0⟩:=eA.out (f8 mm);have a7:(H.map λa4=>v.tmps.getD a4.1 undef).length=(ia H).length:=by rw[<-jh e f H,yX];simp
   have S:=ap.all a7 hI g0 (λa=>v.tmps.getD a undef) x hI;have c0:=uU (n:=n) H f9 h1 h2 d8;rw[<-b9]at S;have c6:=ih (m:=m) r d _ _ _ v x C y (by intro q e f Y b c Q;subst Q;exact c.elim) c0 S;refine wpIn_mono c6 ?_;intro q d4 d5 o;obtain⟨B2,e2,O,b8,c⟩:=o;have a9:∀a,a∉writes I->get B2 e2 a=get e f a:=λa j=>(b8 a j).trans ((c0.slot a).symm.trans (d8 a j))
   cases q with
   |normal=>
    obtain⟨g1,m',d2,g2⟩:=Bb.out c;refine⟨m',d2,O.size,λa j=>(O.slot a).trans (a9 a j),g1.trans b9,?_⟩;rw[<-nh O H];exact g2
   |outgrown=>exact c.elim
   |exit id=>exact⟨B2,e2,O,a9,c⟩
   |goto a0=>exact⟨B2,e2,O,a9,c⟩
   |ret=>exact⟨B2,e2,O,a9,c⟩
   |panic ch=>exact⟨B2,e2,O,a9,c⟩
 |rangeFunc g3 ps u R K L=>
  intro r d t e f l b C y J k P;unfold DR at P;split at P
  ·exact P.elim
  obtain rfl:r=none:=C.resolve_right λP=>by cases P.1
  split at P
  ·exact P.elim
  rename_i H hS;obtain⟨d9,P⟩:=dL.out P;simp only[QK]at d9;obtain⟨c1,g4,g5⟩:=d9;have c1:=Nk.out c1;obtain⟨c7,a1,g6,g7,σ,s0,f5,Jx,a3,i9,g8,e0,c2,c6,g9,h3,h4⟩:=P;have b6:∀a,a∈kO u->a<n:=λa j=>y a (Q6.2 (.inr (Q6.2 (.inl j))));have b7:∀a,a∈kO R->a<n:=λa j=>y a (Q6.2 (.inr (Q6.2 (.inr j))));have h5:∀a,a∈ps.toList->a<n:=λa j=>y a (Q6.2 (.inl j));refine wpIn_rangeFunc ?_;intro fn _;obtain⟨p,s⟩:∃p:LoopState->Option Code->Loop,p=λst pe=>{state:=st,pending:=pe,fn,tmps:=l.tmps,params:=ps,assign:=u,body:=R,defers:=b.heap.size}:=⟨_,rfl⟩
  obtain⟨T,b2⟩:∃T,(b.alloc (.deferred (some []))).alloc (.loop (p .ready none))=T:=⟨_,rfl⟩
  have h6:T.heap[b.heap.size+1]? =some (.loop (p .ready none)):=by
   rw[<-b2];have:=World.alloc_heap_new (b.alloc (.deferred (some []))) (.loop (p .ready none));rwa [World.size_alloc]at this
  have h7:T.heap[b.heap.size]? =some (.deferred (some [])):=by
   rw[<-b2];exact(Go.RowKit.Below.heap_alloc _ _ _ sM).trans (World.alloc_heap_new b _)
  have h8:T.heap.size=b.heap.size+2:=by rw[<-b2];simp
  have h9:ak (λ_=>False) b T:=by
   rw[<-b2];exact⟨rfl,rfl,rfl,by simp;omega,λi0 E _=>(Go.RowKit.Below.heap_alloc _ _ _ be).trans (Go.RowKit.Below.heap_alloc b _ i0 E)⟩
  let i1:XU:=λe1=>e1.heap[b.heap.size+1]? =some (.loop (p .ready none))/\e1.heap[b.heap.size]? =some (.deferred (some []))
  let Rx:Exit->XU:=λu e1=>Vx u (Vf (λu A0=>t u e f (LV b.heap.size::l.defers) A0) (fV R))/\e1.heap[b.heap.size+1]? =some (.loop (p .done (some (Qi u))))/\e1.heap[b.heap.size]? =some (.deferred (some []))
  have c3:∀{e1 e:World} {V o':Obj},ak (nI b) e1 e->e1.heap[b.heap.size+1]? =some V->e1.heap[b.heap.size]? =some o'->e.heap[b.heap.size+1]? =some V/\e.heap[b.heap.size]? =some o':=λE h1 h2=>
   ⟨E.obj h1 λP=>P.2 rfl,E.obj h2 λP=>P.1 rfl⟩
  refine⟨b.heap.size+1,[LV b.heap.size],T,{target:=.fn (.func c7) a1,args:= #[.func (.yield (b.heap.size+1)) #[] #[]]},T,c7,#[.func (.yield (b.heap.size+1)) #[] #[]]++a1,T,?_,?_,λ_ _=>trivial,?_,λP=>by simp[Fence.wide]at P,?_⟩
  ·rw[<-b2,s];exact run_enterLoop_outer _ _ _ _ _
  ·have hg:l.eval g3= .func (.func c7) #[] a1:=by rw[k.eval];exact g6
   simp only[resolve,hg];simp[go_sem]
  ·simp only[invoke];exact h_ g7 _ _
  refine tE.2 (Calls.mono (g9 i1 Rx (λe1 e P E=>c3 E P.1 P.2) (λu e1 e P E=>⟨P.1,c3 E P.2.1 P.2.2⟩) (λe1 P=>by have:=(Q5.1 P.1).1;omega) ?_ T (g8 T h9 h8) ⟨h6,h7⟩) ?_)
  ·
   rintro c8 M vs A1 N ⟨W,E⟩ e3 hN;have a7:=e3.len;have e4:vs.length=ps.toList.length:=by rw[a7,<-c1,Il]
   have hy:=run_yield (P:=h) (args:=vs.toArray) W (by rw[s];simpa using e4);rw[s]at hy;refine⟨fn,_,u,R,hy,roundIn_of_wpIn trivial ?_⟩;have S:=e3 _ (c6 c8 M A1 N (by have:=(Q5.1 W).1;omega)) hN;have c0:Rel n e (LW (NI H) vs f) {tmps:=(ps.zip vs.toArray).foldl (λU (u:Tmp×Value)=>U.setIfInBounds u.1 u.2) l.tmps,defers:=[]}:=by
    have h0:Rel n e f {tmps:=l.tmps,defers:=[]}:=⟨k.size,k.slot⟩
    have:=DQ ps.toList vs f l.tmps h5 e4 h0;rw[c1];have w:(ps.zip vs.toArray).foldl (λU (u:Tmp×Value)=>U.setIfInBounds u.1 u.2) l.tmps=(ps.toList.zip vs).foldl (λa (a4:Nat×Value)=>a.setIfInBounds a4.1 a4.2) l.tmps:=by
     rw[<-Array.foldl_toList,Array.toList_zip]
    rw[w];exact this
   have hx:=K (m:=0) (some (b.heap.size+1)) false _ e _ _ A1 (.inr ⟨rfl,g4⟩) b6 (by intro q e f Y b c Q;subst Q;exact c.elim) c0 S;refine wpIn_mono hx ?_;intro q i2 A2 o;obtain⟨z,w,B,-,c⟩:=o
   cases q with
   |exit id=>exact c.elim
   |goto a0=>exact c.elim
   |ret=>exact c.elim
   |panic ch=>exact c.elim
   |outgrown=>exact c.elim
   |normal=>
    obtain⟨i3,c⟩:=c;obtain⟨e5,i4⟩:=c3 i3 W E;refine⟨_,run_beginRound e5 (by rw[s]),?_⟩;have c:=c _ (jm (w:=A2) (l:=b.heap.size+1) (o:=.loop {p .ready none with state:=.busy}));have e6:(A2.putObj (b.heap.size+1) (.loop {p .ready none with state:=.busy})).heap[b.heap.size+1]? =some (.loop {p .ready none with state:=.busy}):=World.putObj_heap_same (Q5.1 e5).1;have e7:(A2.putObj (b.heap.size+1) (.loop {p .ready none with state:=.busy})).heap[b.heap.size]? =some (.deferred (some [])):=(World.putObj_heap_other oM).trans i4;generalize A2.putObj (b.heap.size+1) (.loop {p .ready none with state:=.busy})=A3 at c e6 e7;have hy:=L (m:=0) (some (b.heap.size+1)) false _ z w i2 A3 (.inr ⟨rfl,g5⟩) b7 (by intro q e f Y b c Q;subst Q;exact c.elim) B c;refine wpIn_mono hy ?_;have a2:∀(i:Option Code) (X:World),ak (nI b) A3 X->
      (Instr.endRound (b.heap.size+1) i).run h X= .ok (.bool i.isNone) (X.putObj (b.heap.size+1) (.loop (p (if i.isNone then .ready else .done) i)))/\
      (X.putObj (b.heap.size+1) (.loop (p (if i.isNone then .ready else .done) i))).heap[b.heap.size+1]? =some (.loop (p (if i.isNone then .ready else .done) i))/\
      (X.putObj (b.heap.size+1) (.loop (p (if i.isNone then .ready else .done) i))).heap[b.heap.size]? =some (.deferred (some [])):=λi X a6=>by
     obtain⟨e8,i5⟩:=c3 a6 e6 e7;have:=run_endRound (P:=h) i e8;rw[s]at this⊢;exact⟨this,World.putObj_heap_same (Q5.1 e8).1,(World.putObj_heap_other oM).trans i5⟩
    intro q j0 X o;obtain⟨B4,j1,j2,-,b1⟩:=o
    cases q with
    |normal=>
     obtain⟨a6,b3⟩:=b1;obtain⟨f1,f2,f3⟩:=a2 none X a6;exact⟨_,_,f1,true,rfl,.inl ⟨rfl,e0 _ _ _ _ b3 jm,f2,f3⟩⟩
    |ret=>
     obtain⟨a6,c9,b3⟩:=b1;obtain⟨f1,f2,f3⟩:=a2 (some .ret) X a6;exact⟨_,_,f1,false,rfl,.inr ⟨rfl,.ret,c2 _ _ _ _ b3 jm,c9,f2,f3⟩⟩
    |exit id=>
     obtain⟨a6,c9,b3⟩:=b1;obtain⟨f1,f2,f3⟩:=a2 (some (.exit id)) X a6;exact⟨_,_,f1,false,rfl,.inr ⟨rfl,.exit id,c2 _ _ _ _ b3 jm,c9,f2,f3⟩⟩
    |goto a=>exact b1.elim
    |panic ch=>exact b1.elim
    |outgrown=>exact b1.elim
  ·
   rintro ed A2 ⟨⟨j3,rfl⟩,(⟨⟨W,E⟩,c8,d0,N,hT⟩|⟨x1,M,N,i6,W,E⟩)⟩
   ·refine⟨none,_,by have:=run_endLoop (P:=h) W (by rw[s];simp);rw[s]at this;exact this,?_⟩
    exact cJ.of (k.defers _) (h3 c8 d0 _ (e0 _ _ _ _ N jm) hT ((World.putObj_heap_other oM).trans E))
   ·refine⟨some (Qi x1),_,by have:=run_endLoop (P:=h) W (by rw[s];simp);rw[s]at this;exact this,?_⟩
    obtain⟨i7,c⟩:=NH.out h4 x1 i6;rcases Im R x1 i7 with rfl|⟨id,rfl⟩
    ·exact wpIn_ret (cJ.of (k.defers _) (c M _ (c2 .ret M A2 _ N jm) ((World.putObj_heap_other oM).trans E)))
    ·exact wpIn_exit (cJ.of (k.defers _) (c M _ (c2 (.exit id) M A2 _ N jm) ((World.putObj_heap_other oM).trans E)))
def Uo(n:XU):List Deferred->XU
 |[],P=>n P
 |d::c,P=>match d.target with
  | .collected a=>p_ a P/\∀b,pM a P b->Uo n c b
  |_=>False
def S_(c:Program)(d:Func)(P:XT):gJ:=λg e f a n=>match g with
 | .normal=>Uo (λn=>HF c d.results.toList e f n λb=>P (.returned (oneOf b)) n) a n
 | .ret=>Uo (λn=>HF c d.results.toList e f n λb=>P (.returned (oneOf b)) n) a n
 | .panic h=>Uo (λn=>P (.panicked h) n) a n
 |_=>False
def oA{f:Program}{g:Func}{n:Array Value}{h:XT}{b:XU}{e:FrameMode}(i:e≠.run){j:Nat}(k:∀P,b P->LeavesIn (FW none) j f g n h [] e P):∀(c:List Deferred) (P:World),Uo b c P->LeavesInM (FW none) j f g n h c e P
 |[],P,a=>k P a
 |d::c,P,a=>by
  unfold Uo at a;split at a
  ·rename_i l m
   obtain⟨o,a⟩:=a;exact⟨i,.inl ⟨l,_,m,run_takeDeferred o,oA i k c _ (a _ jm)⟩⟩
  ·exact a.elim
def mW(g:jN)(i:List Nat)(j:h.follows .mixedOrders=true)(k:h.funcs[z]? =some a6)(m:a6.body=some a1)(o:l.size<=a6.ntmps)(p:tV a6.ntmps (kO a1)=true)(P:DR h g i true a1 (S_ h a6 A) (λ_=>undef) (eJ 0 l.toList) [] b):Calls h z l b A:=by
 refine tE.1 (callsIn_of_wp_marks (F:=FW none) (n:=0) k m trivial (wpIn_mono (Vg j a1 none true (S_ h a6 A) _ _ _ b (.inl rfl) (kH p) (by intro c d e u b n q;subst q;exact n.elim) (wM o []) P) ?_));rintro c r v ⟨d,e,s,_,n⟩;have f:∀b,(HF h a6.results.toList d e b λa=>A (.returned (oneOf a)) b)->LeavesIn (FW none) 0 h a6 r.tmps A [] .returning b:=λb P=>by
  obtain⟨a,t,P⟩:=qA s P;exact⟨_,qB t,P⟩
 cases c with
 |normal=>exact oA sM f _ _ n
 |ret=>exact oA sM f _ _ n
 |panic w=>exact oA sM (λb P=>P) _ _ n
 |exit id=>exact n.elim
 |goto a=>exact n.elim
 |outgrown=>exact n.elim
