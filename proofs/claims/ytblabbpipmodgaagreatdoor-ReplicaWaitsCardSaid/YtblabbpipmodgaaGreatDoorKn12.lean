import Derived.Test.YtblabbpipmodgaaGreatDoorKn11
import Derived.RangeFuncSeq
import Derived.RangeFuncLeaves
set_option maxHeartbeats 4000000
set_option linter.all false
set_option maxRecDepth 20000
namespace Go.Proofs.YtblabbpipmodgaaGreatDoor
open Go.aw
variable{a c:Nat}{d:ZH}{h:Program}{m s:XR}{l:aj}
section
variable {w w' w1:World} {p:Nat} {F T:XN} {S:ar} {q:Nt}
def AR{S:ar}:((List.range a).any λP=>!S.jo l P)=false↔∀P,P<a->S.jo l P=true:=by
 simp[List.any_eq_false]
def si(f:cu w p F S){e:aj}{D:XN}(A:Row aJ 8 w D d a e.aK)(hD:∀P,D P->P<w.heap.size/\¬F P)(he:e.Ok)(hl:S.l.length<4611686018427387904):
  ZG 75 #[XL p,iP e d a c] w (Ok λB w'=>B= XH (S.add e).1/\∃C,cu w' p C (S.add e).2/\du F w C w'):=by
 have eQ:=f;obtain⟨E,q,f⟩:=f;have hN:=E.n;have b2:=f.len;have i9:=ay f.at';have j0:=f.map.lt;have d3:=f.Sp E;have g:∀{no:Int} {w':World},ai w w'->S.add e=(no,S)->Ok (λB w'=>B= XH (S.add e).1/\∃C,cu w' p C (S.add e).2/\du F w C w') (.returned (XH no)) w':=λ{no w'} hg ha=>by
  refine Ok.mk ⟨by rw[ha],F,?_,ai.af hg,λP b=>.inl b⟩;rw[ha];exact eQ.ah hg
 refine uv (PA.mk λw1 k1 s1 g1=>λw2 d2=>?_);have k2:ai w1 w2:=d2.af;have s2:w2.heap.size=w1.heap.size:=by rw[d2.heap]
 have N:=k1.then k2;have g2:=k2.get g1 id;have h4:=f.ah N;refine au (aU e d a c) g2 ⟨p,0,rfl,_,_,_,ae h4.at' rfl,PC.ok (vA (A.ah N) (by rw[b2];omega)) ?_⟩;rintro _ w3 ⟨rfl,O⟩;rw[b2];refine⟨_,rfl,an.dR (λH=>g (N.then O) ?_) (λQ=>?_)⟩
 ·rw[ar.add_def,Zx H]
 obtain⟨c1,c5,c3,c6,c7,c8,c9,f0,f1,j1⟩:=gZ Q;obtain⟨o,n⟩:∃o:Nat,e.origin=o:=⟨e.origin.toNat,oM⟩
 have I:o<S.n:=oM
 intro w4 d4;have k4:ai w3 w4:=d4.af;have s4:w4.heap.size=w3.heap.size:=by rw[d4.heap]
 have d5:=(N.then O).then k4;have z3:=O.size;have g4:=k4.get (O.get g2 id) id;have b3:=f.ah d5;obtain⟨r,a5,n5,d6,P,m,J,j⟩:∃(r:aj) (d:ZH) (a c:Nat) (P:Bool),(az q.l (aI e)).getD (iP pW none 0 0)=iP r d a c/\(az q.l (aI e)).isSome=P/\(S.get (aI e)).isSome=P:=by
  rcases b3.look E (aI e)with⟨m,J⟩|⟨B,a0,m,J,b8,n3,c3,rfl,j2,j3⟩
  ·exact⟨pW,none,0,0,false,by rw[m];rfl,by rw[m];rfl,by rw[J];rfl⟩
  ·exact⟨a0,b8,n3,c3,true,by rw[m];rfl,by rw[m];rfl,by rw[J];rfl⟩
 refine⟨λP=>P=w4.heap.size,p,0,rfl,oM,_,ae b3.at' rfl,oM,_,_,ae g4 rfl,ae g4 rfl,bN (pT r a5 n5 d6) ⟨P,λw' K=>?_,PA.mk λw5 k5 s5 g5=>⟨ai.af k5,aA (aU r a5 n5 d6) g5 rfl λw6 k6 s6 g6=>⟨k6,?_⟩⟩⟩⟩
 ·have:=ep Nr SI (b3.map.af K oM) (aI e) true
  rw[m,J]at this;exact this
 have R:ai w w6:=(d5.then k5).new k6 λP b=>.inr oM;have b4:=k6.get (k5.get g4 id) oM;have h5:=f.ah R;refine an.mk (λs=>g R ?_) (λhf=>?_)
 ·rw[ar.add_def,Zq (by simpa using Q),Zx (by rw[j,s])]
 obtain⟨c2,o8,x8,h6,d8,-,h7⟩:=(d3.ah R).lb (i:=o) oM;have d9:x8=(S.pU o:Int):=by rw[S.ke I]at d8;exact(XJ d8).symm
 subst d9;have j4:=S.HG o;refine⟨_,ae b4 rfl,p,0,rfl,_,_,_,ae h5.at' rfl,_,ae b4 rfl,c2,o8,h6,c1,oM,_,by rw[n];exact h7,λw7 d7=>?_⟩;have k7:ai w6 w7:=d7.af;have s7:w7.heap.size=w6.heap.size:=by rw[d7.heap]
 have b5:=R.then k7;rw[aq oM];refine an.dR (λH=>g b5 ?_) (λe0=>?_)
 ·rw[ar.add_def,Zq (by simpa using Q),Zq (by rw[j,hf];simp),Zx]
  rw[n,Qx,S.gi I];simpa using H
 have h8:=f.ah b5;have h9:=k7.get b4 id;have c4:e.seq=S.vec.getD e.origin.toNat 0+1:=by rw[n,Qx,S.gi I];simpa using e0
 have k:∀{a1:Int×ar},(if(List.range S.n).any λo=>!S.jo e o then((9:Int),S)else(0,⟨S.n,cZ e S.l⟩))=a1->S.add e=a1:=λ{a1} A=>by
  rw[ar.add_def,Zq (by simpa using Q),Zq (by rw[j,hf];simp),Zq (by simpa using c4)];exact A
 refine⟨p,0,rfl,_,_,_,ae h8.at' rfl,λa3 i w'=>∃h:Nat,i=h/\h<=S.n/\a3=S.n-h/\(∀l,l<h->S.jo e l=true)/\ai w7 w',⟨_,0,rfl,Qj _,rfl,λl s=>oM,ak.refl _⟩,?_⟩;rintro a3 i _ w8 ⟨h,rfl,hj,rfl,a4,T⟩;have U:=b5.then T;have e1:=T.get h9 id;have z8:=T.size;rw[b2];refine an.dec (λj5=>?_) (λj6=>?_)
 ·refine au (aU e d a c) e1 (PC.ok (Nu (eQ.ah U) (A.ah U) he oM (o:=h) oM) ?_)
  rintro _ w9 ⟨rfl,k9⟩;refine⟨_,rfl,an.not (an.mk (λK=>?_) (λK=>g (U.then k9) (k (Zx ?_))))⟩
  ·refine⟨_,oM,h+1,aq oM,oM,rfl,λl s=>?_,T.then k9⟩
   by_cases i0:l=h
   ·rw[i0];exact K
   ·exact a4 l oM
  ·rw[List.any_eq_true]
   exact⟨h,by simp;omega,by rw[K];rfl⟩
 ·have a6:=k (Zq (by rw[Bool.not_eq_true,AR];intro l s;exact a4 l oM))
  intro e2 e3;have e4:ai w8 e2:=e3.af;have j7:e2.heap.size=w8.heap.size:=by rw[e3.heap]
  have L:=U.then e4;have V:=e4.get e1 id;have e5:=f.ah L;have i1:=(A.ah L)
  refine⟨λP=>P=q.r,p,0,rfl,f.Sm,_,ae e5.at' rfl,oM,_,_,ae V rfl,ae V rfl,au (aU e d a c) V (PC.ok (kY i1 λP b=>by have:=(hD P b).1;have:=L.size;omega) ?_)⟩;rintro _ i2 ⟨b7,b9,c0,G,rfl,e6,hG,W⟩;have a7:=L.then W;have X:=f.ah a7;have i8:=L.size;refine bN (pT e b7 b9 c0) ⟨rfl,ai.af W,iI (enc:=BM) (k:=aI e) Nr SI X.map λe7 e8 t j8=>⟨t,λe9 f2=>?_⟩⟩;have u:ai e7 e9:=f2.af;have j9:e9.heap.size=e7.heap.size:=by rw[f2.heap]
  have a8:=u.get (t.get X.at' f.Sm) id;have a9:=u.get (t.get (W.get V id) oM) id;have b0:=(X.vec.af t λP b e=>f.Rv.2 (e▸b)).ah u;obtain⟨f4,f5,i3,a2,b1,-,f6⟩:=(b0.row (bytes:=8) dC (by rw[S.bJ];unfold aN;omega)).lb (i:=o) oM;have d0:i3=(S.pU o:Int):=by rw[S.ke I]at b1;exact(XJ b1).symm
  subst d0;refine⟨p,0,rfl,_,_,_,ae a8 rfl,_,ae a9 rfl,f4,f5,a2,c1,oM,_,by rw[n];exact f6,f4,f5,a2,c1,oM,?_⟩;rw[n,Qx,aq oM];refine Ns b0 (by rw[S.bJ];exact I) bb a2 λf7 g0 M k0=>λg3 g7=>?_;have v:ai f7 g3:=g7.af;have l0:g3.heap.size=f7.heap.size:=by rw[g7.heap]
  have x:∀P,aE q.a=some P->q.V P:=λP b=>f.vec.self P b;have i4:¬aE q.a=some p:=λe=>f.Rv.1 (x p e);have i5:¬aE q.a=some w.heap.size:=λe=>by have:=f.vec.aC _ (x _ e);omega
  have b6:=v.get (M.get a8 i4) id;have g8:=v.get (M.get a9 i5) id;refine⟨p,0,rfl,_,ae b6 rfl,_,ae g8 rfl,p,0,rfl,PS.mk b6 sM λg9 Y l3 i6=>?_⟩;have l4:=W.size;have i7:¬aE q.a=some q.r:=λe=>f.Rv.2 (x _ e);refine Ok.mk ⟨by rw[a6],λP=>F P\/G P,?_,?_,?_⟩
  rotate_left
  ·have Z:ak F w g9:=((((ai.af a7).then (t.mono λP _ b=>f.sub P (.inr (.inl b)))).then (ai.af u)).then ((M.mono λP _ b=>f.sub P (.inr (.inr (.inl (x P b))))).then (ai.af v))).then (Y.mono λP _ b=>f.sub P (.inl b))
   exact Z
  ·intro P b;rcases b with b|b
   ·exact .inl b
   ·exact .inr (by have:=hG P b;omega)
  have h3:=(ar.xq E he).1;rw[a6]at h3⊢;have y:∀P,G P->P≠p/\P≠q.r/\¬q.V P:=λP b=>by
   have:=hG P b;refine⟨oM,oM,λhv=>?_⟩;have:=f.vec.aC P hv;omega
  refine⟨h3,⟨q.a,q.n,q.c,q.r,q.V,λP=>q.D P\/G P,aG q.l (aI e) (iP e b7 b9 c0),aG q.L (aI e) e⟩,?_,?_,?_,?_,?_,?_,?_,?_,f.Sm,f.Rv,?_,?_⟩
  ·have s:(if e.ax>S.top then e.ax else S.top)=max S.top e.ax:=by split<;>omega
   rw[i6,ar.Pk,<-s];rfl
  ·rw[show ar.vec ⟨S.n,cZ e S.l⟩=S.vec.set o ((S.pU o+1:Nat):Int) by rw[ar.Pl S e n];simp]
   exact(g0.ah v).af Y λP b e=>f.Rv.1 (e▸b)
  ·exact(((e8.ah u).af M i7).ah v).af Y λe=>f.Sm e.symm
  ·have Z:ak (λP=>P=q.r\/aE q.a=some P\/P=p) i2 g9:=((t.mono λP _ b=>.inl b).then (ai.af u)).then (((M.mono λP _ b=>.inr (.inl b)).then (ai.af v)).then (Y.mono λP _ b=>.inr (.inr b)))
   have hd:∀P,q.D P\/G P->¬(P=q.r\/aE q.a=some P\/P=p):=by
    rintro P (b|b) (e|e|e)
    ·exact f.Sn.2 (e▸b)
    ·exact f.TK P (x P e) b
    ·exact f.Sn.1 (e▸b)
    ·exact(y P b).2.1 e
    ·exact(y P b).2.2 (x P e)
    ·exact(y P b).1 e
   refine eT.aG ⟨b7,b9,c0,rfl,(e6.mono λP b=>.inr b).af Z hd,he⟩ (X.rel.mono λB f3 hu=>(hu.mono λP b=>.inl b).af Z hd)
  ·intro r j
   rcases fy j with rfl|j
   ·rfl
   ·exact f.key r j
  ·have d1:az q.L (aI e)=none:=by
    rw[Gn E f.key f.Sl f.tidy];have:=j.trans hf;simpa using this
   have:∀z:List ((Int×Int)×aj),az z (aI e)=none->aG z (aI e) e=z++[(aI e,e)]:=by
    intro z
    induction z with
    |nil=>intro _;rfl
    |cons a0 z ih=>
     intro hL;obtain⟨y1,y2⟩:=a0;unfold az at hL;unfold aG;split at hL
     ·cases hL
     ·rename_i H
      rw[Zq H,ih hL];rfl
   rw[this _ d1,Q3];exact(List.perm_append_comm.trans (List.Perm.cons e f.Sl)).trans (cO e S.l).symm
  ·intro P b
   rcases b with b|b
   ·have:=f.aC P b;omega
   ·have:=hG P b;omega
  ·rintro P (b|b|b|b|b)
   ·exact .inl (f.sub P (.inl b))
   ·exact .inl (f.sub P (.inr (.inl b)))
   ·exact .inl (f.sub P (.inr (.inr (.inl b))))
   ·exact .inl (f.sub P (.inr (.inr (.inr b))))
   ·exact .inr b
  ·refine⟨?_,?_⟩
   ·rintro(b|b)
    ·exact f.Sn.1 b
    ·exact(y _ b).1 rfl
   ·rintro(b|b)
    ·exact f.Sn.2 b
    ·exact(y _ b).2.1 rfl
  ·rintro P hv (b|b)
   ·exact f.TK P hv b
   ·exact(y _ b).2.2 hv
def Pm{d P:TypeId}(g:il h d P 1 8)(e:(h.info? P).bind (·.zero)=some (XH 0))(i:a<=c)(b:c*8<=aN){w:World}(f:∀w',aO aJ P (·=w.heap.size) w' (XM w.heap.size) a c (List.replicate a 0)->ai w w'->w'.heap.size=w.heap.size+1->m (.slice (XM w.heap.size) a c) w'):
  aD h (Instr.makeSlice d (XH (a:Int)) (XH (c:Int))) w m s:=by
 unfold aN at b;obtain⟨n,o,j,k,p,q,y⟩:=g.info;have r:o= XH 0:=by
  rw[j]at e;simp only[Option.bind_some,k]at e;exact XJ e
 subst r;have l:=run_make (P:=h) w d P n _ g.under j k .i64 .i64 a c oM oM (by rw[q];omega) oM;rw[Qx,Qx,p,Nat.mul_one]at l;have t:ai w (w.alloc (.cells (madeCells (Value.int .i64 0).cells c) P)):=ak.alloc w _;have u:(madeCells (Value.int .i64 0).cells c).toList=List.replicate c (XH 0):=by
  unfold madeCells;rw[Array.toList_map];apply List.ext_getElem
  ·simp
  ·intro z A B
   simp[Value.cells,Nat.mod_one]
 refine aD.mk l (f _ ⟨⟨List.replicate a (XH 0),λ_=>False,⟨⟨by simp[aJ,flat],.inr ⟨w.heap.size,c,_,rfl,Qj _,heap_alloc_new w _,i,by unfold maxLen;omega,by simp[size_madeCells,aJ,flat],?_⟩⟩⟩,?_,λ_ f=>f.elim⟩,λv b=>by simpa[aE]using b.symm,λv b=>by subst b;simp⟩ t sM)
 ·rw[u]
  simp only[aJ,flat,Nat.mul_one,List.take_replicate];rw[X2 i]
 ·exact jg.2 ⟨by simp[ints],λC x=>by rw[List.eq_of_mem_replicate x];simp[aP]⟩
def Cb(g:a<=64):ZG 72 #[XH (a:Int)] w (Ok λh w'=>∃p F,h= XL p/\cu w' p F ⟨a,[]⟩/\(∀P,F P->w.heap.size<=P)/\ai w w'):=by
 refine Cs (Pm qA kR (Q4 _) ba λw1 i j r=>⟨_,_,_,rfl,PA.mk λe f s k=>PA.mk λl c t m=>Ok.mk ⟨_,λP=>w.heap.size<=P/\P<l.heap.size,rfl,⟨ar.qU g,⟨_,a,a,w1.heap.size,(·=w.heap.size),λ_=>False,[],[]⟩,m,?_,bX.new (c.get k id),trivial,sM,List.Perm.refl _,λP b=>b.2,?_,by show e.heap.size≠w1.heap.size;omega,⟨by show e.heap.size≠_;omega,by show w1.heap.size≠_;omega⟩,⟨id,id⟩,λ_ _ n=>n⟩,λP b=>b.1,(j.then f).then c⟩⟩)
 ·have o:ar.vec ⟨a,[]⟩=List.replicate a 0:=by
   apply X3;intro q
   by_cases d:q<a
   ·rw[ar.ke ⟨a,[]⟩ d];simp[d,ar.pU]
   ·rw[Q7 (by rw[ar.bJ];exact Nat.le_of_not_lt d),Q7 bc]
  rw[o];exact(i.ah f).ah c
 ·rintro P (rfl|rfl|rfl|b)
  ·show _/\_;omega
  ·show _<=w1.heap.size/\w1.heap.size<_;omega
  ·omega
  ·exact b.elim
end
end Go.Proofs.YtblabbpipmodgaaGreatDoor
namespace Go.aw
open Go
abbrev FW(P:Option Nat):Fence:={Fence.wide with round:=P}
variable{E:Act}{S:Array Oper}{n:Array Value}{L:Bool}{h1 h2:Bool->XU}{a0:Code}{z:XT}{e4:Exit}{d3:Exit->Act->XU}{a5:Func}{y:FuncId}{b0:List Nat}{a1 e3:List Value}{a c i:Nat}{f:XN}{c3:Obj}{O:Oper}{Q:Operand}{e2:Operand->Value}{c4:Option Nat}{h:Program}{m:XR}{b k:World}{T:bL}{N:cH}{b8:gy}{e1:jW}
def rW:CallsIn (FW c4) a h y n b z↔Calls h y n b z:=
 ⟨λP=>callsIn_wide.1 (show CallsIn Fence.wide a h y n b z from P),λP=>show CallsIn (FW c4) a h y n b z from(callsIn_wide (n:=a)).2 P⟩
def Pa(P:Nat):(FW c4).room P:=λ_ a=>by simp[Fence.wide]at a
def KY{P:String}(c:Rows h P n b m):RowsIn (FW c4) a h P n b m:=by
 intro d cs _;obtain⟨e,f,g,i⟩:=c d cs;exact⟨e,f,g,(stepsIn_wide (P:=h)).2 i⟩
def tT(P:Oper):Bool:=match P.op with
 | .defer _=>false
 |_=>true
def tT.out(P:tT O=true):∀a,O.op≠.defer a:=by
 intro a b;unfold tT at P;rw[b]at P;cases P
section
variable {P:Program} {ro:Option Nat} {n:Nat}
def JB{next:Act->XU}(d:ro=none\/tT O=true)(a:O.wp P E b next d3):O.wpIn (FW ro) n P E b next d3:=by
 refine⟨λ_ _=>trivial,?_⟩;have f:O.semAt (FW ro).round E.eval=execOp E.eval O:=by
  rcases d with rfl|d
  ·rfl
  ·exact Oper.semAt_eq _ _ _ (tT.out d)
 rw[f];unfold Oper.wp at a;generalize(execOp E.eval O).run P b=g at a⊢
 cases g with
 |ok e h=>
  cases e with
  |value i=>exact a
  |skip=>exact a
  |defer j=>exact a
  |enter k c=>exact⟨λa=>by simp[Fence.wide]at a,rW.2 a⟩
  |row row c=>exact⟨λa=>by simp[Fence.wide]at a,KY a⟩
  |_=>exact a.elim
 |halt e h=>cases e<;>first|exact a|exact a.elim
def pw{b:Array Oper}{g:Exit->Act->XU}(h:∀d c,¬g .outgrown d c)(e:ro=none\/∀i∈b.toList,tT i=true):∀(f:List Nat) (d:Act) (c:World),wpOps P b g f d c->wpOpsIn (FW ro) n P b g f d c
 |[],d,c,a=>a
 |l::f,d,c,a=>by
  unfold wpOps at a;unfold wpOpsIn
  cases j:b[l]? with
  |none=>rw[j]at a;exact pw h e f d c a
  |some i=>
   rw[j]at a;simp only at a⊢;split
   ·rename_i k
    rw[Zx k]at a;rcases a with a|⟨-,m,o,a⟩
    ·have p:i.wp P d c (wpOpsIn (FW ro) n P b g f) g:=Oper.wp_mono (λd c a=>pw h e f d c a) a
     refine JB ?_ p;rcases e with e|e
     ·exact .inl e
     ·refine .inr (e i ?_)
      obtain⟨q,rfl⟩:=Q5.1 j;simp
    ·exact Zz a (h m o)
   ·rename_i k
    rw[Zq k]at a;exact⟨λ_ _=>trivial,pw h e f _ c a⟩
end
section
variable {F:Fence} {n:Nat} {P:Program} {Q:Exit->Act->XU} {a:Act} {w:World} {b:Frame} {k:List Item} {cs:List Frame}
def fS:step P (lone (b.atR a (.code (.scope a0)::k)) cs w)= .next (lone (b.atR a (.code a0:: .inScope a0::k)) cs w):=
 step_lone_go (by simp[stepG,stepG.exec,Frame.atR])
def AN:step P (lone (b.atR a (.inScope a0::k)) cs w)= .next (lone (b.atR a k) cs w):=
 step_lone_go (by simp[stepG,stepG.exec,Frame.atR])
def Ix(o:a0.wpIn F n P (Exit.noGoto Q) a w):(Code.scope a0).wpIn F n P Q a w:=by
 intro b k cs p h i;have e:(lone (b.atR a (.code (.scope a0)::k)) cs w).fenced P F:=fenced_calm h i rfl;obtain⟨q,c,d,f,g⟩:=o b (.inScope a0::k) cs p h i
 cases q with
 |normal=>exact⟨.normal,c,d,f,.head e fS (StepsIn.trans g (.one (fenced_calm h i rfl) AN))⟩
 |exit id=>
  have m:exitTo id (.inScope a0::k)=exitTo id k:=by simp[exitTo]
  exact⟨.exit id,c,d,f,λr j=>.head e fS (g.1 r (by rw[m];exact j)),
   λl j=>let⟨k₁,h1,h2⟩:=g.2 l (by rw[m];exact j);⟨k₁,h1,.head e fS h2⟩⟩
 |goto s=>exact f.elim
 |ret=>exact⟨_,c,d,f,.of_steps (.one e fS) g⟩
 |panic t=>exact⟨_,c,d,f,.of_steps (.one e fS) g⟩
 |outgrown=>exact⟨_,c,d,f,.of_steps (.one e fS) g⟩
def wpIn_loop_ghost(b:Nat->Act->XU)(c:Nat)(g:b c a w)(d:∀e a w,b e a w->a0.wpIn F n P (Exit.then (λh i=>∃l,l<e/\b l h i) Q) a w):(Code.loop a0).wpIn F n P Q a w:=by
 refine wpIn_loop (λa w=>∃e,b e a w) (λa w=>leastOf (λe=>b e a w)) ⟨c,g⟩ ?_;intro a w m;refine wpIn_mono (d _ a w (leastOf_spec m).1) ?_;intro o h i f
 cases o with
 |normal=>
  obtain⟨j,p,k⟩:=f;exact show(∃n,b n h i)/\leastOf (λn=>b n h i)<leastOf (λn=>b n a w)from⟨⟨j,k⟩,Nat.lt_of_le_of_lt ((leastOf_spec ⟨j,k⟩).2 j k) p⟩
 |exit id=>exact f
 |goto q=>exact f
 |ret=>exact f
 |panic r=>exact f
 |outgrown=>exact f
end
def Iy(A:h.follows .mixedOrders=true){n id:Nat}(B:∀a,a∈writes (.region id S L)->a<n)(p:Rel n T N E)(P:D h e1 (.region id S L) b8 T N E.defers b):
  (L=false->wpOps h S (cX n T N (writes (.region id S L)) b8) (List.range S.size) E b)/\
  (L=true->∀a,wpOps h S (cX n T N (writes (.region id S L)) b8) (Region.schedule (h.follows .mixedOrders) S a) E {b with drawn:=b.drawn+1}):=by
 have m:∀j∈S.toList,∀k,j.dst=some k->k<n/\k∈writes (.region id S L):=λj g k y=>⟨B k (ji g y),ji g y⟩
 have q:∀r a,iC S r=some a->a<n:=by
  intro r a l;unfold iC at l
  cases g:S[r]? with
  |none=>rw[g]at l;simp at l
  |some j=>
   rw[g]at l;have C:j∈S.toList:=by
    have:=Q5.1 g;obtain⟨O,rfl⟩:=this;simp
   exact(m j C a l).1
 cases L with
 |false=>
  refine⟨λ_=>?_,λP=>by cases P⟩;rw[List.range_eq_range',<-XK,wpOps_eq_wpList S.toList 0 sM];exact xf q S.toList N E b m p (λ_ _=>rfl) P
 |true=>
  refine⟨λP=>(by cases P),λ_ a=>?_⟩;simp only[Region.schedule,A,Bool.true_or,if_true];refine wpAny_sound S.size a _ E _ ?_;unfold D at P;simp only at P;split at P
  ·obtain⟨s,P⟩:=eL.out P
   simp only[Region.lexB,QK]at s;have F:=oO (B0:=T) (e0:=N) (W:=writes (.region id S true)) q S.toList N E m p (λ_ _=>rfl) P;have H:wpQuiet h S (bG b) (λo=>∀c,bG b c->cX n T N (writes (.region id S true)) b8 .normal o c) S.toList E:=by
    refine iZ ?_ _ _ F;rintro o ⟨I,t,u,J,K⟩ c f;exact⟨T,I,t,J,by rw[u];exact K c f⟩
   refine wpAny_of_quiet (C:=bG b) (Q:=λo=>∀c,bG b c->cX n T N (writes (.region id S true)) b8 .normal o c) (λ_ c f P=>P c f) _ _ _ _ ⟨1,rfl⟩ ?_;have:=wpAnyQ_lex (C:=bG b) (md:=.any) s.1 S.toList 0 (Array.replicate S.size false) E sM (by simpa using s.2) H;simpa using this
  ·obtain⟨M,P⟩:=eL.out P
   have d:∀(e:Bool) (i:XN) (v:Nat->Bool),tE h T S e i (λw x b=>∀T N,b8 (.panic w) T N x b) (λN x b=>b8 .normal T N x b) v S.size (Array.replicate S.size false) N E.defers (b.drewN 1)->
     wpAny h .any S (cX n T N (writes (.region id S true)) b8) S.size (Array.replicate S.size false) E {b with drawn:=b.drawn+1}:=λe i v P=>
    mE (λw E b P=>yK.post w E b P) (λ_ _ P=>P) _ _ _ _ _ (kh (B0:=T) (e0:=N) (W:=writes (.region id S true)) q M m v _ _ N E _ p (λ_ _=>rfl) P)
   split at P
   ·split at P
    ·obtain⟨i,P⟩:=P _ ⟨1,rfl⟩
     exact d _ i _ P
    ·exact d _ _ _ (P _ ⟨1,rfl⟩)
   ·obtain⟨z,P⟩:=eL.out P
    split at P
    ·obtain⟨i,P⟩:=P _ ⟨1,rfl⟩
     rw[oS z _ _ (CV.init _)]at P;exact d _ i _ P
    ·have P:=P _ ⟨1,rfl⟩
     rw[oS z _ _ (CV.init _)]at P;exact d _ _ _ P
def mq(a:Program)(b:Nat)(c:List Value)(d:World)(e:Bool->XU):Prop:=
 YieldAt (FW none) 0 a b c.toArray d λf g=>∃P,f= .returned (.bool P)/\e P g
def mq.mono(g:mq h a a1 b h1)(i:∀c f,h1 c f->h2 c f):mq h a a1 b h2:=by
 obtain⟨j,d,P,e,k,l⟩:=g;exact⟨j,d,P,e,k,l.mono λn f ⟨c,m,g⟩=>⟨c,m,i c f g⟩⟩
def Rh(b:Program)(c:Value)(P:Array Value)(d:World)(e:XR):Prop:=
 ∃a,c= .func (.yield a) #[] #[]/\mq b a P.toList d λf g=>e (.bool f) g
def xh(P:Oper):Option (Operand×Array Operand):=match P.op with
 | .call {callee:=.value (.func _),..}=>none
 | .call {callee:=.value f,args,..}=>some (f,args)
 |_=>none
def Nk(e:Program)(b:bL)(c:Array Oper)(i:gy)(d:Oper)(f:cH->List Deferred->XU)(a:cH)(g:List Deferred)(h:World):Prop:=match xh d with
 |some (j,P)=>Rh e (ev b a j) (P.map (ev b a)) h λk l=>f (bS a d.dst k) g l
 |none=>OI e c b d i f a g h
def px(c:Program)(b:bL)(P:Array Oper)(d:gy):List Oper->(cH->List Deferred->XU)->cH->List Deferred->XU
 |[],f,e,g,h=>f e g h
 |j::a,f,e,g,h=>match j.guard with
  |none=>Nk c b P d j (px c b P d a f) e g h
  |some (l,i)=>match iC P l with
   |none=>False
   |some k=>match get b e k with
    | .bool m=>an m
     (match i with
      |true=>Nk c b P d j (px c b P d a f) ((k,.bool true)::e) g h
      |false=>px c b P d a f (bS ((k,.bool true)::e) j.dst undef) g h)
     (match i with
      |true=>px c b P d a f (bS ((k,.bool false)::e) j.dst undef) g h
      |false=>Nk c b P d j (px c b P d a f) ((k,.bool false)::e) g h)
    | .tuple _=>px c b P d a f (bS e j.dst undef) g h
    |_=>False
def Iz{P d:Code}(e:RoundIn (FW none) c h i y n P d b z):RoundIn (FW c4) a h i y n P d b z:=
 ⟨trivial,λf cs _=>e.2 f cs (Pa _)⟩
def Dt{P:Array Operand}{l:Nat}(a:xh O=some (Q,P))(d:e2 Q= .func (.yield l) #[] #[]):
  (execOp e2 O).run h b=(Instr.yield l (P.map e2)).run h b:=by
 unfold xh at a;split at a
 ·cases a
 ·rename_i f c g e
  simp only[Q1,Prod.mk.injEq]at a;obtain⟨rfl,rfl⟩:=a;simp only[execOp,e,resolve,d];simp[Deferred.ofValue,invoke,Sem.run_bind,Sem.run_pure,Result.andThen]
 ·cases a
def tU{w:Program}{B:Option Nat}{L o:Nat}{f t:bL}{u:cH}{l:List Nat}{a:Array Oper}{m:gy}(M:∀n b,iC a n=some b->b<o)(S:∀a1 f P y g,m a1 f P y g->a1≠.outgrown)(v:B=none\/∀e∈a.toList,tT e=true):
  ∀(N:List Oper) (p:Nat) (P:cH) (j:Act) (g:World),(∀n,N[n]? =a[p+n]?)->(∀e∈N,∀h,e.dst=some h->h<o/\h∈l)->Rel o f P j->(∀b,b∉l->get f P b=get t u b)->
   px w f a m N (λP y g=>m .normal f P y g) P j.defers g->wpOpsIn (FW B) L w a (cX o t u l m) (List.range' p N.length) j g
 |[],p,P,j,g,_,_,k,i,d=>⟨f,P,k,i,d⟩
 |e::c,p,P,j,g,a2,T,k,i,d=>by
  have h0:a[p]? =some e:=by simpa using(a2 0).symm
  have a4:e∈a.toList:=by
   obtain⟨a7,rfl⟩:=Q5.1 h0;simp
  have U:∀n,c[n]? =a[p+1+n]? :=λn=>by have:=a2 (n+1);simpa[Nat.add_assoc,Nat.add_comm 1 n]using this
  have V:∀h,e.dst=some h->h<o:=λh v=>(T e (QV ..) h v).1;have W:∀(P:cH),(∀b,b∉l->get f P b=get t u b)->∀C b,b∉l->get f (bS P e.dst C) b=get t u b:=by
   intro P i C b X
   cases v:e.dst with
   |none=>exact i b X
   |some h=>
    have a5:=(T e (QV ..) h v).2;show get f ((h,C)::P) b=_;rw[dN,Zq (by rintro rfl;exact X a5)];exact i b X
  have z:∀e∈c,∀h,e.dst=some h->h<o/\h∈l:=λe ho=>T e (QJ _ ho);have A:∀(P:cH),Rel o f P j->(∀b,b∉l->get f P b=get t u b)->Nk w f a m e (px w f a m c λP y g=>m .normal f P y g) P j.defers g->
    e.wpIn (FW B) L w j g (wpOpsIn (FW B) L w a (cX o t u l m) (List.range' (p+1) c.length)) (cX o t u l m):=λP k i d=>by
   unfold Nk at d;split at d
   ·rename_i a8 E q
    obtain⟨Y,hf,fn,F,x,H,h1,h2⟩:=d;refine⟨λ_ _=>trivial,?_⟩;have Z:∀a3,e.op≠.defer a3:=by
     intro a3 Z;unfold xh at q;rw[Z]at q;cases q
    rw[Oper.semAt_eq _ _ _ Z,k.eval,Dt (l:=Y) q hf];have a6:(Instr.yield Y (E.map (ev f P))).run w g= .ok (.round Y fn F x H) g:=by
     have:=h1
     rwa [Array.toArray_toList]at this
    rw[a6,Oper.uponIn_round];refine⟨λd=>by simp[Fence.wide]at d,(Iz h2).mono ?_⟩;rintro _ w' ⟨I,rfl,hK⟩;exact tU M S v c (p+1) _ _ _ U z (k.put _ V _) (W P i _) (by rw[put_defers];exact hK)
   ·refine JB (v.imp id λv=>v e a4) ?_
    exact HO k V d (λC a' w' a0 hK=>tU M S v c (p+1) _ _ _ U z a0 (W P i C) hK) (λch w' hq=>⟨f,P,k,i,hq⟩)
  have r:∀(P:cH),Rel o f P j->(∀b,b∉l->get f P b=get t u b)->px w f a m c (λP y g=>m .normal f P y g) (bS P e.dst undef) j.defers g->
    wpOpsIn (FW B) L w a (cX o t u l m) (List.range' (p+1) c.length) (j.put e.dst undef) g:=λP k i d=>
   tU M S v c (p+1) _ _ _ U z (k.put _ V _) (W P i _) (by rw[put_defers];exact d)
  simp only[Xq,List.range'_succ];unfold wpOpsIn;rw[h0];simp only;unfold px at d;split at d
  ·rename_i O
   rw[Zx (by simp[Region.wanted,O])];exact A P k i d
  ·rename_i n s O
   split at d
   ·exact d.elim
   ·rename_i b hj
    have q:=mD k hj (M n b hj);split at d
    ·rename_i I J
     rw[J]at q;simp only at q;have hw:Region.wanted e (yielded a j.tmps)=(I==s):=by
      simp only[Region.wanted,O,q]
      cases I<;>cases s<;>rfl
     rw[hw];have Q:=k.again J;have R:∀K,K∉l->get f ((b,.bool I)::P) K=get t u K:=λK hu=>by rw[pH J];exact i K hu
     cases I<;>cases s<;>simp only[an]at d
     ·exact A _ Q R d
     ·exact⟨λ_ _=>trivial,r _ Q R d⟩
     ·exact⟨λ_ _=>trivial,r _ Q R d⟩
     ·exact A _ Q R d
    ·rename_i vs J
     rw[J]at q;simp only at q;have hw:Region.wanted e (yielded a j.tmps)=false:=by
      simp[Region.wanted,O,q]
     rw[hw];exact⟨λ_ _=>trivial,r _ k i d⟩
    ·exact d.elim
def sQ(b:Nat)(P a:World):Prop:=ak (λc=>c=b) P a/\a.heap.size=P.heap.size
def rH(P:Nat)(a:World):Prop:=a.heap[P]? =some (.deferred (some []))
def JC(P:Nat):Deferred:={target:=.collected P,args:= #[]}
def IA:List Value->(List Value->Prop)->Prop
 |[],P=>P []
 |z::c,P=>match z with
  | .agg cs=>kU cs.toList λa=>IA c λb=>P (.agg a.toArray::b)
  |z=>kU [z] λa=>IA c λb=>P (a++b)
def qt(P:World):XN:=λa=>a≠P.heap.size/\a≠P.heap.size+1
def zo(a b:List Value):Prop:=∀P:List Value->Prop,IA a P->P b
def KZ:List (Exit×(XU))->(Exit->(XU)->Prop)->Prop
 |[],_=>True
 |(a,b)::c,P=>P a b/\KZ c P
def Sh(P:Exit->XU):List Exit->List (Exit×(XU))
 |[]=>[]
 |x::a=>(x,λb=>P x b)::Sh P a
def SH(P:Exit):List (Exit×(XU))->Prop
 |[]=>False
 |(a,_)::b=>P=a\/SH P b
def KZ.out{b:Exit->XU}{φ:Exit->(XU)->Prop}:∀{l:List Exit},KZ (Sh b l) φ->∀P,SH P (Sh b l)->P∈l/\φ P (λc=>b P c)
 |[],_,P,a=>a.elim
 |y::i,d,P,a=>by
  obtain⟨e,f⟩:=d;rcases a with rfl|a
  ·exact⟨QV ..,e⟩
  ·obtain⟨g,h⟩:=KZ.out f P a
   exact⟨QJ _ g,h⟩
def Hj(n:Program)(v:Value)(w:List Value)(b:World)(y:(List Value->Prop)->(List Value->Exit->XU)->XU)(z:XU)(p:List (Exit×(XU))):Prop:=
 ∃o l,v= .func (.func o) #[] l/\enters n o=true/\
 ∃(q:Type) (r:q) (g:q->List (List Value)->XU) (k:Exit->List (List Value)->XU) (s:List (List Value)->List Value->Prop) (t:List (List Value)->Prop),
  (∀i,ak (λ_=>False) b i->i.heap.size=b.heap.size+2->g r [] i)/\
  (∀c P a e,g c P a->sQ (b.heap.size+1) a e->g c P e)/\
  (∀x P a e,k x P a->sQ (b.heap.size+1) a e->k x P e)/\
  (∀c P a,g c P a->b.heap.size+2<=a.heap.size->y (s P) (λh x d=>match x with
   | .normal=>g c (P++[h]) d
   |x=>SH x p/\k x (P++[h]) d) a)/\
  (∀(j:XU) (m:Exit->XU),(∀a e,j a->ak (qt b) a e->j e)->(∀x a e,m x a->ak (qt b) a e->m x e)->
   (∀a,j a->b.heap.size+2<=a.heap.size)->
   (∀c P h a,g c P a->j a->zo w h->s P h->mq n (b.heap.size+1) h a λu d=>(u=true/\g c (P++[h]) d/\j d)\/(u=false/\∃x,k x (P++[h]) d/\m x d))->
   ∀i,g r [] i->j i->Calls n o (#[.func (.yield (b.heap.size+1)) #[] #[]]++l) i λA d=>(∃B,A= .returned B)/\((j d/\∃c f,g c f d/\t f)\/∃x P,k x P d/\m x d))/\
  (∀c f a,g c f a->t f->rH b.heap.size a->z a)/\
  KZ p λx C=>∀P a,k x P a->rH b.heap.size a->C a
def JD:List Nat->List Value->cH->cH
 |a::b,c::d,P=>JD b d ((a,c)::P)
 |_,_,P=>P
def K_:List (Nat×Value)->List Nat
 |[]=>[]
 |(P,_)::a=>P::K_ a
def gJ:Code->Bool
 | .region _ a _=>a.toList.all tT
 | .seq b c=>gJ b&&gJ c
 | .cond _ b c=>gJ b&&gJ c
 | .block _ P=>gJ P
 | .loop P=>gJ P
 | .scope P=>gJ P
 | .rangeFunc .. =>false
 |_=>true
def fH:Code->List Exit
 | .exit id=>[.exit id]
 | .ret=>[.ret]
 | .seq a b=>fH a++fH b
 | .cond _ a b=>fH a++fH b
 | .block _ P=>fH P
 | .loop P=>fH P
 | .scope P=>fH P
 |_=>[]
def Nl:Exit->Code
 | .ret=>.ret
 | .exit id=>.exit id
 | .goto P=>.goto P
 |_=>.skip
def Ri(P:Exit->XU):gy:=λb _ _ _ a=>match b with
 | .normal=>P .normal a
 | .ret=>P .ret a
 | .exit id=>P (.exit id) a
 |_=>False
def DR(g:Program)(f:jW)(h:List Nat):Bool->Code->gy->bL->cH->List Deferred->XU
 |_,.skip,d,c,P,b,a=>d .normal c P b a
 |_,.label _,d,c,P,b,a=>d .normal c P b a
 |_,.exit id,d,c,P,b,a=>d (.exit id) c P b a
 |_,.ret,d,c,P,b,a=>d .ret c P b a
 |_,.region id q p,d,c,P,b,a=>match AI h id with
  |true=>(match p with
   |false=>px g c q d q.toList (λP b a=>d .normal c P b a) P b a
   |true=>False)
  |false=>D g f (.region id q p) d c P b a
 |top,.seq i l,d,c,P,b,a=>match KF f.Mr (key l)with
  |none=>DR g f h top i (yN (λc P b a=>DR g f h top l d c P b a) d) c P b a
  |some e=>∃x:Fn (gD e) (XU),DR g f h top i (yN (λm s k j=>yM k b (ap (gD e) x (wP m s e) j)) d) c P b a/\
    eu (writes i) P λu=>kU (gD e) λn=>∀(m:bL) (j:World),ap (gD e) x n j->DR g f h top l d m (vG e n u) b j
 |top,.cond o i l,d,c,P,b,a=>match ev c P o with
  | .bool A=>an A (DR g f h top i d c P b a) (DR g f h top l d c P b a)
  |_=>False
 |top,.block id o,d,c,P,b,a=>DR g f h top o (uY id d) c P b a
 |top,.scope o,d,c,P,b,a=>DR g f h top o (CW d) c P b a
 |top,.loop o,d,c,P,b,a=>match KF f.loops (key o)with
  |none=>False
  |some e=>∃v:Nat->Fn (gD e) (XU),(∃t,ap (gD e) (v t) (wP c P e) a)/\
    ∀t,eu (writes o) P λu=>kU (gD e) λn=>∀(m:bL) (j:World),ap (gD e) (v t) n j->
     DR g f h top o (yN (λm s k j=>yM k b (∃y,y<t/\ap (gD e) (v y) (wP m s e) j)) d) m (vG e n u) b j
 |top,.rangeFunc B C i l,d,c,P,b,a=>match top with
  |false=>False
  |true=>match KF f.loops (key l)with
   |none=>False
   |some e=>eL (KE (K_ e) C.toList&&(gJ i&&gJ l)) (Hj g (ev c P B) (gD e) a
     (λE F r=>IA (gD e) λn=>E n->DR g f h false i (yN (λm s k j=>ak (qt a) r j/\∀w,sQ (a.heap.size+1) j w->DR g f h false l (Ri λi z=>ak (qt a) w z/\F n i z) m s k w) (λ_ _ _ _ _=>False)) c (JD (K_ e) n P) [] r)
     (λr=>d .normal c P (JC a.heap.size::b) r) (Sh (λi r=>d i c P (JC a.heap.size::b) r) (fH l)))
 |_,_,_,_,_,_,_=>False
def jM:Code->List Nat
 | .region _ c _=>Bq c.toList
 | .seq P a=>jM P++jM a
 | .cond _ P a=>jM P++jM a
 | .block _ b=>jM b
 | .loop b=>jM b
 | .scope b=>jM b
 | .rangeFunc _ d P a=>d.toList++(jM P++jM a)
 |_=>[]
def Nn:∀(a:List Value) (c:List Value->Prop),(∀P,P.length=a.length->c P)->IA a c:=by
 have e:∀(a:List Value) (c:List Value->Prop),(∀P,P.length=a.length->c P)->kU a c:=by
  intro a
  induction a with
  |nil=>intro c b;exact b [] rfl
  |cons h a f=>
   intro c b
   cases h
   case pointer i=>cases i<;>simp only[kU]<;>intros<;>exact f _ λP d=>b _ (by simp[d])
   all_goals(simp only[kU];intros;exact f _ λP d=>b _ (by simp[d]))
 intro a
 induction a with
 |nil=>intro c b;exact b [] rfl
 |cons h a f=>
  intro c b
  cases h
  case pointer i=>cases i<;>(simp only[IA];exact e [_] _ λP d=>f _ λk g=>b _ (by have j:P.length=1:=d;simp[j,g,Nat.add_comm]))
  case agg cs=>exact e cs.toList _ λP d=>f _ λk g=>b _ (by simp[g])
  all_goals(simp only[IA];exact e [_] _ λP d=>f _ λk g=>b _ (by have j:P.length=1:=d;simp[j,g,Nat.add_comm]))
def zo.len(P:zo a1 e3):e3.length=a1.length:=P _ (Nn a1 _ λ_ P=>P)
def FX:∀P:List (Nat×Value),(K_ P).length=(gD P).length
 |[]=>rfl
 |(_,_)::a=>by simp[K_,gD,FX a]
def BK{f:Nat}{j:bL}:∀(c:List Nat) (a:List Value) (d:cH) (P:Array Value),(∀b∈c,b<f)->a.length=c.length->Rel f j d {tmps:=P,defers:=[]}->
  Rel f j (JD c a d) {tmps:=(c.zip a).foldl (λb (k:Nat×Value)=>b.setIfInBounds k.1 k.2) P,defers:=[]}
 |[],a,d,P,_,e,g=>by
  cases a with
  |nil=>exact g
  |cons h a=>simp at e
 |b::c,a,d,P,l,e,g=>by
  cases a with
  |nil=>simp at e
  |cons h a=>
   exact BK c a ((b,h)::d) _ (λm i=>l m (QJ _ i)) (by simpa using e) (g.put (some b) (λm i=>by cases i;exact l b (QV ..)) h)
def FY:∀(a:Code) (b:Exit),b∈fH a->b= .ret\/∃id,b= .exit id:=by
 intro a
 induction a with
 |exit id=>intro b P;simp only[fH,List.mem_singleton]at P;exact .inr ⟨id,P⟩
 |ret=>intro b P;simp only[fH,List.mem_singleton]at P;exact .inl P
 |seq b g c d=>intro e P;exact(Q6.1 P).elim (c e) (d e)
 |cond a b g c d=>intro e P;exact(Q6.1 P).elim (c e) (d e)
 |block id a f=>exact f
 |loop a f=>exact f
 |scope a f=>exact f
 |_=>intro e P;cases P
def iF{w:World}{l:Nat}{o:Obj}:sQ l w (w.putObj l o):=
 ⟨⟨rfl,rfl,rfl,sM,λa _ P=>World.putObj_heap_other P⟩,sM⟩
def ak.obj(c:ak f b k)(P:b.heap[a]? =some c3)(d:¬f a):k.heap[a]? =some c3:=
 (c.block a (Q5.1 P).1 d).trans P
def cX.of(P:Rel a T N E)(c:b8 e4 T N E.defers b):cX a T N b0 b8 e4 E b:=⟨T,N,P,λ_ _=>rfl,c⟩
def Si(hm:h.follows .mixedOrders=true){n m:Nat}:∀(I:Code) (r:Option Nat) (d:Bool) (t:gy) (e:bL) (f:cH) (l:Act) (b:World),
  (r=none\/(d=false/\gJ I=true))->(∀a,a∈jM I->a<n)->(∀u e f Y b,t u e f Y b->u≠.outgrown)->Rel n e f l->DR h e1 b0 d I t e f l.defers b->I.wpIn (FW r) m h (cX n e f (writes I) t) l b:=by
 intro I
 induction I generalizing m with
 |skip=>intro r d t e f l b _ _ _ k P;exact wpIn_skip (cX.of k P)
 |label a0=>intro r d t e f l b _ _ _ k P;exact wpIn_label (cX.of k P)
 |exit id=>intro r d t e f l b _ _ _ k P;exact wpIn_exit (cX.of k P)
 |ret=>intro r d t e f l b _ _ _ k P;exact wpIn_ret (cX.of k P)
 |goto a0=>intro r d t e f l b _ _ _ k P;exact P.elim
 |refuse tK=>intro r d t e f l b _ _ _ k P;exact P.elim
 |scope I ih=>
  intro r d t e f l b C y J k P;refine Ix (wpIn_mono (ih r d (CW t) e f l b C y (by intro q e f Y b c Q;subst Q;exact J _ _ _ _ _ c rfl) k P) ?_);intro q v x o;obtain⟨z,w,B,F,c⟩:=o
  cases q with
  |goto a0=>exact c.elim
  |normal=>exact⟨z,w,B,F,c⟩
  |exit id=>exact⟨z,w,B,F,c⟩
  |ret=>exact⟨z,w,B,F,c⟩
  |panic ch=>exact⟨z,w,B,F,c⟩
  |outgrown=>exact⟨z,w,B,F,c⟩
 |region id A Z=>
  intro r d t e f l b C y J k P;have hd:r=none\/∀V∈A.toList,tT V=true:=C.imp (λP=>P) λP=>by
   have:=P.2;unfold gJ at this;exact ZY.1 this
  have d1:∀v x,¬cX n e f (writes (.region id A Z)) t .outgrown v x:=λl b ⟨e,f,_,_,c⟩=>J _ _ _ _ _ c rfl;unfold DR at P;split at P
  ·split at P
   ·have W:∀V∈A.toList,∀a5,V.dst=some a5->a5<n/\a5∈writes (.region id A false):=λV ho a5 hd=>⟨y a5 (ji ho hd),ji ho hd⟩
    have e9:∀c4 a,iC A c4=some a->a<n:=by
     intro c4 a N;unfold iC at N
     cases ho:A[c4]? with
     |none=>rw[ho]at N;simp at N
     |some V=>
      rw[ho]at N;have f0:V∈A.toList:=by
       obtain⟨d2,rfl⟩:=Q5.1 ho;simp
      exact(W V f0 a N).1
    refine wpIn_region ?_;rw[List.range_eq_range',<-XK];exact tU e9 J hd A.toList 0 f l b sM W k (λ_ _=>rfl) P
   ·exact P.elim
  ·obtain⟨h1,h2⟩:=Iy hm (n:=n) y k P
   cases Z with
   |false=>exact wpIn_region (pw d1 hd _ _ _ (h1 rfl))
   |true=>exact wpIn_region_draw λa=>pw d1 hd _ _ _ (h2 rfl a)
 |seq u R K L=>
  intro r d t e f l b C y J k P;have b4:r=none\/(d=false/\gJ u=true):=C.imp (λP=>P) λP=>⟨P.1,by have:=P.2;simp only[gJ,QK]at this;exact this.1⟩
  have b5:r=none\/(d=false/\gJ R=true):=C.imp (λP=>P) λP=>⟨P.1,by have:=P.2;simp only[gJ,QK]at this;exact this.2⟩
  have b6:∀a,a∈jM u->a<n:=λa j=>y a (Q6.2 (.inl j));have b7:∀a,a∈jM R->a<n:=λa j=>y a (Q6.2 (.inr j));have g:∀(a3:bL->cH->List Deferred->XU) (q:Exit) (v:Act) (x:World),q≠.normal->cX n e f (writes u) (yN a3 t) q v x->cX n e f (writes (u.seq R)) t q v x:=by
   intro a3 q v x f4 o;refine o.mono (λa j=>Q6.2 (.inl j)) (λ_ _=>rfl) λz w i8 w1 c=>?_
   cases q with
   |normal=>exact Zz rfl f4
   |outgrown=>exact c.elim
   |_=>exact c
  have d3:∀(a3:bL->cH->List Deferred->XU) q e f Y b,yN a3 t q e f Y b->q≠.outgrown:=by
   intro a3 q e f Y b c Q;subst Q;exact c.elim
  unfold DR at P;split at P
  ·have hx:=K (m:=m) r d _ e f l b b4 b6 (d3 _) k P
   refine wpIn_seq (wpIn_mono hx ?_);intro q v x o
   cases q with
   |normal=>
    obtain⟨z,w,B,F,c⟩:=o;have hy:=L (m:=m) r d t z w v x b5 b7 J B c;refine wpIn_mono hy (λq d4 d5 o=>?_);refine o.mono (λa j=>Q6.2 (.inr j)) (λa j=>F a λhm=>j (Q6.2 (.inl hm))) λ_ _ _ _ c=>c
   |exit id=>exact g _ _ _ _ sM o
   |goto a0=>exact g _ _ _ _ sM o
   |ret=>exact g _ _ _ _ sM o
   |panic ch=>exact g _ _ _ _ sM o
   |outgrown=>exact g _ _ _ _ sM o
  ·rename_i H hS
   obtain⟨f5,P,c5⟩:=P;obtain⟨w,h1,h2,c5⟩:=eu.out c5;have hx:=K (m:=m) r d _ e f l b b4 b6 (d3 _) k P;refine wpIn_seq (wpIn_mono hx ?_);intro q v x o
   cases q with
   |normal=>
    obtain⟨B2,e2,O,b8,c⟩:=o;obtain⟨b9,hJ⟩:=yM.out c;have hv:=lJ O H;have a7:=iD B2 e2 H;have d6:=ap.all a7 hJ c5 (λa=>v.tmps.getD a undef) x hJ;rw[hv,<-b9]at d6;have d7:=tJ (n:=n) H O.size h1 h2 (B0:=e) (λa j=>(O.slot a).trans (b8 a j));have hy:=L (m:=m) r d t _ _ v x b5 b7 J d7 d6;refine wpIn_mono hy (λq d4 d5 o=>?_);refine o.mono (λa j=>Q6.2 (.inr j)) (λa j=>?_) λ_ _ _ _ c=>c;rw[<-d7.slot];exact(O.slot a).trans (b8 a λhm=>j (Q6.2 (.inl hm)))
   |exit id=>exact g _ _ _ _ sM o
   |goto a0=>exact g _ _ _ _ sM o
   |ret=>exact g _ _ _ _ sM o
   |panic ch=>exact g _ _ _ _ sM o
   |outgrown=>exact g _ _ _ _ sM o
 |cond I u R K L=>
  intro r d t e f l b C y J k P;have b4:r=none\/(d=false/\gJ u=true):=C.imp (λP=>P) λP=>⟨P.1,by have:=P.2;simp only[gJ,QK]at this;exact this.1⟩
  have b5:r=none\/(d=false/\gJ R=true):=C.imp (λP=>P) λP=>⟨P.1,by have:=P.2;simp only[gJ,QK]at this;exact this.2⟩
  unfold DR at P;split at P
  ·rename_i f6 S
   refine wpIn_cond_split (t:=f6) (by rw[k.eval];exact S) (λj=>?_) (λhf=>?_)
   ·subst j
    refine wpIn_mono (K r d t e f l b b4 (λa j=>y a (Q6.2 (.inl j))) J k P) (λq v x o=>?_);exact o.mono (λa j=>Q6.2 (.inl j)) (λ_ _=>rfl) λ_ _ _ _ c=>c
   ·subst hf
    refine wpIn_mono (L r d t e f l b b5 (λa j=>y a (Q6.2 (.inr j))) J k P) (λq v x o=>?_);exact o.mono (λa j=>Q6.2 (.inr j)) (λ_ _=>rfl) λ_ _ _ _ c=>c
  ·exact P.elim
 |block id I ih=>
  intro r d t e f l b C y J k P;refine wpIn_block (wpIn_mono (ih r d (uY id t) e f l b C y (by intro q e f Y b c Q;subst Q;exact c.elim) k P) ?_);intro q v x o;obtain⟨z,w,B,F,c⟩:=o
  cases q with
  |exit a8=>
   show(if a8=id then _ else _);simp only[uY]at c
   cases S:Nat.beq a8 id with
   |true=>
    rw[S]at c;rw[Zx (X9 S)];exact⟨z,w,B,F,c⟩
   |false=>
    rw[S]at c;rw[Zq (by rintro rfl;simp at S)];exact⟨z,w,B,F,c⟩
  |normal=>exact⟨z,w,B,F,c⟩
  |goto a0=>exact⟨z,w,B,F,c⟩
  |ret=>exact⟨z,w,B,F,c⟩
  |panic ch=>exact⟨z,w,B,F,c⟩
  |outgrown=>exact c.elim
 |loop I ih=>
  intro r d t e f l b C y J k P;unfold DR at P;split at P
  ·exact P.elim
  ·rename_i H hS
   obtain⟨f7,⟨m0,h0⟩,f8⟩:=P;refine wpIn_loop_ghost (λm v x=>v.tmps.size=n/\(∀a,a∉writes I->v.tmps.getD a undef=get e f a)/\v.defers=l.defers/\
    ap (gD H) (f7 m) (H.map λa4=>v.tmps.getD a4.1 undef) x) m0 ⟨k.size,λa _=>k.slot a,rfl,by rw[<-lJ k H];exact h0⟩ ?_
   rintro mm v x ⟨f9,d8,b9,hI⟩;obtain⟨w,h1,h2,g0⟩:=eu.out (f8 mm);have a7:(H.map λa4=>v.tmps.getD a4.1 undef).length=(gD H).length:=by rw[<-iD e f H,xg];simp
   have S:=ap.all a7 hI g0 (λa=>v.tmps.getD a undef) x hI;have c0:=tJ (n:=n) H f9 h1 h2 d8;rw[<-b9]at S;have c6:=ih (m:=m) r d _ _ _ v x C y (by intro q e f Y b c Q;subst Q;exact c.elim) c0 S;refine wpIn_mono c6 ?_;intro q d4 d5 o;obtain⟨B2,e2,O,b8,c⟩:=o;have a9:∀a,a∉writes I->get B2 e2 a=get e f a:=λa j=>(b8 a j).trans ((c0.slot a).symm.trans (d8 a j))
   cases q with
   |normal=>
    obtain⟨g1,m',d2,g2⟩:=yM.out c;refine⟨m',d2,O.size,λa j=>(O.slot a).trans (a9 a j),g1.trans b9,?_⟩;rw[<-lJ O H];exact g2
   |outgrown=>exact c.elim
   |exit id=>exact⟨B2,e2,O,a9,c⟩
   |goto a0=>exact⟨B2,e2,O,a9,c⟩
   |ret=>exact⟨B2,e2,O,a9,c⟩
   |panic ch=>exact⟨B2,e2,O,a9,c⟩
 |rangeFunc g3 ps u R K L=>
  intro r d t e f l b C y J k P;unfold DR at P;split at P
  ·exact P.elim
  obtain rfl:r=none:=C.resolve_right λP=>by cases P.1
  split at P
  ·exact P.elim
  rename_i H hS;obtain⟨d9,P⟩:=eL.out P;simp only[QK]at d9;obtain⟨c1,g4,g5⟩:=d9;have c1:=KE.out c1;obtain⟨c7,a1,g6,g7,σ,s0,f5,Jx,a3,i9,g8,e0,c2,c6,g9,h3,h4⟩:=P;have b6:∀a,a∈jM u->a<n:=λa j=>y a (Q6.2 (.inr (Q6.2 (.inl j))));have b7:∀a,a∈jM R->a<n:=λa j=>y a (Q6.2 (.inr (Q6.2 (.inr j))));have h5:∀a,a∈ps.toList->a<n:=λa j=>y a (Q6.2 (.inl j));refine wpIn_rangeFunc ?_;intro fn _;obtain⟨p,s⟩:∃p:LoopState->Option Code->Loop,p=λst pe=>{state:=st,pending:=pe,fn,tmps:=l.tmps,params:=ps,assign:=u,body:=R,defers:=b.heap.size}:=⟨_,rfl⟩
  obtain⟨T,b2⟩:∃T,(b.alloc (.deferred (some []))).alloc (.loop (p .ready none))=T:=⟨_,rfl⟩
  have h6:T.heap[b.heap.size+1]? =some (.loop (p .ready none)):=by
   rw[<-b2];have:=World.alloc_heap_new (b.alloc (.deferred (some []))) (.loop (p .ready none));rwa [World.size_alloc]at this
  have h7:T.heap[b.heap.size]? =some (.deferred (some [])):=by
   rw[<-b2];exact(Go.RowKit.Below.heap_alloc _ _ _ sM).trans (World.alloc_heap_new b _)
  have h8:T.heap.size=b.heap.size+2:=by rw[<-b2];simp
  have h9:ak (λ_=>False) b T:=by
   rw[<-b2];exact⟨rfl,rfl,rfl,by simp;omega,λi0 E _=>(Go.RowKit.Below.heap_alloc _ _ _ bc).trans (Go.RowKit.Below.heap_alloc b _ i0 E)⟩
  let i1:XU:=λe1=>e1.heap[b.heap.size+1]? =some (.loop (p .ready none))/\e1.heap[b.heap.size]? =some (.deferred (some []))
  let Rx:Exit->XU:=λu e1=>SH u (Sh (λu A0=>t u e f (JC b.heap.size::l.defers) A0) (fH R))/\e1.heap[b.heap.size+1]? =some (.loop (p .done (some (Nl u))))/\e1.heap[b.heap.size]? =some (.deferred (some []))
  have c3:∀{e1 e:World} {V o':Obj},ak (qt b) e1 e->e1.heap[b.heap.size+1]? =some V->e1.heap[b.heap.size]? =some o'->e.heap[b.heap.size+1]? =some V/\e.heap[b.heap.size]? =some o':=λE h1 h2=>
   ⟨E.obj h1 λP=>P.2 rfl,E.obj h2 λP=>P.1 rfl⟩
  refine⟨b.heap.size+1,[JC b.heap.size],T,{target:=.fn (.func c7) a1,args:= #[.func (.yield (b.heap.size+1)) #[] #[]]},T,c7,#[.func (.yield (b.heap.size+1)) #[] #[]]++a1,T,?_,?_,λ_ _=>trivial,?_,λP=>by simp[Fence.wide]at P,?_⟩
  ·rw[<-b2,s];exact run_enterLoop_outer _ _ _ _ _
  ·have hg:l.eval g3= .func (.func c7) #[] a1:=by rw[k.eval];exact g6
   simp only[resolve,hg];simp[go_sem]
  ·simp only[invoke];exact gA g7 _ _
  refine rW.2 (Calls.mono (g9 i1 Rx (λe1 e P E=>c3 E P.1 P.2) (λu e1 e P E=>⟨P.1,c3 E P.2.1 P.2.2⟩) (λe1 P=>by have:=(Q5.1 P.1).1;omega) ?_ T (g8 T h9 h8) ⟨h6,h7⟩) ?_)
  ·
   rintro c8 M vs A1 N ⟨W,E⟩ e3 hN;have a7:=e3.len;have e4:vs.length=ps.toList.length:=by rw[a7,<-c1,FX]
   have hy:=run_yield (P:=h) (args:=vs.toArray) W (by rw[s];simpa using e4);rw[s]at hy;refine⟨fn,_,u,R,hy,roundIn_of_wpIn trivial ?_⟩;have S:=e3 _ (c6 c8 M A1 N (by have:=(Q5.1 W).1;omega)) hN;have c0:Rel n e (JD (K_ H) vs f) {tmps:=(ps.zip vs.toArray).foldl (λU (u:Tmp×Value)=>U.setIfInBounds u.1 u.2) l.tmps,defers:=[]}:=by
    have h0:Rel n e f {tmps:=l.tmps,defers:=[]}:=⟨k.size,k.slot⟩
    have:=BK ps.toList vs f l.tmps h5 e4 h0;rw[c1];have w:(ps.zip vs.toArray).foldl (λU (u:Tmp×Value)=>U.setIfInBounds u.1 u.2) l.tmps=(ps.toList.zip vs).foldl (λa (a4:Nat×Value)=>a.setIfInBounds a4.1 a4.2) l.tmps:=by
     rw[<-Array.foldl_toList,Array.toList_zip]
    rw[w];exact this
   have hx:=K (m:=0) (some (b.heap.size+1)) false _ e _ _ A1 (.inr ⟨rfl,g4⟩) b6 (by intro q e f Y b c Q;subst Q;exact c.elim) c0 S;refine wpIn_mono hx ?_;intro q i2 A2 o;obtain⟨z,w,B,-,c⟩:=o
   cases q with
   |exit id=>exact c.elim
   |goto a0=>exact c.elim
   |ret=>exact c.elim
   |panic ch=>exact c.elim
   |outgrown=>exact c.elim
   |normal=>
    obtain⟨i3,c⟩:=c;obtain⟨e5,i4⟩:=c3 i3 W E;refine⟨_,run_beginRound e5 (by rw[s]),?_⟩;have c:=c _ (iF (w:=A2) (l:=b.heap.size+1) (o:=.loop {p .ready none with state:=.busy}));have e6:(A2.putObj (b.heap.size+1) (.loop {p .ready none with state:=.busy})).heap[b.heap.size+1]? =some (.loop {p .ready none with state:=.busy}):=World.putObj_heap_same (Q5.1 e5).1;have e7:(A2.putObj (b.heap.size+1) (.loop {p .ready none with state:=.busy})).heap[b.heap.size]? =some (.deferred (some [])):=(World.putObj_heap_other oM).trans i4;generalize A2.putObj (b.heap.size+1) (.loop {p .ready none with state:=.busy})=A3 at c e6 e7;have hy:=L (m:=0) (some (b.heap.size+1)) false _ z w i2 A3 (.inr ⟨rfl,g5⟩) b7 (by intro q e f Y b c Q;subst Q;exact c.elim) B c;refine wpIn_mono hy ?_;have a2:∀(i:Option Code) (X:World),ak (qt b) A3 X->
      (Instr.endRound (b.heap.size+1) i).run h X= .ok (.bool i.isNone) (X.putObj (b.heap.size+1) (.loop (p (if i.isNone then .ready else .done) i)))/\
      (X.putObj (b.heap.size+1) (.loop (p (if i.isNone then .ready else .done) i))).heap[b.heap.size+1]? =some (.loop (p (if i.isNone then .ready else .done) i))/\
      (X.putObj (b.heap.size+1) (.loop (p (if i.isNone then .ready else .done) i))).heap[b.heap.size]? =some (.deferred (some [])):=λi X a6=>by
     obtain⟨e8,i5⟩:=c3 a6 e6 e7;have:=run_endRound (P:=h) i e8;rw[s]at this⊢;exact⟨this,World.putObj_heap_same (Q5.1 e8).1,(World.putObj_heap_other oM).trans i5⟩
    intro q j0 X o;obtain⟨B4,j1,j2,-,b1⟩:=o
    cases q with
    |normal=>
     obtain⟨a6,b3⟩:=b1;obtain⟨f1,f2,f3⟩:=a2 none X a6;exact⟨_,_,f1,true,rfl,.inl ⟨rfl,e0 _ _ _ _ b3 iF,f2,f3⟩⟩
    |ret=>
     obtain⟨a6,c9,b3⟩:=b1;obtain⟨f1,f2,f3⟩:=a2 (some .ret) X a6;exact⟨_,_,f1,false,rfl,.inr ⟨rfl,.ret,c2 _ _ _ _ b3 iF,c9,f2,f3⟩⟩
    |exit id=>
     obtain⟨a6,c9,b3⟩:=b1;obtain⟨f1,f2,f3⟩:=a2 (some (.exit id)) X a6;exact⟨_,_,f1,false,rfl,.inr ⟨rfl,.exit id,c2 _ _ _ _ b3 iF,c9,f2,f3⟩⟩
    |goto a=>exact b1.elim
    |panic ch=>exact b1.elim
    |outgrown=>exact b1.elim
  ·
   rintro ed A2 ⟨⟨j3,rfl⟩,(⟨⟨W,E⟩,c8,d0,N,hT⟩|⟨x1,M,N,i6,W,E⟩)⟩
   ·refine⟨none,_,by have:=run_endLoop (P:=h) W (by rw[s];simp);rw[s]at this;exact this,?_⟩
    exact cX.of (k.defers _) (h3 c8 d0 _ (e0 _ _ _ _ N iF) hT ((World.putObj_heap_other oM).trans E))
   ·refine⟨some (Nl x1),_,by have:=run_endLoop (P:=h) W (by rw[s];simp);rw[s]at this;exact this,?_⟩
    obtain⟨i7,c⟩:=KZ.out h4 x1 i6;rcases FY R x1 i7 with rfl|⟨id,rfl⟩
    ·exact wpIn_ret (cX.of (k.defers _) (c M _ (c2 .ret M A2 _ N iF) ((World.putObj_heap_other oM).trans E)))
    ·exact wpIn_exit (cX.of (k.defers _) (c M _ (c2 (.exit id) M A2 _ N iF) ((World.putObj_heap_other oM).trans E)))
def Ru(P:XU):List Deferred->XU
 |[],a=>P a
 |d::e,a=>match d.target with
  | .collected b=>rH b a/\∀c,sQ b a c->Ru P e c
  |_=>False
def PX(d:Program)(e:Func)(a:XT):gy:=λh f g b P=>match h with
 | .normal=>Ru (λP=>EX d e.results.toList f g P λc=>a (.returned (oneOf c)) P) b P
 | .ret=>Ru (λP=>EX d e.results.toList f g P λc=>a (.returned (oneOf c)) P) b P
 | .panic i=>Ru (λP=>a (.panicked i) P) b P
 |_=>False
def mQ{g:Program}{h:Func}{P:Array Value}{i:XT}{c:XU}{f:FrameMode}(j:f≠.run){k:Nat}(l:∀a,c a->LeavesIn (FW none) k g h P i [] f a):∀(e:List Deferred) (a:World),Ru c e a->LeavesInM (FW none) k g h P i e f a
 |[],a,b=>l a b
 |d::e,a,b=>by
  unfold Ru at b;split at b
  ·rename_i m n
   obtain⟨o,b⟩:=b;exact⟨j,.inl ⟨m,_,n,run_takeDeferred o,mQ j l e _ (b _ iF)⟩⟩
  ·exact b.elim
def sR(i:jW)(j:List Nat)(k:h.follows .mixedOrders=true)(l:h.funcs[y]? =some a5)(m:a5.body=some a0)(o:n.size<=a5.ntmps)(p:su a5.ntmps (jM a0)=true)(a:DR h i j true a0 (PX h a5 z) (λ_=>undef) (eE 0 n.toList) [] b):Calls h y n b z:=by
 refine rW.1 (callsIn_of_wp_marks (F:=FW none) (n:=0) l m trivial (wpIn_mono (Si k a0 none true (PX h a5 z) _ _ _ b (.inl rfl) (jD p) (by intro d e f u b P q;subst q;exact P.elim) (uZ o []) a) ?_));rintro d r v ⟨e,f,s,_,P⟩;have g:∀b,(EX h a5.results.toList e f b λc=>z (.returned (oneOf c)) b)->LeavesIn (FW none) 0 h a5 r.tmps z [] .returning b:=λb a=>by
  obtain⟨c,t,a⟩:=oT s a;exact⟨_,oU t,a⟩
 cases d with
 |normal=>exact mQ sM g _ _ P
 |ret=>exact mQ sM g _ _ P
 |panic w=>exact mQ sM (λb a=>a) _ _ P
 |exit id=>exact P.elim
 |goto c=>exact P.elim
 |outgrown=>exact P.elim
