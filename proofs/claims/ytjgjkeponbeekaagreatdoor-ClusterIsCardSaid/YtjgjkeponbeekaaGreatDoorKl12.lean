import Derived.Test.YtjgjkeponbeekaaGreatDoorKl11
import Derived.RangeFuncSeq
import Derived.RangeFuncLeaves
set_option maxHeartbeats 4000000
set_option linter.all false
set_option maxRecDepth 20000
namespace Go.Proofs.YtjgjkeponbeekaaGreatDoor
open Go.au
variable{a c:Nat}{d:YQ}{h:Program}{m s:ZR}{o:aj}
section
variable {w w' w1:World} {p:Nat} {F T:ZN} {S:aw} {q:Rn}
def DD{S:aw}:((List.range a).any λn=>!S.lY o n)=false↔∀n,n<a->S.lY o n=true:=by
 simp[List.any_eq_false]
def uh(b:ck w p F S){e:aj}{D:ZN}(A:Row aI 8 w D d a e.aQ)(hD:∀n,D n->n<w.heap.size/\¬F n)(he:e.Ok)(hl:S.l.length<4611686018427387904):
  YX 74 #[ZL p,jQ e d a c] w (Ok λB w'=>B= ZH (S.add e).1/\∃C,ck w' p C (S.add e).2/\bB F w C w'):=by
 have eh:=b;obtain⟨E,q,b⟩:=b;have hN:=E.n;have b2:=b.len;have j0:=ax b.at';have j1:=b.map.lt;have d5:=b.VV E;have f:∀{no:Int} {w':World},ai w w'->S.add e=(no,S)->Ok (λB w'=>B= ZH (S.add e).1/\∃C,ck w' p C (S.add e).2/\bB F w C w') (.returned (ZH no)) w':=λ{no w'} hg ha=>by
  refine Ok.mk ⟨by rw[ha],F,?_,ai.af hg,λn P=>.inl P⟩;rw[ha];exact eh.ah hg
 refine wH (PA.mk λw1 k1 s1 g1=>λw2 d2=>?_);have k2:ai w1 w2:=d2.af;have s2:w2.heap.size=w1.heap.size:=by rw[d2.heap]
 have N:=k1.then k2;have g2:=k2.get g1 id;have h5:=b.ah N;refine ar (aW e d a c) g2 ⟨p,0,rfl,_,_,_,ae h5.at' rfl,PC.ok (xZ (A.ah N) (by rw[b2];omega)) ?_⟩;rintro _ w3 ⟨rfl,O⟩;rw[b2];refine⟨_,rfl,al.dQ (λH=>f (N.then O) ?_) (λQ=>?_)⟩
 ·rw[aw.add_def,Zx H]
 obtain⟨c1,c4,c3,c5,c6,c7,c8,c9,f0,j2⟩:=rq Q;obtain⟨o,m⟩:∃o:Nat,e.origin=o:=⟨e.origin.toNat,oM⟩
 have I:o<S.n:=oM
 intro w4 d4;have k4:ai w3 w4:=d4.af;have s4:w4.heap.size=w3.heap.size:=by rw[d4.heap]
 have d6:=(N.then O).then k4;have z3:=O.size;have g4:=k4.get (O.get g2 id) id;have b3:=b.ah d6;obtain⟨r,a5,n5,d8,n,l,J,h⟩:∃(r:aj) (d:YQ) (a c:Nat) (n:Bool),(aF q.l (aY e)).getD (jQ rO none 0 0)=jQ r d a c/\(aF q.l (aY e)).isSome=n/\(S.get (aY e)).isSome=n:=by
  rcases b3.look E (aY e)with⟨l,J⟩|⟨B,a0,l,J,b8,n3,c3,rfl,j3,j4⟩
  ·exact⟨rO,none,0,0,false,by rw[l];rfl,by rw[l];rfl,by rw[J];rfl⟩
  ·exact⟨a0,b8,n3,c3,true,by rw[l];rfl,by rw[l];rfl,by rw[J];rfl⟩
 refine⟨λn=>n=w4.heap.size,p,0,rfl,oM,_,ae b3.at' rfl,oM,_,_,ae g4 rfl,ae g4 rfl,bT (rL r a5 n5 d8) ⟨n,λw' K=>?_,PA.mk λw5 k5 s5 g5=>⟨ai.af k5,az (aW r a5 n5 d8) g5 rfl λw6 k6 s6 g6=>⟨k6,?_⟩⟩⟩⟩
 ·have:=dX Rl Wf (b3.map.af K oM) (aY e) true
  rw[l,J]at this;exact this
 have R:ai w w6:=(d6.then k5).new k6 λn P=>.inr oM;have b4:=k6.get (k5.get g4 id) oM;have h6:=b.ah R;refine al.mk (λs=>f R ?_) (λhf=>?_)
 ·rw[aw.add_def,Zq (by simpa using Q),Zx (by rw[h,s])]
 obtain⟨c0,o8,x8,h7,d9,-,h8⟩:=(d5.ah R).mP (i:=o) oM;have e0:x8=(S.Fz o:Int):=by rw[S.oP I]at d9;exact(XJ d9).symm
 subst e0;have j5:=S.Ra o;refine⟨_,ae b4 rfl,p,0,rfl,_,_,_,ae h6.at' rfl,_,ae b4 rfl,c0,o8,h7,c1,oM,_,by rw[m];exact h8,λw7 d7=>?_⟩;have k7:ai w6 w7:=d7.af;have s7:w7.heap.size=w6.heap.size:=by rw[d7.heap]
 have b5:=R.then k7;rw[aq oM];refine al.dQ (λH=>f b5 ?_) (λe1=>?_)
 ·rw[aw.add_def,Zq (by simpa using Q),Zq (by rw[h,hf];simp),Zx]
  rw[m,Qx,S.um I];simpa using H
 have h9:=b.ah b5;have i0:=k7.get b4 id;have c2:e.seq=S.vec.getD e.origin.toNat 0+1:=by rw[m,Qx,S.um I];simpa using e1
 have j:∀{a1:Int×aw},(if(List.range S.n).any λo=>!S.lY e o then((9:Int),S)else(0,⟨S.n,dj e S.l⟩))=a1->S.add e=a1:=λ{a1} A=>by
  rw[aw.add_def,Zq (by simpa using Q),Zq (by rw[h,hf];simp),Zq (by simpa using c2)];exact A
 refine⟨p,0,rfl,_,_,_,ae h9.at' rfl,λa3 i w'=>∃g:Nat,i=g/\g<=S.n/\a3=S.n-g/\(∀k,k<g->S.lY e k=true)/\ai w7 w',⟨_,0,rfl,Qj _,rfl,λk s=>oM,ak.refl _⟩,?_⟩;rintro a3 i _ w8 ⟨g,rfl,hj,rfl,a4,T⟩;have U:=b5.then T;have e2:=T.get i0 id;have z8:=T.size;rw[b2];refine al.dec (λj6=>?_) (λj7=>?_)
 ·refine ar (aW e d a c) e2 (PC.ok (Ro (eh.ah U) (A.ah U) he oM (o:=g) oM) ?_)
  rintro _ w9 ⟨rfl,k9⟩;refine⟨_,rfl,al.not (al.mk (λK=>?_) (λK=>f (U.then k9) (j (Zx ?_))))⟩
  ·refine⟨_,oM,g+1,aq oM,oM,rfl,λk s=>?_,T.then k9⟩
   by_cases i1:k=g
   ·rw[i1];exact K
   ·exact a4 k oM
  ·rw[List.any_eq_true]
   exact⟨g,by simp;omega,by rw[K];rfl⟩
 ·have a6:=j (Zq (by rw[Bool.not_eq_true,DD];intro k s;exact a4 k oM))
  intro e3 e4;have e5:ai w8 e3:=e4.af;have j8:e3.heap.size=w8.heap.size:=by rw[e4.heap]
  have L:=U.then e5;have V:=e5.get e2 id;have e6:=b.ah L;have i2:=(A.ah L)
  refine⟨λn=>n=q.r,p,0,rfl,b.VT,_,ae e6.at' rfl,oM,_,_,ae V rfl,ae V rfl,ar (aW e d a c) V (PC.ok (mN i2 λn P=>by have:=(hD n P).1;have:=L.size;omega) ?_)⟩;rintro _ i3 ⟨b7,b9,d0,G,rfl,e7,hG,W⟩;have a7:=L.then W;have X:=b.ah a7;have i9:=L.size;refine bT (rL e b7 b9 d0) ⟨rfl,ai.af W,dd (enc:=EJ) (k:=aY e) Rl Wf X.map λe8 e9 t j9=>⟨t,λf2 f3=>?_⟩⟩;have u:ai e8 f2:=f3.af;have k0:f2.heap.size=e8.heap.size:=by rw[f3.heap]
  have a8:=u.get (t.get X.at' b.VT) id;have a9:=u.get (t.get (W.get V id) oM) id;have b0:=(X.vec.af t λn P e=>b.UW.2 (e▸P)).ah u;obtain⟨f4,f5,i4,a2,b1,-,f8⟩:=(b0.row (bytes:=8) dC (by rw[S.bM];unfold aK;omega)).mP (i:=o) oM;have d1:i4=(S.Fz o:Int):=by rw[S.oP I]at b1;exact(XJ b1).symm
  subst d1;refine⟨p,0,rfl,_,_,_,ae a8 rfl,_,ae a9 rfl,f4,f5,a2,c1,oM,_,by rw[m];exact f8,f4,f5,a2,c1,oM,?_⟩;rw[m,Qx,aq oM];refine Rm b0 (by rw[S.bM];exact I) bc a2 λg0 g3 M l0=>λg7 g8=>?_;have v:ai g0 g7:=g8.af;have l3:g7.heap.size=g0.heap.size:=by rw[g8.heap]
  have x:∀n,aD q.a=some n->q.V n:=λn P=>b.vec.self n P;have i5:¬aD q.a=some p:=λe=>b.UW.1 (x p e);have i6:¬aD q.a=some w.heap.size:=λe=>by have:=b.vec.aC _ (x _ e);omega
  have b6:=v.get (M.get a8 i5) id;have g9:=v.get (M.get a9 i6) id;refine⟨p,0,rfl,_,ae b6 rfl,_,ae g9 rfl,p,0,rfl,PS.mk b6 sM λh3 Y l4 i7=>?_⟩;have l5:=W.size;have i8:¬aD q.a=some q.r:=λe=>b.UW.2 (x _ e);refine Ok.mk ⟨by rw[a6],λn=>F n\/G n,?_,?_,?_⟩
  rotate_left
  ·have Z:ak F w h3:=((((ai.af a7).then (t.mono λn _ P=>b.sub n (.inr (.inl P)))).then (ai.af u)).then ((M.mono λn _ P=>b.sub n (.inr (.inr (.inl (x n P))))).then (ai.af v))).then (Y.mono λn _ P=>b.sub n (.inl P))
   exact Z
  ·intro n P;rcases P with P|P
   ·exact .inl P
   ·exact .inr (by have:=hG n P;omega)
  have h4:=(aw.Ae E he).1;rw[a6]at h4⊢;have y:∀n,G n->n≠p/\n≠q.r/\¬q.V n:=λn P=>by
   have:=hG n P;refine⟨oM,oM,λhv=>?_⟩;have:=b.vec.aC n hv;omega
  refine⟨h4,⟨q.a,q.n,q.c,q.r,q.V,λn=>q.D n\/G n,aH q.l (aY e) (jQ e b7 b9 d0),aH q.L (aY e) e⟩,?_,?_,?_,?_,?_,?_,?_,?_,b.VT,b.UW,?_,?_⟩
  ·have s:(if e.aA>S.top then e.aA else S.top)=max S.top e.aA:=by split<;>omega
   rw[i7,aw.SV,<-s];rfl
  ·rw[show aw.vec ⟨S.n,dj e S.l⟩=S.vec.set o ((S.Fz o+1:Nat):Int) by rw[aw.SX S e m];simp]
   exact(g3.ah v).af Y λn P e=>b.UW.1 (e▸P)
  ·exact(((e9.ah u).af M i8).ah v).af Y λe=>b.VT e.symm
  ·have Z:ak (λn=>n=q.r\/aD q.a=some n\/n=p) i3 h3:=((t.mono λn _ P=>.inl P).then (ai.af u)).then (((M.mono λn _ P=>.inr (.inl P)).then (ai.af v)).then (Y.mono λn _ P=>.inr (.inr P)))
   have hd:∀n,q.D n\/G n->¬(n=q.r\/aD q.a=some n\/n=p):=by
    rintro n (P|P) (e|e|e)
    ·exact b.VU.2 (e▸P)
    ·exact b.Xi n (x n e) P
    ·exact b.VU.1 (e▸P)
    ·exact(y n P).2.1 e
    ·exact(y n P).2.2 (x n e)
    ·exact(y n P).1 e
   refine fu.aH ⟨b7,b9,d0,rfl,(e7.mono λn P=>.inr P).af Z hd,he⟩ (X.rel.mono λB f1 hu=>(hu.mono λn P=>.inl P).af Z hd)
  ·intro r h
   rcases fj h with rfl|h
   ·rfl
   ·exact b.key r h
  ·have d3:aF q.L (aY e)=none:=by
    rw[Jz E b.key b.VS b.tidy];have:=h.trans hf;simpa using this
   have:∀z:List ((Int×Int)×aj),aF z (aY e)=none->aH z (aY e) e=z++[(aY e,e)]:=by
    intro z
    induction z with
    |nil=>intro _;rfl
    |cons a0 z ih=>
     intro hL;obtain⟨y1,y2⟩:=a0;unfold aF at hL;unfold aH;split at hL
     ·cases hL
     ·rename_i H
      rw[Zq H,ih hL];rfl
   rw[this _ d3,Q3];exact(List.perm_append_comm.trans (List.Perm.cons e b.VS)).trans (c_ e S.l).symm
  ·intro n P
   rcases P with P|P
   ·have:=b.aC n P;omega
   ·have:=hG n P;omega
  ·rintro n (P|P|P|P|P)
   ·exact .inl (b.sub n (.inl P))
   ·exact .inl (b.sub n (.inr (.inl P)))
   ·exact .inl (b.sub n (.inr (.inr (.inl P))))
   ·exact .inl (b.sub n (.inr (.inr (.inr P))))
   ·exact .inr P
  ·refine⟨?_,?_⟩
   ·rintro(P|P)
    ·exact b.VU.1 P
    ·exact(y _ P).1 rfl
   ·rintro(P|P)
    ·exact b.VU.2 P
    ·exact(y _ P).2.1 rfl
  ·rintro n hv (P|P)
   ·exact b.Xi n hv P
   ·exact(y _ P).2.2 hv
def SY{b n:TypeId}(f:jS h b n 1 8)(d:(h.info? n).bind (·.zero)=some (ZH 0))(g:a<=c)(P:c*8<=aK){w:World}(e:∀w',aM aI n (·=w.heap.size) w' (ZM w.heap.size) a c (List.replicate a 0)->ai w w'->w'.heap.size=w.heap.size+1->m (.slice (ZM w.heap.size) a c) w'):
  aG h (Instr.makeSlice b (ZH (a:Int)) (ZH (c:Int))) w m s:=by
 unfold aK at P;obtain⟨l,o,i,j,p,q,y⟩:=f.info;have r:o= ZH 0:=by
  rw[i]at d;simp only[Option.bind_some,j]at d;exact XJ d
 subst r;have k:=run_make (P:=h) w b n l _ f.under i j .i64 .i64 a c oM oM (by rw[q];omega) oM;rw[Qx,Qx,p,Nat.mul_one]at k;have t:ai w (w.alloc (.cells (madeCells (Value.int .i64 0).cells c) n)):=ak.alloc w _;have u:(madeCells (Value.int .i64 0).cells c).toList=List.replicate c (ZH 0):=by
  unfold madeCells;rw[Array.toList_map];apply List.ext_getElem
  ·simp
  ·intro z A B
   simp[Value.cells,Nat.mod_one]
 refine aG.mk k (e _ ⟨⟨List.replicate a (ZH 0),λ_=>False,⟨⟨by simp[aI,flat],.inr ⟨w.heap.size,c,_,rfl,Qj _,heap_alloc_new w _,g,by unfold maxLen;omega,by simp[size_madeCells,aI,flat],?_⟩⟩⟩,?_,λ_ e=>e.elim⟩,λv P=>by simpa[aD]using P.symm,λv P=>by subst P;simp⟩ t sM)
 ·rw[u]
  simp only[aI,flat,Nat.mul_one,List.take_replicate];rw[X2 g]
 ·exact kp.2 ⟨by simp[ints],λC x=>by rw[List.eq_of_mem_replicate x];simp[aJ]⟩
def Fh(f:a<=64):YX 71 #[ZH (a:Int)] w (Ok λg w'=>∃p F,g= ZL p/\ck w' p F ⟨a,[]⟩/\(∀n,F n->w.heap.size<=n)/\ai w w'):=by
 refine FQ (SY uk kR (Q4 _) ba λw1 h i r=>⟨_,_,_,rfl,PA.mk λd e s j=>PA.mk λk b t l=>Ok.mk ⟨_,λn=>w.heap.size<=n/\n<k.heap.size,rfl,⟨aw.sZ f,⟨_,a,a,w1.heap.size,(·=w.heap.size),λ_=>False,[],[]⟩,l,?_,bI.new (b.get j id),trivial,sM,List.Perm.refl _,λn P=>P.2,?_,by show d.heap.size≠w1.heap.size;omega,⟨by show d.heap.size≠_;omega,by show w1.heap.size≠_;omega⟩,⟨id,id⟩,λ_ _ m=>m⟩,λn P=>P.1,(i.then e).then b⟩⟩)
 ·have o:aw.vec ⟨a,[]⟩=List.replicate a 0:=by
   apply X3;intro q
   by_cases c:q<a
   ·rw[aw.oP ⟨a,[]⟩ c];simp[c,aw.Fz]
   ·rw[Q7 (by rw[aw.bM];exact Nat.le_of_not_lt c),Q7 be]
  rw[o];exact(h.ah e).ah b
 ·rintro n (rfl|rfl|rfl|P)
  ·show _/\_;omega
  ·show _<=w1.heap.size/\w1.heap.size<_;omega
  ·omega
  ·exact P.elim
end
end Go.Proofs.YtjgjkeponbeekaaGreatDoor
namespace Go.au
open Go
abbrev FW(n:Option Nat):Fence:={Fence.wide with round:=n}
variable{H:Act}{U:Array Oper}{l:Array Value}{K:Bool}{h2 h3:Bool->ZU}{a1:Code}{A:ZT}{e4:Exit}{d5:Exit->Act->ZU}{a7:Func}{z:FuncId}{b5:List Nat}{a4 e3:List Value}{a c i:Nat}{f:ZN}{c8:Obj}{S:Oper}{T:Operand}{e2:Operand->Value}{c9:Option Nat}{h:Program}{m:ZR}{b k:World}{V:bN}{Q:cz}{c1:g_}{e1:jW}
def t_:CallsIn (FW c9) a h z l b A↔Calls h z l b A:=
 ⟨λn=>callsIn_wide.1 (show CallsIn Fence.wide a h z l b A from n),λn=>show CallsIn (FW c9) a h z l b A from(callsIn_wide (n:=a)).2 n⟩
def SM(n:Nat):(FW c9).room n:=λ_ P=>by simp[Fence.wide]at P
def Ot{n:String}(P:Rows h n l b m):RowsIn (FW c9) a h n l b m:=by
 intro c cs _;obtain⟨d,e,f,g⟩:=P c cs;exact⟨d,e,f,(stepsIn_wide (P:=h)).2 g⟩
def vN(n:Oper):Bool:=match n.op with
 | .defer _=>false
 |_=>true
def vN.out(n:vN S=true):∀P,S.op≠.defer P:=by
 intro P a;unfold vN at n;rw[a]at n;cases n
section
variable {P:Program} {ro:Option Nat} {n:Nat}
def MJ{next:Act->ZU}(d:ro=none\/vN S=true)(a:S.wp P H b next d5):S.wpIn (FW ro) n P H b next d5:=by
 refine⟨λ_ _=>trivial,?_⟩;have f:S.semAt (FW ro).round H.eval=execOp H.eval S:=by
  rcases d with rfl|d
  ·rfl
  ·exact Oper.semAt_eq _ _ _ (vN.out d)
 rw[f];unfold Oper.wp at a;generalize(execOp H.eval S).run P b=g at a⊢
 cases g with
 |ok e h=>
  cases e with
  |value i=>exact a
  |skip=>exact a
  |defer j=>exact a
  |enter k c=>exact⟨λa=>by simp[Fence.wide]at a,t_.2 a⟩
  |row row c=>exact⟨λa=>by simp[Fence.wide]at a,Ot a⟩
  |_=>exact a.elim
 |halt e h=>cases e<;>first|exact a|exact a.elim
def q_{b:Array Oper}{g:Exit->Act->ZU}(h:∀d c,¬g .outgrown d c)(e:ro=none\/∀i∈b.toList,vN i=true):∀(f:List Nat) (d:Act) (c:World),wpOps P b g f d c->wpOpsIn (FW ro) n P b g f d c
 |[],d,c,a=>a
 |l::f,d,c,a=>by
  unfold wpOps at a;unfold wpOpsIn
  cases j:b[l]? with
  |none=>rw[j]at a;exact q_ h e f d c a
  |some i=>
   rw[j]at a;simp only at a⊢;split
   ·rename_i k
    rw[Zx k]at a;rcases a with a|⟨-,m,o,a⟩
    ·have p:i.wp P d c (wpOpsIn (FW ro) n P b g f) g:=Oper.wp_mono (λd c a=>q_ h e f d c a) a
     refine MJ ?_ p;rcases e with e|e
     ·exact .inl e
     ·refine .inr (e i ?_)
      obtain⟨q,rfl⟩:=Q5.1 j;simp
    ·exact Zz a (h m o)
   ·rename_i k
    rw[Zq k]at a;exact⟨λ_ _=>trivial,q_ h e f _ c a⟩
end
section
variable {F:Fence} {n:Nat} {P:Program} {Q:Exit->Act->ZU} {a:Act} {w:World} {b:Frame} {k:List Item} {cs:List Frame}
def gT:step P (lone (b.atR a (.code (.scope a1)::k)) cs w)= .next (lone (b.atR a (.code a1:: .inScope a1::k)) cs w):=
 step_lone_go (by simp[stepG,stepG.exec,Frame.atR])
def Dz:step P (lone (b.atR a (.inScope a1::k)) cs w)= .next (lone (b.atR a k) cs w):=
 step_lone_go (by simp[stepG,stepG.exec,Frame.atR])
def Lw(o:a1.wpIn F n P (Exit.noGoto Q) a w):(Code.scope a1).wpIn F n P Q a w:=by
 intro b k cs p h i;have e:(lone (b.atR a (.code (.scope a1)::k)) cs w).fenced P F:=fenced_calm h i rfl;obtain⟨q,c,d,f,g⟩:=o b (.inScope a1::k) cs p h i
 cases q with
 |normal=>exact⟨.normal,c,d,f,.head e gT (StepsIn.trans g (.one (fenced_calm h i rfl) Dz))⟩
 |exit id=>
  have m:exitTo id (.inScope a1::k)=exitTo id k:=by simp[exitTo]
  exact⟨.exit id,c,d,f,λr j=>.head e gT (g.1 r (by rw[m];exact j)),
   λl j=>let⟨k₁,h1,h2⟩:=g.2 l (by rw[m];exact j);⟨k₁,h1,.head e gT h2⟩⟩
 |goto s=>exact f.elim
 |ret=>exact⟨_,c,d,f,.of_steps (.one e gT) g⟩
 |panic t=>exact⟨_,c,d,f,.of_steps (.one e gT) g⟩
 |outgrown=>exact⟨_,c,d,f,.of_steps (.one e gT) g⟩
def wpIn_loop_ghost(b:Nat->Act->ZU)(c:Nat)(g:b c a w)(d:∀e a w,b e a w->a1.wpIn F n P (Exit.then (λh i=>∃l,l<e/\b l h i) Q) a w):(Code.loop a1).wpIn F n P Q a w:=by
 refine wpIn_loop (λa w=>∃e,b e a w) (λa w=>leastOf (λe=>b e a w)) ⟨c,g⟩ ?_;intro a w m;refine wpIn_mono (d _ a w (leastOf_spec m).1) ?_;intro o h i f
 cases o with
 |normal=>
  obtain⟨j,p,k⟩:=f;exact show(∃n,b n h i)/\leastOf (λn=>b n h i)<leastOf (λn=>b n a w)from⟨⟨j,k⟩,Nat.lt_of_le_of_lt ((leastOf_spec ⟨j,k⟩).2 j k) p⟩
 |exit id=>exact f
 |goto q=>exact f
 |ret=>exact f
 |panic r=>exact f
 |outgrown=>exact f
end
def Lx(B:h.follows .mixedOrders=true){n id:Nat}(C:∀a,a∈writes (.region id U K)->a<n)(p:Rel n V Q H)(P:D h e1 (.region id U K) c1 V Q H.defers b):
  (K=false->wpOps h U (cP n V Q (writes (.region id U K)) c1) (List.range U.size) H b)/\
  (K=true->∀a,wpOps h U (cP n V Q (writes (.region id U K)) c1) (Region.schedule (h.follows .mixedOrders) U a) H {b with drawn:=b.drawn+1}):=by
 have j:∀k∈U.toList,∀l,k.dst=some l->l<n/\l∈writes (.region id U K):=λk i l z=>⟨C l (kq i z),kq i z⟩
 have q:∀s a,iS U s=some a->a<n:=by
  intro s a m;unfold iS at m
  cases i:U[s]? with
  |none=>rw[i]at m;simp at m
  |some k=>
   rw[i]at m;have E:k∈U.toList:=by
    have:=Q5.1 i;obtain⟨N,rfl⟩:=this;simp
   exact(j k E a m).1
 cases K with
 |false=>
  refine⟨λ_=>?_,λP=>by cases P⟩;rw[List.range_eq_range',<-XK,wpOps_eq_wpList U.toList 0 sM];exact zU q U.toList Q H b j p (λ_ _=>rfl) P
 |true=>
  refine⟨λP=>(by cases P),λ_ a=>?_⟩;simp only[Region.schedule,B,Bool.true_or,if_true];refine wpAny_sound U.size a _ H _ ?_;unfold D at P;simp only at P;split at P
  ·obtain⟨t,P⟩:=dY.out P
   simp only[Region.lexB,QK]at t;have F:=qL (B0:=V) (e0:=Q) (W:=writes (.region id U true)) q U.toList Q H j p (λ_ _=>rfl) P;have I:wpQuiet h U (br b) (λr=>∀c,br b c->cP n V Q (writes (.region id U true)) c1 .normal r c) U.toList H:=by
    refine kf ?_ _ _ F;rintro r ⟨J,u,v,L,M⟩ c g;exact⟨V,J,u,L,by rw[v];exact M c g⟩
   refine wpAny_of_quiet (C:=br b) (Q:=λr=>∀c,br b c->cP n V Q (writes (.region id U true)) c1 .normal r c) (λ_ c g P=>P c g) _ _ _ _ ⟨1,rfl⟩ ?_;have:=wpAnyQ_lex (C:=br b) (md:=.any) t.1 U.toList 0 (Array.replicate U.size false) H sM (by simpa using t.2) I;simpa using this
  ·obtain⟨A,P⟩:=dY.out P
   have d:∀(e:Bool) (f:ZN) (w:Nat->Bool),vy h V U e f (λo x b=>∀V Q,c1 (.panic o) V Q x b) (λQ x b=>c1 .normal V Q x b) w U.size (Array.replicate U.size false) Q H.defers (b.drewN 1)->
     wpAny h .any U (cP n V Q (writes (.region id U true)) c1) U.size (Array.replicate U.size false) H {b with drawn:=b.drawn+1}:=λe f w P=>
    ji (λo H b P=>qO.post o H b P) (λ_ _ P=>P) _ _ _ _ _ (lT (B0:=V) (e0:=Q) (W:=writes (.region id U true)) q A j w _ _ Q H _ p (λ_ _=>rfl) P)
   split at P
   ·split at P
    ·obtain⟨f,P⟩:=P _ ⟨1,rfl⟩
     exact d _ f _ P
    ·exact d _ _ _ (P _ ⟨1,rfl⟩)
   ·obtain⟨y,P⟩:=dY.out P
    split at P
    ·split at P
     ·obtain⟨f,P⟩:=P _ ⟨1,rfl⟩
      rw[xo y _ _ _ (CB.init _)]at P;exact ji (λo H b P=>qO.post o H b P) (λ_ _ P=>P) _ _ _ _ _ (kV (B0:=V) (e0:=Q) (W:=writes (.region id U true)) q A j f _ _ _ Q H _ p (λ_ _=>rfl) P)
     ·obtain⟨f,P⟩:=P _ ⟨1,rfl⟩
      rw[qQ y _ _ (CB.init _)]at P;exact d _ f _ P
    ·have P:=P _ ⟨1,rfl⟩
     rw[qQ y _ _ (CB.init _)]at P;exact d _ _ _ P
def jK(P:Program)(a:Nat)(b:List Value)(c:World)(d:Bool->ZU):Prop:=
 YieldAt (FW none) 0 P a b.toArray c λe f=>∃n,e= .returned (.bool n)/\d n f
def jK.mono(f:jK h a a4 b h2)(g:∀P e,h2 P e->h3 P e):jK h a a4 b h3:=by
 obtain⟨i,c,n,d,j,k⟩:=f;exact⟨i,c,n,d,j,k.mono λm e ⟨P,l,f⟩=>⟨P,l,g P e f⟩⟩
def UG(a:Program)(b:Value)(n:Array Value)(c:World)(d:ZR):Prop:=
 ∃P,b= .func (.yield P) #[] #[]/\jK a P n.toList c λe f=>d (.bool e) f
def zW(n:Oper):Option (Operand×Array Operand):=match n.op with
 | .call {callee:=.value (.func _),..}=>none
 | .call {callee:=.value f,args,..}=>some (f,args)
 |_=>none
def Re(d:Program)(a:bN)(b:Array Oper)(h:g_)(c:Oper)(e:cz->List Deferred->ZU)(P:cz)(f:List Deferred)(g:World):Prop:=match zW c with
 |some (i,n)=>UG d (ev a P i) (n.map (ev a P)) g λj k=>e (bO P c.dst j) f k
 |none=>QB d b a c h e P f g
def rb(b:Program)(a:bN)(n:Array Oper)(c:g_):List Oper->(cz->List Deferred->ZU)->cz->List Deferred->ZU
 |[],e,d,f,g=>e d f g
 |i::P,e,d,f,g=>match i.guard with
  |none=>Re b a n c i (rb b a n c P e) d f g
  |some (k,h)=>match iS n k with
   |none=>False
   |some j=>match get a d j with
    | .bool l=>al l
     (match h with
      |true=>Re b a n c i (rb b a n c P e) ((j,.bool true)::d) f g
      |false=>rb b a n c P e (bO ((j,.bool true)::d) i.dst undef) f g)
     (match h with
      |true=>rb b a n c P e (bO ((j,.bool false)::d) i.dst undef) f g
      |false=>Re b a n c i (rb b a n c P e) ((j,.bool false)::d) f g)
    | .tuple _=>rb b a n c P e (bO d i.dst undef) f g
    |_=>False
def Ly{n P:Code}(d:RoundIn (FW none) c h i z l n P b A):RoundIn (FW c9) a h i z l n P b A:=
 ⟨trivial,λe cs _=>d.2 e cs (SM _)⟩
def GU{n:Array Operand}{l:Nat}(P:zW S=some (T,n))(c:e2 T= .func (.yield l) #[] #[]):
  (execOp e2 S).run h b=(Instr.yield l (n.map e2)).run h b:=by
 unfold zW at P;split at P
 ·cases P
 ·rename_i e a f d
  simp only[Q1,Prod.mk.injEq]at P;obtain⟨rfl,rfl⟩:=P;simp only[execOp,d,resolve,c];simp[Deferred.ofValue,invoke,Sem.run_bind,Sem.run_pure,Result.andThen]
 ·cases P
def vO{w:Program}{B:Option Nat}{L o:Nat}{e t:bN}{u:cz}{k:List Nat}{P:Array Oper}{l:g_}(M:∀m a,iS P m=some a->a<o)(S:∀a1 e n y f,l a1 e n y f->a1≠.outgrown)(v:B=none\/∀d∈P.toList,vN d=true):
  ∀(N:List Oper) (p:Nat) (n:cz) (i:Act) (f:World),(∀m,N[m]? =P[p+m]?)->(∀d∈N,∀g,d.dst=some g->g<o/\g∈k)->Rel o e n i->(∀a,a∉k->get e n a=get t u a)->
   rb w e P l N (λn y f=>l .normal e n y f) n i.defers f->wpOpsIn (FW B) L w P (cP o t u k l) (List.range' p N.length) i f
 |[],p,n,i,f,_,_,j,h,c=>⟨e,n,j,h,c⟩
 |d::b,p,n,i,f,a2,T,j,h,c=>by
  have h0:P[p]? =some d:=by simpa using(a2 0).symm
  have a4:d∈P.toList:=by
   obtain⟨a7,rfl⟩:=Q5.1 h0;simp
  have U:∀m,b[m]? =P[p+1+m]? :=λm=>by have:=a2 (m+1);simpa[Nat.add_assoc,Nat.add_comm 1 m]using this
  have V:∀g,d.dst=some g->g<o:=λg v=>(T d (QV ..) g v).1;have W:∀(n:cz),(∀a,a∉k->get e n a=get t u a)->∀C a,a∉k->get e (bO n d.dst C) a=get t u a:=by
   intro n h C a X
   cases v:d.dst with
   |none=>exact h a X
   |some g=>
    have a5:=(T d (QV ..) g v).2;show get e ((g,C)::n) a=_;rw[dI,Zq (by rintro rfl;exact X a5)];exact h a X
  have z:∀d∈b,∀g,d.dst=some g->g<o/\g∈k:=λd ho=>T d (QJ _ ho);have A:∀(n:cz),Rel o e n i->(∀a,a∉k->get e n a=get t u a)->Re w e P l d (rb w e P l b λn y f=>l .normal e n y f) n i.defers f->
    d.wpIn (FW B) L w i f (wpOpsIn (FW B) L w P (cP o t u k l) (List.range' (p+1) b.length)) (cP o t u k l):=λn j h c=>by
   unfold Re at c;split at c
   ·rename_i a8 E q
    obtain⟨Y,hf,fn,F,x,H,h1,h2⟩:=c;refine⟨λ_ _=>trivial,?_⟩;have Z:∀a3,d.op≠.defer a3:=by
     intro a3 Z;unfold zW at q;rw[Z]at q;cases q
    rw[Oper.semAt_eq _ _ _ Z,j.eval,GU (l:=Y) q hf];have a6:(Instr.yield Y (E.map (ev e n))).run w f= .ok (.round Y fn F x H) f:=by
     have:=h1
     rwa [Array.toArray_toList]at this
    rw[a6,Oper.uponIn_round];refine⟨λc=>by simp[Fence.wide]at c,(Ly h2).mono ?_⟩;rintro _ w' ⟨I,rfl,hK⟩;exact vO M S v b (p+1) _ _ _ U z (j.put _ V _) (W n h _) (by rw[put_defers];exact hK)
   ·refine MJ (v.imp id λv=>v d a4) ?_
    exact Gz j V c (λC a' w' a0 hK=>vO M S v b (p+1) _ _ _ U z a0 (W n h C) hK) (λch w' hq=>⟨e,n,j,h,hq⟩)
  have r:∀(n:cz),Rel o e n i->(∀a,a∉k->get e n a=get t u a)->rb w e P l b (λn y f=>l .normal e n y f) (bO n d.dst undef) i.defers f->
    wpOpsIn (FW B) L w P (cP o t u k l) (List.range' (p+1) b.length) (i.put d.dst undef) f:=λn j h c=>
   vO M S v b (p+1) _ _ _ U z (j.put _ V _) (W n h _) (by rw[put_defers];exact c)
  simp only[Xq,List.range'_succ];unfold wpOpsIn;rw[h0];simp only;unfold rb at c;split at c
  ·rename_i O
   rw[Zx (by simp[Region.wanted,O])];exact A n j h c
  ·rename_i m s O
   split at c
   ·exact c.elim
   ·rename_i a hj
    have q:=oD j hj (M m a hj);split at c
    ·rename_i I J
     rw[J]at q;simp only at q;have hw:Region.wanted d (yielded P i.tmps)=(I==s):=by
      simp only[Region.wanted,O,q]
      cases I<;>cases s<;>rfl
     rw[hw];have Q:=j.again J;have R:∀K,K∉k->get e ((a,.bool I)::n) K=get t u K:=λK hu=>by rw[rC J];exact h K hu
     cases I<;>cases s<;>simp only[al]at c
     ·exact A _ Q R c
     ·exact⟨λ_ _=>trivial,r _ Q R c⟩
     ·exact⟨λ_ _=>trivial,r _ Q R c⟩
     ·exact A _ Q R c
    ·rename_i vs J
     rw[J]at q;simp only at q;have hw:Region.wanted d (yielded P i.tmps)=false:=by
      simp[Region.wanted,O,q]
     rw[hw];exact⟨λ_ _=>trivial,r _ j h c⟩
    ·exact c.elim
def qh(a:Nat)(n P:World):Prop:=ak (λb=>b=a) n P/\P.heap.size=n.heap.size
def qu(n:Nat)(P:World):Prop:=P.heap[n]? =some (.deferred (some []))
def MK(n:Nat):Deferred:={target:=.collected n,args:= #[]}
def Lz:List Value->(List Value->Prop)->Prop
 |[],n=>n []
 |z::b,n=>match z with
  | .agg cs=>mJ cs.toList λP=>Lz b λa=>n (.agg P.toArray::a)
  |z=>mJ [z] λP=>Lz b λa=>n (P++a)
def n_(n:World):ZN:=λP=>P≠n.heap.size/\P≠n.heap.size+1
def tm(P a:List Value):Prop:=∀n:List Value->Prop,Lz P n->n a
def Ou:List (Exit×(ZU))->(Exit->(ZU)->Prop)->Prop
 |[],_=>True
 |(P,a)::b,n=>n P a/\Ou b n
def VO(n:Exit->ZU):List Exit->List (Exit×(ZU))
 |[]=>[]
 |x::P=>(x,λa=>n x a)::VO n P
def We(n:Exit):List (Exit×(ZU))->Prop
 |[]=>False
 |(P,_)::a=>n=P\/We n a
def Ou.out{a:Exit->ZU}{φ:Exit->(ZU)->Prop}:∀{l:List Exit},Ou (VO a l) φ->∀n,We n (VO a l)->n∈l/\φ n (λb=>a n b)
 |[],_,n,P=>P.elim
 |y::h,c,n,P=>by
  obtain⟨d,e⟩:=c;rcases P with rfl|P
  ·exact⟨QV ..,d⟩
  ·obtain⟨f,g⟩:=Ou.out e n P
   exact⟨QJ _ f,g⟩
def F_(m:Program)(v:Value)(w:List Value)(a:World)(y:(List Value->Prop)->(List Value->Exit->ZU)->ZU)(z:ZU)(p:List (Exit×(ZU))):Prop:=
 ∃o k,v= .func (.func o) #[] k/\enters m o=true/\
 ∃(q:Type) (r:q) (f:q->List (List Value)->ZU) (j:Exit->List (List Value)->ZU) (s:List (List Value)->List Value->Prop) (t:List (List Value)->Prop),
  (∀h,ak (λ_=>False) a h->h.heap.size=a.heap.size+2->f r [] h)/\
  (∀b n P d,f b n P->qh (a.heap.size+1) P d->f b n d)/\
  (∀x n P d,j x n P->qh (a.heap.size+1) P d->j x n d)/\
  (∀b n P,f b n P->a.heap.size+2<=P.heap.size->y (s n) (λg x c=>match x with
   | .normal=>f b (n++[g]) c
   |x=>We x p/\j x (n++[g]) c) P)/\
  (∀(i:ZU) (l:Exit->ZU),(∀P d,i P->ak (n_ a) P d->i d)->(∀x P d,l x P->ak (n_ a) P d->l x d)->
   (∀P,i P->a.heap.size+2<=P.heap.size)->
   (∀b n g P,f b n P->i P->tm w g->s n g->jK m (a.heap.size+1) g P λu c=>(u=true/\f b (n++[g]) c/\i c)\/(u=false/\∃x,j x (n++[g]) c/\l x c))->
   ∀h,f r [] h->i h->Calls m o (#[.func (.yield (a.heap.size+1)) #[] #[]]++k) h λA c=>(∃B,A= .returned B)/\((i c/\∃b e,f b e c/\t e)\/∃x n,j x n c/\l x c))/\
  (∀b e P,f b e P->t e->qu a.heap.size P->z P)/\
  Ou p λx C=>∀n P,j x n P->qu a.heap.size P->C P
def ML:List Nat->List Value->cz->cz
 |P::a,b::c,n=>ML a c ((P,b)::n)
 |_,_,n=>n
def Ov:List (Nat×Value)->List Nat
 |[]=>[]
 |(n,_)::P=>n::Ov P
def iE:Code->Bool
 | .region _ P _=>P.toList.all vN
 | .seq a b=>iE a&&iE b
 | .cond _ a b=>iE a&&iE b
 | .block _ n=>iE n
 | .loop n=>iE n
 | .scope n=>iE n
 | .rangeFunc .. =>false
 |_=>true
def gB:Code->List Exit
 | .exit id=>[.exit id]
 | .ret=>[.ret]
 | .seq P a=>gB P++gB a
 | .cond _ P a=>gB P++gB a
 | .block _ n=>gB n
 | .loop n=>gB n
 | .scope n=>gB n
 |_=>[]
def Rf:Exit->Code
 | .ret=>.ret
 | .exit id=>.exit id
 | .goto n=>.goto n
 |_=>.skip
def UH(n:Exit->ZU):g_:=λa _ _ _ P=>match a with
 | .normal=>n .normal P
 | .ret=>n .ret P
 | .exit id=>n (.exit id) P
 |_=>False
def DR(f:Program)(e:jW)(g:List Nat):Bool->Code->g_->bN->cz->List Deferred->ZU
 |_,.skip,c,b,n,a,P=>c .normal b n a P
 |_,.label _,c,b,n,a,P=>c .normal b n a P
 |_,.exit id,c,b,n,a,P=>c (.exit id) b n a P
 |_,.ret,c,b,n,a,P=>c .ret b n a P
 |_,.region id q p,c,b,n,a,P=>match BQ g id with
  |true=>(match p with
   |false=>rb f b q c q.toList (λn a P=>c .normal b n a P) n a P
   |true=>False)
  |false=>D f e (.region id q p) c b n a P
 |top,.seq h k,c,b,n,a,P=>match NX e.Qh (key k)with
  |none=>DR f e g top h (BS (λb n a P=>DR f e g top k c b n a P) c) b n a P
  |some d=>∃x:Fn (iB d) (ZU),DR f e g top h (BS (λl s j i=>BR j a (ap (iB d) x (zF l s d) i)) c) b n a P/\
    eM (writes h) n λu=>mJ (iB d) λm=>∀(l:bN) (i:World),ap (iB d) x m i->DR f e g top k c l (yk d m u) a i
 |top,.cond o h k,c,b,n,a,P=>match ev b n o with
  | .bool A=>al A (DR f e g top h c b n a P) (DR f e g top k c b n a P)
  |_=>False
 |top,.block id o,c,b,n,a,P=>DR f e g top o (xp id c) b n a P
 |top,.scope o,c,b,n,a,P=>DR f e g top o (GC c) b n a P
 |top,.loop o,c,b,n,a,P=>match NX e.loops (key o)with
  |none=>False
  |some d=>∃v:Nat->Fn (iB d) (ZU),(∃t,ap (iB d) (v t) (zF b n d) P)/\
    ∀t,eM (writes o) n λu=>mJ (iB d) λm=>∀(l:bN) (i:World),ap (iB d) (v t) m i->
     DR f e g top o (BS (λl s j i=>BR j a (∃y,y<t/\ap (iB d) (v y) (zF l s d) i)) c) l (yk d m u) a i
 |top,.rangeFunc B C h k,c,b,n,a,P=>match top with
  |false=>False
  |true=>match NX e.loops (key k)with
   |none=>False
   |some d=>dY (NW (Ov d) C.toList&&(iE h&&iE k)) (F_ f (ev b n B) (iB d) P
     (λE F r=>Lz (iB d) λm=>E m->DR f e g false h (BS (λl s j i=>ak (n_ P) r i/\∀w,qh (P.heap.size+1) i w->DR f e g false k (UH λh z=>ak (n_ P) w z/\F m h z) l s j w) (λ_ _ _ _ _=>False)) b (ML (Ov d) m n) [] r)
     (λr=>c .normal b n (MK P.heap.size::a) r) (VO (λh r=>c h b n (MK P.heap.size::a) r) (gB k)))
 |_,_,_,_,_,_,_=>False
def lj:Code->List Nat
 | .region _ b _=>Ep b.toList
 | .seq n P=>lj n++lj P
 | .cond _ n P=>lj n++lj P
 | .block _ a=>lj a
 | .loop a=>lj a
 | .scope a=>lj a
 | .rangeFunc _ c n P=>c.toList++(lj n++lj P)
 |_=>[]
def Rg:∀(P:List Value) (b:List Value->Prop),(∀n,n.length=P.length->b n)->Lz P b:=by
 have d:∀(P:List Value) (b:List Value->Prop),(∀n,n.length=P.length->b n)->mJ P b:=by
  intro P
  induction P with
  |nil=>intro b a;exact a [] rfl
  |cons g P e=>
   intro b a
   cases g
   case pointer h=>cases h<;>simp only[mJ]<;>intros<;>exact e _ λn c=>a _ (by simp[c])
   all_goals(simp only[mJ];intros;exact e _ λn c=>a _ (by simp[c]))
 intro P
 induction P with
 |nil=>intro b a;exact a [] rfl
 |cons g P e=>
  intro b a
  cases g
  case pointer h=>cases h<;>(simp only[Lz];exact d [_] _ λn c=>e _ λj f=>a _ (by have i:n.length=1:=c;simp[i,f,Nat.add_comm]))
  case agg cs=>exact d cs.toList _ λn c=>e _ λj f=>a _ (by simp[f])
  all_goals(simp only[Lz];exact d [_] _ λn c=>e _ λj f=>a _ (by have i:n.length=1:=c;simp[i,f,Nat.add_comm]))
def tm.len(n:tm a4 e3):e3.length=a4.length:=n _ (Rg a4 _ λ_ n=>n)
def Jn:∀n:List (Nat×Value),(Ov n).length=(iB n).length
 |[]=>rfl
 |(_,_)::P=>by simp[Ov,iB,Jn P]
def EH{e:Nat}{i:bN}:∀(b:List Nat) (P:List Value) (c:cz) (n:Array Value),(∀a∈b,a<e)->P.length=b.length->Rel e i c {tmps:=n,defers:=[]}->
  Rel e i (ML b P c) {tmps:=(b.zip P).foldl (λa (j:Nat×Value)=>a.setIfInBounds j.1 j.2) n,defers:=[]}
 |[],P,c,n,_,d,f=>by
  cases P with
  |nil=>exact f
  |cons g P=>simp at d
 |a::b,P,c,n,k,d,f=>by
  cases P with
  |nil=>simp at d
  |cons g P=>
   exact EH b P ((a,g)::c) _ (λl h=>k l (QJ _ h)) (by simpa using d) (f.put (some a) (λl h=>by cases h;exact k a (QV ..)) g)
def Jo:∀(P:Code) (a:Exit),a∈gB P->a= .ret\/∃id,a= .exit id:=by
 intro P
 induction P with
 |exit id=>intro a n;simp only[gB,List.mem_singleton]at n;exact .inr ⟨id,n⟩
 |ret=>intro a n;simp only[gB,List.mem_singleton]at n;exact .inl n
 |seq a f b c=>intro d n;exact(Q6.1 n).elim (b d) (c d)
 |cond P a f b c=>intro d n;exact(Q6.1 n).elim (b d) (c d)
 |block id P e=>exact e
 |loop P e=>exact e
 |scope P e=>exact e
 |_=>intro d n;cases n
def jA{w:World}{l:Nat}{o:Obj}:qh l w (w.putObj l o):=
 ⟨⟨rfl,rfl,rfl,sM,λP _ n=>World.putObj_heap_other n⟩,sM⟩
def ak.obj(P:ak f b k)(n:b.heap[a]? =some c8)(c:¬f a):k.heap[a]? =some c8:=
 (P.block a (Q5.1 n).1 c).trans n
def cP.of(n:Rel a V Q H)(P:c1 e4 V Q H.defers b):cP a V Q b5 c1 e4 H b:=⟨V,Q,n,λ_ _=>rfl,P⟩
def VP(hm:h.follows .mixedOrders=true){n m:Nat}:∀(I:Code) (r:Option Nat) (d:Bool) (t:g_) (e:bN) (f:cz) (l:Act) (b:World),
  (r=none\/(d=false/\iE I=true))->(∀a,a∈lj I->a<n)->(∀u e f Y b,t u e f Y b->u≠.outgrown)->Rel n e f l->DR h e1 b5 d I t e f l.defers b->I.wpIn (FW r) m h (cP n e f (writes I) t) l b:=by
 intro I
 induction I generalizing m with
 |skip=>intro r d t e f l b _ _ _ k P;exact wpIn_skip (cP.of k P)
 |label a0=>intro r d t e f l b _ _ _ k P;exact wpIn_label (cP.of k P)
 |exit id=>intro r d t e f l b _ _ _ k P;exact wpIn_exit (cP.of k P)
 |ret=>intro r d t e f l b _ _ _ k P;exact wpIn_ret (cP.of k P)
 |goto a0=>intro r d t e f l b _ _ _ k P;exact P.elim
 |refuse vC=>intro r d t e f l b _ _ _ k P;exact P.elim
 |scope I ih=>
  intro r d t e f l b C y J k P;refine Lw (wpIn_mono (ih r d (GC t) e f l b C y (by intro q e f Y b c Q;subst Q;exact J _ _ _ _ _ c rfl) k P) ?_);intro q v x o;obtain⟨z,w,B,F,c⟩:=o
  cases q with
  |goto a0=>exact c.elim
  |normal=>exact⟨z,w,B,F,c⟩
  |exit id=>exact⟨z,w,B,F,c⟩
  |ret=>exact⟨z,w,B,F,c⟩
  |panic ch=>exact⟨z,w,B,F,c⟩
  |outgrown=>exact⟨z,w,B,F,c⟩
 |region id A Z=>
  intro r d t e f l b C y J k P;have hd:r=none\/∀V∈A.toList,vN V=true:=C.imp (λP=>P) λP=>by
   have:=P.2;unfold iE at this;exact ZY.1 this
  have d1:∀v x,¬cP n e f (writes (.region id A Z)) t .outgrown v x:=λl b ⟨e,f,_,_,c⟩=>J _ _ _ _ _ c rfl;unfold DR at P;split at P
  ·split at P
   ·have W:∀V∈A.toList,∀a5,V.dst=some a5->a5<n/\a5∈writes (.region id A false):=λV ho a5 hd=>⟨y a5 (kq ho hd),kq ho hd⟩
    have e9:∀c4 a,iS A c4=some a->a<n:=by
     intro c4 a N;unfold iS at N
     cases ho:A[c4]? with
     |none=>rw[ho]at N;simp at N
     |some V=>
      rw[ho]at N;have f0:V∈A.toList:=by
       obtain⟨d2,rfl⟩:=Q5.1 ho;simp
      exact(W V f0 a N).1
    refine wpIn_region ?_;rw[List.range_eq_range',<-XK];exact vO e9 J hd A.toList 0 f l b sM W k (λ_ _=>rfl) P
   ·exact P.elim
  ·obtain⟨h1,h2⟩:=Lx hm (n:=n) y k P
   cases Z with
   |false=>exact wpIn_region (q_ d1 hd _ _ _ (h1 rfl))
   |true=>exact wpIn_region_draw λa=>q_ d1 hd _ _ _ (h2 rfl a)
 |seq u R K L=>
  intro r d t e f l b C y J k P;have b4:r=none\/(d=false/\iE u=true):=C.imp (λP=>P) λP=>⟨P.1,by have:=P.2;simp only[iE,QK]at this;exact this.1⟩
  have b0:r=none\/(d=false/\iE R=true):=C.imp (λP=>P) λP=>⟨P.1,by have:=P.2;simp only[iE,QK]at this;exact this.2⟩
  have b6:∀a,a∈lj u->a<n:=λa j=>y a (Q6.2 (.inl j));have b7:∀a,a∈lj R->a<n:=λa j=>y a (Q6.2 (.inr j));have g:∀(a3:bN->cz->List Deferred->ZU) (q:Exit) (v:Act) (x:World),q≠.normal->cP n e f (writes u) (BS a3 t) q v x->cP n e f (writes (u.seq R)) t q v x:=by
   intro a3 q v x f4 o;refine o.mono (λa j=>Q6.2 (.inl j)) (λ_ _=>rfl) λz w i8 w1 c=>?_
   cases q with
   |normal=>exact Zz rfl f4
   |outgrown=>exact c.elim
   |_=>exact c
  have d3:∀(a3:bN->cz->List Deferred->ZU) q e f Y b,BS a3 t q e f Y b->q≠.outgrown:=by
   intro a3 q e f Y b c Q;subst Q;exact c.elim
  unfold DR at P;split at P
  ·have hx:=K (m:=m) r d _ e f l b b4 b6 (d3 _) k P
   refine wpIn_seq (wpIn_mono hx ?_);intro q v x o
   cases q with
   |normal=>
    obtain⟨z,w,B,F,c⟩:=o;have hy:=L (m:=m) r d t z w v x b0 b7 J B c;refine wpIn_mono hy (λq d4 d5 o=>?_);refine o.mono (λa j=>Q6.2 (.inr j)) (λa j=>F a λhm=>j (Q6.2 (.inl hm))) λ_ _ _ _ c=>c
   |exit id=>exact g _ _ _ _ sM o
   |goto a0=>exact g _ _ _ _ sM o
   |ret=>exact g _ _ _ _ sM o
   |panic ch=>exact g _ _ _ _ sM o
   |outgrown=>exact g _ _ _ _ sM o
  ·rename_i H hS
   obtain⟨f5,P,c5⟩:=P;obtain⟨w,h1,h2,c5⟩:=eM.out c5;have hx:=K (m:=m) r d _ e f l b b4 b6 (d3 _) k P;refine wpIn_seq (wpIn_mono hx ?_);intro q v x o
   cases q with
   |normal=>
    obtain⟨B2,e2,O,b8,c⟩:=o;obtain⟨b9,hJ⟩:=BR.out c;have hv:=nE O H;have a7:=jw B2 e2 H;have d6:=ap.all a7 hJ c5 (λa=>v.tmps.getD a undef) x hJ;rw[hv,<-b9]at d6;have d7:=vB (n:=n) H O.size h1 h2 (B0:=e) (λa j=>(O.slot a).trans (b8 a j));have hy:=L (m:=m) r d t _ _ v x b0 b7 J d7 d6;refine wpIn_mono hy (λq d4 d5 o=>?_);refine o.mono (λa j=>Q6.2 (.inr j)) (λa j=>?_) λ_ _ _ _ c=>c;rw[<-d7.slot];exact(O.slot a).trans (b8 a λhm=>j (Q6.2 (.inl hm)))
   |exit id=>exact g _ _ _ _ sM o
   |goto a0=>exact g _ _ _ _ sM o
   |ret=>exact g _ _ _ _ sM o
   |panic ch=>exact g _ _ _ _ sM o
   |outgrown=>exact g _ _ _ _ sM o
 |cond I u R K L=>
  intro r d t e f l b C y J k P;have b4:r=none\/(d=false/\iE u=true):=C.imp (λP=>P) λP=>⟨P.1,by have:=P.2;simp only[iE,QK]at this;exact this.1⟩
  have b0:r=none\/(d=false/\iE R=true):=C.imp (λP=>P) λP=>⟨P.1,by have:=P.2;simp only[iE,QK]at this;exact this.2⟩
  unfold DR at P;split at P
  ·rename_i f6 S
   refine wpIn_cond_split (t:=f6) (by rw[k.eval];exact S) (λj=>?_) (λhf=>?_)
   ·subst j
    refine wpIn_mono (K r d t e f l b b4 (λa j=>y a (Q6.2 (.inl j))) J k P) (λq v x o=>?_);exact o.mono (λa j=>Q6.2 (.inl j)) (λ_ _=>rfl) λ_ _ _ _ c=>c
   ·subst hf
    refine wpIn_mono (L r d t e f l b b0 (λa j=>y a (Q6.2 (.inr j))) J k P) (λq v x o=>?_);exact o.mono (λa j=>Q6.2 (.inr j)) (λ_ _=>rfl) λ_ _ _ _ c=>c
  ·exact P.elim
 |block id I ih=>
  intro r d t e f l b C y J k P;refine wpIn_block (wpIn_mono (ih r d (xp id t) e f l b C y (by intro q e f Y b c Q;subst Q;exact c.elim) k P) ?_);intro q v x o;obtain⟨z,w,B,F,c⟩:=o
  cases q with
  |exit a8=>
   show(if a8=id then _ else _);simp only[xp]at c
   cases S:Nat.beq a8 id with
   |true=>
    rw[S]at c;rw[Zx (X9 S)];exact⟨z,w,B,F,c⟩
   |false=>
    rw[S]at c;rw[Zq (by rintro rfl;simp at S)];exact⟨z,w,B,F,c⟩
  |normal=>exact⟨z,w,B,F,c⟩
  |goto a0=>exact⟨z,w,B,F,c⟩
  |ret=>exact⟨z,w,B,F,c⟩
  |panic ch=>exact⟨z,w,B,F,c⟩
  |outgrown=>exact c.elim
 |loop I ih=>
  intro r d t e f l b C y J k P;unfold DR at P;split at P
  ·exact P.elim
  ·rename_i H hS
   obtain⟨f7,⟨m0,h0⟩,f8⟩:=P;refine wpIn_loop_ghost (λm v x=>v.tmps.size=n/\(∀a,a∉writes I->v.tmps.getD a undef=get e f a)/\v.defers=l.defers/\
    ap (iB H) (f7 m) (H.map λa4=>v.tmps.getD a4.1 undef) x) m0 ⟨k.size,λa _=>k.slot a,rfl,by rw[<-nE k H];exact h0⟩ ?_
   rintro mm v x ⟨f9,d8,b9,hI⟩;obtain⟨w,h1,h2,g0⟩:=eM.out (f8 mm);have a7:(H.map λa4=>v.tmps.getD a4.1 undef).length=(iB H).length:=by rw[<-jw e f H,zV];simp
   have S:=ap.all a7 hI g0 (λa=>v.tmps.getD a undef) x hI;have c0:=vB (n:=n) H f9 h1 h2 d8;rw[<-b9]at S;have c6:=ih (m:=m) r d _ _ _ v x C y (by intro q e f Y b c Q;subst Q;exact c.elim) c0 S;refine wpIn_mono c6 ?_;intro q d4 d5 o;obtain⟨B2,e2,O,b8,c⟩:=o;have a9:∀a,a∉writes I->get B2 e2 a=get e f a:=λa j=>(b8 a j).trans ((c0.slot a).symm.trans (d8 a j))
   cases q with
   |normal=>
    obtain⟨g1,m',d2,g2⟩:=BR.out c;refine⟨m',d2,O.size,λa j=>(O.slot a).trans (a9 a j),g1.trans b9,?_⟩;rw[<-nE O H];exact g2
   |outgrown=>exact c.elim
   |exit id=>exact⟨B2,e2,O,a9,c⟩
   |goto a0=>exact⟨B2,e2,O,a9,c⟩
   |ret=>exact⟨B2,e2,O,a9,c⟩
   |panic ch=>exact⟨B2,e2,O,a9,c⟩
 |rangeFunc g3 ps u R K L=>
  intro r d t e f l b C y J k P;unfold DR at P;split at P
  ·exact P.elim
  obtain rfl:r=none:=C.resolve_right λP=>by cases P.1
  split at P
  ·exact P.elim
  rename_i H hS;obtain⟨d9,P⟩:=dY.out P;simp only[QK]at d9;obtain⟨c1,g4,g5⟩:=d9;have c1:=NW.out c1;obtain⟨c7,a1,g6,g7,σ,s0,f5,Jx,a3,i9,g8,e0,c2,c6,g9,h3,h4⟩:=P;have b6:∀a,a∈lj u->a<n:=λa j=>y a (Q6.2 (.inr (Q6.2 (.inl j))));have b7:∀a,a∈lj R->a<n:=λa j=>y a (Q6.2 (.inr (Q6.2 (.inr j))));have h5:∀a,a∈ps.toList->a<n:=λa j=>y a (Q6.2 (.inl j));refine wpIn_rangeFunc ?_;intro fn _;obtain⟨p,s⟩:∃p:LoopState->Option Code->Loop,p=λst pe=>{state:=st,pending:=pe,fn,tmps:=l.tmps,params:=ps,assign:=u,body:=R,defers:=b.heap.size}:=⟨_,rfl⟩
  obtain⟨T,b2⟩:∃T,(b.alloc (.deferred (some []))).alloc (.loop (p .ready none))=T:=⟨_,rfl⟩
  have h6:T.heap[b.heap.size+1]? =some (.loop (p .ready none)):=by
   rw[<-b2];have:=World.alloc_heap_new (b.alloc (.deferred (some []))) (.loop (p .ready none));rwa [World.size_alloc]at this
  have h7:T.heap[b.heap.size]? =some (.deferred (some [])):=by
   rw[<-b2];exact(Go.RowKit.Below.heap_alloc _ _ _ sM).trans (World.alloc_heap_new b _)
  have h8:T.heap.size=b.heap.size+2:=by rw[<-b2];simp
  have h9:ak (λ_=>False) b T:=by
   rw[<-b2];exact⟨rfl,rfl,rfl,by simp;omega,λi0 E _=>(Go.RowKit.Below.heap_alloc _ _ _ be).trans (Go.RowKit.Below.heap_alloc b _ i0 E)⟩
  let i1:ZU:=λe1=>e1.heap[b.heap.size+1]? =some (.loop (p .ready none))/\e1.heap[b.heap.size]? =some (.deferred (some []))
  let Rx:Exit->ZU:=λu e1=>We u (VO (λu A0=>t u e f (MK b.heap.size::l.defers) A0) (gB R))/\e1.heap[b.heap.size+1]? =some (.loop (p .done (some (Rf u))))/\e1.heap[b.heap.size]? =some (.deferred (some []))
  have c3:∀{e1 e:World} {V o':Obj},ak (n_ b) e1 e->e1.heap[b.heap.size+1]? =some V->e1.heap[b.heap.size]? =some o'->e.heap[b.heap.size+1]? =some V/\e.heap[b.heap.size]? =some o':=λE h1 h2=>
   ⟨E.obj h1 λP=>P.2 rfl,E.obj h2 λP=>P.1 rfl⟩
  refine⟨b.heap.size+1,[MK b.heap.size],T,{target:=.fn (.func c7) a1,args:= #[.func (.yield (b.heap.size+1)) #[] #[]]},T,c7,#[.func (.yield (b.heap.size+1)) #[] #[]]++a1,T,?_,?_,λ_ _=>trivial,?_,λP=>by simp[Fence.wide]at P,?_⟩
  ·rw[<-b2,s];exact run_enterLoop_outer _ _ _ _ _
  ·have hg:l.eval g3= .func (.func c7) #[] a1:=by rw[k.eval];exact g6
   simp only[resolve,hg];simp[go_sem]
  ·simp only[invoke];exact iA g7 _ _
  refine t_.2 (Calls.mono (g9 i1 Rx (λe1 e P E=>c3 E P.1 P.2) (λu e1 e P E=>⟨P.1,c3 E P.2.1 P.2.2⟩) (λe1 P=>by have:=(Q5.1 P.1).1;omega) ?_ T (g8 T h9 h8) ⟨h6,h7⟩) ?_)
  ·
   rintro c8 M vs A1 N ⟨W,E⟩ e3 hN;have a7:=e3.len;have e4:vs.length=ps.toList.length:=by rw[a7,<-c1,Jn]
   have hy:=run_yield (P:=h) (args:=vs.toArray) W (by rw[s];simpa using e4);rw[s]at hy;refine⟨fn,_,u,R,hy,roundIn_of_wpIn trivial ?_⟩;have S:=e3 _ (c6 c8 M A1 N (by have:=(Q5.1 W).1;omega)) hN;have c0:Rel n e (ML (Ov H) vs f) {tmps:=(ps.zip vs.toArray).foldl (λU (u:Tmp×Value)=>U.setIfInBounds u.1 u.2) l.tmps,defers:=[]}:=by
    have h0:Rel n e f {tmps:=l.tmps,defers:=[]}:=⟨k.size,k.slot⟩
    have:=EH ps.toList vs f l.tmps h5 e4 h0;rw[c1];have w:(ps.zip vs.toArray).foldl (λU (u:Tmp×Value)=>U.setIfInBounds u.1 u.2) l.tmps=(ps.toList.zip vs).foldl (λa (a4:Nat×Value)=>a.setIfInBounds a4.1 a4.2) l.tmps:=by
     rw[<-Array.foldl_toList,Array.toList_zip]
    rw[w];exact this
   have hx:=K (m:=0) (some (b.heap.size+1)) false _ e _ _ A1 (.inr ⟨rfl,g4⟩) b6 (by intro q e f Y b c Q;subst Q;exact c.elim) c0 S;refine wpIn_mono hx ?_;intro q i2 A2 o;obtain⟨z,w,B,-,c⟩:=o
   cases q with
   |exit id=>exact c.elim
   |goto a0=>exact c.elim
   |ret=>exact c.elim
   |panic ch=>exact c.elim
   |outgrown=>exact c.elim
   |normal=>
    obtain⟨i3,c⟩:=c;obtain⟨e5,i4⟩:=c3 i3 W E;refine⟨_,run_beginRound e5 (by rw[s]),?_⟩;have c:=c _ (jA (w:=A2) (l:=b.heap.size+1) (o:=.loop {p .ready none with state:=.busy}));have e6:(A2.putObj (b.heap.size+1) (.loop {p .ready none with state:=.busy})).heap[b.heap.size+1]? =some (.loop {p .ready none with state:=.busy}):=World.putObj_heap_same (Q5.1 e5).1;have e7:(A2.putObj (b.heap.size+1) (.loop {p .ready none with state:=.busy})).heap[b.heap.size]? =some (.deferred (some [])):=(World.putObj_heap_other oM).trans i4;generalize A2.putObj (b.heap.size+1) (.loop {p .ready none with state:=.busy})=A3 at c e6 e7;have hy:=L (m:=0) (some (b.heap.size+1)) false _ z w i2 A3 (.inr ⟨rfl,g5⟩) b7 (by intro q e f Y b c Q;subst Q;exact c.elim) B c;refine wpIn_mono hy ?_;have a2:∀(i:Option Code) (X:World),ak (n_ b) A3 X->
      (Instr.endRound (b.heap.size+1) i).run h X= .ok (.bool i.isNone) (X.putObj (b.heap.size+1) (.loop (p (if i.isNone then .ready else .done) i)))/\
      (X.putObj (b.heap.size+1) (.loop (p (if i.isNone then .ready else .done) i))).heap[b.heap.size+1]? =some (.loop (p (if i.isNone then .ready else .done) i))/\
      (X.putObj (b.heap.size+1) (.loop (p (if i.isNone then .ready else .done) i))).heap[b.heap.size]? =some (.deferred (some [])):=λi X a6=>by
     obtain⟨e8,i5⟩:=c3 a6 e6 e7;have:=run_endRound (P:=h) i e8;rw[s]at this⊢;exact⟨this,World.putObj_heap_same (Q5.1 e8).1,(World.putObj_heap_other oM).trans i5⟩
    intro q j0 X o;obtain⟨B4,j1,j2,-,b1⟩:=o
    cases q with
    |normal=>
     obtain⟨a6,b3⟩:=b1;obtain⟨f1,f2,f3⟩:=a2 none X a6;exact⟨_,_,f1,true,rfl,.inl ⟨rfl,e0 _ _ _ _ b3 jA,f2,f3⟩⟩
    |ret=>
     obtain⟨a6,c9,b3⟩:=b1;obtain⟨f1,f2,f3⟩:=a2 (some .ret) X a6;exact⟨_,_,f1,false,rfl,.inr ⟨rfl,.ret,c2 _ _ _ _ b3 jA,c9,f2,f3⟩⟩
    |exit id=>
     obtain⟨a6,c9,b3⟩:=b1;obtain⟨f1,f2,f3⟩:=a2 (some (.exit id)) X a6;exact⟨_,_,f1,false,rfl,.inr ⟨rfl,.exit id,c2 _ _ _ _ b3 jA,c9,f2,f3⟩⟩
    |goto a=>exact b1.elim
    |panic ch=>exact b1.elim
    |outgrown=>exact b1.elim
  ·
   rintro ed A2 ⟨⟨j3,rfl⟩,(⟨⟨W,E⟩,c8,d0,N,hT⟩|⟨x1,M,N,i6,W,E⟩)⟩
   ·refine⟨none,_,by have:=run_endLoop (P:=h) W (by rw[s];simp);rw[s]at this;exact this,?_⟩
    exact cP.of (k.defers _) (h3 c8 d0 _ (e0 _ _ _ _ N jA) hT ((World.putObj_heap_other oM).trans E))
   ·refine⟨some (Rf x1),_,by have:=run_endLoop (P:=h) W (by rw[s];simp);rw[s]at this;exact this,?_⟩
    obtain⟨i7,c⟩:=Ou.out h4 x1 i6;rcases Jo R x1 i7 with rfl|⟨id,rfl⟩
    ·exact wpIn_ret (cP.of (k.defers _) (c M _ (c2 .ret M A2 _ N jA) ((World.putObj_heap_other oM).trans E)))
    ·exact wpIn_exit (cP.of (k.defers _) (c M _ (c2 (.exit id) M A2 _ N jA) ((World.putObj_heap_other oM).trans E)))
def UU(n:ZU):List Deferred->ZU
 |[],P=>n P
 |d::c,P=>match d.target with
  | .collected a=>qu a P/\∀b,qh a P b->UU n c b
  |_=>False
def TG(c:Program)(d:Func)(P:ZT):g_:=λg e f a n=>match g with
 | .normal=>UU (λn=>IH c d.results.toList e f n λb=>P (.returned (oneOf b)) n) a n
 | .ret=>UU (λn=>IH c d.results.toList e f n λb=>P (.returned (oneOf b)) n) a n
 | .panic h=>UU (λn=>P (.panicked h) n) a n
 |_=>False
def oQ{f:Program}{g:Func}{n:Array Value}{h:ZT}{b:ZU}{e:FrameMode}(i:e≠.run){j:Nat}(k:∀P,b P->LeavesIn (FW none) j f g n h [] e P):∀(c:List Deferred) (P:World),UU b c P->LeavesInM (FW none) j f g n h c e P
 |[],P,a=>k P a
 |d::c,P,a=>by
  unfold UU at a;split at a
  ·rename_i l m
   obtain⟨o,a⟩:=a;exact⟨i,.inl ⟨l,_,m,run_takeDeferred o,oQ i k c _ (a _ jA)⟩⟩
  ·exact a.elim
def nu(g:jW)(i:List Nat)(j:h.follows .mixedOrders=true)(k:h.funcs[z]? =some a7)(m:a7.body=some a1)(o:l.size<=a7.ntmps)(p:ux a7.ntmps (lj a1)=true)(P:DR h g i true a1 (TG h a7 A) (λ_=>undef) (eX 0 l.toList) [] b):Calls h z l b A:=by
 refine t_.1 (callsIn_of_wp_marks (F:=FW none) (n:=0) k m trivial (wpIn_mono (VP j a1 none true (TG h a7 A) _ _ _ b (.inl rfl) (kZ p) (by intro c d e u b n q;subst q;exact n.elim) (xq o []) P) ?_));rintro c r v ⟨d,e,s,_,n⟩;have f:∀b,(IH h a7.results.toList d e b λa=>A (.returned (oneOf a)) b)->LeavesIn (FW none) 0 h a7 r.tmps A [] .returning b:=λb P=>by
  obtain⟨a,t,P⟩:=qR s P;exact⟨_,qS t,P⟩
 cases c with
 |normal=>exact oQ sM f _ _ n
 |ret=>exact oQ sM f _ _ n
 |panic w=>exact oQ sM (λb P=>P) _ _ n
 |exit id=>exact n.elim
 |goto a=>exact n.elim
 |outgrown=>exact n.elim
