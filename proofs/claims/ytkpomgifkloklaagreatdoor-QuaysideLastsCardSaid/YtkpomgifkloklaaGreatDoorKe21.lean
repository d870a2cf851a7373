import Derived.Test.YtkpomgifkloklaaGreatDoorKe20
set_option maxHeartbeats 4000000
set_option linter.all false
set_option maxRecDepth 100000
open Go.IntKind renaming wrap→PP
namespace Go.Proofs.YtkpomgifkloklaaGreatDoor
open Go.aw
def Ji:lq:=⟨[(2,[(8,WP 0)]),(10,[(10,WP 0)]),(19,[(13,WP 0)])],[(7,[(9,WP 0)]),(9,[]),(15,[(11,WP 0)])],[14],[],[(14,⟨[0,0,0,4,10,17,32,0,128,320,1023],[2047,2047,2047,2043,2037,2030,2015,2047,1919,1727,1535],[0,0,0,0,0,0,1,0,2,2,0]⟩)]⟩
variable{H:Bool}{B:ba}{e r:Int}{a5:List bG}{a c i p:Nat}{d e6 v:be}{e8:Option bG}{j:Type}{b:World}{R:aU}{L l:ah}{e9 y:aq}{d2:bj}{b8:jT}
def Jj(W:(∃r:Nat->Int->bc,(∃j,r j 0 b)/\∀(j:Nat) (f:Int) (c7:Nat->Value) (g:World),r j f g->al (decide (f<(PP .i64 (e*e)))) ((∃s:Int->bc,(al (decide ((a:Int)>0)) ((ix_ v 0 a λX Y=>(rI g (ad X (Y+Int.toNat 0)) λZ=>PC_ 36 #[.ii Z,.ii (PP .i64 (e*e))] g (kI_ λa0 a1=>PR_ (eq_ .rem 3 (.tmp 33) (.tmp 36) (.ii (PP .i64 (f+a0))) (.ii (PP .i64 (e*e)))) a1 (kI_ λa2 a3=>s a2 a3) (pV B)) (pE B)))) (s f g))/\∀(h:Int) (c8:Nat->Value) (P:World),s h P->(∃t:bc,((∃H,(∀i,(eq_ .quo 3 (.tmp 38) (.tmp 39) (.ii h) (.ii e)).run LL (P.drewN i)= .ok (.ii H) (P.drewN i))/\(∃G,(∀i,(eq_ .rem 3 (.tmp 41) (.tmp 42) (.ii h) (.ii e)).run LL (P.drewN i)= .ok (.ii G) (P.drewN i))/\(∀u,bW P u->al (H !=G) ((∀I,bW u I->(∃J,(∀n,(eq_ .quo 3 (.tmp 46) (.tmp 47) (.ii h) (.ii e)).run LL n= .ok (.ii J) n)/\(∃K,(∀n,(eq_ .rem 3 (.tmp 49) (.tmp 50) (.ii h) (.ii e)).run LL n= .ok (.ii K) n)/\PC_ 37 #[.ii 2,.ii J,.ii K] I (kX_ 51 λa4 a5=>PC_ 6 #[.pointer d,a4] a5 (kX_ 46 λc9 a6=>t a6) (pZ B)) (pZ B))))) (t u)))))/\∀(d0:Nat->Value) (L:World),t L->(∃w:Nat->Int->bc,(∃k,w k 0 L)/\∀(k:Nat) (l:Int) (d1:Nat->Value) (M:World),w k l M->PC_ 38 #[.pointer d] M (kI_ λa7 x=>al (decide (a7>0)) ((∃y:Int->bc,(al (decide ((a:Int)>0)) ((∀m,bW x m->∃z:ac,(∃A,(∀n,(eq_ .rem 3 (.tmp 63) (.tmp 65) (.ii l) (.ii (a:Int))).run LL n= .ok (.ii A) n)/\(ix_ v A a λN a8=>(¬z N/\(rI m (ad N (a8+Int.toNat A)) λa9=>PC_ 38 #[.pointer d] m (kI_ λb0 C=>(aj z m C/\PC_ 36 #[.ii a9,.ii b0] C (kI_ λb1 O=>(aj z C O/\y b1 O)) (pZ B))) (pZ B))))))) (y 0 x))/\∀(Q:Int) (d2:Nat->Value) (R:World),y Q R->PC_ 37 #[.ii 3,.ii Q,.ii 0] R (kX_ 51 λb2 b3=>PC_ 6 #[.pointer d,b2] b3 (kX_ 46 λb4 E=>PA E (.cells #[.ii 0,.ii 0,.ii 0,.ii 0,.slice none 0 0,.slice none 0 0,.slice none 0 0,.bool false] 46) λb5=>St 46 (ab_ E 0) b4 b5 λo=>(rI o (ab_ E 0) λb6=>al (b6 !=0) (rt B ((.tuple #[.bool false,.bool false])) o) (al (decide (l>50000)) (rt B ((.tuple #[.bool false,.bool false])) o) ((∃S,S<k/\w S (PP .i64 (l+1)) o))))) (pE B)) (pE B))) ((∃T,T<j/\r T (PP .i64 (f+1)) x))) (pE B))))) ((∃D:Nat->Int->bc,(∃p,D p 1 g)/\∀(p:Nat) (q:Int) (d3:Nat->Value) (F:World),D p q F->al (decide (q<e)) (PC_ 7 #[.pointer d,.ii 0] F (kS_ λb7 b8 b9 c0=>PC_ 7 #[.pointer d,.ii q] c0 (kS_ λc2 c3 c4 c5=>PC_ 8 #[.slice b7 b8 b9,.slice c2 c3 c4] c5 (kI_ λc6 U=>al (c6 !=0) (rt B ((.tuple #[.bool false,.bool true])) U) ((∃V,V<p/\D V (PP .i64 (q+1)) U))) (pE B)) (pE B)) (pE B)) (rt B ((.tuple #[.bool true,.bool true])) F))))):bn 16 #[.pointer d,.ii e,.slice v a c] b B:=DC Ji Tryz.func16 rfl W
def Jk:lq:=⟨[(4,[(9,WP 0)]),(7,[(10,WP 0)]),(10,[(11,WP 0)]),(19,[(14,WP 0)]),(22,[(15,WP 0)])],[],[16,28],[],[]⟩
def Jl{S T U V W X Y Z k l:Int}(a0:PA b (.cells #[.ii S,.ii T,.ii U,.ii V,.ii W,.ii X,.ii Y,.ii Z,.slice v a c,.slice e6 i p] 27) λa9=>PC_ 9 #[.pointer d,.ii k] a9 (kS_ λb0 b1 b2 b3=>PC_ 9 #[.pointer d,.ii l] b3 (kS_ λb4 b5 b6 b7=>PC_ 39 #[.slice b0 b1 b2,.slice b4 b5 b6] b7 (kB λb8 a3=>al (!b8) (rt B ((.bool false)) a3) ((∃E:Nat->Int->bc,(∃m,E m (-1) a3)/\∀(m:Nat) (o:Int) (a1:Nat->Value) (q:World),E m o q->(rS q (ab_ b (0+8)) λe7 b9 e8=>al (decide (o<=(b9:Int))) ((∃F:Nat->Int->bc,(∃r,F r 0 q)/\∀(r:Nat) (e:Int) (e9:Nat->Value) (H:World),F r e H->al (decide (e<4)) ((∃I:Nat->Int->bc,(∃s,I s 9 H)/\∀(s:Nat) (t:Int) (f0:Nat->Value) (D:World),I s t D->al (decide (t<=10)) (PC_ 37 #[.ii t,.ii k,.ii (PP .i64 (e-1))] D (kX_ 51 λc0 f=>PA f (.cells #[.ii 0,.ii 0,.ii 0,.ii 0,.ii 0,.ii 0,.ii 0,.ii 0,.ii 0,.ii 0] 51) λc2=>St 51 (ab_ f 0) c0 c2 λc3=>St 49 (ab_ f (0+3)) (.agg #[.ii o,.ii e,.ii 0,.ii 0,.ii 0,.ii 0,.ii 0]) c3 λn=>(Ld 51 (ab_ f 0) n λc4=>PA n (.cells #[.ii 0,.ii 0,.ii 0,.ii 0,.ii 0,.ii 0,.ii 0,.ii 0,.ii 0,.ii 0] 51) λc5=>St 51 (ab_ n 0) c4 c5 λc6=>PS c6 (ab_ n (0+1)) (.ii l) λc7=>(∀g,bW c7 g->∃u:ac,(Ld 51 (ab_ f 0) g λc8=>(¬u n.heap.size/\(Ld 51 (ab_ n 0) g λc9=>PC_ 6 #[.pointer d,c8] g (kX_ 46 λd0 J=>(aj u g J/\PC_ 6 #[.pointer d,c9] J (kX_ 46 λd1 K=>(aj u J K/\PC_ 40 #[d0,d1] K (kB λd2 G=>(aj u K G/\al (!d2) (rt B ((.bool false)) G) ((∃a4,a4<s/\I a4 (PP .i64 (t+1)) G)))) (pZ B))) (pZ B))) (pZ B))))))) (pE B)) ((∃a5,a5<r/\F a5 (PP .i64 (e+1)) D)))) ((∃a6,a6<m/\E a6 (PP .i64 (o+1)) H)))) ((∃L:Nat->Int->bc,(∃w,L w (-1) q)/\∀(w:Nat) (x:Int) (f1:Nat->Value) (y:World),L w x y->(rS y (ab_ b (0+8+1)) λf2 d3 g0=>al (decide (x<=(d3:Int))) ((∃M:Nat->Int->bc,(∃z,M z (-2) y)/\∀(z:Nat) (A:Int) (g1:Nat->Value) (N:World),M z A N->al (decide (A<3)) (PC_ 37 #[.ii 11,.ii k,.ii A] N (kX_ 51 λd4 h=>PA h (.cells #[.ii 0,.ii 0,.ii 0,.ii 0,.ii 0,.ii 0,.ii 0,.ii 0,.ii 0,.ii 0] 51) λd5=>St 51 (ab_ h 0) d4 d5 λd6=>PS d6 (ab_ h (0+3+2)) (.ii x) λP=>(Ld 51 (ab_ h 0) P λd7=>PA P (.cells #[.ii 0,.ii 0,.ii 0,.ii 0,.ii 0,.ii 0,.ii 0,.ii 0,.ii 0,.ii 0] 51) λd8=>St 51 (ab_ P 0) d7 d8 λd9=>PS d9 (ab_ P (0+1)) (.ii l) λe0=>(∀j,bW e0 j->∃C:ac,(Ld 51 (ab_ h 0) j λe1=>(¬C P.heap.size/\(Ld 51 (ab_ P 0) j λe2=>PC_ 6 #[.pointer d,e1] j (kX_ 46 λe3 O=>(aj C j O/\PC_ 6 #[.pointer d,e2] O (kX_ 46 λe4 Q=>(aj C O Q/\PC_ 40 #[e3,e4] Q (kB λe5 R=>(aj C Q R/\al (!e5) (rt B ((.bool false)) R) ((∃a7,a7<z/\M a7 (PP .i64 (A+2)) R)))) (pZ B))) (pZ B))) (pZ B))))))) (pE B)) ((∃a8,a8<w/\L a8 (PP .i64 (x+1)) N)))) (rt B ((.bool true)) y)))))))) (pE B)) (pE B)) (pE B)):bn 18 #[.pointer d,.agg #[.ii S,.ii T,.ii U,.ii V,.ii W,.ii X,.ii Y,.ii Z,.slice v a c,.slice e6 i p],.ii k,.ii l] b B:=DC Jk Tryz.func18 rfl a0
section
variable {c:bF} {X:cH} {k j:Nat} {i:Int} {R R':bh} {s:ei} {ms:List bG} {m:bG}
def Ca{n ms:List bG}(P:m∈EH n ms):m∈n\/m∈ms:=(Q6.1 P).imp id List.mem_of_mem_take
def JC(n:m∈gP a5 e):m∈a5:=by
 unfold gP at n;split at n
 ·exact(List.eraseIdx_sublist ..).subset n
 ·exact n
end
def SG(n:(fk R y d2 e r b8).2.1=true):(fk R y d2 e r b8).1.origin=e:=by
 have o:∀g h,(aX b8 e g h).1=0->(aX b8 e g h).2.origin=e:=λg h n=>by
  unfold aX at n⊢;dsimp only at n⊢;split
  ·rename_i i;rw[Zx i]at n;cases n
  rename_i i;rw[Zq i]at n;split
  ·rename_i p;rw[Zx p]at n;cases n
  ·rfl
 have q:∀(a b:Prop) [Decidable a] [Decidable b] (d f c:ah×Bool×Int),d.2.1=false->f.2.1=false->(c.2.1=true->c.1.origin=e)->(if a then d else if b then f else c).2.1=true->(if a then d else if b then f else c).1.origin=e:=λa b _ _ d f c s t u P=>by
  by_cases j:a
  ·rw[Zx j]at P;rw[s]at P;cases P
  ·rw[Zq j]at P⊢
   by_cases k:b
   ·rw[Zx k]at P;rw[t]at P;cases P
   ·rw[Zq k]at P⊢;exact u P
 unfold fk at n⊢;dsimp only at n⊢
 by_cases l:iX R b8≠0
 ·rw[Zx l]at n;cases n
 rw[Zq l]at n⊢
 cases m:y.keyed b8.key with
 |some v=>rw[m]at n;cases n
 |none=>
  rw[m]at n;exact q _ _ _ _ _ rfl rfl (λP=>o _ _ (XV P)) n
def Cf(b:cH)(n:ah):Prop:=∃(P:Nat) (a:bh),n.origin=(P:Int)/\b.aA[P]? =some a/\n∈a.S.l
def WV(P:cH)(a:Nat)(n:ah):Prop:=n.origin=(a:Int)\/Cf P n
def Gr(b c:cH):Prop:=∀(n:Nat) P,b.aA[n]? =some P->∃a,c.aA[n]? =some a/\∀d∈P.S.l,d∈a.S.l
section
variable {c:bF} {X Y Z:cH} {k j:Nat} {i:Int} {R R':bh} {s:ei} {ms:List bG} {m z:bG} {f:List bG} {now:Int} {n:Int} {e:ah}
def Gr.refl(X:cH):Gr X X:=λi R n=>⟨R,n,λ_ n=>n⟩
def Gr.trans(n:Gr X Y)(k:Gr Y Z):Gr X Z:=λi R P=>by
 obtain⟨a,b,c⟩:=n i R P;obtain⟨d,f,g⟩:=k i a b;exact⟨d,f,λe h=>g e (c e h)⟩
def Gr.set(a:X.aA[j]? =some R)(P:∀e∈R.S.l,e∈R'.S.l):Gr X ⟨X.aA.set j R',f,now⟩:=λb d n=>by
 by_cases c:j=b
 ·subst c
  rw[a]at n;injection n with n;subst n;exact⟨R',List.getElem?_set_self (Qv.1 a).1,P⟩
 ·exact⟨d,by show(X.aA.set j R')[b]? =_;rw[List.getElem?_set_ne c];exact n,λ_ P=>P⟩
def Cf.gr(P:Cf X e)(a:Gr X Y):Cf Y e:=by
 obtain⟨n,R,b,c,d⟩:=P;obtain⟨R',f,g⟩:=a n R c;exact⟨n,R',b,f,g e d⟩
def fj.UX{n P:ah->Prop}(a:fj n c R H)(b:∀e,n e->P e):fj P c R H:=by
 obtain⟨d,f,no,g,k,h,i,j,l,m,o,p,q,r⟩:=a.log;exact⟨d,f,no,g,k,h,i,j,l,m,o,p,q,λe s=>b e (r e s)⟩
def LC.UX{P a:Nat->ah->Prop}(g:LC P c X)(b:∀i e,P i e->a i e):LC a c X:=λi R h=>by
 obtain⟨⟨n,j⟩,d⟩:=g i R h;exact⟨⟨n,j.UX (b i)⟩,λe f=>⟨(d e f).1,b i e (d e f).2⟩⟩
def vx.RB(P:vx (λ_=>True) c R)(n:oe c X)(b:R∈X.aA)(d:aH i){a:Sa}(f:a.cmd.Ok)(g:∀e∈a.m.events,e.Ok):∀e∈R.S.l,e∈(NN c i R a).2.S.l:=by
 obtain⟨⟨h,j⟩,k⟩:=P;obtain⟨l,m,o,p,q⟩:=n.cl R b;exact(j.call k l m o f (λe r=>⟨g e r,trivial⟩) (λ_ _=>trivial) d n.start p q n.chunk).RB
def UY(n:vx (λ_=>True) c R)(a:oe c X)(b:R∈X.aA)(d:aH i)(f:s.Ok):∀e∈R.S.l,e∈(gQ c i R s).2.S.l:=by
 have P:∀e∈([]:List ah),e.Ok:=λe P=>by cases P
 unfold gQ;split
 ·exact n.RB a b d (a:=⟨0,0,0,s.cmd,sR.m⟩) f.cmd P
 split
 ·exact n.RB a b d (a:=⟨4,s.m,0,sR.cmd,sR.m⟩) lz P
 split
 ·exact n.RB a b d (a:=⟨6,0,0,sR.cmd,sR.m⟩) lz P
 split
 ·exact λ_ n=>n
 split
 ·exact λ_ n=>n
 split
 ·exact λ_ n=>n
 ·exact n.RB a b d (a:=⟨5,s.m,0,sR.cmd,sR.m⟩) lz P
def MA:Gr X (fX X j):=by
 unfold fX;split
 ·exact Gr.refl X
 ·rename_i R n
  exact Gr.set n λ_ P=>P
def JE:∀(n:List Nat) {X:cH},Gr X (n.foldl fX X)
 |[],X=>Gr.refl X
 |j::n,X=>MA.trans (JE n)
def JF(b:LC (λ_ _=>True) c X)(P:oe c X)(d:∀m,e8=some m->m∈X.dP):Gr X (gi c ⟨X.aA,f,X.now⟩ e8).2:=by
 unfold gi
 cases e8 with
 |none=>exact Gr.refl X
 |some m=>
  dsimp only;split
  ·exact Gr.refl X
  ·rename_i R a
   obtain⟨j,g,a⟩:=ej a;have n:X.aA[j]? =some R:=a;have h:=(b j R n).RB P (QZ n) (UA P (Qv.1 n).1) (a:=⟨2,0,0,sR.cmd,m⟩) lz λe i=>P.evs m (d m rfl) e i;rw[g];exact Gr.set (X:=X) n h
def SF(a:LC (λ_ _=>True) c X)(P:oe c X)(d:s.Ok):Gr X (cB c X s).2:=by
 unfold cB;split
 ·exact JF a P λm b=>oh b
 split
 ·exact JF (f:=X.dP) a P λm b=>oh b
 split
 ·exact Gr.refl X
 split
 ·exact JE _ (X:=⟨X.aA,X.dP,X.now+1⟩)
 split
 ·exact Gr.refl X
 split
 ·exact Gr.refl X
 ·rename_i R n
  obtain⟨j,f,n⟩:=ej n;rw[f];split
  ·split
   ·exact Gr.refl X
   ·refine Gr.set (X:=X) n λe g=>?_
    rw[(EN c j R s.m X.now).1];exact g
  ·exact Gr.set (X:=X) n (UY (a j R n) P (QZ n) (UA P (Qv.1 n).1) d)
def WW(X:cH)(m:bG):Prop:=∀e∈m.events,∃(i:Nat) (R:bh),X.aA[i]? =some R/\e∈R.S.l
def yT{P:List Int}{n:Int}(a:e∈y.missing P n):e∈y.l:=(List.mem_filter.1 (List.mem_of_mem_take a)).1
def Hn(n:z∈(cy c i R m).1):∀e∈z.events,e∈R.S.l:=by
 have P:∀(h j k:Int) (l:List Int) (o:aq),z=(⟨h,j,k,l,[]⟩:bG)->∀e∈z.events,e∈o.l:=λh j k l o q e a=>by rw[q]at a;cases a
 unfold cy at n
 cases p:R.log with
 |none=>rw[p]at n;simp at n
 |some v=>
  rw[p]at n;dsimp only at n;split at n
  ·simp at n
  split at n
  ·simp at n
  split at n
  ·unfold lP at n
   dsimp only at n;split at n
   ·exact P _ _ _ _ _ (List.mem_singleton.1 n)
   ·split at n
    ·simp at n
    ·exact P _ _ _ _ _ (List.mem_singleton.1 n)
  split at n
  ·unfold ly at n
   split at n
   ·simp at n
   have b:∀(d:Prop) [Decidable d] (f:bG),z∈(if d then [f]else [])->z=f:=λd _ f g=>by
    split at g
    ·exact List.mem_singleton.1 g
    ·simp at g
   dsimp only at n;generalize r:(if 0<(R.S.missing m.vec (max 1 (min c.chunk 32))).length then [(⟨3,i,m.bO,[],R.S.missing m.vec (max 1 (min c.chunk 32))⟩:bG)]else [])=s at n;generalize t:(if m.kind=1/\(ic m.vec R.S.vec=2\/ic m.vec R.S.vec=3)then [(⟨2,i,m.bO,R.S.vec,[]⟩:bG)]else [])=u at n
   by_cases a:(s++u).isEmpty=true
   ·rw[Zx a]at n
    exact P _ _ _ _ _ (List.mem_singleton.1 n)
   ·rw[Zq a]at n
    rcases Q6.1 n with n|n
    ·rw[<-r]at n;rw[b _ _ n];exact λe a=>yT a
    ·rw[<-t]at n;exact P _ _ _ _ _ (b _ _ n)
  split at n
  ·simp at n
  ·rw[List.mem_singleton.1 n];exact λe a=>yT a
def Cg(n:m∈(gi c X e8).2.dP):m∈X.dP\/WW X m:=by
 unfold gi at n
 cases e8 with
 |none=>exact .inl n
 |some b=>
  dsimp only at n;split at n
  ·exact .inl n
  ·rename_i R P
   obtain⟨j,d,P⟩:=ej P;rcases Ca n with h|h
   ·exact .inl h
   ·exact .inr λe a=>⟨j,R,P,Hn h e a⟩
def Ho(n:m∈(fX X j).dP):m∈X.dP\/m.events=[]:=by
 unfold fX at n;split at n
 ·exact .inl n
 ·rcases Ca n with h|h
  ·exact .inl h
  ·obtain⟨P,-,rfl⟩:=Xk.1 h
   exact .inr rfl
def Ch:∀(n:List Nat) {X:cH},m∈(n.foldl fX X).dP->m∈X.dP\/m.events=[]
 |[],X,P=>.inl P
 |j::n,X,P=>(Ch n P).elim Ho .inr
def MB(n:m∈(cB c X s).2.dP):m∈X.dP\/WW X m:=by
 have P:∀{m:bG},m.events=[]->WW X m:=λh e a=>by rw[h]at a;cases a
 unfold cB at n;split at n
 ·exact(Cg n).imp JC id
 split at n
 ·exact Cg n
 split at n
 ·exact .inl (JC n)
 split at n
 ·exact(Ch _ n).imp id P
 split at n
 ·exact .inl n
 split at n
 ·exact .inl n
 ·rename_i R b
  split at n
  ·split at n
   ·exact .inl n
   ·rcases Ca n with h|h
    ·exact .inl h
    ·unfold fg at h
     split at h
     ·simp at h
     ·exact .inr (P (by rw[List.mem_singleton.1 h];rfl))
  ·exact .inl n
structure GL (c:bF) (X:cH):Prop where
 lc:LC (WV X) c X
 dP:∀m∈X.dP,∀e∈m.events,Cf X e
def GL.born(b:GL c X)(P:X.aA[j]? =some R)(a:e∈R.S.l):Cf X e:=by
 obtain⟨⟨d,f⟩,-⟩:=b.lc j R P;rcases f.sub e a with n|n
 ·exact⟨j,R,n,P,a⟩
 ·exact n
def GL.step(n:GL c X)(d:oe c X)(f:s.Ok):GL c (cB c X s).2/\Gr X (cB c X s).2:=by
 have P:=SF (n.lc.UX λ_ _ _=>trivial) d f;refine⟨⟨(Sb n.lc d f (λ_ m a i o e g=>.inr (n.dP m (oh a) e g)) λi R p h=>.inl (SG h)).UX λi e g=>g.imp id λj=>j.gr P,λm a e g=>?_⟩,P⟩;rcases MB a with b|b
 ·exact(n.dP m b e g).gr P
 ·obtain⟨i,R,k,l⟩:=b e g
  exact(n.born k l).gr P
def UZ(e:oe c X)(f:Cf X l)(g:Cf X L)(P:aZ l=aZ L):l=L:=by
 obtain⟨h,R,o,a,i⟩:=f;obtain⟨j,p,q,n,k⟩:=g;have r:l.origin=L.origin:=Zj Prod.fst P;have:h=j:=oM
 subst this;rw[a]at n;injection n with n;subst n;have b:=(e.cl R (QZ a)).1.ok;have d:=b.get i;have m:=b.get k;rw[P,m]at d;exact(XJ d).symm
end
def Hp(b:y.Cl)(c:e9.Cl)(d:∀n∈y.l,n∈e9.l)(e:a<y.n):y.qG a<=e9.qG a:=by
 rcases Nat.eq_zero_or_pos (y.qG a)with f|f
 ·omega
 ·obtain⟨n,g,h⟩:=b.has a (y.qG a) e oM oM
  have i:=c.le n (d n g);have P:n.origin=a/\n.seq=y.qG a:=by simpa[aZ]using h
  rw[P.1,P.2,Qx]at i;omega
def kD(n:aq)(P:Nat):dH n.vec P=if P<n.n then(n.qG P:Int)else 0:=by
 split
 ·rename_i a
  rw[NY (x:=(n.qG P:Int)) oM (by rw[Qx];exact n.lC a)];omega
 ·exact wB (by rw[aq.aY];omega)
def Ci{n P:List Int}(a:∀b:Nat,dH n b<=dH P b):∀k,iF n P k=0\/iF n P k=1
 |0=>.inl rfl
 |k+1=>by
  have c:=a k;unfold iF;rcases Ci a k with B|B<;>rw[B]<;>split
  ·exact .inr dC
  ·rw[Zq oM];exact .inl rfl
  ·exact .inr dC
  ·rw[Zq oM];exact .inr rfl
def lY(n P:List Int):∀k,iF n P k=0\/iF n P k=1\/iF n P k=2\/iF n P k=3
 |0=>.inl rfl
 |k+1=>by
  unfold iF;split
  ·rcases lY n P k with h|h|h|h<;>rw[h]<;>decide
  split
  ·rcases lY n P k with h|h|h|h<;>rw[h]<;>decide
  ·exact lY n P k
def NZ{P a:List Int}:∀{k:Nat},iF P a k=0->∀n,n<k->dH P (n:Nat)=dH a (n:Nat)
 |0,_,n,c=>by omega
 |k+1,h,n,c=>by
  unfold iF at h;split at h
  ·exfalso;revert h;rcases lY P a k with h|h|h|h<;>rw[h]<;>decide
  split at h
  ·exfalso;revert h;rcases lY P a k with h|h|h|h<;>rw[h]<;>decide
  ·rcases Nat.lt_or_ge n k with b|b
   ·exact NZ h n b
   ·have:n=k:=oM
    subst this;omega
def WX(n:y.Cl)(P:e9.Cl)(a:e9.n=y.n)(b:∀c∈y.l,c∈e9.l):ic y.vec e9.vec=0\/ic y.vec e9.vec=1:=
 Ci (λe=>by
  rw[kD,kD,a];split
  ·rename_i d;have:=Hp n P b d;omega
  ·exact Int.le_refl _) _
def nil_le(n:aq):ic [] n.vec=0\/ic [] n.vec=1:=
 Ci (λP=>by
  rw[kD,wB sM];split<;>omega) _
def WY(P:e9.n=y.n)(a:ic y.vec e9.vec=0):y.vec=e9.vec:=by
 unfold ic at a;rw[aq.aY,aq.aY,P,Nat.max_self]at a;have b:=NZ a;unfold aq.vec;rw[P];refine List.map_congr_left λc n=>?_;have n:=List.mem_range.1 n;have:=b c n;rw[kD,kD,P,Zx n,Zx n]at this;exact this
def lu(n:List Int):Nat->Int
 |0=>0
 |k+1=>lu n k+dH n k
def MC(a:j->Int)(e:Nat):∀(b:List j),(∀n∈b,0<=a n/\a n<e)->∀P,P<=e->((List.range P).map λh=>b.countP λn=>a n==((h:Nat):Int)).sum=b.countP λn=>decide (a n<P):=by
 intro b f P m
 induction P with
 |zero=>
  simp only[List.range_zero,List.map_nil,List.sum_nil];exact(List.countP_eq_zero.2 λn i=>by have:=f n i;simp;omega).symm
 |succ P c=>
  rw[List.range_succ,Q3,List.sum_append,c oM];simp only[QY,List.map_nil,List.sum_cons,List.sum_nil,Nat.add_zero]
  clear c
  induction b with
  |nil=>rfl
  |cons n b c=>
   have:=c λk l=>f k (QJ _ l);simp only[List.countP_cons];have o:(if decide (a n<((P+1:Nat):Int))=true then 1 else 0)=(if decide (a n<(P:Int))=true then 1 else 0)+if(a n==(P:Int))=true then 1 else 0:=by
    by_cases d:a n<(P:Int)
    ·rw[Zx dg,Zx (by simpa using d),Zq dg]
    ·by_cases g:a n=(P:Int)
     ·rw[Zx dg,Zq (by simpa using d),Zx (by simpa using g)]
     ·rw[Zq dg,Zq (by simpa using d),Zq (by simpa using g)]
   omega
def Fk(n:aq):∀k,k<=n.n->lu n.vec k=((((List.range k).map λP=>n.qG P).sum:Nat):Int)
 |0,_=>rfl
 |k+1,a=>by
  unfold lu;rw[Fk n k oM,kD,Zx oM,List.range_succ,Q3,List.sum_append];simp
def U_(b:y.Cl):lu y.vec y.n=(y.l.length:Int):=by
 rw[Fk y y.n (Q4 _)]
 congr 1
 unfold aq.qG;have a:∀n∈y.l,0<=n.origin/\n.origin<y.n:=λn P=>by
  obtain⟨c,d,-⟩:=jP (b.ok.XN n P);exact⟨oM,oM⟩
 rw[MC (λn:ah=>n.origin) y.n y.l a y.n (Q4 _)];exact List.countP_eq_length.2 λn P=>by simpa using(a n P).2
def uU{xs:List Int}:∀{k n:Nat},k<=n->lu xs k<=lu xs n
 |k,0,P=>by
         have:k=0:=oM
         subst this;exact Int.le_refl _
 |k,n+1,P=>by
  rcases Nat.lt_or_ge k (n+1)with a|a
  ·have:=uU (xs:=xs) (k:=k) (n:=n) oM
   have b:0<=dH xs n:=by unfold dH;split<;>omega
   show lu xs k<=lu xs n+dH xs n;omega
  ·have:k=n+1:=oM
   subst this;exact Int.le_refl _
def PH(n:List Int)(P:Nat):0<=lu n P:=uU (k:=0) (Qj _)
def aq.Cl.nxt(a:y.Cl){k:Nat}(b:k<y.l.length):aq.add ⟨y.n,y.l.take k⟩ y.l[k]=(0,⟨y.n,y.l.take (k+1)⟩):=by
 have c:=(a.take (k:=k) oM).1;have n:=(a.take (k:=k+1) oM).1;rw[Qw,Qq b,Option.toList_some,aq.nW,c]at n;rcases aq.eZ ⟨y.n,y.l.take k⟩ y.l[k]with⟨-,P⟩|⟨P,-⟩
 ·rw[P]at n
  have:=Zj (λd:aq=>d.l.length) n;simp at this;omega
 ·rw[P]at n
  simp only at n;rw[P,n,Qw,Qq b,Option.toList_some]
structure WZ (S:aq) (k:Nat) (e:ah):Prop where
 org:∃o:Nat,e.origin=(o:Int)/\o<S.n/\e.seq=(aq.qG ⟨S.n,S.l.take k⟩ o:Int)+1
 aM:e.aM.length=S.n
 mr:∀o:Nat,dH e.aM o<=dH (aq.vec ⟨S.n,S.l.take k⟩) o
 next:aq.vec ⟨S.n,S.l.take (k+1)⟩=(aq.vec ⟨S.n,S.l.take k⟩).set e.origin.toNat e.seq
def aq.Cl.W_(b:y.Cl){k:Nat}(h:y.l[k]? =some l):WZ y k l:=by
 obtain⟨i,rfl⟩:=Qv.1 h;have c:=b.nxt i;have q:=(b.take (k:=k) oM).2;have j:=XY i;generalize y.l[k]=l at c j h;rcases aq.eZ ⟨y.n,y.l.take k⟩ l with⟨d,-⟩|⟨r,d,C,s,t⟩
 ·rw[c]at d;exact Zz rfl d
 obtain⟨E,F,H,I,J,K,u,L,M,-⟩:=jP (b.ok.XN l j);obtain⟨P,a⟩:∃P:Nat,l.origin=P:=⟨l.origin.toNat,oM⟩
 have m:P<y.n:=oM
 have v:y.l.take (k+1)=dE l (y.l.take k):=Zj (λw:Int×aq=>w.2.l) (c.symm.trans r);have o:l.seq=(aq.qG ⟨y.n,y.l.take k⟩ P:Int)+1:=by rw[s,a,Qx,aq.qU (S:=⟨y.n,y.l.take k⟩) m]
 refine⟨⟨P,a,m,o⟩,u,λn=>?_,?_⟩
 ·rw[kD]
  by_cases e:n<y.n
  ·rw[Zx (show n<(⟨y.n,y.l.take k⟩:aq).n from e)]
   have x:dH l.aM n=max (l.aM.getD n 0) 0:=by
    unfold dH;rw[Zq oM,Qx]
   rcases vu.1 (t n e)with f|⟨g,f,-⟩
   ·rw[x,f];omega
   ·obtain⟨z,A⟩:=aq.get_some f
    have B:=q.le g z;have p:g.origin=n/\g.seq=l.aM.getD n 0:=by simpa[aZ]using A
    rw[p.1,p.2,Qx]at B;omega
  ·rw[Zq (show¬n<(⟨y.n,y.l.take k⟩:aq).n from e),wB oM]
   exact Int.le_refl _
 ·rw[v,aq.N_ ⟨y.n,y.l.take k⟩ l a,a,Qx,o]
end Go.Proofs.YtkpomgifkloklaaGreatDoor
namespace Go.aw
open Go Go.WideShapes
variable{H:Bool}{g1:List MemPlace}{a:Nat}{h:Program}{K j:Type}{g:TypeId}{w:Value}{b:World}
def SI{n:TypeId×Value->j}{f:Reach}{d:DataW j}{e:kq K}{i:Array Field}(k:h.underlying g=some (.struct i))(l:Reads h e g)(m:Value.okWide h b f a g w)(o:DataW.Trod n h b 0 (λ_=>true) H g w d g1)(p:mS h g d):∃c cs,w= .agg cs/\e.rep b (In b) c cs.toList:=by
 obtain⟨cs,rfl,-⟩:=okWide_struct k m;obtain⟨P,q⟩:=o;obtain⟨c,r⟩:=l j n b H P cs.toList _ q p;exact⟨c,cs,rfl,r⟩
end Go.aw
namespace Go.Proofs.YtkpomgifkloklaaGreatDoor
section
open Go.aw
structure Yv (c:bF):Prop where
 aA:aH c.aA
 uV:aH c.uV
 bk:aH c.bk
 chunk:aH c.chunk
 buffer:aH c.buffer
 dj:aH c.dj
 every:aH c.every
 start:aH c.start
def Yw:kq aU where
 k:=2
 rep:=λh D i cs=>∃n tn b P a c,cs=[.slice n tn b,.slice P a c]/\bt h D i n tn P a
 keep:=λ⟨n,tn,b,P,a,c,d,e⟩ j f=>⟨n,tn,b,P,a,c,d,e.keep j f⟩
 mono:=λ⟨n,tn,b,P,a,c,d,e⟩ f=>⟨n,tn,b,P,a,c,d,e.mono f⟩
 len:=λ⟨n,tn,b,P,a,c,d,_⟩=>by rw[d];rfl
 one:=λ⟨n,tn,b,P,a,c,d,_⟩ k g=>by rw[d]at g;simp at g;rcases g with rfl|rfl<;>rfl
def ZN:kq bF where
 k:=10
 rep:=λj D e cs=>∃n tn b P a c,cs=eI e n tn b P a c/\bt j D e.decl n tn P a/\Yv e
 keep:=λ⟨n,tn,b,P,a,c,d,f,g⟩ k h=>⟨n,tn,b,P,a,c,d,f.keep k h,g⟩
 mono:=λ⟨n,tn,b,P,a,c,d,f,g⟩ h=>⟨n,tn,b,P,a,c,d,f.mono h,g⟩
 len:=λ⟨n,tn,b,P,a,c,d,_,_⟩=>by rw[d];rfl
 one:=λ⟨n,tn,b,P,a,c,d,_,_⟩ l i=>by rw[d]at i;simp[eI]at i;rcases i with rfl|rfl|rfl|rfl|rfl|rfl|rfl|rfl|rfl|rfl<;>rfl
def ZO:kq jT:=flat 7 fh jT.Ok (λ_=>rfl) (λP a n=>by simp[fh]at n;rcases n with rfl|rfl|rfl|rfl|rfl|rfl|rfl<;>rfl)
def MD:Reads LL jz 134:=λz f A P a cs B g C=>by
 obtain⟨h,E,_,rfl,i,j,n⟩:=DataW.trod_struct (Tryz.underlying134) g;have k:Tryz.prog.cellsOf 134=4:=kR
 have l:cs.length=4:=i.trans k;have m:Tryz.prog.cellsOf 3=1:=kR
 match cs,l with
 |[F,H,I,J],_=>
 match h,j with
 |[K,L,M,N],_=>
  have b:=n 0 _ rfl;have c:=n 1 _ rfl;have d:=n 2 _ rfl;have e:=n 3 _ rfl;simp only[m,List.drop_zero,List.drop_succ_cons,Zw,List.take_zero,List.take_nil,ZJ,ZZ]at b c d e;obtain⟨o,p,-,q⟩:=DataW.trod_int Tryz.underlying3 b;obtain⟨z1,r,-,s⟩:=DataW.trod_int Tryz.underlying3 c;obtain⟨t,u,-,v⟩:=DataW.trod_int Tryz.underlying3 d;obtain⟨w,x,-,y⟩:=DataW.trod_int Tryz.underlying3 e
  cases p;cases r;cases u;cases x
  exact⟨⟨o,z1,t,w⟩,rfl,bu q,bu s,bu v,bu y⟩
def PJ:Reads LL sP 123:=λL f M P a cs N g h=>by
 obtain⟨i,O,_,rfl,j,k,n⟩:=DataW.trod_struct (Tryz.underlying123) g;have l:Tryz.prog.cellsOf 123=4:=kR
 have m:cs.length=4:=j.trans l;have o:Tryz.prog.cellsOf 3=1:=kR
 have p:Tryz.prog.cellsOf 4=1:=kR
 have q:Tryz.prog.cellsOf 121=1:=kR
 match cs,m with
 |[Q,R,S,T],_=>
 match i,k with
 |[U,V,W,r],_=>
  have b:=n 0 _ rfl;have c:=n 1 _ rfl;have d:=n 2 _ rfl;have e:=n 3 _ rfl;simp only[o,p,q,List.drop_zero,List.drop_succ_cons,Zw,List.take_zero,List.take_nil,ZJ,ZZ]at b c d e;obtain⟨s,t,-,u⟩:=DataW.trod_int Tryz.underlying3 b;obtain⟨z1,v,-,w⟩:=DataW.trod_int Tryz.underlying3 c;obtain⟨x,y,-⟩:=DataW.trod_bool Tryz.underlying4 d;have z:mS LL 121 r.1:=by
   intro A B;refine h A ?_;have C:Tryz.prog.underlying 123=_:=Tryz.underlying123;simp only[DataW.weights,C,QY,List.map_nil,DataW.weightsEach,Q6];right;right;right;left;exact B
  obtain⟨E,F,H,I,J,-,-,K⟩:=open_row (bytes:=32) Tryz.underlying121 kR dC kR (MD) e z
  cases t;cases v;cases y;cases J
  exact⟨⟨s,z1,x,I⟩,E,F,H,rfl,K,bu u,bu w⟩
def PK:Reads LL nQ 120:=λx b y n P cs z c d=>by
 obtain⟨e,A,_,rfl,f,g,h⟩:=DataW.trod_struct (Tryz.underlying120) c;have i:Tryz.prog.cellsOf 120=1:=kR
 have j:cs.length=1:=f.trans i;have k:Tryz.prog.cellsOf 118=1:=kR
 match cs,j with
 |[B],_=>
 match e,g with
 |[l],_=>
  have a:=h 0 _ rfl;simp only[k,List.drop_zero,List.drop_succ_cons,Zw,List.take_zero,List.take_nil,ZJ,ZZ]at a;have m:mS LL 118 l.1:=by
   intro o p;refine d o ?_;have q:Tryz.prog.underlying 120=_:=Tryz.underlying120;simp only[DataW.weights,q,QY,List.map_nil,DataW.weightsEach,Q6];left;exact p
  obtain⟨r,s,t,u,v,-,-,w⟩:=open_row (bytes:=48) Tryz.underlying118 kR dC kR (PJ) a m
  cases v
  exact⟨u,r,s,t,rfl,w⟩
def ME:Reads LL Cb 136:=λE g F P a cs H h I=>by
 obtain⟨i,J,_,rfl,j,k,n⟩:=DataW.trod_struct (Tryz.underlying136) h;have l:Tryz.prog.cellsOf 136=5:=kR
 have m:cs.length=5:=j.trans l;have o:Tryz.prog.cellsOf 3=1:=kR
 match cs,m with
 |[K,L,M,N,O],_=>
 match i,k with
 |[Q,R,S,T,U],_=>
  have b:=n 0 _ rfl;have c:=n 1 _ rfl;have d:=n 2 _ rfl;have e:=n 3 _ rfl;have f:=n 4 _ rfl;simp only[o,List.drop_zero,List.drop_succ_cons,Zw,List.take_zero,List.take_nil,ZJ,ZZ]at b c d e f;obtain⟨p,q,-,r⟩:=DataW.trod_int Tryz.underlying3 b;obtain⟨z1,s,-,t⟩:=DataW.trod_int Tryz.underlying3 c;obtain⟨u,v,-,w⟩:=DataW.trod_int Tryz.underlying3 d;obtain⟨x,y,-,z⟩:=DataW.trod_int Tryz.underlying3 e;obtain⟨A,B,-,C⟩:=DataW.trod_int Tryz.underlying3 f
  cases q;cases s;cases v;cases y;cases B
  exact⟨⟨p,z1,u,x,A⟩,rfl,bu r,bu t,bu w,bu z,bu C⟩
def MF:Reads LL Yw 25:=λI h J b c cs K i d=>by
 obtain⟨j,L,_,rfl,k,l,e⟩:=DataW.trod_struct (Tryz.underlying25) i;have m:Tryz.prog.cellsOf 25=2:=kR
 have o:cs.length=2:=k.trans m;have p:Tryz.prog.cellsOf 22=1:=kR
 have q:Tryz.prog.cellsOf 23=1:=kR
 match cs,o with
 |[M,N],_=>
 match j,l with
 |[r,s],_=>
  have f:=e 0 _ rfl;have g:=e 1 _ rfl;simp only[p,q,List.drop_zero,List.drop_succ_cons,Zw,List.take_zero,List.take_nil,ZJ,ZZ]at f g;have t:mS LL 22 r.1:=by
   intro n P;refine d n ?_;have a:Tryz.prog.underlying 25=_:=Tryz.underlying25;simp only[DataW.weights,a,QY,List.map_nil,DataW.weightsEach,Q6];left;exact P
  obtain⟨u,v,w,x,y,-,-,z⟩:=open_row (bytes:=24) Tryz.underlying22 kR dC kR (PK) f t;have A:mS LL 23 s.1:=by
   intro n P;refine d n ?_;have a:Tryz.prog.underlying 25=_:=Tryz.underlying25;simp only[DataW.weights,a,QY,List.map_nil,DataW.weightsEach,Q6];right;left;exact P
  obtain⟨B,C,E,z1,F,-,-,H⟩:=open_row (bytes:=40) Tryz.underlying23 kR dC kR (ME) g A
  cases y;cases F
  exact⟨⟨x,z1⟩,u,v,w,B,C,E,rfl,⟨z,H⟩⟩
def PL:Reads LL ZN 27:=λl a m P b cs a0 o p=>by
 obtain⟨q,n2,_,rfl,r,s,n⟩:=DataW.trod_struct (Tryz.underlying27) o;have t:Tryz.prog.cellsOf 27=10:=kR
 have u:cs.length=10:=r.trans t;have v:Tryz.prog.cellsOf 3=1:=kR
 have w:Tryz.prog.cellsOf 25=2:=kR
 match cs,u with
 |[v0,v1,v2,v3,v4,v5,v6,v7,v8,v9],_=>
 match q,s with
 |[y0,y1,y2,y3,y4,y5,y6,y7,x],_=>
  have c:=n 0 _ rfl;have d:=n 1 _ rfl;have e:=n 2 _ rfl;have f:=n 3 _ rfl;have g:=n 4 _ rfl;have h:=n 5 _ rfl;have i:=n 6 _ rfl;have j:=n 7 _ rfl;have k:=n 8 _ rfl;simp only[v,w,List.drop_zero,List.drop_succ_cons,Zw,List.take_zero,List.take_nil,ZJ,ZZ]at c d e f g h i j k;obtain⟨y,z,-,A⟩:=DataW.trod_int Tryz.underlying3 c;obtain⟨z1,B,-,C⟩:=DataW.trod_int Tryz.underlying3 d;obtain⟨E,F,-,H⟩:=DataW.trod_int Tryz.underlying3 e;obtain⟨I,J,-,K⟩:=DataW.trod_int Tryz.underlying3 f;obtain⟨L,M,-,N⟩:=DataW.trod_int Tryz.underlying3 g;obtain⟨O,Q,-,R⟩:=DataW.trod_int Tryz.underlying3 h;obtain⟨S,T,-,U⟩:=DataW.trod_int Tryz.underlying3 i;obtain⟨V,W,-,X⟩:=DataW.trod_int Tryz.underlying3 j;have Y:mS LL 25 x.1:=by
   intro Z hq;refine p Z ?_;have hu:Tryz.prog.underlying 27=_:=Tryz.underlying27;simp only[DataW.weights,hu,QY,List.map_nil,DataW.weightsEach,Q6];right;right;right;right;right;right;right;right;left;exact hq
  obtain⟨z8,r8⟩:=MF l a m P _ _ _ k Y
  cases z;cases B;cases F;cases J;cases M;cases Q;cases T;cases W
  obtain⟨ta,tn,tc,pa,pn,pc,he,hd⟩:=r8
  cases he
  exact⟨⟨y,z1,E,I,L,O,S,V,z8⟩,ta,tn,tc,pa,pn,pc,rfl,hd,bu A,bu C,bu H,bu K,bu N,bu R,bu U,bu X⟩
def PM:Reads LL ZO 49:=λM i N P a cs O j Q=>by
 obtain⟨k,R,_,rfl,l,m,n⟩:=DataW.trod_struct (Tryz.underlying49) j;have o:Tryz.prog.cellsOf 49=7:=kR
 have p:cs.length=7:=l.trans o;have q:Tryz.prog.cellsOf 3=1:=kR
 match cs,p with
 |[S,T,U,V,W,X,Y],_=>
 match k,m with
 |[Z,y1,y2,y3,y4,y5,y6],_=>
  have b:=n 0 _ rfl;have c:=n 1 _ rfl;have d:=n 2 _ rfl;have e:=n 3 _ rfl;have f:=n 4 _ rfl;have g:=n 5 _ rfl;have h:=n 6 _ rfl;simp only[q,List.drop_zero,List.drop_succ_cons,Zw,List.take_zero,List.take_nil,ZJ,ZZ]at b c d e f g h;obtain⟨r,s,-,t⟩:=DataW.trod_int Tryz.underlying3 b;obtain⟨z1,u,-,v⟩:=DataW.trod_int Tryz.underlying3 c;obtain⟨w,x,-,y⟩:=DataW.trod_int Tryz.underlying3 d;obtain⟨z,A,-,B⟩:=DataW.trod_int Tryz.underlying3 e;obtain⟨C,E,-,F⟩:=DataW.trod_int Tryz.underlying3 f;obtain⟨H,I,-,w5⟩:=DataW.trod_int Tryz.underlying3 g;obtain⟨J,K,-,L⟩:=DataW.trod_int Tryz.underlying3 h
  cases s;cases u;cases x;cases A;cases E;cases I;cases K
  exact⟨⟨r,z1,w,z,C,H,J⟩,rfl,bu t,bu v,bu y,bu B,bu F,bu L⟩
end
section
open Go.aw
def Yx:kq (bF×List ei) where
 k:=11
 rep:=λo D i cs=>∃n tn d P a e b c f,cs=lI i.1 n tn d P a e b c f/\bt o D i.1.decl n tn P a/\Yv i.1/\Row EK 80 o D b c i.2
 keep:=λ⟨n,tn,d,P,a,e,b,c,f,g,j,k,l⟩ p h=>⟨n,tn,d,P,a,e,b,c,f,g,j.keep p h,k,l.keep p h⟩
 mono:=λ⟨n,tn,d,P,a,e,b,c,f,g,j,k,l⟩ h=>⟨n,tn,d,P,a,e,b,c,f,g,j.mono h,k,l.mono h⟩
 len:=λ⟨n,tn,d,P,a,e,b,c,f,g,_⟩=>by rw[g];rfl
 one:=λ⟨n,tn,d,P,a,e,b,c,f,g,_⟩ q m=>by rw[g]at m;simp[lI,eI]at m;rcases m with rfl|rfl|rfl|rfl|rfl|rfl|rfl|rfl|rfl|rfl|rfl<;>rfl
def MG:Reads LL EK 51:=λh a i n b cs L j k=>by
 obtain⟨l,M,_,rfl,m,o,P⟩:=DataW.trod_struct (Tryz.underlying51) j;have p:Tryz.prog.cellsOf 51=10:=kR
 have q:cs.length=10:=m.trans p;have r:Tryz.prog.cellsOf 3=1:=kR
 have s:Tryz.prog.cellsOf 49=7:=kR
 match cs,q with
 |[N,O,Q,R,S,T,U,V,W,X],_=>
 match l,o with
 |[Y,Z,y2,t],_=>
  have c:=P 0 _ rfl;have d:=P 1 _ rfl;have e:=P 2 _ rfl;have f:=P 3 _ rfl;simp only[r,s,List.drop_zero,List.drop_succ_cons,Zw,List.take_zero,List.take_nil,ZJ,ZZ]at c d e f;obtain⟨u,v,-,w⟩:=DataW.trod_int Tryz.underlying3 c;obtain⟨z1,x,-,y⟩:=DataW.trod_int Tryz.underlying3 d;obtain⟨z,A,-,B⟩:=DataW.trod_int Tryz.underlying3 e;have C:mS LL 49 t.1:=by
   intro E F;refine k E ?_;have H:Tryz.prog.underlying 51=_:=Tryz.underlying51;simp only[DataW.weights,H,QY,List.map_nil,DataW.weightsEach,Q6];right;right;right;left;exact F
  obtain⟨I,J⟩:=PM h a i n _ _ _ f C
  cases v;cases x;cases A
  obtain⟨g,K⟩:=J;simp only[fh,List.cons.injEq,and_true]at g;obtain⟨rfl,rfl,rfl,rfl,rfl,rfl,rfl⟩:=g;exact⟨⟨u,z1,z,I⟩,rfl,bu w,bu y,bu B,K⟩
def MH:Reads LL Yx 30:=λj P k n d cs O l e=>by
 obtain⟨m,Q,_,rfl,o,p,f⟩:=DataW.trod_struct (Tryz.underlying30) l;have q:Tryz.prog.cellsOf 30=11:=kR
 have r:cs.length=11:=o.trans q;have s:Tryz.prog.cellsOf 27=10:=kR
 have t:Tryz.prog.cellsOf 28=1:=kR
 match cs,r with
 |[R,S,T,U,V,W,X,Y,Z,v9,a0],_=>
 match m,p with
 |[u,v],_=>
  have g:=f 0 _ rfl;have h:=f 1 _ rfl;simp only[s,t,List.drop_zero,List.drop_succ_cons,Zw,List.take_zero,List.take_nil,ZJ,ZZ]at g h;have w:mS LL 27 u.1:=by
   intro a b;refine e a ?_;have c:Tryz.prog.underlying 30=_:=Tryz.underlying30;simp only[DataW.weights,c,QY,List.map_nil,DataW.weightsEach,Q6];left;exact b
  obtain⟨x,y⟩:=PL j P k n _ _ _ g w;have z:mS LL 28 v.1:=by
   intro a b;refine e a ?_;have c:Tryz.prog.underlying 30=_:=Tryz.underlying30;simp only[DataW.weights,c,QY,List.map_nil,DataW.weightsEach,Q6];right;left;exact b
  obtain⟨A,B,C,z1,E,-,-,F⟩:=open_row (bytes:=80) Tryz.underlying28 kR dC kR (MG) h z
  cases E
  obtain⟨H,tn,I,J,K,L,i,M,N⟩:=y;simp only[eI,List.cons.injEq,and_true]at i;obtain⟨rfl,rfl,rfl,rfl,rfl,rfl,rfl,rfl,rfl,rfl⟩:=i;exact⟨(x,z1),H,tn,I,J,K,L,A,B,C,rfl,M,N,F⟩
