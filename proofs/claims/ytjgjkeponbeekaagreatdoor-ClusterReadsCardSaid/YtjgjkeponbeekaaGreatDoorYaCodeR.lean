import Derived.Test.YtjgjkeponbeekaaGreatDoorYaCode
import Derived.Test.YtjgjkeponbeekaaGreatDoorKa18
set_option linter.all false
set_option maxRecDepth 100000
namespace Go.Proofs.YtjgjkeponbeekaaGreatDoor
open Go.ar
variable {w:World} {R:Ending->World->Prop}
def uu:ft:=⟨[(4,[(12,.agg #[XH 0,XH 0,XH 0,.slice none 0 0,XH 0,XH 0,XH 0,XH 0,XH 0,XH 0])])],[],[5],[5],[]⟩
variable{V n:Array Value}{z:FuncId}{A U e m:Int}{C a c i k:Nat}{d:Option Addr}
def uv(a0:PA w (.cells #[.func (.func z) n V] 186) λc=>PA c (.cells #[.slice none 0 0] 59) λC=>(dr d λo2 o4=>(rM C (ad o2 (o4+1)) λc4=>PC_ 153 #[.map c4] C (λo7 a=>∃(E:Value),o7=E/\(E_ XP E [.agg #[.ii 0,.ii 0,.ii 0,.slice none 0 0,.ii 0,.ii 0,.ii 0,.ii 0,.ii 0,.ii 0]] a (λo8 F f=>∀(h:Int) (i:Int) (j:Int) (k:Option Addr) (l:Nat) (m:Nat) (o:Int) (p:Int) (q:Int) (r:Int) (s:Int) (t:Int),o8 [.agg #[.ii h,.ii i,.ii j,.slice k l m,.ii o,.ii p,.ii q,.ii r,.ii s,.ii t]]->PA f (.cells #[.ii 0,.ii 0,.ii 0,.slice none 0 0,.ii 0,.ii 0,.ii 0,.ii 0,.ii 0,.ii 0] 63) λo9=>St 63 (ab_ f 0) (.agg #[.ii h,.ii i,.ii j,.slice k l m,.ii o,.ii p,.ii q,.ii r,.ii s,.ii t]) o9 λH=>(ak (nx a) f H/\∀e,pO (a.heap.size+1) H e->(∃(I:Value),e.cell? (ab_ w 0)=some I/\(Ld 63 (ab_ f 0) e λp0=>(∃v J K,(I:Value)= .func (.func v) J K/\enters XP v=true/\PC_ v (J++ #[p0]++K) e (kB λp1 x=>al p1 ((∀g,bd x g->∃y:Nat->Prop,(¬y c.heap.size/\(rS g (ab_ c 0) λp2 p3 p4=>(Ld 63 (ab_ f 0) g λp5=>PC_ 115 #[p5] g (λp6 u=>∃L M N O P Q S T U W X D,p6= .agg #[.ii L,.ii M,.ii N,.slice O P Q,.ii S,.ii T,.ii U,.ii W,.ii X,.ii D]/\(ak y g u/\PA u (.cells #[.ii L,.ii M,.ii N,.slice O P Q,.ii S,.ii T,.ii U,.ii W,.ii X,.ii D] 63) λY=>(ak y u Y/\PR_ (ap_ 59 (.slice p2 p3 p4) (.slice (some (ab_ u 0)) 1 1)) Y (kS_ λp7 p8 p9 q0=>PS q0 (ab_ c 0) (.slice p7 p8 p9) λZ=>(ak (nx a) e Z/\F [.agg #[.ii h,.ii i,.ii j,.slice k l m,.ii o,.ii p,.ii q,.ii r,.ii s,.ii t]] .normal Z)) (λpv b=>∀(_:bG) (_:cC),False)))) (λA b=>∀(_:bG) (_:cC),False)))))) ((ak (nx a) e x/\F [.agg #[.ii h,.ii i,.ii j,.slice k l m,.ii o,.ii p,.ii q,.ii r,.ii s,.ii t]] .normal x))) (λA w=>False)))))) (λf8=>(rS f8 (ab_ c 0) λq1 q2 q3=>PC_ 154 #[.slice q1 q2 q3,.func (.func 155) #[] #[]] f8 (k0_ λB=>(rS B (ab_ c 0) λq4 q5 q6=>(p_ a.heap.size B/\∀f9,pO a.heap.size B f9->rt R ((.slice q4 q5 q6)) f9))) (λA b=>(p_ a.heap.size b/\∀g0,pO a.heap.size b g0->R (.panicked A) g0)))) [])) (pE R)))):Calls XP 93 #[.pointer d,.func (.func z) n V] w R:=
 mR uu [] mixed Tryz.func93 rfl (Nat.le_of_ble_eq_true kR) kR (Eq.mp kR a0)
def Cu:ft:=⟨[(7,[(20,.ii 0),(21,.agg #[.ii 0,.ii 0,.ii 0,.slice none 0 0,.ii 0,.ii 0,.ii 0,.ii 0,.ii 0,.ii 0,.bool false,.ii 0,.ii 0])])],[],[6],[6],[]⟩
def Cv(a0:PA w (.cells #[.ii e] 3) λN=>PA N (.cells #[.ii m] 3) λC=>PA C (.cells #[.ii A] 3) λO=>PA O (.cells #[.ii U] 3) λh=>
   PA h (.cells #[.slice none 0 0] 50) λi=>PA i (.cells #[.bool false] 4) λg=>PA g (.cells #[.slice none 0 0] 50) λP=>(∃(J:Int),P.cell? ⟨C.heap.size,0,none⟩=some (.ii J)/\
   PS P ⟨C.heap.size,0,none⟩ (.ii (if 0>J then 0 else J)) λq7=>PC XP 147 #[.slice d a c,.func (.func 148) #[] #[ZQ w.heap.size,ZQ N.heap.size]] q7 (λq8 f=>
   ∃(Q:Value),q8=Q/\(E_ XP Q [.ii 0,.agg #[.ii 0,.ii 0,.ii 0,.slice none 0 0,.ii 0,.ii 0,.ii 0,.ii 0,.ii 0,.ii 0,.bool false,.ii 0,.ii 0]] f (λq9 K E=>
   ∀(j:Int) (k:Int) (l:Int) (n:Int) (G:Option Addr) (o:Nat) (p:Nat) (q:Int) (r:Int) (s:Int) (t:Int) (u:Int) (v:Int) (x:Bool) (y:Int) (z:Int),q9 [.ii j,.agg #[.ii k,.ii l,.ii n,.slice G o p,.ii q,.ii r,.ii s,.ii t,.ii u,.ii v,.bool x,.ii y,.ii z]]->PA E (.cells #[.ii 0,.ii 0,.ii 0,.slice none 0 0,.ii 0,.ii 0,.ii 0,.ii 0,.ii 0,.ii 0,.bool false,.ii 0,.ii 0] 133) λa1=>
   mg XP 133 (ZQ E.heap.size) (.agg #[.ii k,.ii l,.ii n,.slice G o p,.ii q,.ii r,.ii s,.ii t,.ii u,.ii v,.bool x,.ii y,.ii z]) a1 λS=>
   (ak (nx f) E S/\∀b,pO (f.heap.size+1) S b->(∃(T:Int),b.cell? ⟨C.heap.size,0,none⟩=some (.ii T)/\al (decide ((j:Int)<T)) ((ak (nx f) b b/\
   K [.ii j,.agg #[.ii k,.ii l,.ii n,.slice G o p,.ii q,.ii r,.ii s,.ii t,.ii u,.ii v,.bool x,.ii y,.ii z]] .normal b)) ((∃(r0:Option Addr) (V:Nat) (r1:Nat),b.cell? ⟨g.heap.size,0,none⟩=some (.slice r0 V r1)/\
   (∃(W:Int),b.cell? ⟨O.heap.size,0,none⟩=some (.ii W)/\al (decide ((((V:Nat):Int):Int)>=W)) ((∃(X:Option Addr) (Y:Nat) (Z:Nat),b.cell? ⟨g.heap.size,0,none⟩=some (.slice X Y Z)/\
   PS b ⟨h.heap.size,0,none⟩ (.slice X Y Z) λr2=>PS r2 ⟨i.heap.size,0,none⟩ (.bool true) λh6=>(ak (nx f) b h6/\K [.ii j,.agg #[.ii k,.ii l,.ii n,.slice G o p,.ii q,.ii r,.ii s,.ii t,.ii u,.ii v,.bool x,.ii y,.ii z]] .ret h6))) ((∀B,bd b B->∃L:Nat->Prop,(¬L g.heap.size/\
   (∃(h7:Option Addr) (h8:Nat) (h9:Nat),B.cell? ⟨g.heap.size,0,none⟩=some (.slice h7 h8 h9)/\(il XP 133 (ZQ E.heap.size) B λr3=>
   PC XP 149 #[r3] B (λr4 F=>∃(D:Int),∃(i0:Int),∃(i1:Int),∃(i2:Option Addr) (i3:Nat) (i4:Nat),∃(i5:Int),∃(i6:Int),∃(i7:Int),∃(i8:Int),∃(i9:Int),∃(j0:Int),∃(j1:Bool),∃(j2:Int),∃(j3:Int),r4= .agg #[.ii D,.ii i0,.ii i1,.slice i2 i3 i4,.ii i5,.ii i6,.ii i7,.ii i8,.ii i9,.ii j0,.bool j1,.ii j2,.ii j3]/\
   (ak L B F/\PA F (.cells #[.ii D,.ii i0,.ii i1,.slice i2 i3 i4,.ii i5,.ii i6,.ii i7,.ii i8,.ii i9,.ii j0,.bool j1,.ii j2,.ii j3] 133) λj4=>
   (ak L F j4/\aG XP (Builtin.append_ #[50,50] 50 #[.slice h7 h8 h9,.slice (ZX F.heap.size) 1 1]) j4 (λr5 r6=>
   ∃(j5:Option Addr) (j6:Nat) (j7:Nat),r5= .slice j5 j6 j7/\PS r6 ⟨g.heap.size,0,none⟩ (.slice j5 j6 j7) λj8=>(ak (nx f) b j8/\
   K [.ii j,.agg #[.ii k,.ii l,.ii n,.slice G o p,.ii q,.ii r,.ii s,.ii t,.ii u,.ii v,.bool x,.ii y,.ii z]] .normal j8)) (λpv M=>
   ∀(_:bG) (_:cC),False)))) (λch M=>∀(_:bG) (_:cC),False)))))))))))) (λj9=>(∃(k1:Option Addr) (k2:Nat) (k3:Nat),j9.cell? ⟨g.heap.size,0,none⟩=some (.slice k1 k2 k3)/\
   PS j9 ⟨h.heap.size,0,none⟩ (.slice k1 k2 k3) λr7=>PS r7 ⟨i.heap.size,0,none⟩ (.bool false) λk4=>(p_ f.heap.size k4/\
   ∀H,pO f.heap.size k4 H->(∃(k5:Option Addr) (k6:Nat) (k7:Nat),H.cell? ⟨h.heap.size,0,none⟩=some (.slice k5 k6 k7)/\
   (∃(k8:Bool),H.cell? ⟨i.heap.size,0,none⟩=some (.bool k8)/\R (.returned (.tuple #[.slice k5 k6 k7,.bool k8])) H))))) [(.ret,λk9=>
   (p_ f.heap.size k9/\∀I,pO f.heap.size k9 I->(∃(l0:Option Addr) (l1:Nat) (l2:Nat),I.cell? ⟨h.heap.size,0,none⟩=some (.slice l0 l1 l2)/\
   (∃(l3:Bool),I.cell? ⟨i.heap.size,0,none⟩=some (.bool l3)/\R (.returned (.tuple #[.slice l0 l1 l2,.bool l3])) I))))])) (λch w=>
   R (.panicked ch) w))):
  Calls XP 88 #[.slice d a c,.ii e,.ii m,.ii A,.ii U] w R:=
 mR Cu [] mixed Tryz.func88 rfl (Nat.le_of_ble_eq_true kR) kR (Eq.mp kR a0)
def cX:ft:=⟨[(1,[])],[],[],[],[]⟩
def cY(E:(∃(g:Option Nat),w.cell? ⟨c,i,none⟩=some (.map g)/\aG XP (Instr.range 182 (.map g)) w (λh F=>(∃e:Nat->World->Prop,(∃d,e d F)/\
   ∀(d:Nat) (O:Nat->Value) (j:World),e d j->aG XP (Instr.next h false 0) j (λk l=>(k= .tuple #[.bool false]/\
   R (.returned (.tuple #[])) l)\/(∃H I,k= .tuple #[.bool true,H,I]/\aG XP (Instr.entry h) l (λJ f=>∃(K:Value),∃(m:Int),∃(n:Int),∃(o:Int),∃(p:Option Addr) (q:Nat) (r:Nat),∃(s:Int),∃(t:Int),∃(u:Int),∃(v:Int),∃(x:Int),∃(y:Int),J= .tuple #[K,.agg #[.ii m,.ii n,.ii o,.slice p q r,.ii s,.ii t,.ii u,.ii v,.ii x,.ii y]]/\
   PA f (.cells #[.ii 0,.ii 0,.ii 0,.slice none 0 0,.ii 0,.ii 0,.ii 0,.ii 0,.ii 0,.ii 0] 63) λL=>
   mg XP 63 (ZQ f.heap.size) (.agg #[.ii m,.ii n,.ii o,.slice p q r,.ii s,.ii t,.ii u,.ii v,.ii x,.ii y]) L λz=>
   (il XP 63 (ZQ f.heap.size) z λM=>(∃A,(.func (.yield a) #[] #[]:Value)= .func (.yield A) #[] #[]/\
   jt XP A [M] z λN B=>al (!N) (R (.returned (.tuple #[])) B) ((∃C,C<d/\e C B))))) (λb w=>R (.panicked [{v:=b,recovered:=false}]) w))) (λb w=>
   R (.panicked [{v:=b,recovered:=false}]) w))) (λb w=>R (.panicked [{v:=b,recovered:=false}]) w))):
  Calls XP 216 #[.func (.yield a) #[] #[],.pointer (some ⟨c,i,none⟩)] w R:=
 mR cX [3] mixed Tryz.func216 rfl (Nat.le_of_ble_eq_true kR) kR (Eq.mp kR E)
def uw:ft:=⟨[(2,[(4,.ii 0),(9,.ii 0)])],[],[],[],[]⟩
def ux(y:(∃(o:Option Addr) (j:Nat) (z:Nat),w.cell? ⟨c,i,none⟩=some (.slice o j z)/\(∃g:Nat->Int->Int->World->Prop,(∃e,g e 0 0 w)/\
   ∀(e:Nat) (h:Int) (b:Int) (K:Nat->Value) (d:World),g e h b d->al (decide ((b:Int)<((j:Nat):Int))) ((∃p q,o=some ⟨p,q,none⟩/\
   (0:Int)<=b/\b<((j:Nat):Int)/\(il XP 133 (.pointer (some ⟨p,q+Int.toNat b*13,none⟩)) d λA=>PA d (.cells #[.ii 0,.ii 0,.ii 0,.slice none 0 0,.ii 0,.ii 0,.ii 0,.ii 0,.ii 0,.ii 0,.bool false,.ii 0,.ii 0] 133) λB=>
   mg XP 133 (ZQ d.heap.size) A B λl=>(∃(r:Value),l.cell? ⟨k,C,none⟩=some r/\(il XP 133 (ZQ d.heap.size) l λE=>
   (∃m s t,(r:Value)= .func (.func m) s t/\enters XP m=true/\PC XP m (s++ #[E]++t) l (λF n=>
   ∃(u:Bool),F= .bool u/\al (!u) ((∃f,f<e/\g f h (IntKind.wrap .i64 (b+1)) n)) ((il XP 133 (ZQ d.heap.size) n λH=>
   (∃v,(.func (.yield a) #[] #[]:Value)= .func (.yield v) #[] #[]/\jt XP v [.ii h,H] n λI x=>al (!I) (R (.returned (.tuple #[])) x) ((∃f,f<e/\
   g f (IntKind.wrap .i64 (h+1)) (IntKind.wrap .i64 (b+1)) x)))))) (λJ w=>R (.panicked J) w))))))) (R (.returned (.tuple #[])) d)))):
  Calls XP 214 #[.func (.yield a) #[] #[],.pointer (some ⟨c,i,none⟩),.pointer (some ⟨k,C,none⟩)] w R:=
 mR uw [5] mixed Tryz.func214 rfl (Nat.le_of_ble_eq_true kR) kR (Eq.mp kR y)
def yH:ft:=⟨[(3,[(5,.string (⟨#[]⟩:ByteArray))])],[],[],[],[]⟩
def yh(n:PA w (.cells #[.pointer d] 93) λf=>(∃(g:Option Addr),f.cell? ⟨w.heap.size,0,none⟩=some (.pointer g)/\PC XP 140 #[.pointer g] f (λo a=>
   ∃(h:Value),o=h/\(E_ XP h [.string (⟨#[]⟩:ByteArray)] a (λp q c=>∀(e:ByteArray),p [.string e]->(ak (nx a) c c/\
   ∀b,pO (a.heap.size+1) c b->(∃(i:Option Addr),b.cell? ⟨w.heap.size,0,none⟩=some (.pointer i)/\PC XP 141 #[.pointer i,.string e] b (λr j=>
   ∃(s:Int),r= .ii s/\(ak (nx a) b j/\q [.string e] .normal j)) (λk w=>False)))) (λl=>(p_ a.heap.size l/\
   ∀m,pO a.heap.size l m->R (.returned (.tuple #[])) m)) [])) (λk w=>R (.panicked k) w))):
  Calls XP 86 #[.pointer d] w R:=
 mR yH [] mixed Tryz.func86 rfl (Nat.le_of_ble_eq_true kR) kR (Eq.mp kR n)
def yI:ft:=⟨[],[],[],[],[]⟩
def ye(h:PA w (.cells #[.pointer d] 93) λb=>(∃(c:Option Addr),b.cell? ⟨w.heap.size,0,none⟩=some (.pointer c)/\PC XP 109 #[.pointer c] b (λi a=>
   ∃(e:Option Addr) (f:Nat) (g:Nat),∃(j:Bool),i= .tuple #[.agg #[.slice e f g],.bool j]/\PA a (.cells #[.slice none 0 0] 211) λk=>
   PS k ⟨a.heap.size,0,none⟩ (.slice e f g) λl=>R (.returned (.func (.func 208) #[] #[ZQ w.heap.size,ZQ a.heap.size])) l) (λm w=>
   R (.panicked m) w))):
  Calls XP 140 #[.pointer d] w R:=DC yI Tryz.func140 rfl h
def tA:ft:=⟨[(1,[(11,XH 0)])],[],[],[],[]⟩
def sS(F:(∃(n:Option Addr),w.cell? ⟨c,i,none⟩=some (.pointer n)/\PC XP 160 #[.pointer n] w (λH I=>∃(o:Option Addr) (m:Nat) (J:Nat),H= .slice o m J/\
   (∃f:Nat->Int->World->Prop,(∃e,f e 0 I)/\∀(e:Nat) (d:Int) (O:Nat->Value) (j:World),f e d j->al (decide ((d:Int)<((m:Nat):Int))) ((∃p q,o=some ⟨p,q,none⟩/\
   (0:Int)<=d/\d<((m:Nat):Int)/\(∃(g:ByteArray),j.cell? ⟨p,q+Int.toNat d,none⟩=some (.string g)/\PC XP 161 #[.string g] j (λK l=>
   ∃(r:Int),∃(s:Bool),K= .tuple #[XH r,.bool s]/\al ((ByteArray.toList g)==(ByteArray.toList (⟨#[109,97,110,105,102,101,115,116,46,116,109,112]⟩:ByteArray))) ((∃t,(.func (.yield a) #[] #[]:Value)= .func (.yield t) #[] #[]/\
   jt XP t [.string g] l λL u=>al (!L) (R (.returned (.tuple #[])) u) ((∃b,b<e/\f b (IntKind.wrap .i64 (d+1)) u)))) (al s ((∃(v:Option Addr) (x:Nat) (y:Nat),l.cell? ⟨k,C,none⟩=some (.slice v x y)/\
   PC XP 209 #[.slice v x y,XH r] l (λM z=>∃(A:Bool),M= .bool A/\al (!A) ((∃B,(.func (.yield a) #[] #[]:Value)= .func (.yield B) #[] #[]/\
   jt XP B [.string g] z λN E=>al (!N) (R (.returned (.tuple #[])) E) ((∃b,b<e/\f b (IntKind.wrap .i64 (d+1)) E)))) ((∃b,b<e/\
   f b (IntKind.wrap .i64 (d+1)) z))) (λh w=>R (.panicked h) w))) ((∃b,b<e/\f b (IntKind.wrap .i64 (d+1)) l)))) (λh w=>
   R (.panicked h) w)))) (R (.returned (.tuple #[])) j))) (λh w=>R (.panicked h) w))):
  Calls XP 208 #[.func (.yield a) #[] #[],.pointer (some ⟨c,i,none⟩),.pointer (some ⟨k,C,none⟩)] w R:=
 mR tA [4,5] mixed Tryz.func208 rfl (Nat.le_of_ble_eq_true kR) kR (Eq.mp kR F)
end Go.Proofs.YtjgjkeponbeekaaGreatDoor
