import Derived.Test.YtblabbpipmodgaaGreatDoorKo12
set_option linter.all false
set_option maxRecDepth 100000
namespace Go.Proofs.YtblabbpipmodgaaGreatDoor
open Go.au
variable {w:World} {R:XR}
def tQ:lv:=⟨[(4,[(12,.agg #[QH 0,QH 0,QH 0,.slice none 0 0,QH 0,QH 0,QH 0,QH 0,QH 0,QH 0])])],[],[5],[5],[]⟩
variable{a1 o:Array Value}{y:FuncId}{I a c j p:Nat}{d:XU}
def tR(a0:PA w (.cells #[.func (.func y) o a1] 163) λb=>PA b (.cells #[.slice none 0 0] 50) λz=>(dr d λe9 f0=>(rM z (ad e9 (f0+1)) λa2=>PC_ 148 #[.map a2] z (λf1 P=>∃(A:Value),f1=A/\(IC XG A [.agg #[.ii 0,.ii 0,.ii 0,.slice none 0 0,.ii 0,.ii 0,.ii 0,.ii 0,.ii 0,.ii 0]] P (λf2 B e=>∀(g:Int) (h:Int) (i:Int) (j:XU) (k:Nat) (l:Nat) (m:Int) (n:Int) (p:Int) (q:Int) (r:Int) (s:Int),f2 [.agg #[.ii g,.ii h,.ii i,.slice j k l,.ii m,.ii n,.ii p,.ii q,.ii r,.ii s]]->PA e (.cells #[.ii 0,.ii 0,.ii 0,.slice none 0 0,.ii 0,.ii 0,.ii 0,.ii 0,.ii 0,.ii 0] 55) λf3=>St 55 (ab_ e 0) (.agg #[.ii g,.ii h,.ii i,.slice j k l,.ii m,.ii n,.ii p,.ii q,.ii r,.ii s]) f3 λC=>(aj (tr P) e C/\∀c,xv (P.heap.size+1) C c->(∃(E:Value),c.cell? (ab_ w 0)=some E/\(Ld 55 (ab_ e 0) c λf4=>(∃D F H,(E:Value)= .func (.func D) F H/\enters XG D=true/\PC_ D (F++ #[f4]++H) c (kB λf5 u=>al f5 ((∀f,bY u f->∃v:XM,(¬v b.heap.size/\(rS f (ab_ b 0) λf6 f7 f8=>(Ld 55 (ab_ e 0) f λf9=>PC_ 142 #[f9] f (λg0 t=>∃I J K L M N O Q S T U V,g0= .agg #[.ii I,.ii J,.ii K,.slice L M N,.ii O,.ii Q,.ii S,.ii T,.ii U,.ii V]/\(aj v f t/\PA t (.cells #[.ii I,.ii J,.ii K,.slice L M N,.ii O,.ii Q,.ii S,.ii T,.ii U,.ii V] 55) λW=>(aj v t W/\PR_ (ap_ 50 (.slice f6 f7 f8) (.slice (some (ab_ t 0)) 1 1)) W (kS_ λg1 g2 g3 g4=>PS g4 (ab_ b 0) (.slice g1 g2 g3) λX=>(aj (tr P) c X/\B [.agg #[.ii g,.ii h,.ii i,.slice j k l,.ii m,.ii n,.ii p,.ii q,.ii r,.ii s]] .normal X)) (λpv a=>∀(_:cg) (_:cX),False)))) (λx a=>∀(_:cg) (_:cX),False)))))) ((aj (tr P) c u/\B [.agg #[.ii g,.ii h,.ii i,.slice j k l,.ii m,.ii n,.ii p,.ii q,.ii r,.ii s]] .normal u))) (λx w=>False)))))) (λY=>(rS Y (ab_ b 0) λg5 g6 g7=>PC_ 149 #[.slice g5 g6 g7,.func (.func 150) #[] #[]] Y (k0_ λG=>(rS G (ab_ b 0) λg8 g9 h0=>(vK P.heap.size G/\∀Z,xv P.heap.size G Z->rt R ((.slice g8 g9 h0)) Z))) (λx a=>(vK P.heap.size a/\∀b4,xv P.heap.size a b4->R (.panicked x) b4)))) [])) (pE R)))):ZH 80 #[.pointer d,.func (.func y) o a1] w R:=
 tS tQ [] mixed Tryz.func80 rfl (Zv kR) kR (Eq.mp kR a0)
def dv:lv:=⟨[(1,[])],[],[],[],[]⟩
def dw(C:(∃(f:Option Nat),w.cell? ⟨c,j,none⟩=some (.map f)/\aG XG (Instr.range 181 (.map f)) w (λg E=>(∃d:Nat->XT,(∃b,d b E)/\
   ∀(b:Nat) (N:Nat->Value) (h:World),d b h->aG XG (Instr.next g false 0) h (λi k=>(i= .tuple #[.bool false]/\
   R (.returned (.tuple #[])) k)\/(∃F H,i= .tuple #[.bool true,F,H]/\aG XG (Instr.entry g) k (λI e=>∃(J:Value),∃(l:Int),∃(m:Int),∃(n:Int),∃(o:XU) (p:Nat) (q:Nat),∃(r:Int),∃(s:Int),∃(t:Int),∃(u:Int),∃(v:Int),∃(x:Int),I= .tuple #[J,.agg #[.ii l,.ii m,.ii n,.slice o p q,.ii r,.ii s,.ii t,.ii u,.ii v,.ii x]]/\
   PA e (.cells #[.ii 0,.ii 0,.ii 0,.slice none 0 0,.ii 0,.ii 0,.ii 0,.ii 0,.ii 0,.ii 0] 55) λK=>
   BY XG 55 (XP e.heap.size) (.agg #[.ii l,.ii m,.ii n,.slice o p q,.ii r,.ii s,.ii t,.ii u,.ii v,.ii x]) K λy=>
   (ri XG 55 (XP e.heap.size) y λL=>(∃z,(.func (.yield a) #[] #[]:Value)= .func (.yield z) #[] #[]/\
   lu XG z [L] y λM A=>al (!M) (R (.returned (.tuple #[])) A) ((∃B,B<b/\d B A))))) (λP w=>R (.panicked [{v:=P,recovered:=false}]) w))) (λP w=>
   R (.panicked [{v:=P,recovered:=false}]) w))) (λP w=>R (.panicked [{v:=P,recovered:=false}]) w))):
  ZH 205 #[.func (.yield a) #[] #[],.pointer (some ⟨c,j,none⟩)] w R:=
 tS dv [3] mixed Tryz.func205 rfl (Zv kR) kR (Eq.mp kR C)
def xS:lv:=⟨[(3,[(5,.string (⟨#[]⟩:ByteArray))])],[],[],[],[]⟩
def xx(m:PA w (.cells #[.pointer d] 87) λe=>(∃(f:XU),e.cell? ⟨w.heap.size,0,none⟩=some (.pointer f)/\PC XG 124 #[.pointer f] e (λn P=>
   ∃(g:Value),n=g/\(IC XG g [.string (⟨#[]⟩:ByteArray)] P (λo p b=>∀(c:ByteArray),o [.string c]->(aj (tr P) b b/\
   ∀a,xv (P.heap.size+1) b a->(∃(h:XU),a.cell? ⟨w.heap.size,0,none⟩=some (.pointer h)/\PC XG 119 #[.pointer h,.string c] a (λq i=>
   ∃(r:Int),q= .ii r/\(aj (tr P) a i/\p [.string c] .normal i)) (λj w=>False)))) (λk=>(vK P.heap.size k/\
   ∀l,xv P.heap.size k l->R (.returned (.tuple #[])) l)) [])) (λj w=>R (.panicked j) w))):
  ZH 64 #[.pointer d] w R:=
 tS xS [] mixed Tryz.func64 rfl (Zv kR) kR (Eq.mp kR m)
def xU:lv:=⟨[],[],[],[],[]⟩
def xu(g:PA w (.cells #[.pointer d] 87) λa=>(∃(b:XU),a.cell? ⟨w.heap.size,0,none⟩=some (.pointer b)/\PC XG 136 #[.pointer b] a (λh P=>
   ∃(c:XU) (e:Nat) (f:Nat),∃(i:Bool),h= .tuple #[.agg #[.slice c e f],.bool i]/\PA P (.cells #[.slice none 0 0] 230) λj=>
   PS j ⟨P.heap.size,0,none⟩ (.slice c e f) λk=>R (.returned (.func (.func 175) #[] #[XP w.heap.size,XP P.heap.size])) k) (λl w=>
   R (.panicked l) w))):
  ZH 124 #[.pointer d] w R:=DC xU Tryz.func124 rfl g
def sJ:lv:=⟨[(1,[(11,QH 0)])],[],[],[],[]⟩
def rY(C:(∃(l:XU),w.cell? ⟨c,j,none⟩=some (.pointer l)/\PC XG 176 #[.pointer l] w (λE F=>∃(m:XU) (k:Nat) (H:Nat),E= .slice m k H/\
   (∃e:Nat->Int->XT,(∃d,e d 0 F)/\∀(d:Nat) (b:Int) (N:Nat->Value) (h:World),e d b h->al (decide ((b:Int)<((k:Nat):Int))) ((∃n o,m=some ⟨n,o,none⟩/\
   (0:Int)<=b/\b<((k:Nat):Int)/\(∃(f:ByteArray),h.cell? ⟨n,o+Int.toNat b,none⟩=some (.string f)/\PC XG 177 #[.string f] h (λJ i=>
   ∃(q:Int),∃(r:Bool),J= .tuple #[QH q,.bool r]/\al ((ByteArray.toList f)==(ByteArray.toList (⟨#[109,97,110,105,102,101,115,116,46,116,109,112]⟩:ByteArray))) ((∃s,(.func (.yield a) #[] #[]:Value)= .func (.yield s) #[] #[]/\
   lu XG s [.string f] i λK t=>al (!K) (R (.returned (.tuple #[])) t) ((∃P,P<d/\e P (IntKind.wrap .i64 (b+1)) t)))) (al r ((∃(u:XU) (v:Nat) (x:Nat),i.cell? ⟨p,I,none⟩=some (.slice u v x)/\
   PC XG 178 #[.slice u v x,QH q] i (λL y=>∃(z:Bool),L= .bool z/\al (!z) ((∃A,(.func (.yield a) #[] #[]:Value)= .func (.yield A) #[] #[]/\
   lu XG A [.string f] y λM B=>al (!M) (R (.returned (.tuple #[])) B) ((∃P,P<d/\e P (IntKind.wrap .i64 (b+1)) B)))) ((∃P,P<d/\
   e P (IntKind.wrap .i64 (b+1)) y))) (λg w=>R (.panicked g) w))) ((∃P,P<d/\e P (IntKind.wrap .i64 (b+1)) i)))) (λg w=>
   R (.panicked g) w)))) (R (.returned (.tuple #[])) h))) (λg w=>R (.panicked g) w))):
  ZH 175 #[.func (.yield a) #[] #[],.pointer (some ⟨c,j,none⟩),.pointer (some ⟨p,I,none⟩)] w R:=
 tS sJ [4,5] mixed Tryz.func175 rfl (Zv kR) kR (Eq.mp kR C)
