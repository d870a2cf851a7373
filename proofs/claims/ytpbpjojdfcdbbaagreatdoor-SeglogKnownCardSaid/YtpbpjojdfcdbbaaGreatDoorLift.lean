/-
  A SECOND FORM OF A FUNCTION'S CODE: what must hold for a run of it to end as wished, as one formula (D), read off the code by recursion; and that this formula is enough (D_calls). No program is named here.
-/
import Derived.Tactics
import Derived.Defers
import Derived.Recover
import Derived.Deep.Quiet
import Derived.Deep.LoopGhost
import Derived.Laws.Entries
import Derived.Laws.Tables
import Derived.Laws.Cells
import Derived.Scope
namespace Go.Lift
open Go

/-- What was there is as it was, but for blocks of S. -/
structure Keep (S : Nat → Prop) (w w' : World) : Prop where
  os : w'.os = w.os
  tape : w'.tape = w.tape
  output : w'.output = w.output
  size : w.heap.size ≤ w'.heap.size
  block : ∀ k, k < w.heap.size → ¬ S k → w'.heap[k]? = w.heap[k]?

/-- A frame's slots: what was put last is ahead; what was never put: base. -/
def get (B : Nat → Value) : List (Nat × Value) → Nat → Value
  | [], t => B t
  | (d, v) :: r, t => match Nat.beq d t with
    | true => v
    | false => get B r t

abbrev Bnd := List (Nat × Value)

def ev (B : Nat → Value) (e : Bnd) : Operand → Value
  | .tmp t => get B e t
  | .const v => v
  | .global g => .pointer (some ⟨g, 0, none⟩)
  | .func f => .func (.func f) #[] #[]

def putE (e : Bnd) (d : Option Tmp) (v : Value) : Bnd := match d with
  | some d => (d, v) :: e
  | none => e

structure Rel (n : Nat) (B : Nat → Value) (e : Bnd) (a : Act) : Prop where
  size : a.tmps.size = n
  slot : ∀ t, a.tmps.getD t undef = Lift.get B e t

theorem get_cons (B : Nat → Value) (e : Bnd) (d t : Nat) (v : Value) : get B ((d, v) :: e) t = if d = t then v else get B e t := by
  show (match Nat.beq d t with | true => v | false => get B e t) = _
  by_cases h : d = t
  · subst h; simp
  · have : Nat.beq d t = false := by
      cases h2 : Nat.beq d t
      · rfl
      · exact absurd (Nat.eq_of_beq_eq_true h2) h
    rw [this, if_neg h]

theorem Rel.eval {n : Nat} {B : Nat → Value} {e : Bnd} {a : Act} (h : Rel n B e a) : a.eval = ev B e := by
  funext x
  cases x with
  | tmp t => exact h.slot t
  | const v => rfl
  | global g => rfl
  | func f => rfl

theorem Rel.put {n : Nat} {B : Nat → Value} {e : Bnd} {a : Act} (h : Rel n B e a) (d : Option Tmp) (hd : ∀ t, d = some t → t < n) (v : Value) : Rel n B (putE e d v) (a.put d v) := by
  cases d with
  | none => exact h
  | some d =>
    have hlt := hd d rfl
    refine ⟨by simp [Act.put, h.size], fun t => ?_⟩
    show (a.tmps.setIfInBounds d v).getD t undef = _
    rw [putE, get_cons, ← h.slot]
    have hs := h.size
    by_cases e1 : d = t
    · subst e1
      simp [hs, hlt]
    · rw [if_neg e1]
      simp only [Array.getD_eq_getD_getElem?]
      rw [Array.getElem?_setIfInBounds_ne e1]

theorem Rel.defers {n : Nat} {B : Nat → Value} {e : Bnd} {a : Act} (h : Rel n B e a) (ds : List Deferred) : Rel n B e { a with defers := ds } := ⟨h.size, h.slot⟩

theorem put_defers (a : Act) (d : Option Tmp) (v : Value) : (a.put d v).defers = a.defers := by cases d <;> rfl

/-! the words of a formula -/

def PIf (b : Bool) (X Y : Prop) : Prop := match b with
  | true => X
  | false => Y

theorem PIf.mk {b : Bool} {X Y : Prop} (h1 : b = true → X) (h2 : b = false → Y) : PIf b X Y := by
  cases b
  · exact h2 rfl
  · exact h1 rfl

theorem PIf.tt {b : Bool} {X Y : Prop} (hb : b = true) (h : X) : PIf b X Y := by subst hb; exact h
theorem PIf.ff {b : Bool} {X Y : Prop} (hb : b = false) (h : Y) : PIf b X Y := by subst hb; exact h

/-- some value of one cell, of the shape of z -/
def ty1 (z : Value) (φ : Value → Prop) : Prop := match z with
  | .int k _ => ∃ n, φ (.int k n)
  | .bool _ => ∃ b, φ (.bool b)
  | .string _ => ∃ s, φ (.string s)
  | .slice _ _ _ => ∃ a n c, φ (.slice a n c)
  | .pointer _ => ∃ p, φ (.pointer p)
  | .map _ => ∃ r, φ (.map r)
  | _ => ∃ v, φ v

theorem ty1.out {z : Value} {φ : Value → Prop} (h : ty1 z φ) : ∃ v, φ v := by
  unfold ty1 at h
  split at h
  · exact ⟨_, h.choose_spec⟩
  · exact ⟨_, h.choose_spec⟩
  · exact ⟨_, h.choose_spec⟩
  · obtain ⟨a, n, c, h⟩ := h; exact ⟨_, h⟩
  · exact ⟨_, h.choose_spec⟩
  · exact ⟨_, h.choose_spec⟩
  · exact h

def tyL : List Value → (List Value → Prop) → Prop
  | [], φ => φ []
  | z :: zs, φ => ty1 z fun v => tyL zs fun l => φ (v :: l)

theorem tyL.out : ∀ {zs : List Value} {φ : List Value → Prop}, tyL zs φ → ∃ l, l.length = zs.length ∧ φ l
  | [], _, h => ⟨[], rfl, h⟩
  | z :: zs, φ, h => by
    obtain ⟨v, h⟩ := ty1.out h
    obtain ⟨l, hl, h⟩ := tyL.out h
    exact ⟨v :: l, by simp [hl], h⟩

def tyX (z : Value) (φ : Value → Prop) : Prop := match z with
  | .agg zs => tyL zs.toList fun l => φ (.agg l.toArray)
  | z => ty1 z φ

theorem tyX.out {z : Value} {φ : Value → Prop} (h : tyX z φ) : ∃ v, φ v := by
  unfold tyX at h
  split at h
  · obtain ⟨l, _, h⟩ := tyL.out h; exact ⟨_, h⟩
  · exact ty1.out h

def tyR : List Value → (List Value → Prop) → Prop
  | [], φ => φ []
  | z :: zs, φ => tyX z fun v => tyR zs fun l => φ (v :: l)

theorem tyR.out : ∀ {zs : List Value} {φ : List Value → Prop}, tyR zs φ → ∃ l, φ l
  | [], _, h => ⟨[], h⟩
  | z :: zs, φ, h => by
    obtain ⟨v, h⟩ := tyX.out h
    obtain ⟨l, h⟩ := tyR.out h
    exact ⟨v :: l, h⟩

def zeroP (P : Program) (t : TypeId) : Value := match P.info? t with
  | some i => match i.zero with
    | some z => z
    | none => undef
  | none => undef

def sizeP (P : Program) (t : TypeId) : Nat := match P.info? t with
  | some i => i.size
  | none => 0

def isAggP (P : Program) (t : TypeId) : Bool := match P.underlying t with
  | some (.struct _) => true
  | some (.array _ _) => true
  | _ => false

/-- what a call hands back, by the type of its operation -/
def resX (P : Program) (t : TypeId) (φ : Value → Prop) : Prop := match P.underlying t with
  | some (.tuple ts) => tyR (ts.toList.map (zeroP P)) fun l => φ (.tuple l.toArray)
  | _ => tyX (zeroP P t) φ

theorem resX.out {P : Program} {t : TypeId} {φ : Value → Prop} (h : resX P t φ) : ∃ v, φ v := by
  unfold resX at h
  split at h
  · obtain ⟨l, h⟩ := tyR.out h; exact ⟨_, h⟩
  · exact tyX.out h

def cellsAre (w : World) (a : Addr) : Nat → List Value → Prop → Prop
  | _, [], φ => φ
  | i, v :: vs, φ => w.cell? (a.add i) = some v ∧ cellsAre w a (i + 1) vs φ

theorem cellsAre.out {w : World} {a : Addr} : ∀ {i : Nat} {l : List Value} {φ : Prop}, cellsAre w a i l φ → (∀ j v, l[j]? = some v → w.cell? (a.add (i + j)) = some v) ∧ φ
  | _, [], _, h => ⟨fun j v hj => by simp at hj, h⟩
  | i, u :: l, φ, h => by
    obtain ⟨h1, h2⟩ := h
    obtain ⟨h3, h4⟩ := cellsAre.out h2
    refine ⟨fun j v hj => ?_, h4⟩
    cases j with
    | zero => simp at hj; subst hj; exact h1
    | succ j =>
      have := h3 j v (by simpa using hj)
      rw [show i + 1 + j = i + (j + 1) from by omega] at this
      exact this

/-- a variable of type t that is read -/
def PLd (P : Program) (t : TypeId) (pv : Value) (w : World) (κ : Value → Prop) : Prop := match pv with
  | .pointer (some a) => match isAggP P t with
    | true => match zeroP P t with
      | .agg zs => match Nat.beq (sizeP P t) zs.size with
        | true => tyL zs.toList fun l => cellsAre w a 0 l (κ (.agg l.toArray))
        | false => False
      | _ => False
    | false => ty1 (zeroP P t) fun v => w.cell? a = some v ∧ κ v
  | _ => False

/-- a cell that is written -/
def PS (w : World) (a : Addr) (v : Value) (κ : World → Prop) : Prop := (∃ u, w.cell? a = some u) ∧ w.frozen? a = false ∧ κ (w.setCell a v)

/-- a new block -/
def PA (w : World) (o : Obj) (κ : World → Prop) : Prop := κ (w.alloc o)

def storeK (a : Addr) : Nat → List Value → World → (World → Prop) → Prop
  | _, [], w, κ => κ w
  | i, v :: vs, w, κ => PS w (a.add i) v fun w' => storeK a (i + 1) vs w' κ

/-- a variable of type t that is written -/
def PSt (P : Program) (t : TypeId) (pv v : Value) (w : World) (κ : World → Prop) : Prop := match pv with
  | .pointer (some a) => match isAggP P t with
    | true => match v with
      | .agg cs => match Nat.beq cs.size (sizeP P t) with
        | true => match cs.toList.all Value.oneCell' with
          | true => storeK a 0 cs.toList w κ
          | false => False
        | false => False
      | _ => False
    | false => match Nat.beq (sizeP P t) 1 with
      | true => PIf v.oneCell' (PS w a v κ) False
      | false => False
  | _ => False

def mulS (n s : Nat) : Nat := match Nat.beq s 1 with
  | true => n
  | false => n * s

theorem mulS_eq (n s : Nat) : mulS n s = n * s := by
  unfold mulS
  cases h : Nat.beq s 1
  · rfl
  · have : s = 1 := Nat.eq_of_beq_eq_true h
    subst this; simp

/-- an element's place -/
def PIx (P : Program) (t : TypeId) (x i : Value) (κ : Value → Prop) : Prop := match P.underlying t with
  | some (.slice elem) => match x, i with
    | .slice base n _, .int _ iv => ∃ b off, base = some ⟨b, off, none⟩ ∧ 0 ≤ iv ∧ iv < n ∧ κ (.pointer (some ⟨b, off + mulS iv.toNat (sizeP P elem), none⟩))
    | _, _ => False
  | some (.array len elem) => match x, i with
    | .pointer p, .int _ iv => ∃ b off, p = some ⟨b, off, none⟩ ∧ 0 ≤ iv ∧ iv < len ∧ κ (.pointer (some ⟨b, off + mulS iv.toNat (sizeP P elem), none⟩))
    | _, _ => False
  | _ => False

/-- a byte of a string -/
def PIxS (x i : Value) (κ : Value → Prop) : Prop := match x, i with
  | .string s, .int _ iv => 0 ≤ iv ∧ ∃ c, s[iv.toNat]? = some c ∧ κ (.int .u8 c.toNat)
  | _, _ => False

/-- where a part of a slice begins -/
def subA (a : Option Addr) (l c size : Nat) : Option Addr := if c = l then a else a.map (·.add (l * size))

def PSl (P : Program) (t : TypeId) (x : Value) (lo hi mx : Option Value) (κ : Value → Prop) : Prop := match P.underlying t with
  | some .string => match x, mx with
    | .string s, none => match lo, hi with
      | none, none => κ (.string (s.extract 0 s.size))
      | some (.int _ l), none => 0 ≤ l ∧ l ≤ s.size ∧ κ (.string (s.extract l.toNat s.size))
      | none, some (.int _ h) => 0 ≤ h ∧ h ≤ s.size ∧ κ (.string (s.extract 0 h.toNat))
      | some (.int _ l), some (.int _ h) => 0 ≤ l ∧ l ≤ h ∧ h ≤ s.size ∧ κ (.string (s.extract l.toNat h.toNat))
      | _, _ => False
    | _, _ => False
  | some (.slice elem) => match x, mx with
    | .slice a n c, none => match lo, hi with
      | none, none => κ (.slice a n c)
      | some (.int _ l), none => 0 ≤ l ∧ l ≤ n ∧ κ (.slice (subA a l.toNat c (sizeP P elem)) (n - l.toNat) (c - l.toNat))
      | none, some (.int _ h) => 0 ≤ h ∧ h ≤ c ∧ κ (.slice a h.toNat c)
      | some (.int _ l), some (.int _ h) => 0 ≤ l ∧ l ≤ h ∧ h ≤ c ∧ κ (.slice (subA a l.toNat c (sizeP P elem)) (h.toNat - l.toNat) (c - l.toNat))
      | _, _ => False
    | .slice a _ c, some (.int _ m) => match lo, hi with
      | none, some (.int _ h) => 0 ≤ h ∧ h ≤ m ∧ m ≤ c ∧ κ (.slice a h.toNat m.toNat)
      | some (.int _ l), some (.int _ h) => 0 ≤ l ∧ l ≤ h ∧ h ≤ m ∧ m ≤ c ∧ κ (.slice (subA a l.toNat m.toNat (sizeP P elem)) (h.toNat - l.toNat) (m.toNat - l.toNat))
      | _, _ => False
    | _, _ => False
  | _ => False

def PNil (p : Option Addr) (κ : Value → Prop) : Prop := ∃ b off, p = some ⟨b, off, none⟩ ∧ κ (.pointer (some ⟨b, off, none⟩))

/-- a computation of the model's, as it stands -/
def PRun (P : Program) (s : Sem Value) (w : World) (κ ε : Value → World → Prop) : Prop := match s.run P w with
  | .ok v w' => κ v w'
  | .halt (.panic v) w' => ε v w'
  | _ => False

def PRunU (P : Program) (s : Sem Unit) (w : World) (κ : World → Prop) (ε : Value → World → Prop) : Prop := match s.run P w with
  | .ok _ w' => κ w'
  | .halt (.panic v) w' => ε v w'
  | _ => False

theorem PRun.mk {P : Program} {s : Sem Value} {w w' : World} {v : Value} {κ ε : Value → World → Prop} (hr : s.run P w = .ok v w') (h : κ v w') : PRun P s w κ ε := by
  unfold PRun; rw [hr]; exact h
theorem PRunU.mk {P : Program} {s : Sem Unit} {w w' : World} {κ : World → Prop} {ε : Value → World → Prop} (hr : s.run P w = .ok () w') (h : κ w') : PRunU P s w κ ε := by
  unfold PRunU; rw [hr]; exact h
theorem PRun.imp {P : Program} {s : Sem Value} {w : World} {κ κ' ε : Value → World → Prop} (hk : ∀ v w', κ v w' → κ' v w') (h : PRun P s w κ ε) : PRun P s w κ' ε := by
  unfold PRun at *
  split at h
  · exact hk _ _ h
  · exact h
  · exact h.elim
theorem PRun.panics {P : Program} {s : Sem Value} {w w' : World} {v : Value} {κ ε : Value → World → Prop} (hr : s.run P w = .halt (.panic v) w') (h : ε v w') : PRun P s w κ ε := by
  unfold PRun; rw [hr]; exact h

def enters (P : Program) (g : FuncId) : Bool := match P.funcs[g]? with
  | some fn => match fn.body with
    | some _ => !(fn.name == "runtime.NumGoroutine")
    | none => false
  | none => false

def onEnd (e : Ending) (κ : Value → Prop) (ε : List PanicEntry → Prop) : Prop := match e with
  | .returned v => κ v
  | .panicked ch => ε ch
  | .outgrown => False

/-- a call, what it hands back not looked at -/
def PC (P : Program) (g : FuncId) (args : Array Value) (w : World) (κ : Value → World → Prop) (ε : List PanicEntry → World → Prop) : Prop :=
  Calls P g args w fun e w' => onEnd e (fun v => κ v w') (fun ch => ε ch w')

/-- a call of function g -/
def PCall (P : Program) (g : FuncId) (args : Array Value) (t : TypeId) (w : World) (κ : Value → World → Prop) (ε : List PanicEntry → World → Prop) : Prop :=
  PC P g args w (fun v w' => resX P t fun u => v = u ∧ κ u w') ε

/-- a call of a function value -/
def PCallV (P : Program) (f : Value) (args : Array Value) (t : TypeId) (w : World) (κ : Value → World → Prop) (ε : List PanicEntry → World → Prop) : Prop :=
  ∃ g first cap, f = .func (.func g) first cap ∧ enters P g = true ∧ PCall P g (first ++ args ++ cap) t w κ ε

def isInt (P : Program) (t : TypeId) : Bool := match P.underlying t with
  | some (.int _) => true
  | _ => false

def isPlain (P : Program) (t : TypeId) : Bool := match P.underlying t with
  | some (.int _) => true
  | some .bool => true
  | some .string => true
  | _ => false

def isMap (P : Program) (t : TypeId) : Bool := match P.underlying t with
  | some (.map _ _) => true
  | _ => false

def isConstO (x : Operand) : Bool := match x with
  | .const _ => true
  | _ => false

/-- operations that are not worked out by looking at the text alone: the shape of what they yield is told by their type -/
def typedOp (P : Program) (o : Oper) : Bool := match o.op with
  | .lookup .. => true
  | .next .. => true
  | .entry _ => true
  | .mapEntry .. => true
  | .makeSlice .. => true
  | .convert src dst _ => match isInt P src with
    | true => match isInt P dst with
      | true => false
      | false => true
    | false => true
  | .binOp op t _ y _ => match op with
    | .quo => match isConstO y with
      | true => false
      | false => true
    | .rem => match isConstO y with
      | true => false
      | false => true
    | .shl => match isConstO y with
      | true => false
      | false => true
    | .shr => match isConstO y with
      | true => false
      | false => true
    | .add => match isInt P t with
      | true => false
      | false => true
    | .eql => match isPlain P t with
      | true => false
      | false => true
    | .neq => match isPlain P t with
      | true => false
      | false => true
    | _ => false
  | .call { callee := .builtin b, argTypes, .. } => match b with
    | .append => true
    | .copy => true
    | .cap => true
    | .len => isMap P (argTypes.getD 0 0)
    | _ => false
  | _ => false

/-- the operations that are computations of the model's, with a value -/
def semV (ρ : Operand → Value) (o : Oper) : Option (Sem Value) := match o.op with
  | .move x | .assign x => some (.pure (ρ x))
  | .pick c a b => some (do pure (if ← asBool (ρ c) then ρ a else ρ b))
  | .alloc elem => some (Instr.alloc elem true (.tuple #[]))
  | .box elem x => some (Instr.box elem (ρ x))
  | .build t parts => some (Instr.build t (parts.map fun (i, x) => (i, ρ x)))
  | .buildSlice t len parts => some (Instr.buildSlice t len (parts.map fun (i, x) => (i, ρ x)))
  | .waits g => some (Instr.waits g)
  | .binOp op xType x y _ => some (do eqGuard op xType x y (ρ x) (ρ y); binOp op xType (ρ x) (ρ y))
  | .unOp op _ x => some (Op.unary op (ρ x))
  | .convert src dst x => some (convert src dst (ρ x))
  | .makeInterface xType x => some (Instr.makeInterface xType (ρ x))
  | .makeFunc fn first captured => some (Instr.makeFunc fn (first.map ρ) (captured.map ρ))
  | .makeMap t r => some (Instr.makeMap t (r.map ρ))
  | .makeSlice t l c => some (Instr.makeSlice t (ρ l) (ρ c))
  | .fieldAddr s x f => some (Instr.fieldAt s (ρ x) f)
  | .field xType x f => some (Instr.field xType (ρ x) f)
  | .index xType x ix => some (Instr.index xType (ρ x) (ρ ix))
  | .lookup xType x ix ok => some (Instr.lookup xType (ρ x) (ρ ix) ok)
  | .mapEntry t m k => some (Instr.mapEntry t (ρ m) (ρ k))
  | .range xType x => some (Instr.range xType (ρ x))
  | .next it isString => some (Instr.next (ρ it) isString o.type)
  | .entry it => some (Instr.entry (ρ it))
  | .typeAssert x xType asserted ok => some (Instr.typeAssert (ρ x) xType asserted ok)
  | .extract t ix => some (Instr.extract (ρ t) ix)
  | .panic x => some (Instr.panic (ρ x))
  | .call c => match c.callee with
    | .builtin b => match b with
      | .append => some (Builtin.append_ c.argTypes o.type (c.args.map ρ))
      | .cap => some (Builtin.cap_ c.argTypes o.type (c.args.map ρ))
      | .clear => some (Builtin.clear_ c.argTypes o.type (c.args.map ρ))
      | .copy => some (Builtin.copy_ c.argTypes o.type (c.args.map ρ))
      | .delete => some (Builtin.delete_ c.argTypes o.type (c.args.map ρ))
      | .len => some (Builtin.len_ c.argTypes o.type (c.args.map ρ))
      | .max => some (Builtin.max_ c.argTypes o.type (c.args.map ρ))
      | .min => some (Builtin.min_ c.argTypes o.type (c.args.map ρ))
      | .panic => some (Instr.panic ((c.args.map ρ).getD 0 .nilIface))
      | _ => none
    | _ => none
  | _ => none

def semU (ρ : Operand → Value) (o : Oper) : Option (Sem Unit) := match o.op with
  | .mapUpdate t m k x | .insert t m k x => some (Instr.mapUpdate t (ρ m) (ρ k) (ρ x))
  | .entryStore t m s x => some (Instr.entryStore t (ρ m) (ρ s) (ρ x))
  | .ready g => some (Instr.ready g)
  | _ => none

theorem andThen_assoc {α β γ : Type} (r : Result α) (f : α → World → Result β) (g : β → World → Result γ) : (r.andThen f).andThen g = r.andThen fun a w => (f a w).andThen g := by
  cases r <;> rfl

theorem semV_exec {ρ : Operand → Value} {o : Oper} {s : Sem Value} (h : semV ρ o = some s) (P : Program) (w : World) :
    (execOp ρ o).run P w = (s.run P w).andThen fun v w' => .ok (.value v) w' := by
  obtain ⟨dst, op, type, pos, after, guard⟩ := o
  cases op
  case call c =>
    obtain ⟨callee, args, ats⟩ := c
    cases callee
    case builtin b =>
      cases b <;> simp only [semV, Option.some.injEq, reduceCtorEq] at h <;> subst h <;> simp [execOp, resolve, invoke, builtin]
    all_goals simp [semV] at h
  all_goals first
    | (cases h; done)
    | (cases h; simp [execOp]; done)
    | (cases h; simp only [execOp, Sem.run_bind, Sem.run_pure, andThen_assoc, Result.andThen_ok]; done)
    | (cases h; simp only [execOp, Sem.run_bind, Sem.run_pure, andThen_assoc, Result.andThen_ok]; rfl)

theorem semU_exec {ρ : Operand → Value} {o : Oper} {s : Sem Unit} (h : semU ρ o = some s) (P : Program) (w : World) :
    (execOp ρ o).run P w = (s.run P w).andThen fun _ w' => .ok .skip w' := by
  obtain ⟨dst, op, type, pos, after, guard⟩ := o
  cases op
  all_goals first
    | (simp only [semU, Option.some.injEq] at h; subst h; simp [execOp]; done)
    | (simp [semU] at h; done)


/-! ### each word is enough for the operation that it stands for -/
section
variable {P : Program}

theorem isAggP_run (P : Program) (t : TypeId) (b : Bool) (h : isAggP P t = b) (hu : ∃ d, P.underlying t = some d) (w : World) : (isAgg t).run P w = .ok b w := by
  obtain ⟨d, hd⟩ := hu
  unfold isAggP at h
  rw [hd] at h
  simp only [isAgg, Sem.run_bind, run_underlying hd, Result.andThen_ok]
  cases d <;> simp_all

theorem zero_info {t : TypeId} {z : Value} (h : zeroP P t = z) (hz : z ≠ undef) : ∃ i, P.info? t = some i ∧ i.zero = some z := by
  unfold zeroP at h
  split at h
  · rename_i i hi
    split at h
    · rename_i z' hz'; exact ⟨i, hi, by rw [hz', h]⟩
    · exact absurd h.symm hz
  · exact absurd h.symm hz

theorem sizeOf_run {t : TypeId} {i : TypeInfo} (hi : P.info? t = some i) (w : World) : (sizeOf t).run P w = .ok i.size w := by
  simp [sizeOf, typeInfo, hi]

theorem sizeP_eq {t : TypeId} {i : TypeInfo} (hi : P.info? t = some i) : sizeP P t = i.size := by simp [sizeP, hi]

theorem cell_of_heap {w w' : World} (h : w'.heap = w.heap) (a : Addr) : w'.cell? a = w.cell? a := by simp [World.cell?, h]

/-- the value that a read gives, in each world with this heap -/
theorem PLd.out {t : TypeId} {pv : Value} {w : World} {κ : Value → Prop} (hu : ∃ d, P.underlying t = some d) (h : PLd P t pv w κ) :
    ∃ v, (∀ w', w'.heap = w.heap → (Instr.loadAt t pv).run P w' = .ok v w') ∧ κ v := by
  unfold PLd at h
  split at h
  · rename_i a
    split at h
    · rename_i hagg
      split at h
      · rename_i zs hz
        split at h
        · rename_i hs
          obtain ⟨l, hl, h⟩ := tyL.out h
          obtain ⟨hc, h⟩ := cellsAre.out h
          obtain ⟨i, hi, _⟩ := zero_info hz (by simp [undef])
          have hsz : i.size = l.length := by
            have := Nat.eq_of_beq_eq_true hs
            rw [sizeP_eq hi] at this
            simp [this, hl]
          refine ⟨_, fun w' hw' => ?_, h⟩
          have hcc : ∀ j v, l[j]? = some v → w'.cell? (a.add j) = some v := fun j v hj => by
            rw [cell_of_heap hw']; have := hc j v hj; simpa using this
          have hld := run_loadCells_list (P := P) (w := w') a l hcc
          simp only [Instr.loadAt, Instr.sureAddr, loadVar, Sem.run_bind, Sem.run_pure, Result.andThen_ok, isAggP_run P t _ hagg hu, if_true, sizeOf_run hi, hsz, hld]
        · exact h.elim
      · exact h.elim
    · rename_i hagg
      obtain ⟨v, hv, h⟩ := ty1.out h
      refine ⟨v, fun w' hw' => ?_, h⟩
      have hc : w'.cell? a = some v := by rw [cell_of_heap hw']; exact hv
      simp [Instr.loadAt, Instr.sureAddr, loadVar, isAggP_run P t _ hagg hu, load, Sem.run, hc]
  · exact h.elim

theorem storeK.out {a : Addr} {κ : World → Prop} : ∀ {l : List Value} {i : Nat} {w : World}, (∀ v ∈ l, v.oneCell' = true) → storeK a i l w κ → ∃ w', (storeCells a l i).run P w = .ok () w' ∧ κ w'
  | [], i, w, _, h => ⟨w, rfl, h⟩
  | v :: l, i, w, h1, h => by
    obtain ⟨⟨u, hu⟩, hf, h⟩ := h
    obtain ⟨w', hr, h⟩ := storeK.out (l := l) (fun v hv => h1 v (List.mem_cons_of_mem _ hv)) h
    refine ⟨w', ?_, h⟩
    have hs := run_store P w (a.add i) v .plain (h1 v (List.mem_cons_self ..))
    simp only [storeCells, Sem.run_bind, hs, hu, hf]
    simpa using hr

theorem PSt.out {t : TypeId} {pv v : Value} {w : World} {κ : World → Prop} (hi : ∃ i, P.info? t = some i) (h : PSt P t pv v w κ) :
    ∃ w', (Instr.storeAt t pv v).run P w = .ok () w' ∧ κ w' := by
  obtain ⟨i, hi⟩ := hi
  unfold PSt at h
  split at h
  · rename_i a
    split at h
    · split at h
      · rename_i cs
        split at h
        · rename_i hs
          split at h
          · rename_i h1
            obtain ⟨w', hr, h⟩ := storeK.out (P := P) (fun v hv => by simpa using List.all_eq_true.1 h1 v hv) h
            refine ⟨w', ?_, h⟩
            have hsz : cs.size = i.size := by have := Nat.eq_of_beq_eq_true hs; rwa [sizeP_eq hi] at this
            simp [Instr.storeAt, Instr.sureAddr, storeVar, sizeOf_run hi, Value.cells, hsz, hr]
          · exact h.elim
        · exact h.elim
      · exact h.elim
    · split at h
      · rename_i hs
        have hsz : i.size = 1 := by have := Nat.eq_of_beq_eq_true hs; rwa [sizeP_eq hi] at this
        cases h1 : v.oneCell' with
        | false => rw [h1] at h; exact h.elim
        | true =>
          rw [h1] at h
          obtain ⟨⟨u, hu⟩, hf, h⟩ := h
          refine ⟨_, ?_, h⟩
          have hcs : v.cells = #[v] := by cases v <;> first | rfl | (simp [Value.oneCell'] at h1)
          have hs := run_store P w a v .plain h1
          rw [hu, hf] at hs
          simp [Instr.storeAt, Instr.sureAddr, storeVar, sizeOf_run hi, hcs, hsz, storeCells, Addr.add_zero', hs]
      · exact h.elim
  · exact h.elim

theorem PIx.out {t : TypeId} {x i : Value} {κ : Value → Prop} (hinfo : ∀ e, (P.underlying t = some (.slice e) ∨ ∃ n, P.underlying t = some (.array n e)) → ∃ j, P.info? e = some j) (h : PIx P t x i κ) :
    ∃ v, (∀ w, (Instr.indexAt t x i).run P w = .ok v w) ∧ κ v := by
  unfold PIx at h
  split at h
  · rename_i elem hd
    split at h
    · rename_i base n c k iv
      obtain ⟨b, off, rfl, h0, h1, h⟩ := h
      obtain ⟨j, hj⟩ := hinfo elem (.inl hd)
      refine ⟨_, fun w => ?_, h⟩
      simp [Instr.indexAt, asIntOf, run_underlying hd, h0, h1, sizeOf_run hj, mulS_eq, sizeP_eq hj, Addr.add_lit]
    · exact h.elim
  · rename_i len elem hd
    split at h
    · rename_i p k iv
      obtain ⟨b, off, rfl, h0, h1, h⟩ := h
      obtain ⟨j, hj⟩ := hinfo elem (.inr ⟨len, hd⟩)
      refine ⟨_, fun w => ?_, h⟩
      simp [Instr.indexAt, Instr.sureAddr, asIntOf, run_underlying hd, h0, h1, sizeOf_run hj, mulS_eq, sizeP_eq hj, Addr.add_lit]
    · exact h.elim
  · exact h.elim

theorem PIxS.out {t : TypeId} {x i : Value} {κ : Value → Prop} (hd : P.underlying t = some .string) (h : PIxS x i κ) : ∃ v, (∀ w, (Instr.index t x i).run P w = .ok v w) ∧ κ v := by
  unfold PIxS at h
  split at h
  · rename_i s k iv
    obtain ⟨h0, c, hc, h⟩ := h
    refine ⟨_, fun w => ?_, h⟩
    simp [Instr.index, asIntOf, run_underlying hd, h0, hc]
  · exact h.elim


theorem sliceBound_run (x : Value) (i : Int) (k : IntKind) (hx : x = .int k i) (y : Nat) (code : BoundsCode) (w : World) (h : 0 ≤ i ∧ i ≤ y) : (Instr.sliceBound x y code).run P w = .ok i.toNat w := by
  subst hx
  simp [Instr.sliceBound, asIntOf, h]

theorem PSl.out {t : TypeId} {x : Value} {lo hi mx : Option Value} {κ : Value → Prop} (hinfo : ∀ e, P.underlying t = some (.slice e) → ∃ j, P.info? e = some j) (h : PSl P t x lo hi mx κ) :
    ∃ v, (∀ w, (Instr.sliceAt t x lo hi mx).run P w = .ok v w) ∧ κ v := by
  unfold PSl at h
  split at h
  · rename_i hd
    have hat : ∀ w, (Instr.sliceAt t x lo hi mx).run P w = (Instr.slice t x lo hi mx).run P w := fun w => by simp [Instr.sliceAt, run_underlying hd]
    split at h
    · rename_i s
      split at h
      · exact ⟨_, fun w => by rw [hat]; simp [Instr.slice, Instr.sliceBounds, run_underlying hd], h⟩
      · rename_i l
        obtain ⟨h0, h1, h⟩ := h
        exact ⟨_, fun w => by rw [hat]; simp [Instr.slice, Instr.sliceBounds, run_underlying hd, sliceBound_run _ l _ rfl s.size _ w ⟨h0, h1⟩], h⟩
      · rename_i r
        obtain ⟨h0, h1, h⟩ := h
        exact ⟨_, fun w => by rw [hat]; simp [Instr.slice, Instr.sliceBounds, run_underlying hd, sliceBound_run _ r _ rfl s.size _ w ⟨h0, h1⟩], h⟩
      · rename_i l _ r
        obtain ⟨h0, h1, h2, h⟩ := h
        exact ⟨_, fun w => by rw [hat]; simp [Instr.slice, Instr.sliceBounds, run_underlying hd, sliceBound_run _ r _ rfl s.size _ w ⟨by omega, h2⟩, sliceBound_run _ l _ rfl r.toNat _ w ⟨h0, by omega⟩], h⟩
      · exact h.elim
    · exact h.elim
  · rename_i elem hd
    obtain ⟨j, hj⟩ := hinfo elem hd
    have hat : ∀ w, (Instr.sliceAt t x lo hi mx).run P w = (Instr.slice t x lo hi mx).run P w := fun w => by simp [Instr.sliceAt, run_underlying hd]
    split at h
    · rename_i a n c
      split at h
      · refine ⟨_, fun w => ?_, h⟩
        rw [hat]
        cases a <;> simp [Instr.slice, Instr.sliceBounds, run_underlying hd, sizeOf_run hj, Addr.add_zero']
      · rename_i l
        obtain ⟨h0, h1, h⟩ := h
        refine ⟨_, fun w => ?_, h⟩
        rw [hat]
        simp [Instr.slice, Instr.sliceBounds, run_underlying hd, sizeOf_run hj, sliceBound_run _ l _ rfl n _ w ⟨h0, h1⟩, subA, sizeP_eq hj]
      · rename_i r
        obtain ⟨h0, h1, h⟩ := h
        refine ⟨_, fun w => ?_, h⟩
        rw [hat]
        cases a <;> simp [Instr.slice, Instr.sliceBounds, run_underlying hd, sizeOf_run hj, sliceBound_run _ r _ rfl c _ w ⟨h0, h1⟩, Addr.add_zero']
      · rename_i l _ r
        obtain ⟨h0, h1, h2, h⟩ := h
        refine ⟨_, fun w => ?_, h⟩
        rw [hat]
        simp [Instr.slice, Instr.sliceBounds, run_underlying hd, sizeOf_run hj, sliceBound_run _ r _ rfl c _ w ⟨by omega, h2⟩, sliceBound_run _ l _ rfl r.toNat _ w ⟨h0, by omega⟩, subA, sizeP_eq hj]
      · exact h.elim
    · rename_i a n c _ m
      split at h
      · rename_i r
        obtain ⟨h0, h1, h2, h⟩ := h
        refine ⟨_, fun w => ?_, h⟩
        rw [hat]
        cases a <;> simp [Instr.slice, Instr.sliceBounds, run_underlying hd, sizeOf_run hj, sliceBound_run _ m _ rfl c _ w ⟨by omega, h2⟩, sliceBound_run _ r _ rfl m.toNat _ w ⟨h0, by omega⟩, Addr.add_zero']
      · rename_i l _ r
        obtain ⟨h0, h1, h2, h3, h⟩ := h
        refine ⟨_, fun w => ?_, h⟩
        rw [hat]
        simp [Instr.slice, Instr.sliceBounds, run_underlying hd, sizeOf_run hj, sliceBound_run _ m _ rfl c _ w ⟨by omega, h3⟩, sliceBound_run _ r _ rfl m.toNat _ w ⟨by omega, by omega⟩, sliceBound_run _ l _ rfl r.toNat _ w ⟨h0, by omega⟩, subA, sizeP_eq hj]
      · exact h.elim
    · exact h.elim
  · exact h.elim

end

/-! ### the formula of an operation, of a region, of code -/

def known (P : Program) (t : TypeId) : Bool := match P.underlying t, P.info? t with
  | some _, some _ => true
  | _, _ => false

def knownE (P : Program) (t : TypeId) : Bool := match P.underlying t with
  | some (.slice e) => match P.info? e with
    | some _ => true
    | none => false
  | some (.array _ e) => match P.info? e with
    | some _ => true
    | none => false
  | some _ => true
  | none => false

def must (b : Bool) (X : Prop) : Prop := match b with
  | true => X
  | false => False

theorem must.out {b : Bool} {X : Prop} (h : must b X) : b = true ∧ X := by
  cases b
  · exact h.elim
  · exact ⟨rfl, h⟩

abbrev Base := Nat → Value
abbrev Post := Exit → Base → Bnd → List Deferred → World → Prop

def DNil (v : Value) (κ : Value → Prop) : Prop := match v with
  | .pointer p => PNil p κ
  | .func (.func g) first cap => κ (.func (.func g) first cap)
  | _ => False

/-- of what shape a part of a thing is that is taken apart behind -/
def exShapeL (P : Program) (d ix : Nat) : List Oper → Value
  | [] => undef
  | o :: r => match o.op with
    | .extract (.tmp s) i => match Nat.beq s d with
      | true => match Nat.beq i ix with
        | true => zeroP P o.type
        | false => exShapeL P d ix r
      | false => exShapeL P d ix r
    | _ => exShapeL P d ix r
def exShape (P : Program) (ops : Array Oper) (d : Option Tmp) (ix : Nat) : Value := match d with
  | some d => exShapeL P d ix ops.toList
  | none => undef

/-- what the step of a range hands out -/
def nextV (s : Bool) (v : Value) (κ : Value → Prop) : Prop := (v = .tuple #[.bool false] ∧ κ (.tuple #[.bool false])) ∨ (match s with
  | true => ∃ i r, v = .tuple #[.bool true, .int .i64 i, .int .i32 r] ∧ κ (.tuple #[.bool true, .int .i64 i, .int .i32 r])
  | false => ∃ k x, v = .tuple #[.bool true, k, x] ∧ κ (.tuple #[.bool true, k, x]))
theorem nextV.out {s : Bool} {v : Value} {κ : Value → Prop} (h : nextV s v κ) : κ v := by
  unfold nextV at h
  rcases h with ⟨rfl, h⟩ | h
  · exact h
  · cases s
    · obtain ⟨k, x, rfl, h⟩ := h; exact h
    · obtain ⟨k, x, rfl, h⟩ := h; exact h
def entryV (z0 z1 : Value) (v : Value) (κ : Value → Prop) : Prop := tyX z0 fun k => tyX z1 fun x => v = .tuple #[k, x] ∧ κ (.tuple #[k, x])
theorem entryV.out {z0 z1 : Value} {v : Value} {κ : Value → Prop} (h : entryV z0 z1 v κ) : κ v := by
  obtain ⟨k, h1⟩ := tyX.out (z := z0) (φ := fun k => tyX z1 fun x => v = .tuple #[k, x] ∧ κ (.tuple #[k, x])) h
  obtain ⟨x, h2⟩ := tyX.out (z := z1) (φ := fun x => v = .tuple #[k, x] ∧ κ (.tuple #[k, x])) h1
  rw [h2.1]
  exact h2.2

/-- what an assertion with an answer yields -/
def assertV (z : Value) (v : Value) (κ : Value → Prop) : Prop := tyX z fun u => ∃ b, v = .tuple #[u, .bool b] ∧ κ (.tuple #[u, .bool b])
theorem assertV.out {z v : Value} {κ : Value → Prop} (h : assertV z v κ) : κ v := by
  obtain ⟨u, b, e, k⟩ := tyX.out (z := z) (φ := fun u => ∃ b, v = .tuple #[u, .bool b] ∧ κ (.tuple #[u, .bool b])) h
  rw [e]
  exact k

def DOp (P : Program) (ops : Array Oper) (B : Base) (o : Oper) (Q : Post) (K : Bnd → List Deferred → World → Prop) (e : Bnd) (ds : List Deferred) (w : World) : Prop :=
  match o.op with
  | .load t a => must (known P t) (PLd P t (ev B e a) w fun v => K (putE e o.dst v) ds w)
  | .store t a x => must (known P t) (PSt P t (ev B e a) (ev B e x) w fun w' => K (putE e o.dst undef) ds w')
  | .indexAddr t x i => must (knownE P t) (PIx P t (ev B e x) (ev B e i) fun v => K (putE e o.dst v) ds w)
  | .slice t x lo hi mx => must (knownE P t) (PSl P t (ev B e x) (lo.map (ev B e)) (hi.map (ev B e)) (mx.map (ev B e)) fun v => K (putE e o.dst v) ds w)
  | .nilCheck x => DNil (ev B e x) fun v => K (putE e o.dst v) ds w
  | .index t x i => match P.underlying t with
    | some .string => PIxS (ev B e x) (ev B e i) fun v => K (putE e o.dst v) ds w
    | _ => PRun P (Instr.index t (ev B e x) (ev B e i)) w (fun v w' => K (putE e o.dst v) ds w') (fun pv w' => Q (.panic [{ v := pv, recovered := false }]) B e ds w')
  | .call { callee := .value (.func g), args, .. } => must (enters P g) (PCall P g (args.map (ev B e)) o.type w (fun v w' => K (putE e o.dst v) ds w') (fun ch w' => Q (.panic ch) B e ds w'))
  | .call { callee := .value f, args, .. } => PCallV P (ev B e f) (args.map (ev B e)) o.type w (fun v w' => K (putE e o.dst v) ds w') (fun ch w' => Q (.panic ch) B e ds w')
  | .defer { callee := .value f, args, .. } => match ev B e f with
    | .func fn first cap => K (putE e o.dst undef) ({ target := .fn fn cap, args := first ++ args.map (ev B e) } :: ds) w
    | _ => False
  | .next it s => PRun P (Instr.next (ev B e it) s o.type) w (fun v w' => nextV s v fun u => K (putE e o.dst u) ds w') (fun pv w' => Q (.panic [{ v := pv, recovered := false }]) B e ds w')
  | .entry it => PRun P (Instr.entry (ev B e it)) w (fun v w' => entryV (exShape P ops o.dst 0) (exShape P ops o.dst 1) v fun u => K (putE e o.dst u) ds w') (fun pv w' => Q (.panic [{ v := pv, recovered := false }]) B e ds w')
  | .typeAssert x xT T true => PRun P (Instr.typeAssert (ev B e x) xT T true) w (fun v w' => assertV (zeroP P T) v fun u => K (putE e o.dst u) ds w') (fun pv w' => Q (.panic [{ v := pv, recovered := false }]) B e ds w')
  | _ => match semV (ev B e) o with
    | some s => match typedOp P o with
      | true => PRun P s w (fun v w' => resX P o.type fun u => v = u ∧ K (putE e o.dst u) ds w') (fun pv w' => Q (.panic [{ v := pv, recovered := false }]) B e ds w')
      | false => PRun P s w (fun v w' => K (putE e o.dst v) ds w') (fun pv w' => Q (.panic [{ v := pv, recovered := false }]) B e ds w')
    | none => match semU (ev B e) o with
      | some s => PRunU P s w (fun w' => K (putE e o.dst undef) ds w') (fun pv w' => Q (.panic [{ v := pv, recovered := false }]) B e ds w')
      | none => False

theorem callFunc_run {P : Program} {g : FuncId} (h : enters P g = true) (args : Array Value) (w : World) : (callFunc g args).run P w = .ok (.enter g args) w := by
  unfold enters at h
  split at h
  · rename_i fn hfn
    split at h
    · rename_i c hc
      have hne : ¬ fn.name = "runtime.NumGoroutine" := by simpa using h
      simp [callFunc, program, Sem.run, hfn, hc, hne]
    · cases h
  · cases h

theorem calls_upon {P : Program} {o : Oper} {a : Act} {g : FuncId} {args : Array Value} {t : TypeId} {w : World} {κ : Value → World → Prop} {ε : List PanicEntry → World → Prop}
    {next : Act → World → Prop} {Q : Exit → Act → World → Prop} (h : PCall P g args t w κ ε) (hk : ∀ v w', κ v w' → next (a.put o.dst v) w') (hq : ∀ ch w', ε ch w' → Q (.panic ch) a w') :
    o.upon P a next Q (.ok (.enter g args) w) := by
  rw [Oper.upon_enter]
  refine Calls.mono h fun e w' he => ?_
  cases e with
  | returned v =>
    obtain ⟨u, rfl, hκ⟩ := resX.out (φ := fun u => v = u ∧ κ u w') he
    exact hk _ _ hκ
  | panicked ch => exact hq _ _ he
  | outgrown => exact he.elim

theorem known.out {P : Program} {t : TypeId} (h : known P t = true) : (∃ d, P.underlying t = some d) ∧ ∃ i, P.info? t = some i := by
  unfold known at h
  split at h
  · rename_i d i hd hi; exact ⟨⟨d, hd⟩, i, hi⟩
  · cases h

theorem knownE.out {P : Program} {t : TypeId} (h : knownE P t = true) : ∀ e, (P.underlying t = some (.slice e) ∨ ∃ n, P.underlying t = some (.array n e)) → ∃ j, P.info? e = some j := by
  intro e he
  unfold knownE at h
  rcases he with he | ⟨n, he⟩
  · rw [he] at h
    cases hi : P.info? e with
    | none => simp [hi] at h
    | some j => exact ⟨j, rfl⟩
  · rw [he] at h
    cases hi : P.info? e with
    | none => simp [hi] at h
    | some j => exact ⟨j, rfl⟩

theorem DOp_wp {P : Program} {ops : Array Oper} {n : Nat} {B : Base} {e : Bnd} {a : Act} {o : Oper} {Q : Post} {K : Bnd → List Deferred → World → Prop} {w : World}
    {next : Act → World → Prop} {Q' : Exit → Act → World → Prop} (hr : Rel n B e a) (hd : ∀ d, o.dst = some d → d < n)
    (h : DOp P ops B o Q K e a.defers w)
    (hk : ∀ v a' w', Rel n B (putE e o.dst v) a' → K (putE e o.dst v) a'.defers w' → next a' w')
    (hq : ∀ ch w', Q (.panic ch) B e a.defers w' → Q' (.panic ch) a w') : o.wp P a w next Q' := by
  have hput : ∀ v w', K (putE e o.dst v) a.defers w' → next (a.put o.dst v) w' := fun v w' hK =>
    hk v _ _ (hr.put o.dst hd v) (by rw [put_defers]; exact hK)
  have gen : ∀ s : Sem Value, (∀ w, (execOp (ev B e) o).run P w = (s.run P w).andThen fun v w' => .ok (.value v) w') →
      PRun P s w (fun v w' => K (putE e o.dst v) a.defers w') (fun pv w' => Q (.panic [{ v := pv, recovered := false }]) B e a.defers w') → o.wp P a w next Q' := by
    intro s hs hp
    unfold Oper.wp
    rw [hr.eval, hs]
    unfold PRun at hp
    cases hrun : s.run P w with
    | ok v w' =>
      rw [hrun] at hp
      exact hput _ _ hp
    | halt x w' =>
      rw [hrun] at hp
      cases x with
      | panic v => exact hq _ _ hp
      | _ => exact hp.elim
  have genU : ∀ s : Sem Unit, (∀ w, (execOp (ev B e) o).run P w = (s.run P w).andThen fun _ w' => .ok .skip w') →
      PRunU P s w (fun w' => K (putE e o.dst undef) a.defers w') (fun pv w' => Q (.panic [{ v := pv, recovered := false }]) B e a.defers w') → o.wp P a w next Q' := by
    intro s hs hp
    unfold Oper.wp
    rw [hr.eval, hs]
    unfold PRunU at hp
    cases hrun : s.run P w with
    | ok v w' =>
      rw [hrun] at hp
      exact hput _ _ hp
    | halt x w' =>
      rw [hrun] at hp
      cases x with
      | panic v => exact hq _ _ hp
      | _ => exact hp.elim
  have quiet : ∀ (s : Sem Value), (∀ w, (execOp (ev B e) o).run P w = (s.run P w).andThen fun v w' => .ok (.value v) w') →
      (∃ v, s.run P w = .ok v w ∧ K (putE e o.dst v) a.defers w) → o.wp P a w next Q' := by
    rintro s hs ⟨v, hv, hK⟩
    unfold Oper.wp
    rw [hr.eval, hs, hv]
    exact hput _ _ hK
  unfold DOp at h
  split at h
  · rename_i t x hop
    obtain ⟨hb, h⟩ := h.out
    obtain ⟨v, hv, h⟩ := PLd.out (known.out hb).1 h
    exact quiet (Instr.loadAt t (ev B e x)) (fun w => by simp [execOp, hop]) ⟨v, hv w rfl, h⟩
  · rename_i t x y hop
    obtain ⟨hb, h⟩ := h.out
    obtain ⟨w', hw, h⟩ := PSt.out (P := P) (known.out hb).2 h
    exact genU (Instr.storeAt t (ev B e x) (ev B e y)) (fun w => by simp [execOp, hop]) (PRunU.mk hw h)
  · rename_i t x i hop
    obtain ⟨hb, h⟩ := h.out
    obtain ⟨v, hv, h⟩ := PIx.out (knownE.out hb) h
    exact quiet (Instr.indexAt t (ev B e x) (ev B e i)) (fun w => by simp [execOp, hop]) ⟨v, hv w, h⟩
  · rename_i t x lo hi mx hop
    obtain ⟨hb, h⟩ := h.out
    obtain ⟨v, hv, h⟩ := PSl.out (fun e he => knownE.out hb e (.inl he)) h
    exact quiet (Instr.sliceAt t (ev B e x) (lo.map (ev B e)) (hi.map (ev B e)) (mx.map (ev B e))) (fun w => by simp [execOp, hop]) ⟨v, hv w, h⟩
  · rename_i x hop
    unfold DNil at h
    split at h
    · rename_i p hx
      obtain ⟨b, off, rfl, h⟩ := h
      unfold Oper.wp
      rw [hr.eval]
      simp only [execOp, hop, hx, Sem.run_pure, Oper.upon_value]
      exact hput _ _ h
    · rename_i g first cap hx
      unfold Oper.wp
      rw [hr.eval]
      simp only [execOp, hop, hx, Sem.run_pure, Oper.upon_value]
      exact hput _ _ h
    · exact h.elim
  · rename_i t x i hop
    split at h
    · rename_i hd'
      obtain ⟨v, hv, h⟩ := PIxS.out hd' h
      exact quiet (Instr.index t (ev B e x) (ev B e i)) (fun w => by simp [execOp, hop]) ⟨v, hv w, h⟩
    · exact gen (Instr.index t (ev B e x) (ev B e i)) (fun w => by simp [execOp, hop]) h
  · rename_i g args ats hop
    obtain ⟨hb, h⟩ := h.out
    have hrun : (execOp (ev B e) o).run P w = .ok (.enter g (args.map (ev B e))) w := by
      simp [execOp, hop, resolve, ev, Deferred.ofValue, invoke, callFunc_run hb]
    unfold Oper.wp
    rw [hr.eval, hrun]
    exact calls_upon h hput hq
  · rename_i f args ats hne hop
    obtain ⟨g, first, cap, hf, hb, h⟩ := h
    have hrun : (execOp (ev B e) o).run P w = .ok (.enter g (first ++ args.map (ev B e) ++ cap)) w := by
      simp [execOp, hop, resolve, hf, Deferred.ofValue, invoke, callFunc_run hb]
    unfold Oper.wp
    rw [hr.eval, hrun]
    exact calls_upon h hput hq
  · rename_i f args ats hop
    split at h
    · rename_i fn first cap hf
      have hrun : (execOp (ev B e) o).run P w = .ok (.defer { target := .fn fn cap, args := first ++ args.map (ev B e) }) w := by
        simp [execOp, hop, resolve, hf, Deferred.ofValue]
      unfold Oper.wp
      rw [hr.eval, hrun, Oper.upon_defer]
      exact hk undef _ _ ((hr.defers _).put o.dst hd undef) (by rw [put_defers]; exact h)
    · exact h.elim
  · rename_i it s hop
    refine gen (Instr.next (ev B e it) s o.type) (fun w => by simp [execOp, hop]) (PRun.imp (fun v w' h => ?_) h)
    exact h.out
  · rename_i it hop
    refine gen (Instr.entry (ev B e it)) (fun w => by simp [execOp, hop]) (PRun.imp (fun v w' h => ?_) h)
    exact h.out
  · rename_i x xT T hop
    refine gen (Instr.typeAssert (ev B e x) xT T true) (fun w => by simp [execOp, hop]) (PRun.imp (fun v w' h => ?_) h)
    exact h.out
  · split at h
    · rename_i s hs
      split at h
      · refine gen s (fun w => semV_exec hs P w) (PRun.imp ?_ h)
        intro v w' h
        obtain ⟨u, rfl, h⟩ := resX.out h
        exact h
      · exact gen s (fun w => semV_exec hs P w) h
    · split at h
      · rename_i s hs
        exact genU s (fun w => semU_exec hs P w) h
      · exact h.elim


def gslot (ops : Array Oper) (j : Nat) : Option Nat := match ops[j]? with
  | some o => o.dst
  | none => none

def DOps (P : Program) (B : Base) (ops : Array Oper) (Q : Post) : List Oper → (Bnd → List Deferred → World → Prop) → Bnd → List Deferred → World → Prop
  | [], K, e, ds, w => K e ds w
  | o :: rest, K, e, ds, w => match o.guard with
    | none => DOp P ops B o Q (DOps P B ops Q rest K) e ds w
    | some (j, want) => match gslot ops j with
      | none => False
      | some t => match get B e t with
        | .bool b => PIf b
          (match want with
            | true => DOp P ops B o Q (DOps P B ops Q rest K) ((t, .bool true) :: e) ds w
            | false => DOps P B ops Q rest K (putE ((t, .bool true) :: e) o.dst undef) ds w)
          (match want with
            | true => DOps P B ops Q rest K (putE ((t, .bool false) :: e) o.dst undef) ds w
            | false => DOp P ops B o Q (DOps P B ops Q rest K) ((t, .bool false) :: e) ds w)
        | .tuple _ => DOps P B ops Q rest K (putE e o.dst undef) ds w
        | _ => False

theorem Rel.again {n : Nat} {B : Base} {e : Bnd} {a : Act} (h : Rel n B e a) {t : Nat} {v : Value} (hv : get B e t = v) : Rel n B ((t, v) :: e) a :=
  ⟨h.size, fun u => by
    rw [get_cons, h.slot]
    split
    · rename_i e1; subst e1; exact hv
    · rfl⟩

theorem get_again {B : Base} {e : Bnd} {t : Nat} {v : Value} (hv : get B e t = v) (u : Nat) : get B ((t, v) :: e) u = get B e u := by
  rw [get_cons]
  split
  · rename_i e1; subst e1; exact hv.symm
  · rfl

theorem yielded_of {n : Nat} {B : Base} {e : Bnd} {a : Act} (h : Rel n B e a) {ops : Array Oper} {j t : Nat} (hj : gslot ops j = some t) (ht : t < n) :
    yielded ops a.tmps j = match get B e t with | .bool b => some b | _ => none := by
  have h1 : ((ops[j]?).bind (·.dst)) = some t := by
    unfold gslot at hj
    cases ho : ops[j]? with
    | none => rw [ho] at hj; simp at hj
    | some o => rw [ho] at hj; simpa using hj
  unfold yielded
  rw [h1]
  have hs := h.size
  have h2 : a.tmps[t]? = some (get B e t) := by
    rw [← h.slot]
    have : t < a.tmps.size := by omega
    simp [Array.getD, this]
  simp only [Option.bind_some, h2]
  split <;> simp_all

/-- what stands behind a piece of code: the frame is told again, and but for the slots of W it is as it was -/
def PostA (n : Nat) (B0 : Base) (e0 : Bnd) (W : List Nat) (Q : Post) : Exit → Act → World → Prop := fun x a w =>
  ∃ B e, Rel n B e a ∧ (∀ t, t ∉ W → get B e t = get B0 e0 t) ∧ Q x B e a.defers w

theorem DOps_wp {P : Program} {n : Nat} {B B0 : Base} {e0 : Bnd} {W : List Nat} {ops : Array Oper} {Q : Post} (hops : ∀ j t, gslot ops j = some t → t < n) :
    ∀ (l : List Oper) (e : Bnd) (a : Act) (w : World), (∀ o ∈ l, ∀ d, o.dst = some d → d < n ∧ d ∈ W) → Rel n B e a → (∀ t, t ∉ W → get B e t = get B0 e0 t) →
      DOps P B ops Q l (fun e ds w => Q .normal B e ds w) e a.defers w → wpList P ops (PostA n B0 e0 W Q) l a w
  | [], e, a, w, _, hr, hag, h => ⟨B, e, hr, hag, h⟩
  | o :: rest, e, a, w, hl, hr, hag, h => by
    have hdst : ∀ d, o.dst = some d → d < n := fun d hd => (hl o (List.mem_cons_self ..) d hd).1
    have hagp : ∀ (e : Bnd), (∀ t, t ∉ W → get B e t = get B0 e0 t) → ∀ v t, t ∉ W → get B (putE e o.dst v) t = get B0 e0 t := by
      intro e hag v t ht
      cases hd : o.dst with
      | none => exact hag t ht
      | some d =>
        have hdW := (hl o (List.mem_cons_self ..) d hd).2
        show get B ((d, v) :: e) t = _
        rw [get_cons, if_neg (by rintro rfl; exact ht hdW)]
        exact hag t ht
    have hl' : ∀ o ∈ rest, ∀ d, o.dst = some d → d < n ∧ d ∈ W := fun o ho => hl o (List.mem_cons_of_mem _ ho)
    have skip : ∀ (e : Bnd), Rel n B e a → (∀ t, t ∉ W → get B e t = get B0 e0 t) → DOps P B ops Q rest (fun e ds w => Q .normal B e ds w) (putE e o.dst undef) a.defers w →
        wpList P ops (PostA n B0 e0 W Q) rest (a.put o.dst undef) w := fun e hr hag h =>
      DOps_wp hops rest _ _ _ hl' (hr.put _ hdst _) (hagp e hag _) (by rw [put_defers]; exact h)
    have run : ∀ (e : Bnd), Rel n B e a → (∀ t, t ∉ W → get B e t = get B0 e0 t) → DOp P ops B o Q (DOps P B ops Q rest fun e ds w => Q .normal B e ds w) e a.defers w →
        o.wp P a w (wpList P ops (PostA n B0 e0 W Q) rest) (PostA n B0 e0 W Q) := fun e hr hag h =>
      DOp_wp hr hdst h (fun v a' w' hr' hK => DOps_wp hops rest _ _ _ hl' hr' (hagp e hag v) hK) (fun ch w' hq => ⟨B, e, hr, hag, hq⟩)
    unfold wpList
    unfold DOps at h
    split at h
    · rename_i hg
      rw [if_pos (by simp [Region.wanted, hg])]
      exact .inl (run e hr hag h)
    · rename_i j want hg
      split at h
      · exact h.elim
      · rename_i t hj
        have hy := yielded_of hr hj (hops j t hj)
        split at h
        · rename_i b hb
          rw [hb] at hy
          simp only at hy
          have hw : Region.wanted o (yielded ops a.tmps) = (b == want) := by
            simp only [Region.wanted, hg, hy]
            cases b <;> cases want <;> rfl
          rw [hw]
          have hr2 := hr.again hb
          have hag2 : ∀ u, u ∉ W → get B ((t, .bool b) :: e) u = get B0 e0 u := fun u hu => by rw [get_again hb]; exact hag u hu
          cases b <;> cases want <;> simp only [PIf] at h
          · exact .inl (run _ hr2 hag2 h)
          · exact skip _ hr2 hag2 h
          · exact skip _ hr2 hag2 h
          · exact .inl (run _ hr2 hag2 h)
        · rename_i vs hb
          rw [hb] at hy
          simp only at hy
          have hw : Region.wanted o (yielded ops a.tmps) = false := by
            simp [Region.wanted, hg, hy]
          rw [hw]
          exact skip _ hr hag h
        · exact h.elim

/-! a region that draws its order, of operations that read alone -/

def pureV {α : Type} (P : Program) : Sem α → Option α
  | .pure a => some a
  | .program k => pureV P (k P)
  | _ => none

theorem pureV_run {α : Type} {P : Program} : ∀ {s : Sem α} {v : α}, pureV P s = some v → ∀ w, s.run P w = .ok v w
  | .pure a, v, h, w => by simp only [pureV, Option.some.injEq] at h; subst h; rfl
  | .program k, v, h, w => by simp only [pureV] at h; exact pureV_run (s := k P) h w
  | .load .., _, h, _ | .store .., _, h, _ | .new .., _, h, _ | .shape .., _, h, _ | .freeze .., _, h, _ | .frozen .., _, h, _ | .getObj .., _, h, _ | .setObj .., _, h, _
  | .choose .., _, h, _ | .sys .., _, h, _ | .mark .., _, h, _ | .halt .., _, h, _ => by simp [pureV] at h

/-- a computation that yields one value whatever was drawn, and turns nothing -/
def PRunQ (P : Program) (s : Sem Value) (t : TypeId) (w : World) (κ : Value → Prop) : Prop := resX P t fun v => (∀ m, s.run P (w.drewN m) = .ok v (w.drewN m)) ∧ κ v

def PCallQ (P : Program) (g : FuncId) (args : Array Value) (t : TypeId) (w : World) (κ : Value → Prop) : Prop :=
  resX P t fun v => (∀ m, Calls P g args (w.drewN m) fun e w' => e = .returned v ∧ ∃ k, w' = w.drewN k) ∧ κ v

def DOpQ (P : Program) (B : Base) (o : Oper) (K : Bnd → Prop) (e : Bnd) (w : World) : Prop :=
  match o.op with
  | .load t a => must (known P t) (PLd P t (ev B e a) w fun v => K (putE e o.dst v))
  | .indexAddr t x i => must (knownE P t) (PIx P t (ev B e x) (ev B e i) fun v => K (putE e o.dst v))
  | .slice t x lo hi mx => must (knownE P t) (PSl P t (ev B e x) (lo.map (ev B e)) (hi.map (ev B e)) (mx.map (ev B e)) fun v => K (putE e o.dst v))
  | .nilCheck x => DNil (ev B e x) fun v => K (putE e o.dst v)
  | .index t x i => match P.underlying t with
    | some .string => PIxS (ev B e x) (ev B e i) fun v => K (putE e o.dst v)
    | _ => False
  | .call { callee := .value (.func g), args, .. } => must (enters P g) (PCallQ P g (args.map (ev B e)) o.type w fun v => K (putE e o.dst v))
  | _ => match semV (ev B e) o with
    | some s => match typedOp P o with
      | true => PRunQ P s o.type w fun v => K (putE e o.dst v)
      | false => match pureV P s with
        | some v => K (putE e o.dst v)
        | none => False
    | none => False

def DOpsQ (P : Program) (B : Base) (ops : Array Oper) : List Oper → (Bnd → Prop) → Bnd → World → Prop
  | [], K, e, _ => K e
  | o :: rest, K, e, w => match o.guard with
    | none => DOpQ P B o (fun e => DOpsQ P B ops rest K e w) e w
    | some (j, want) => match gslot ops j with
      | none => False
      | some t => match get B e t with
        | .bool b => PIf b
          (match want with
            | true => DOpQ P B o (fun e => DOpsQ P B ops rest K e w) ((t, .bool true) :: e) w
            | false => DOpsQ P B ops rest K (putE ((t, .bool true) :: e) o.dst undef) w)
          (match want with
            | true => DOpsQ P B ops rest K (putE ((t, .bool false) :: e) o.dst undef) w
            | false => DOpQ P B o (fun e => DOpsQ P B ops rest K e w) ((t, .bool false) :: e) w)
        | .tuple _ => DOpsQ P B ops rest K (putE e o.dst undef) w
        | _ => False

def Drew (w : World) : World → Prop := fun w' => ∃ n, w' = w.drewN n

theorem DOpQ_quiet {P : Program} {n : Nat} {B : Base} {e : Bnd} {a : Act} {o : Oper} {K : Bnd → Prop} {w : World} {next : Act → Prop} (hr : Rel n B e a)
    (h : DOpQ P B o K e w) (hk : ∀ v, K (putE e o.dst v) → next (a.put o.dst v)) : o.quiet P a (Drew w) next := by
  have gen : ∀ s : Sem Value, (∀ w, (execOp (ev B e) o).run P w = (s.run P w).andThen fun v w' => .ok (.value v) w') →
      (∃ v, (∀ m, s.run P (w.drewN m) = .ok v (w.drewN m)) ∧ K (putE e o.dst v)) → o.quiet P a (Drew w) next := by
    rintro s hs ⟨v, hv, hK⟩
    refine ⟨v, ?_, hk v hK⟩
    rintro _ ⟨m, rfl⟩
    unfold Oper.quietAt
    rw [hr.eval, hs, hv]
    exact ⟨rfl, rfl⟩
  unfold DOpQ at h
  split at h
  · rename_i t x hop
    obtain ⟨hb, h⟩ := h.out
    obtain ⟨v, hv, h⟩ := PLd.out (known.out hb).1 h
    exact gen (Instr.loadAt t (ev B e x)) (fun w => by simp [execOp, hop]) ⟨v, fun m => hv _ rfl, h⟩
  · rename_i t x i hop
    obtain ⟨hb, h⟩ := h.out
    obtain ⟨v, hv, h⟩ := PIx.out (knownE.out hb) h
    exact gen (Instr.indexAt t (ev B e x) (ev B e i)) (fun w => by simp [execOp, hop]) ⟨v, fun m => hv _, h⟩
  · rename_i t x lo hi mx hop
    obtain ⟨hb, h⟩ := h.out
    obtain ⟨v, hv, h⟩ := PSl.out (fun e he => knownE.out hb e (.inl he)) h
    exact gen (Instr.sliceAt t (ev B e x) (lo.map (ev B e)) (hi.map (ev B e)) (mx.map (ev B e))) (fun w => by simp [execOp, hop]) ⟨v, fun m => hv _, h⟩
  · rename_i x hop
    unfold DNil at h
    split at h
    · rename_i p hx
      obtain ⟨b, off, rfl, h⟩ := h
      exact gen (.pure (.pointer (some ⟨b, off, none⟩))) (fun w => by simp [execOp, hop, hx]) ⟨_, fun m => rfl, h⟩
    · rename_i g first cap hx
      exact gen (.pure (.func (.func g) first cap)) (fun w => by simp [execOp, hop, hx]) ⟨_, fun m => rfl, h⟩
    · exact h.elim
  · rename_i t x i hop
    split at h
    · rename_i hd'
      obtain ⟨v, hv, h⟩ := PIxS.out hd' h
      exact gen (Instr.index t (ev B e x) (ev B e i)) (fun w => by simp [execOp, hop]) ⟨v, fun m => hv _, h⟩
    · exact h.elim
  · rename_i g args ats hop
    obtain ⟨hb, h⟩ := h.out
    obtain ⟨v, hv, h⟩ := resX.out h
    refine ⟨v, ?_, hk v h⟩
    rintro _ ⟨m, rfl⟩
    have hrun : (execOp (ev B e) o).run P (w.drewN m) = .ok (.enter g (args.map (ev B e))) (w.drewN m) := by
      simp [execOp, hop, resolve, ev, Deferred.ofValue, invoke, callFunc_run hb]
    unfold Oper.quietAt
    rw [hr.eval, hrun]
    exact ⟨rfl, hv m⟩
  · split at h
    · rename_i s hs
      split at h
      · obtain ⟨v, hv, h⟩ := resX.out h
        exact gen s (fun w => semV_exec hs P w) ⟨v, hv, h⟩
      · split at h
        · rename_i v hv
          exact gen s (fun w => semV_exec hs P w) ⟨v, fun m => pureV_run hv _, h⟩
        · exact h.elim
    · exact h.elim

theorem DOpsQ_quiet {P : Program} {n : Nat} {B B0 : Base} {e0 : Bnd} {W : List Nat} {ops : Array Oper} {w : World} {K : Bnd → Prop} (hops : ∀ j t, gslot ops j = some t → t < n) :
    ∀ (l : List Oper) (e : Bnd) (a : Act), (∀ o ∈ l, ∀ d, o.dst = some d → d < n ∧ d ∈ W) → Rel n B e a → (∀ t, t ∉ W → get B e t = get B0 e0 t) →
      DOpsQ P B ops l K e w → wpQuiet P ops (Drew w) (fun a' => ∃ e', Rel n B e' a' ∧ a'.defers = a.defers ∧ (∀ t, t ∉ W → get B e' t = get B0 e0 t) ∧ K e') l a
  | [], e, a, _, hr, hag, h => ⟨e, hr, rfl, hag, h⟩
  | o :: rest, e, a, hl, hr, hag, h => by
    have hdst : ∀ d, o.dst = some d → d < n := fun d hd => (hl o (List.mem_cons_self ..) d hd).1
    have hagp : ∀ (e : Bnd), (∀ t, t ∉ W → get B e t = get B0 e0 t) → ∀ v t, t ∉ W → get B (putE e o.dst v) t = get B0 e0 t := by
      intro e hag v t ht
      cases hd : o.dst with
      | none => exact hag t ht
      | some d =>
        have hdW := (hl o (List.mem_cons_self ..) d hd).2
        show get B ((d, v) :: e) t = _
        rw [get_cons, if_neg (by rintro rfl; exact ht hdW)]
        exact hag t ht
    have hl' : ∀ o ∈ rest, ∀ d, o.dst = some d → d < n ∧ d ∈ W := fun o ho => hl o (List.mem_cons_of_mem _ ho)
    have go : ∀ (e : Bnd) (v : Value), Rel n B e a → (∀ t, t ∉ W → get B e t = get B0 e0 t) → DOpsQ P B ops rest K (putE e o.dst v) w →
        wpQuiet P ops (Drew w) (fun a' => ∃ e', Rel n B e' a' ∧ a'.defers = a.defers ∧ (∀ t, t ∉ W → get B e' t = get B0 e0 t) ∧ K e') rest (a.put o.dst v) := fun e v hr hag h => by
      have := DOpsQ_quiet hops rest (putE e o.dst v) (a.put o.dst v) hl' (hr.put _ hdst _) (hagp e hag _) h
      rw [put_defers] at this
      exact this
    unfold wpQuiet
    unfold DOpsQ at h
    split at h
    · rename_i hg
      rw [if_pos (by simp [Region.wanted, hg])]
      exact DOpQ_quiet hr h fun v hK => go e v hr hag hK
    · rename_i j want hg
      split at h
      · exact h.elim
      · rename_i t hj
        have hy := yielded_of hr hj (hops j t hj)
        split at h
        · rename_i b hb
          rw [hb] at hy
          simp only at hy
          have hw : Region.wanted o (yielded ops a.tmps) = (b == want) := by
            simp only [Region.wanted, hg, hy]
            cases b <;> cases want <;> rfl
          rw [hw]
          have hr2 := hr.again hb
          have hag2 : ∀ u, u ∉ W → get B ((t, .bool b) :: e) u = get B0 e0 u := fun u hu => by rw [get_again hb]; exact hag u hu
          cases b <;> cases want <;> simp only [PIf] at h
          · exact DOpQ_quiet hr2 h fun v hK => go _ v hr2 hag2 hK
          · exact go _ _ hr2 hag2 h
          · exact go _ _ hr2 hag2 h
          · exact DOpQ_quiet hr2 h fun v hK => go _ v hr2 hag2 hK
        · rename_i vs hb
          rw [hb] at hy
          simp only at hy
          have hw : Region.wanted o (yielded ops a.tmps) = false := by
            simp [Region.wanted, hg, hy]
          rw [hw]
          exact go _ _ hr hag h
        · exact h.elim


/-! ### a region that draws its order, in which some operations turn the world: what reads goes first; what turns goes in every order that is left -/

/-- 0: hangs on no memory; 1: reads; 2: turns -/
def kindOf (P : Program) (o : Oper) : Nat := match o.op with
  | .move _ | .assign _ | .pick .. | .build .. | .binOp .. | .unOp .. | .indexAddr .. | .slice .. | .nilCheck _ | .fieldAddr .. | .field .. | .index .. | .extract .. | .typeAssert .. => 0
  | .convert src dst _ => match isInt P src with
    | true => match isInt P dst with
      | true => 0
      | false => 2
    | false => 2
  | .load .. | .lookup .. => 1
  | .call { callee := .builtin b, argTypes, .. } => match b with
    | .len => match isMap P (argTypes.getD 0 0) with
      | true => 1
      | false => 0
    | .cap | .max | .min => 0
    | _ => 2
  | _ => 2

def kindAt (P : Program) (ops : Array Oper) (i : Nat) : Nat := match ops[i]? with
  | some o => kindOf P o
  | none => 2

def stillAt (P : Program) (ops : Array Oper) (i : Nat) : Bool := match kindAt P ops i with
  | 2 => false
  | _ => true

def hasTurn (P : Program) : List Oper → Bool
  | [] => false
  | o :: r => match kindOf P o with
    | 2 => true
    | _ => hasTurn P r

def pickS (P : Program) (ops : Array Oper) : List Nat → Option Nat
  | [] => none
  | i :: r => match stillAt P ops i with
    | true => some i
    | false => pickS P ops r

theorem pickS_some {P : Program} {ops : Array Oper} {i : Nat} : ∀ {l : List Nat}, pickS P ops l = some i → i ∈ l ∧ stillAt P ops i = true
  | [], h => by cases h
  | j :: r, h => by
    unfold pickS at h
    split at h
    · rename_i hs; cases h; exact ⟨List.mem_cons_self .., hs⟩
    · obtain ⟨h1, h2⟩ := pickS_some h; exact ⟨List.mem_cons_of_mem _ h1, h2⟩

theorem pickS_none {P : Program} {ops : Array Oper} : ∀ {l : List Nat}, pickS P ops l = none → ∀ i ∈ l, stillAt P ops i = false
  | [], _, i, hi => by cases hi
  | j :: r, h, i, hi => by
    unfold pickS at h
    split at h
    · cases h
    · rename_i hs
      rcases List.mem_cons.1 hi with rfl | hi
      · exact hs
      · exact pickS_none h i hi

theorem getD_off {listed : Array Bool} {i : Nat} (h : listed.getD i true = false) : listed.getD i false = false := by
  rcases Nat.lt_or_ge i listed.size with h' | h'
  · simp [h'] at h ⊢; exact h
  · simp [Array.getElem?_eq_none h'] at h

/-- what can be done ahead of operation i, and without it -/
def closeX (ops : Array Oper) (i : Nat) : Nat → Array Bool → Array Bool
  | 0, listed => listed
  | f + 1, listed => match (Region.ready .any ops listed).find? (fun j => !Nat.beq j i) with
    | some j => closeX ops i f (listed.setIfInBounds j true)
    | none => listed

/-- nothing that turns the world can come ahead of operation i -/
def blockedB (P : Program) (ops : Array Oper) (listed : Array Bool) (i : Nat) : Bool :=
  (fun M : Array Bool => !M.getD i true && (Region.ready .any ops M).all (fun j => Nat.beq j i) &&
    (List.range ops.size).all fun j => !M.getD j false || stillAt P ops j || listed.getD j false) (closeX ops i ops.size listed)

structure Blocked (P : Program) (ops : Array Oper) (i : Nat) (listed M : Array Bool) : Prop where
  sub : ∀ k, listed.getD k false = true → M.getD k false = true
  only : ∀ j ∈ Region.ready .any ops M, j = i
  still : ∀ j, j < ops.size → M.getD j false = true → listed.getD j false = false → stillAt P ops j = true
  size : M.size = listed.size

theorem closeX_spec {ops : Array Oper} {i : Nat} : ∀ (f : Nat) (listed : Array Bool), (closeX ops i f listed).size = listed.size ∧ ∀ k, listed.getD k false = true → (closeX ops i f listed).getD k false = true
  | 0, listed => ⟨rfl, fun _ h => h⟩
  | f + 1, listed => by
    unfold closeX
    split
    · rename_i j _
      obtain ⟨h1, h2⟩ := closeX_spec (ops := ops) (i := i) f (listed.setIfInBounds j true)
      exact ⟨by rw [h1]; simp, fun k hk => h2 k (getD_set_true hk)⟩
    · exact ⟨rfl, fun _ h => h⟩

theorem blockedB_spec {P : Program} {ops : Array Oper} {listed : Array Bool} {i : Nat} (h : blockedB P ops listed i = true) : ∃ M, Blocked P ops i listed M := by
  unfold blockedB at h
  simp only [Bool.and_eq_true, List.all_eq_true] at h
  obtain ⟨⟨_, h2⟩, h3⟩ := h
  obtain ⟨hs, hsub⟩ := closeX_spec (ops := ops) (i := i) ops.size listed
  refine ⟨_, hsub, fun j hj => Nat.eq_of_beq_eq_true (h2 j hj), fun j hj hm hl => ?_, hs⟩
  have := h3 j (List.mem_range.2 hj)
  rw [hm, hl] at this
  simpa using this

theorem Blocked.ready {P : Program} {ops : Array Oper} {i : Nat} {listed M : Array Bool} (h : Blocked P ops i listed M) {j : Nat} (hj : j ∈ Region.ready .any ops listed) (hne : j ≠ i) :
    stillAt P ops j = true ∧ Blocked P ops i (listed.setIfInBounds j true) M := by
  obtain ⟨hun, oj, hoj, hall⟩ := mem_ready.1 hj
  have hlt : j < ops.size := (Array.getElem?_eq_some_iff.1 hoj).1
  have hM : M.getD j false = true := by
    by_cases hm : M.getD j true = false
    · exact absurd (h.only j (mem_ready.2 ⟨hm, oj, hoj, fun e he hb => h.sub _ (hall e he hb)⟩)) hne
    · have hjl : j < listed.size := by
        rcases Nat.lt_or_ge j listed.size with h' | h'
        · exact h'
        · simp [Array.getElem?_eq_none h'] at hun
      have hjM : j < M.size := by rw [h.size]; exact hjl
      simp [hjM] at hm ⊢
      exact hm
  have hl : listed.getD j false = false := getD_off hun
  refine ⟨h.still j hlt hM hl, fun k hk => ?_, h.only, fun k hk hm hl' => ?_, by simp [h.size]⟩
  · by_cases hjk : j = k
    · subst hjk; exact hM
    · rw [getD_set_ne false hjk] at hk; exact h.sub k hk
  · refine h.still k hk hm ?_
    by_cases hjk : j = k
    · subst hjk; exact hl
    · rw [getD_set_ne false hjk] at hl'; exact hl'

/-- what may come ahead of operation i -/
structure Ahead (ops : Array Oper) (i : Nat) (listed M : Array Bool) : Prop where
  sub : ∀ k, listed.getD k false = true → M.getD k false = true
  only : ∀ j ∈ Region.ready .any ops M, j = i
  size : M.size = listed.size

def aheadB (ops : Array Oper) (listed : Array Bool) (i : Nat) : Bool :=
  (fun M : Array Bool => (Region.ready .any ops M).all (fun j => Nat.beq j i)) (closeX ops i ops.size listed)

theorem aheadB_spec {ops : Array Oper} {listed : Array Bool} {i : Nat} (h : aheadB ops listed i = true) : Ahead ops i listed (closeX ops i ops.size listed) := by
  unfold aheadB at h
  simp only [List.all_eq_true] at h
  obtain ⟨hs, hsub⟩ := closeX_spec (ops := ops) (i := i) ops.size listed
  exact ⟨hsub, fun j hj => Nat.eq_of_beq_eq_true (h j hj), hs⟩

theorem Ahead.ready {ops : Array Oper} {i : Nat} {listed M : Array Bool} (h : Ahead ops i listed M) {j : Nat} (hj : j ∈ Region.ready .any ops listed) (hne : j ≠ i) :
    M.getD j false = true ∧ Ahead ops i (listed.setIfInBounds j true) M := by
  obtain ⟨hun, oj, hoj, hall⟩ := mem_ready.1 hj
  have hM : M.getD j false = true := by
    by_cases hm : M.getD j true = false
    · exact absurd (h.only j (mem_ready.2 ⟨hm, oj, hoj, fun e he hb => h.sub _ (hall e he hb)⟩)) hne
    · have hjl : j < listed.size := by
        rcases Nat.lt_or_ge j listed.size with h' | h'
        · exact h'
        · simp [Array.getElem?_eq_none h'] at hun
      have hjM : j < M.size := by rw [h.size]; exact hjl
      simp [hjM] at hm ⊢
      exact hm
  refine ⟨hM, fun k hk => ?_, h.only, by simp [h.size]⟩
  by_cases hjk : j = k
  · subst hjk; exact hM
  · rw [getD_set_ne false hjk] at hk; exact h.sub k hk

/-- where a region ends by a panic -/
def PanQ (E : List PanicEntry → Act → World → Prop) : Exit → Act → World → Prop := fun x a w => match x with
  | .panic ch => E ch a w
  | _ => False

/-- whatever order is picked from here on; C: the worlds that what is read first must stand -/
def wpM (P : Program) (ops : Array Oper) (pres : Bool) (E : List PanicEntry → Act → World → Prop) (W : Nat → Prop) (Q : Act → World → Prop) : Nat → (World → Prop) → Array Bool → Act → World → Prop
  | 0, _, listed, a, w => Region.ready .any ops listed = [] ∧ Q a w
  | f + 1, C, listed, a, w => (Region.ready .any ops listed = [] → Q a w) ∧ ∀ i ∈ Region.ready .any ops listed,
    (stillAt P ops i = true → stOp P ops w i (fun a' => wpM P ops pres E W Q f C (listed.setIfInBounds i true) a' w) a) ∧
    (stillAt P ops i = false → wpOp P ops (PanQ E) i (fun a' w' => ∃ C' : World → Prop, (pres = true → W i → ∀ x, C' x → C x) ∧ C' w' ∧ wpM P ops pres E W Q f C' (listed.setIfInBounds i true) a' w') a w)

theorem wpOp_any {P : Program} {ops : Array Oper} {E : List PanicEntry → Act → World → Prop} {Q : Exit → Act → World → Prop} {i : Nat} {K : Act → World → Prop} {a : Act} {w : World} (hE : ∀ ch a w, E ch a w → Q (.panic ch) a w) (h : wpOp P ops (PanQ E) i K a w) : wpOp P ops Q i K a w := by
  unfold wpOp at *
  split
  · rename_i ho; simpa only [ho] using h
  · rename_i o ho
    simp only [ho] at h
    split
    · rename_i hw
      simp only [hw, if_true] at h
      rcases h with h | ⟨_, _, _, h⟩
      · left
        unfold Oper.wp at *
        generalize (execOp a.eval o).run P w = r at *
        cases r with
        | ok n w' =>
          cases n <;> simp only [Oper.upon] at h ⊢ <;>
            first
              | exact h
              | exact Calls.mono h (fun e w'' he => by cases e <;> first | exact he | exact hE _ _ _ he | exact he.elim | (obtain ⟨_, _, h⟩ := he; exact h.elim))
        | halt x w' => cases x <;> first | exact hE _ _ _ h | exact (show False from h).elim
      · exact h.elim
    · rename_i hw; simp only [hw] at h; exact h

theorem wpAny_of_M {P : Program} {ops : Array Oper} {pres : Bool} {E : List PanicEntry → Act → World → Prop} {W : Nat → Prop} {Q : Act → World → Prop} {Q' : Exit → Act → World → Prop} (hE : ∀ ch a w, E ch a w → Q' (.panic ch) a w) (hQ : ∀ a w, Q a w → Q' .normal a w) : ∀ (f : Nat) (C : World → Prop) (listed : Array Bool) (a : Act) (w : World),
    wpM P ops pres E W Q f C listed a w → wpAny P .any ops Q' f listed a w
  | 0, _, _, _, _, h => ⟨h.1, hQ _ _ h.2⟩
  | f + 1, C, listed, a, w, h => ⟨fun h0 => hQ _ _ (h.1 h0), fun i hi => by
      obtain ⟨h1, h2⟩ := h.2 i hi
      cases hs : stillAt P ops i with
      | true => exact wpOp_of_stOp (fun a' h => wpAny_of_M hE hQ f C _ a' w h) (h1 hs)
      | false => exact wpOp_any hE (wpOp_mono (fun a' w' ⟨C', _, _, h⟩ => wpAny_of_M hE hQ f C' _ a' w' h) (h2 hs))⟩

section
variable {P : Program} {ops : Array Oper}

theorem stOp_putY {w : World} {Y : World → Prop} {j : Nat} {oi oj : Oper} {v : Value} (hj : ops[j]? = some oj) (hap : oi.apart ops oj = true)
    (hsi : ∀ cs b, oi.op ≠ .select cs b) (hsj : ∀ cs b, oj.op ≠ .select cs b) {K : Act → Prop} {a : Act}
    (hy : ∀ x, Y x → YieldsAt P ops x oi v a) (h : stOp P ops w j K (a.put oi.dst v)) :
    stOp P ops w j (fun a' => (∀ x, Y x → YieldsAt P ops x oi v a') ∧ K (a'.put oi.dst v)) a := by
  obtain ⟨h1, h2, h3⟩ := Oper.apart_spec hap
  have keep : ∀ u, ∀ x, Y x → YieldsAt P ops x oi v (a.put oj.dst u) := fun u x hx =>
    (hy x hx).of_same (execOp_put oi hsi a oj.dst u h3) (wanted_put oi a oj.dst u h3)
  unfold stOp at *
  simp only [hj] at *
  rw [wanted_put oj a oi.dst v h1] at h
  split
  · rename_i hw
    simp only [hw, if_true] at h
    unfold Oper.still at *
    rw [execOp_put oj hsj a oi.dst v h1] at h
    generalize (execOp a.eval oj).run P w = r at *
    cases r with
    | ok n w' =>
      cases n <;> simp only [Oper.stillUpon] at h ⊢
      case value u => exact ⟨h.1, keep u, by rw [← Act.put_comm a v u h2]; exact h.2⟩
      case skip => exact ⟨h.1, keep _, by rw [← Act.put_comm a v undef h2]; exact h.2⟩
      case enter f args => obtain ⟨hw', u, hc, hn⟩ := h; exact ⟨hw', u, hc, keep u, by rw [← Act.put_comm a v u h2]; exact hn⟩
    | halt x w' => simp only [Oper.stillUpon] at h
  · rename_i hw
    simp only [hw] at h
    exact ⟨keep _, by rw [← Act.put_comm a v undef h2]; exact h⟩

theorem wpOp_putY {E : List PanicEntry → Act → World → Prop} {w : World} {Y : World → Prop} {j : Nat} {oi oj : Oper} {v : Value} (hE : ∀ ch a w, E ch (a.put oi.dst v) w → E ch a w) (hj : ops[j]? = some oj) (hap : oi.apart ops oj = true)
    (hsi : ∀ cs b, oi.op ≠ .select cs b) (hsj : ∀ cs b, oj.op ≠ .select cs b) {K : Act → World → Prop} {a : Act}
    (hy : ∀ x, Y x → YieldsAt P ops x oi v a) (h : wpOp P ops (PanQ E) j K (a.put oi.dst v) w) :
    wpOp P ops (PanQ E) j (fun a' w' => (∀ x, Y x → YieldsAt P ops x oi v a') ∧ K (a'.put oi.dst v) w') a w := by
  obtain ⟨h1, h2, h3⟩ := Oper.apart_spec hap
  have keep : ∀ u, ∀ x, Y x → YieldsAt P ops x oi v (a.put oj.dst u) := fun u x hx =>
    (hy x hx).of_same (execOp_put oi hsi a oj.dst u h3) (wanted_put oi a oj.dst u h3)
  have keepD : ∀ d u, ∀ x, Y x → YieldsAt P ops x oi v (({ a with defers := d :: a.defers } : Act).put oj.dst u) := fun d u x hx =>
    (show YieldsAt P ops x oi v { a with defers := d :: a.defers } from hy x hx).of_same (execOp_put oi hsi _ oj.dst u h3) (wanted_put oi _ oj.dst u h3)
  unfold wpOp at *
  simp only [hj] at *
  rw [wanted_put oj a oi.dst v h1] at h
  split
  · rename_i hw
    simp only [hw, if_true] at h
    rcases h with h | ⟨_, _, _, h⟩
    · left
      unfold Oper.wp at *
      rw [execOp_put oj hsj a oi.dst v h1] at h
      generalize (execOp a.eval oj).run P w = r at *
      cases r with
      | ok n w' =>
        cases n <;> simp only [Oper.upon] at h ⊢
        case value u => exact ⟨keep u, by rw [← Act.put_comm a v u h2]; exact h⟩
        case skip => exact ⟨keep _, by rw [← Act.put_comm a v undef h2]; exact h⟩
        case defer d => exact ⟨keepD d _, by rw [← Act.put_comm _ v undef h2, ← Act.put_defers]; exact h⟩
        case enter f args =>
          refine Calls.mono h fun e w'' he => ?_
          cases e with
          | returned u => exact ⟨keep u, by rw [← Act.put_comm a v u h2]; exact he⟩
          | panicked ch => exact hE _ _ _ he
          | outgrown => obtain ⟨_, _, he⟩ := he; exact he.elim
        case row r args => exact Rows.mono h fun u w'' he => ⟨keep u, by rw [← Act.put_comm a v u h2]; exact he⟩
      | halt x w' => cases x <;> first | exact hE _ _ _ h | exact (show False from h).elim
    · exact h.elim
  · rename_i hw
    simp only [hw] at h
    exact ⟨keep _, by rw [← Act.put_comm a v undef h2]; exact h⟩

theorem wpM_less {pres : Bool} {E : List PanicEntry → Act → World → Prop} {W W' : Nat → Prop} (hWW : ∀ j, W j → W' j) {Q : Act → World → Prop} : ∀ (f : Nat) (C : World → Prop) (listed : Array Bool) (a : Act) (w : World),
    wpM P ops pres E W' Q f C listed a w → wpM P ops pres E W Q f C listed a w
  | 0, _, _, _, _, h => h
  | f + 1, C, listed, a, w, h => ⟨h.1, fun i hi => by
      obtain ⟨h1, h2⟩ := h.2 i hi
      refine ⟨fun hs => stOp_mono (fun a' h => wpM_less hWW f C _ a' w h) (h1 hs), fun hs => wpOp_mono (fun a' w' ⟨C', a1, a2, a3⟩ => ⟨C', fun hp hw => a1 hp (hWW _ hw), a2, wpM_less hWW f C' _ a' w' a3⟩) (h2 hs)⟩⟩

theorem wpM_first {pres : Bool} {E : List PanicEntry → Act → World → Prop} {W W' : Nat → Prop} (hWW : ∀ j, W j → W' j) {Q : Act → World → Prop} {i : Nat} {oi : Oper} {v : Value} (hE : ∀ ch a w, E ch (a.put oi.dst v) w → E ch a w) (hi : ops[i]? = some oi) (hst : stillAt P ops i = true) (hsel : ∀ (j : Nat) (o : Oper) cs b, ops[j]? = some o → o.op ≠ .select cs b) (Y : World → Prop) :
    ∀ (f : Nat) (C : World → Prop) (listed : Array Bool) (a : Act) (w : World),
      (∀ j oj, ops[j]? = some oj → j ≠ i → listed.getD j true = false → (∀ e ∈ oj.after, Region.binds .any e = true → e.on ≠ i) → oi.apart ops oj = true) →
      i ∈ Region.ready .any ops listed → (∀ x, Y x → YieldsAt P ops x oi v a) → Y w → C w →
      ((∀ x, Y x) ∨ (pres = true ∧ (∀ x, C x → Y x) ∧ ((∀ j, W' j) ∨ ∃ M, Ahead ops i listed M ∧ ∀ j, M.getD j false = true → W' j)) ∨ ∃ M, Blocked P ops i listed M) →
      wpM P ops pres E W' Q f C (listed.setIfInBounds i true) (a.put oi.dst v) w → wpM P ops pres E W Q (f + 1) C listed a w := by
  intro f
  induction f with
  | zero =>
    intro C listed a w _ hr hy hw hCw _ H
    refine ⟨fun h => (by rw [h] at hr; cases hr), fun j hj => ?_⟩
    by_cases hji : j = i
    · subst hji; exact ⟨fun _ => (hy w hw).stOp hi (wpM_less hWW _ _ _ _ _ H), fun h => (by rw [hst] at h; cases h)⟩
    · have := ready_mono hj hji
      rw [H.1] at this
      cases this
  | succ f ih =>
    intro C listed a w hfree hr hy hw hCw hY H
    refine ⟨fun h => (by rw [h] at hr; cases hr), fun j hj => ?_⟩
    by_cases hji : j = i
    · subst hji; exact ⟨fun _ => (hy w hw).stOp hi (wpM_less hWW _ _ _ _ _ H), fun h => (by rw [hst] at h; cases h)⟩
    · obtain ⟨hS, hT⟩ := H.2 j (ready_mono hj hji)
      obtain ⟨hjun, oj, hoj, hall⟩ := mem_ready.1 hj
      have hnot : ∀ e ∈ oj.after, Region.binds .any e = true → e.on ≠ i := fun e he hb heq => by
        have h1 := hall e he hb
        rw [heq, getD_off (mem_ready.1 hr).1] at h1
        cases h1
      have hap := hfree j oj hoj hji hjun hnot
      have hfree' : ∀ k ok, ops[k]? = some ok → k ≠ i → (listed.setIfInBounds j true).getD k true = false →
          (∀ e ∈ ok.after, Region.binds .any e = true → e.on ≠ i) → oi.apart ops ok = true := fun k ok hk hki hun hno => by
        refine hfree k ok hk hki ?_ hno
        by_cases hjk : j = k
        · subst hjk; exact hjun
        · rw [getD_set_ne true hjk] at hun; exact hun
      refine ⟨fun hs => ?_, fun hs => ?_⟩
      · have h2 := stOp_putY hoj hap (fun cs b => hsel i oi cs b hi) (fun cs b => hsel j oj cs b hoj) hy (hS hs)
        refine stOp_mono (fun a' h3 => ih C (listed.setIfInBounds j true) a' w hfree' (ready_mono hr (Ne.symm hji)) h3.1 hw hCw ?_ ?_) h2
        · rcases hY with h | ⟨hp, h, h2⟩ | ⟨M, h⟩
          · exact .inl h
          · exact .inr (.inl ⟨hp, h, h2.imp id fun ⟨M, hA, hMW⟩ => ⟨M, (hA.ready hj hji).2, hMW⟩⟩)
          · exact .inr (.inr ⟨M, (h.ready hj hji).2⟩)
        · rw [Array.setIfInBounds_comm _ _ hji]
          exact h3.2
      · have h2 := wpOp_putY hE hoj hap (fun cs b => hsel i oi cs b hi) (fun cs b => hsel j oj cs b hoj) hy (hT hs)
        refine wpOp_mono (fun a' w' h3 => ?_) h2
        obtain ⟨h3, C', hsub, hC', hM⟩ := h3
        have hsub' : pres = true → W j → ∀ x, C' x → C x := fun hp hw => hsub hp (hWW _ hw)
        rcases hY with h | ⟨hp, h, h2⟩ | ⟨M, h⟩
        · exact ⟨C', hsub', hC', ih C' (listed.setIfInBounds j true) a' w' hfree' (ready_mono hr (Ne.symm hji)) h3 (h _) hC' (.inl h) (by rw [Array.setIfInBounds_comm _ _ hji]; exact hM)⟩
        · have hWj : W' j := by
            rcases h2 with h2 | ⟨M, hA, hMW⟩
            · exact h2 j
            · exact hMW j (hA.ready hj hji).1
          exact ⟨C', hsub', hC', ih C' (listed.setIfInBounds j true) a' w' hfree' (ready_mono hr (Ne.symm hji)) h3 (h _ (hsub hp hWj _ hC')) hC' (.inr (.inl ⟨hp, fun x hx => h x (hsub hp hWj x hx), h2.imp id fun ⟨M, hA, hMW⟩ => ⟨M, (hA.ready hj hji).2, hMW⟩⟩)) (by rw [Array.setIfInBounds_comm _ _ hji]; exact hM)⟩
        · rw [(h.ready hj hji).1] at hs; cases hs
end

/-- the block of what is read is none of those that may turn -/
def farS (pres : Bool) (S : Nat → Prop) (pv : Value) (X : Prop) : Prop := match pres with
  | false => X
  | true => match pv with
    | .pointer (some a) => ¬ S a.block ∧ X
    | _ => False

def clsM (pres : Bool) (S : Nat → Prop) (w : World) : World → Prop := match pres with
  | true => fun w' => Keep S w w'
  | false => fun w' => w' = w

def readsM (pres : Bool) (S : Nat → Prop) (P : Program) (s : Sem Value) (w : World) (v : Value) : Prop := match pres with
  | true => ∀ w', Keep S w w' → s.run P w' = .ok v w'
  | false => s.run P w = .ok v w

def turnM (pres : Bool) (S : Nat → Prop) (w w1 : World) (X : Prop) : Prop := match pres with
  | true => Keep S w w1 ∧ X
  | false => X

/-- an operation that turns nothing -/
def DOpS (P : Program) (B : Base) (o : Oper) (pres : Bool) (S : Nat → Prop) (K : Bnd → Prop) (e : Bnd) (w : World) : Prop :=
  match o.op with
  | .load t a => must (known P t) (farS pres S (ev B e a) (PLd P t (ev B e a) w fun v => K (putE e o.dst v)))
  | .indexAddr t x i => must (knownE P t) (PIx P t (ev B e x) (ev B e i) fun v => K (putE e o.dst v))
  | .slice t x lo hi mx => must (knownE P t) (PSl P t (ev B e x) (lo.map (ev B e)) (hi.map (ev B e)) (mx.map (ev B e)) fun v => K (putE e o.dst v))
  | .nilCheck x => DNil (ev B e x) fun v => K (putE e o.dst v)
  | .index t x i => match P.underlying t with
    | some .string => PIxS (ev B e x) (ev B e i) fun v => K (putE e o.dst v)
    | _ => False
  | _ => match semV (ev B e) o with
    | some s => match typedOp P o with
      | true => resX P o.type fun v => (match kindOf P o with
        | 0 => ∀ w', s.run P w' = .ok v w'
        | _ => readsM pres S P s w v) ∧ K (putE e o.dst v)
      | false => match pureV P s with
        | some v => K (putE e o.dst v)
        | none => False
    | none => False

theorem PLd.outK {P : Program} {t : TypeId} {a : Addr} {w : World} {κ : Value → Prop} (hu : ∃ d, P.underlying t = some d) (h : PLd P t (.pointer (some a)) w κ) :
    ∃ v, (∀ w', (∀ b u, b.block = a.block → w.cell? b = some u → w'.cell? b = some u) → (Instr.loadAt t (.pointer (some a))).run P w' = .ok v w') ∧ κ v := by
  unfold PLd at h
  simp only at h
  split at h
  · rename_i hagg
    split at h
    · rename_i zs hz
      split at h
      · rename_i hs
        obtain ⟨l, hl, h⟩ := tyL.out h
        obtain ⟨hc, h⟩ := cellsAre.out h
        obtain ⟨i, hi, _⟩ := zero_info hz (by simp [undef])
        have hsz : i.size = l.length := by
          have := Nat.eq_of_beq_eq_true hs
          rw [sizeP_eq hi] at this
          simp [this, hl]
        refine ⟨_, fun w' hw' => ?_, h⟩
        have hcc : ∀ j v, l[j]? = some v → w'.cell? (a.add j) = some v := fun j v hj =>
          hw' _ _ (by unfold Addr.add; split <;> rfl) (by have := hc j v hj; simpa using this)
        have hld := run_loadCells_list (P := P) (w := w') a l hcc
        simp only [Instr.loadAt, Instr.sureAddr, loadVar, Sem.run_bind, Sem.run_pure, Result.andThen_ok, isAggP_run P t _ hagg hu, if_true, sizeOf_run hi, hsz, hld]
      · exact h.elim
    · exact h.elim
  · rename_i hagg
    obtain ⟨v, hv, h⟩ := ty1.out h
    refine ⟨v, fun w' hw' => ?_, h⟩
    have hc : w'.cell? a = some v := hw' _ _ rfl hv
    simp [Instr.loadAt, Instr.sureAddr, loadVar, isAggP_run P t _ hagg hu, load, Sem.run, hc]

theorem Keep.cell' {S : Nat → Prop} {w w' : World} (h : Keep S w w') {b : Addr} {u : Value} (hS : ¬ S b.block) (hc : w.cell? b = some u) : w'.cell? b = some u := by
  have hb : b.block < w.heap.size := by
    by_cases hb : b.block < w.heap.size
    · exact hb
    · unfold World.cell? at hc
      rw [show w.heap[b.block]? = none by simp; omega] at hc
      cases hc
  unfold World.cell? at hc ⊢
  rw [h.block _ hb hS]
  exact hc

theorem DOpS_out {P : Program} {n : Nat} {B : Base} {e : Bnd} {a : Act} {o : Oper} {ops : Array Oper} {pres : Bool} {S : Nat → Prop} {K : Bnd → Prop} {w : World} (hr : Rel n B e a)
    (hw : Region.wanted o (yielded ops a.tmps) = true) (h : DOpS P B o pres S K e w) :
    ∃ v, K (putE e o.dst v) ∧ ((∀ x, YieldsAt P ops x o v a) ∨ (kindOf P o ≠ 0 ∧ ∀ x, clsM pres S w x → YieldsAt P ops x o v a)) := by
  have gen : ∀ (s : Sem Value) v x, (∀ w, (execOp (ev B e) o).run P w = (s.run P w).andThen fun v w' => .ok (.value v) w') → s.run P x = .ok v x → YieldsAt P ops x o v a := by
    intro s v x hs hv
    refine .inl ⟨hw, .inl ?_⟩
    rw [hr.eval, hs, hv]
    rfl
  unfold DOpS at h
  split at h
  · rename_i t x hop
    obtain ⟨hb, h⟩ := must.out h
    have hk : kindOf P o ≠ 0 := by simp [kindOf, hop]
    have fin : ∀ (p : Addr), ev B e x = .pointer (some p) → (∀ y, clsM pres S w y → ∀ b u, b.block = p.block → w.cell? b = some u → y.cell? b = some u) → (PLd P t (.pointer (some p)) w fun v => K (putE e o.dst v)) →
        ∃ v, K (putE e o.dst v) ∧ ((∀ x, YieldsAt P ops x o v a) ∨ (kindOf P o ≠ 0 ∧ ∀ x, clsM pres S w x → YieldsAt P ops x o v a)) := by
      intro p hp hcl h
      obtain ⟨v, hv, h⟩ := PLd.outK (known.out hb).1 h
      exact ⟨v, h, .inr ⟨hk, fun y hy => gen (Instr.loadAt t (ev B e x)) v y (fun w => by simp [execOp, hop]) (by rw [hp]; exact hv y (hcl y hy))⟩⟩
    unfold farS at h
    split at h
    · have hp : ∃ p, ev B e x = .pointer (some p) := by
        unfold PLd at h
        split at h
        · exact ⟨_, by assumption⟩
        · exact h.elim
      obtain ⟨p, hp⟩ := hp
      rw [hp] at h
      exact fin p hp (fun y hy b u _ hc => by simp only [clsM] at hy; rw [hy]; exact hc) h
    · split at h
      · rename_i p hp
        obtain ⟨hS, h⟩ := h
        exact fin p hp (fun y hy b u hb hc => by simp only [clsM] at hy; exact hy.cell' (by rw [hb]; exact hS) hc) (by rw [← hp]; exact h)
      · exact h.elim
  · rename_i t x i hop
    obtain ⟨hb, h⟩ := must.out h
    obtain ⟨v, hv, h⟩ := PIx.out (knownE.out hb) h
    exact ⟨v, h, .inl fun y => gen (Instr.indexAt t (ev B e x) (ev B e i)) v y (fun w => by simp [execOp, hop]) (hv _)⟩
  · rename_i t x lo hi mx hop
    obtain ⟨hb, h⟩ := must.out h
    obtain ⟨v, hv, h⟩ := PSl.out (fun e he => knownE.out hb e (.inl he)) h
    exact ⟨v, h, .inl fun y => gen (Instr.sliceAt t (ev B e x) (lo.map (ev B e)) (hi.map (ev B e)) (mx.map (ev B e))) v y (fun w => by simp [execOp, hop]) (hv _)⟩
  · rename_i x hop
    unfold DNil at h
    split at h
    · rename_i p hx
      obtain ⟨b, off, rfl, h⟩ := h
      exact ⟨_, h, .inl fun y => gen (.pure (.pointer (some ⟨b, off, none⟩))) _ y (fun w => by simp [execOp, hop, hx]) rfl⟩
    · rename_i g first cap hx
      exact ⟨_, h, .inl fun y => gen (.pure (.func (.func g) first cap)) _ y (fun w => by simp [execOp, hop, hx]) rfl⟩
    · exact h.elim
  · rename_i t x i hop
    split at h
    · rename_i hd'
      obtain ⟨v, hv, h⟩ := PIxS.out hd' h
      exact ⟨v, h, .inl fun y => gen (Instr.index t (ev B e x) (ev B e i)) v y (fun w => by simp [execOp, hop]) (hv _)⟩
    · exact h.elim
  · split at h
    · rename_i s hs
      split at h
      · obtain ⟨v, hv, h⟩ := resX.out h
        refine ⟨v, h, ?_⟩
        split at hv
        · exact .inl fun y => gen s v y (fun w => semV_exec hs P w) (hv y)
        · rename_i hne
          refine .inr ⟨hne, fun y hy => gen s v y (fun w => semV_exec hs P w) ?_⟩
          cases pres with
          | true => exact hv y hy
          | false => simp only [clsM] at hy; rw [hy]; exact hv
      · split at h
        · rename_i v hv
          exact ⟨v, h, .inl fun y => gen s v y (fun w => semV_exec hs P w) (pureV_run hv _)⟩
        · exact h.elim
    · exact h.elim

def guardD (ops : Array Oper) (o : Oper) (B : Base) (e : Bnd) (run skip : Bnd → Prop) : Prop := match o.guard with
  | none => run e
  | some (j, want) => match gslot ops j with
    | none => False
    | some t => match get B e t with
      | .bool b => PIf b
        (match want with
          | true => run ((t, .bool true) :: e)
          | false => skip ((t, .bool true) :: e))
        (match want with
          | true => skip ((t, .bool false) :: e)
          | false => run ((t, .bool false) :: e))
      | .tuple _ => skip e
      | _ => False

def allOf : List Nat → (Nat → Prop) → Prop
  | [], _ => True
  | i :: r, φ => match r with
    | [] => φ i
    | _ => φ i ∧ allOf r φ

theorem allOf.out : ∀ {l : List Nat} {φ : Nat → Prop}, allOf l φ → ∀ i ∈ l, φ i
  | [], _, _, i, hi => by cases hi
  | j :: r, φ, h, i, hi => by
    unfold allOf at h
    split at h
    · simp only [List.mem_singleton] at hi
      subst hi
      exact h
    · rcases List.mem_cons.1 hi with rfl | hi
      · exact h.1
      · exact allOf.out h.2 i hi

def okS (P : Program) (ops : Array Oper) (pres : Bool) (listed : Array Bool) (i : Nat) : Bool :=
  Region.free .any ops listed i && (match kindAt P ops i with
    | 0 => true
    | _ => match pres with
      | true => true
      | false => blockedB P ops listed i)

def presAt (P : Program) (ops : Array Oper) (pres : Bool) (listed : Array Bool) (i : Nat) : Bool := match pres with
  | false => false
  | true => match kindAt P ops i with
    | 0 => false
    | _ => !blockedB P ops listed i

/-- which operations may come ahead of something that is read first -/
def growW (ops : Array Oper) (listed : Array Bool) (i : Nat) (W : Nat → Bool) : Nat → Bool := match aheadB ops listed i with
  | true => (fun M : Array Bool => fun j => W j || M.getD j false) (closeX ops i ops.size listed)
  | false => fun _ => true
def nextW (P : Program) (ops : Array Oper) (pres : Bool) (listed : Array Bool) (i : Nat) (W : Nat → Bool) : Nat → Bool := match presAt P ops pres listed i with
  | true => growW ops listed i W
  | false => W
theorem growW_mono {ops : Array Oper} {listed : Array Bool} {i : Nat} {W : Nat → Bool} : ∀ j, W j = true → growW ops listed i W j = true := by
  intro j h
  unfold growW
  cases aheadB ops listed i with
  | true => simp [h]
  | false => rfl
theorem growW_spec {ops : Array Oper} {listed : Array Bool} {i : Nat} {W : Nat → Bool} : (∀ j, growW ops listed i W j = true) ∨ ∃ M, Ahead ops i listed M ∧ ∀ j, M.getD j false = true → growW ops listed i W j = true := by
  unfold growW
  cases h : aheadB ops listed i with
  | true => exact .inr ⟨_, aheadB_spec h, fun j hj => by simp only [hj, Bool.or_true]⟩
  | false => exact .inl fun _ => rfl

def DMix (P : Program) (B : Base) (ops : Array Oper) (pres : Bool) (S : Nat → Prop) (E : List PanicEntry → List Deferred → World → Prop) (Q : Bnd → List Deferred → World → Prop) : (Nat → Bool) → Nat → Array Bool → Bnd → List Deferred → World → Prop
  | W, 0, listed, e, ds, w => must (Region.ready .any ops listed).isEmpty (Q e ds w)
  | W, f + 1, listed, e, ds, w => match pickS P ops (Region.ready .any ops listed) with
    | some i => must (okS P ops pres listed i) (match ops[i]? with
      | none => False
      | some o => guardD ops o B e (fun e => DOpS P B o (presAt P ops pres listed i) S (fun e => DMix P B ops pres S E Q (nextW P ops pres listed i W) f (listed.setIfInBounds i true) e ds w) e w)
          (fun e => DMix P B ops pres S E Q W f (listed.setIfInBounds i true) (putE e o.dst undef) ds w))
    | none => match Region.ready .any ops listed with
      | [] => Q e ds w
      | rs => allOf rs fun i => match ops[i]? with
        | none => False
        | some o => guardD ops o B e (fun e => DOp P ops B o (fun x _ _ ds w => match x with
          | .panic ch => E ch ds w
          | _ => False) (fun e ds w1 => turnM (pres && W i) S w w1 (DMix P B ops pres S E Q W f (listed.setIfInBounds i true) e ds w1)) e ds w)
          (fun e => DMix P B ops pres S E Q W f (listed.setIfInBounds i true) (putE e o.dst undef) ds w)

theorem guardD.out {ops : Array Oper} {o : Oper} {n : Nat} {B : Base} {e : Bnd} {a : Act} {run skip : Bnd → Prop} (hops : ∀ j t, gslot ops j = some t → t < n) (hr : Rel n B e a) (h : guardD ops o B e run skip) :
    ∃ e', Rel n B e' a ∧ (∀ u, get B e' u = get B e u) ∧ ((Region.wanted o (yielded ops a.tmps) = true ∧ run e') ∨ (Region.wanted o (yielded ops a.tmps) = false ∧ skip e')) := by
  unfold guardD at h
  split at h
  · rename_i hg
    exact ⟨e, hr, fun _ => rfl, .inl ⟨by simp [Region.wanted, hg], h⟩⟩
  · rename_i j want hg
    split at h
    · exact h.elim
    · rename_i t hj
      have hy := yielded_of hr hj (hops j t hj)
      split at h
      · rename_i b hb
        rw [hb] at hy
        simp only at hy
        have hw : Region.wanted o (yielded ops a.tmps) = (b == want) := by
          simp only [Region.wanted, hg, hy]
          cases b <;> cases want <;> rfl
        rw [hw]
        have hr2 := hr.again hb
        have hag2 : ∀ u, get B ((t, .bool b) :: e) u = get B e u := get_again hb
        cases b <;> cases want <;> simp only [PIf] at h
        · exact ⟨_, hr2, hag2, .inl ⟨rfl, h⟩⟩
        · exact ⟨_, hr2, hag2, .inr ⟨rfl, h⟩⟩
        · exact ⟨_, hr2, hag2, .inr ⟨rfl, h⟩⟩
        · exact ⟨_, hr2, hag2, .inl ⟨rfl, h⟩⟩
      · rename_i vs hb
        rw [hb] at hy
        simp only at hy
        have hw : Region.wanted o (yielded ops a.tmps) = false := by
          simp [Region.wanted, hg, hy]
        exact ⟨e, hr, fun _ => rfl, .inr ⟨hw, h⟩⟩
      · exact h.elim

theorem clsM.refl (pres : Bool) (S : Nat → Prop) (w : World) : clsM pres S w w := by
  cases pres with
  | true => exact ⟨rfl, rfl, rfl, Nat.le_refl _, fun _ _ _ => rfl⟩
  | false => rfl

theorem Keep.chain {S : Nat → Prop} {a b c : World} (h : Keep S a b) (k : Keep S b c) : Keep S a c :=
  ⟨k.os.trans h.os, k.tape.trans h.tape, k.output.trans h.output, Nat.le_trans h.size k.size, fun i hi hS => (k.block i (Nat.lt_of_lt_of_le hi h.size) hS).trans (h.block i hi hS)⟩

/-- a panic in the midst of a region: which of its slots are put hangs on the order -/
def PanA (n : Nat) (B0 : Base) (e0 : Bnd) (W : List Nat) (Q : Post) : List PanicEntry → Act → World → Prop := fun ch a w =>
  (∃ B e, Rel n B e a ∧ (∀ t, t ∉ W → get B e t = get B0 e0 t)) ∧ ∀ B e, Q (.panic ch) B e a.defers w

theorem PanA.unput {n : Nat} {B0 : Base} {e0 : Bnd} {W : List Nat} {Q : Post} {d : Option Tmp} {v : Value} (hd : ∀ t, d = some t → t ∈ W) (ch : List PanicEntry) (a : Act) (w : World) (h : PanA n B0 e0 W Q ch (a.put d v) w) : PanA n B0 e0 W Q ch a w := by
  obtain ⟨⟨B, e, hr, hag⟩, h⟩ := h
  refine ⟨⟨fun t => a.tmps.getD t undef, [], ⟨?_, fun t => rfl⟩, fun t ht => ?_⟩, by simpa [put_defers] using h⟩
  · have := hr.size
    cases d <;> simpa [Act.put] using this
  · rw [← hag t ht, ← hr.slot]
    cases d with
    | none => rfl
    | some d =>
      have hne : d ≠ t := by rintro rfl; exact ht (hd d rfl)
      show _ = (a.tmps.setIfInBounds d v).getD t undef
      simp only [Array.getD_eq_getD_getElem?]
      rw [Array.getElem?_setIfInBounds_ne hne]
      simp [Lift.get]

theorem PanA.post {n : Nat} {B0 : Base} {e0 : Bnd} {W : List Nat} {Q : Post} (ch : List PanicEntry) (a : Act) (w : World) (h : PanA n B0 e0 W Q ch a w) : PostA n B0 e0 W Q (.panic ch) a w := by
  obtain ⟨⟨B, e, hr, hag⟩, h⟩ := h
  exact ⟨B, e, hr, hag, h B e⟩

theorem DMix_wp {P : Program} {n : Nat} {B B0 : Base} {e0 : Bnd} {W : List Nat} {ops : Array Oper} {pres : Bool} {S : Nat → Prop} {Q : Post} (hops : ∀ j t, gslot ops j = some t → t < n) (hsel : Region.noSelect ops = true)
    (hl : ∀ o ∈ ops.toList, ∀ d, o.dst = some d → d < n ∧ d ∈ W) :
    ∀ (V : Nat → Bool) (f : Nat) (listed : Array Bool) (e : Bnd) (a : Act) (w : World), Rel n B e a → (∀ t, t ∉ W → get B e t = get B0 e0 t) →
      DMix P B ops pres S (fun ch ds w => ∀ B e, Q (.panic ch) B e ds w) (fun e ds w => Q .normal B e ds w) V f listed e a.defers w → wpM P ops pres (PanA n B0 e0 W Q) (fun j => V j = true) (PostA n B0 e0 W Q .normal) f (clsM pres S w) listed a w
  | V, 0, listed, e, a, w, hr, hag, h => by
    obtain ⟨h1, h2⟩ := must.out h
    exact ⟨by simpa using h1, B, e, hr, hag, h2⟩
  | V, f + 1, listed, e, a, w, hr, hag, h => by
    have hun : ∀ {i : Nat} {o : Oper}, ops[i]? = some o → ∀ (v : Value) (ch : List PanicEntry) (a : Act) (w : World), PanA n B0 e0 W Q ch (a.put o.dst v) w → PanA n B0 e0 W Q ch a w := by
      intro i o ho v ch a w
      have hm : o ∈ ops.toList := by
        obtain ⟨hlt, rfl⟩ := Array.getElem?_eq_some_iff.1 ho
        simp
      exact PanA.unput (fun t ht => (hl o hm t ht).2) ch a w
    have hput : ∀ {i : Nat} {o : Oper}, ops[i]? = some o → (∀ d, o.dst = some d → d < n) ∧ ∀ (e : Bnd), (∀ t, t ∉ W → get B e t = get B0 e0 t) → ∀ v t, t ∉ W → get B (putE e o.dst v) t = get B0 e0 t := by
      intro i o ho
      have hm : o ∈ ops.toList := by
        obtain ⟨hlt, rfl⟩ := Array.getElem?_eq_some_iff.1 ho
        simp
      refine ⟨fun d hd => (hl o hm d hd).1, fun e hag v t ht => ?_⟩
      cases hd : o.dst with
      | none => exact hag t ht
      | some d =>
        have hdW := (hl o hm d hd).2
        show get B ((d, v) :: e) t = _
        rw [get_cons, if_neg (by rintro rfl; exact ht hdW)]
        exact hag t ht
    unfold DMix at h
    split at h
    · rename_i i hi
      obtain ⟨hir, hst⟩ := pickS_some hi
      obtain ⟨hok, h⟩ := must.out h
      split at h
      · exact h.elim
      · rename_i o ho
        obtain ⟨hd, hagp⟩ := hput ho
        simp only [okS, Bool.and_eq_true] at hok
        obtain ⟨hfree, hkind⟩ := hok
        have hfr := Region.free_spec ho hfree
        obtain ⟨e', hr', heq, hrun⟩ := guardD.out hops hr h
        have hag' : ∀ t, t ∉ W → get B e' t = get B0 e0 t := fun t ht => (heq t).trans (hag t ht)
        rcases hrun with ⟨hw, h⟩ | ⟨hw, h⟩
        · obtain ⟨v, hK, hy⟩ := DOpS_out hr' hw h
          have hmono : ∀ j, V j = true → nextW P ops pres listed i V j = true := by
            intro j hj
            unfold nextW
            cases presAt P ops pres listed i with
            | true => exact growW_mono j hj
            | false => exact hj
          have next := DMix_wp hops hsel hl (nextW P ops pres listed i V) f (listed.setIfInBounds i true) (putE e' o.dst v) (a.put o.dst v) w (hr'.put _ hd _) (hagp e' hag' v) (by rw [put_defers]; exact hK)
          rcases hy with hy | ⟨hk, hy⟩
          · exact wpM_first hmono (hun ho _) ho hst (Region.noSelect_spec hsel) (fun _ => True) f _ listed a w hfr hir (fun x _ => hy x) trivial (clsM.refl ..) (.inl fun _ => trivial) next
          · have hka : kindAt P ops i = kindOf P o := by simp [kindAt, ho]
            rw [hka] at hkind
            have hor : (presAt P ops pres listed i = true ∧ pres = true) ∨ (presAt P ops pres listed i = false ∧ blockedB P ops listed i = true) := by
              cases pres with
              | false =>
                right
                refine ⟨rfl, ?_⟩
                split at hkind
                · rename_i h0; exact absurd h0 hk
                · simpa using hkind
              | true =>
                have hm : presAt P ops true listed i = !blockedB P ops listed i := by
                  unfold presAt
                  rw [hka]
                  generalize kindOf P o = q at hk
                  cases q with
                  | zero => exact absurd rfl hk
                  | succ q => rfl
                rw [hm]
                cases hb : blockedB P ops listed i with
                | true => right; simp
                | false => left; simp
            rcases hor with ⟨h1, h2⟩ | ⟨h1, h2⟩
            · rw [h1] at hy
              subst h2
              have hg : (∀ j, nextW P ops true listed i V j = true) ∨ ∃ M, Ahead ops i listed M ∧ ∀ j, M.getD j false = true → nextW P ops true listed i V j = true := by
                unfold nextW
                rw [h1]
                exact growW_spec
              exact wpM_first hmono (hun ho _) ho hst (Region.noSelect_spec hsel) (clsM true S w) f _ listed a w hfr hir hy (clsM.refl ..) (clsM.refl ..) (.inr (.inl ⟨rfl, fun _ h => h, hg⟩)) next
            · rw [h1] at hy
              exact wpM_first hmono (hun ho _) ho hst (Region.noSelect_spec hsel) (clsM false S w) f _ listed a w hfr hir hy (clsM.refl ..) (clsM.refl ..) (.inr (.inr (blockedB_spec h2))) next
        · have next := DMix_wp hops hsel hl V f (listed.setIfInBounds i true) (putE e' o.dst undef) (a.put o.dst undef) w (hr'.put _ hd _) (hagp e' hag' _) (by rw [put_defers]; exact h)
          exact wpM_first (fun _ h => h) (hun ho _) ho hst (Region.noSelect_spec hsel) (fun _ => True) f _ listed a w hfr hir (fun x _ => .inr ⟨hw, rfl⟩) trivial (clsM.refl ..) (.inl fun _ => trivial) next
    · rename_i hn
      have hstill := pickS_none hn
      split at h
      · rename_i h0
        exact ⟨fun _ => ⟨B, e, hr, hag, h⟩, fun i hi => (by rw [h0] at hi; cases hi)⟩
      · rename_i hne
        refine ⟨fun h0 => absurd h0 (by simpa using hne), fun i hi => ⟨fun hs => (by rw [hstill i hi] at hs; cases hs), fun _ => ?_⟩⟩
        have h := allOf.out h i hi
        split at h
        · exact h.elim
        · rename_i o ho
          obtain ⟨hd, hagp⟩ := hput ho
          obtain ⟨e', hr', heq, hrun⟩ := guardD.out hops hr h
          have hag' : ∀ t, t ∉ W → get B e' t = get B0 e0 t := fun t ht => (heq t).trans (hag t ht)
          unfold wpOp
          simp only [ho]
          rcases hrun with ⟨hw, h⟩ | ⟨hw, h⟩
          · rw [if_pos hw]
            refine .inl (DOp_wp hr' hd h (fun v a' w' hr2 hK => ?_) fun ch w' hq => ⟨⟨B, e', hr', hag'⟩, hq⟩)
            cases pres with
            | true =>
              cases hV : V i with
              | true =>
                rw [hV] at hK
                obtain ⟨hk, hK⟩ := hK
                exact ⟨clsM true S w', fun _ _ x hx => hk.chain hx, clsM.refl .., DMix_wp hops hsel hl V f _ _ a' w' hr2 (hagp e' hag' v) hK⟩
              | false =>
                rw [hV] at hK
                exact ⟨clsM true S w', fun _ h => (by cases h), clsM.refl .., DMix_wp hops hsel hl V f _ _ a' w' hr2 (hagp e' hag' v) hK⟩
            | false => exact ⟨clsM false S w', fun h => (by cases h), clsM.refl .., DMix_wp hops hsel hl V f _ _ a' w' hr2 (hagp e' hag' v) hK⟩
          · rw [if_neg (by rw [hw]; simp)]
            exact ⟨clsM pres S w, fun _ _ _ h => h, clsM.refl .., DMix_wp hops hsel hl V f _ _ (a.put o.dst undef) w (hr'.put _ hd _) (hagp e' hag' _) (by rw [put_defers]; exact h)⟩

/-! ### the same, worked out with numbers: what the kernel does quickly -/

/-- of a region: what each operation waits for, which others stand apart from it (or wait for it), its kind -/
structure RegM where
  deps : List Nat
  near : List Nat
  kinds : List Nat

def bit (i : Nat) : Nat := Nat.shiftLeft 1 i
def depOf (o : Oper) : Nat := o.after.foldl (fun m e => match Region.binds .any e with | true => Nat.lor m (bit e.on) | false => m) 0
def nearOf (ops : Array Oper) (i : Nat) : Nat := (List.range ops.size).foldl (fun m j => match Nat.beq j i || (match ops[i]?, ops[j]? with
  | some oi, some oj => oj.after.any (fun e => Region.binds .any e && e.on == i) || oi.apart ops oj
  | _, none => true
  | none, _ => false) with | true => Nat.lor m (bit j) | false => m) 0
def eqL : List Nat → List Nat → Bool
  | [], [] => true
  | a :: l, b :: r => Nat.beq a b && eqL l r
  | _, _ => false
def RegM.ok (P : Program) (ops : Array Oper) (M : RegM) : Bool :=
  eqL M.deps (ops.toList.map depOf) && eqL M.near ((List.range ops.size).map (nearOf ops)) && eqL M.kinds (ops.toList.map (kindOf P))

def hasB (N i : Nat) : Bool := Nat.testBit N i
def readyN (M : RegM) (n N : Nat) : List Nat := (List.range n).filter fun i => !hasB N i && Nat.beq (Nat.land (M.deps.getD i 0) N) (M.deps.getD i 0)
def stillN (M : RegM) (i : Nat) : Bool := !Nat.beq (M.kinds.getD i 2) 2
def pickN (M : RegM) : List Nat → Option Nat
  | [] => none
  | i :: r => match stillN M i with
    | true => some i
    | false => pickN M r
def closeN (M : RegM) (n i : Nat) : Nat → Nat → Nat
  | 0, N => N
  | f + 1, N => match (readyN M n N).find? (fun j => !Nat.beq j i) with
    | some j => closeN M n i f (Nat.lor N (bit j))
    | none => N

theorem testBit_bit (i k : Nat) : (bit i).testBit k = decide (i = k) := by
  unfold bit
  show (1 <<< i).testBit k = _
  rw [Nat.one_shiftLeft, Nat.testBit_two_pow]

theorem testBit_fold {α : Type} (p : α → Bool) (g : α → Nat) (k : Nat) : ∀ (l : List α) (m : Nat), (l.foldl (fun m e => match p e with | true => Nat.lor m (bit (g e)) | false => m) m).testBit k = (m.testBit k || l.any fun e => p e && g e == k)
  | [], m => by simp
  | e :: l, m => by
    rw [List.foldl_cons, testBit_fold p g k l]
    cases hp : p e with
    | false => simp [hp]
    | true =>
      simp only [hp, List.any_cons, Bool.true_and]
      show ((m ||| bit (g e)).testBit k || _) = _
      rw [Nat.testBit_or, testBit_bit, Bool.or_assoc]
      congr 2

theorem testBit_dep (o : Oper) (k : Nat) : (depOf o).testBit k = o.after.any fun e => Region.binds .any e && e.on == k := by
  unfold depOf
  rw [← Array.foldl_toList, testBit_fold (fun e => Region.binds .any e) (fun e => e.on) k]
  simp

theorem land_eq {d N : Nat} : Nat.beq (Nat.land d N) d = true ↔ ∀ k, d.testBit k = true → N.testBit k = true := by
  constructor
  · intro h k hk
    have h := Nat.eq_of_beq_eq_true h
    have : (d &&& N).testBit k = true := by
      show (Nat.land d N).testBit k = true
      rw [h]; exact hk
    rw [Nat.testBit_and] at this
    simp at this
    exact this.2
  · intro h
    have : d &&& N = d := by
      apply Nat.eq_of_testBit_eq
      intro k
      rw [Nat.testBit_and]
      cases hd : d.testBit k with
      | false => rfl
      | true => rw [h k hd]; rfl
    show Nat.beq (d &&& N) d = true
    rw [this]
    exact Nat.beq_refl d

theorem eqL.out : ∀ {l r : List Nat}, eqL l r = true → l = r
  | [], [], _ => rfl
  | [], _ :: _, h => by cases h
  | _ :: _, [], h => by cases h
  | a :: l, b :: r, h => by
    simp only [eqL, Bool.and_eq_true] at h
    rw [Nat.eq_of_beq_eq_true h.1, eqL.out h.2]

structure Rep (listed : Array Bool) (n N : Nat) : Prop where
  size : listed.size = n
  bit : ∀ i, listed.getD i false = N.testBit i

theorem Rep.set {listed : Array Bool} {n N : Nat} (h : Rep listed n N) {i : Nat} (hi : i < n) : Rep (listed.setIfInBounds i true) n (Nat.lor N (Lift.bit i)) := by
  refine ⟨by simp [h.size], fun k => ?_⟩
  show _ = (N ||| Lift.bit i).testBit k
  rw [Nat.testBit_or, testBit_bit, ← h.bit k]
  by_cases hk : i = k
  · subst hk
    have : i < listed.size := by rw [h.size]; exact hi
    simp [this]
  · rw [getD_set_ne false hk]; simp [hk]

theorem ready_eq {P : Program} {ops : Array Oper} {M : RegM} (hM : M.ok P ops = true) {listed : Array Bool} {N : Nat} (h : Rep listed ops.size N) : Region.ready .any ops listed = readyN M ops.size N := by
  unfold RegM.ok at hM
  simp only [Bool.and_eq_true] at hM
  have hd := eqL.out hM.1.1
  unfold Region.ready readyN
  refine List.filter_congr fun i hi => ?_
  have hi := List.mem_range.1 hi
  have h1 : listed.getD i true = N.testBit i := by
    rw [← h.bit i]
    have : i < listed.size := by rw [h.size]; exact hi
    simp [this]
  have h2 : M.deps.getD i 0 = depOf ops[i] := by
    rw [hd]; simp [hi]
  rw [h1, h2, Array.getElem?_eq_getElem hi]
  simp only [Option.map_some, Option.getD_some, hasB]
  congr 1
  rw [Bool.eq_iff_iff, land_eq]
  rw [Array.all_eq_true_iff_forall_mem]
  constructor
  · intro hall k hk
    rw [testBit_dep] at hk
    obtain ⟨e, he, hb⟩ := Array.any_eq_true'.1 hk
    simp only [Bool.and_eq_true, beq_iff_eq] at hb
    have := hall e he
    rw [hb.1, h.bit, hb.2] at this
    simpa using this
  · intro hall e he
    cases hb : Region.binds .any e with
    | false => rfl
    | true =>
      rw [h.bit]
      have := hall e.on (by rw [testBit_dep]; exact Array.any_eq_true'.2 ⟨e, he, by simp [hb]⟩)
      simp [this]

theorem still_eq {P : Program} {ops : Array Oper} {M : RegM} (hM : M.ok P ops = true) {i : Nat} (hi : i < ops.size) : M.kinds.getD i 2 = kindAt P ops i ∧ stillN M i = stillAt P ops i := by
  unfold RegM.ok at hM
  simp only [Bool.and_eq_true] at hM
  have hk := eqL.out hM.2
  have e : M.kinds.getD i 2 = kindAt P ops i := by
    rw [hk]
    unfold kindAt
    rw [Array.getElem?_eq_getElem hi]
    simp [hi]
  refine ⟨e, ?_⟩
  unfold stillN stillAt
  rw [e]
  generalize kindAt P ops i = k
  match k with
  | 0 => rfl
  | 1 => rfl
  | 2 => rfl
  | k + 3 => rfl

theorem pick_eq {P : Program} {ops : Array Oper} {M : RegM} (hM : M.ok P ops = true) : ∀ (l : List Nat), (∀ i ∈ l, i < ops.size) → pickN M l = pickS P ops l
  | [], _ => rfl
  | i :: r, h => by
    unfold pickN pickS
    rw [(still_eq hM (h i (List.mem_cons_self ..))).2, pick_eq hM r fun j hj => h j (List.mem_cons_of_mem _ hj)]
    try (cases stillAt P ops i <;> rfl)

theorem ready_lt {M : RegM} {n N i : Nat} (h : i ∈ readyN M n N) : i < n := List.mem_range.1 (List.mem_filter.1 h).1

theorem close_eq {P : Program} {ops : Array Oper} {M : RegM} (hM : M.ok P ops = true) (i : Nat) : ∀ (f : Nat) {listed : Array Bool} {N : Nat}, Rep listed ops.size N → Rep (closeX ops i f listed) ops.size (closeN M ops.size i f N)
  | 0, _, _, h => h
  | f + 1, listed, N, h => by
    unfold closeX closeN
    rw [ready_eq hM h]
    cases hj : (readyN M ops.size N).find? (fun j => !Nat.beq j i) with
    | some j => exact close_eq hM i f (h.set (ready_lt (List.mem_of_find?_eq_some hj)))
    | none => exact h

def blockedN (M : RegM) (n N i : Nat) : Bool :=
  (fun C : Nat => !hasB C i && (readyN M n C).all (fun j => Nat.beq j i) && (List.range n).all fun j => !hasB C j || stillN M j || hasB N j) (closeN M n i n N)

theorem Rep.bitT {listed : Array Bool} {n N : Nat} (h : Rep listed n N) {i : Nat} (hi : i < n) : listed.getD i true = N.testBit i := by
  rw [← h.bit i]
  have : i < listed.size := by rw [h.size]; exact hi
  simp [this]

theorem blocked_eq {P : Program} {ops : Array Oper} {M : RegM} (hM : M.ok P ops = true) {listed : Array Bool} {N : Nat} (h : Rep listed ops.size N) {i : Nat} (hi : i < ops.size) : blockedN M ops.size N i = blockedB P ops listed i := by
  have hc := close_eq hM i ops.size h
  unfold blockedN blockedB
  simp only
  rw [ready_eq hM hc, hc.bitT hi]
  congr 1
  rw [Bool.eq_iff_iff, List.all_eq_true, List.all_eq_true]
  refine forall_congr' fun j => forall_congr' fun hj => ?_
  rw [(still_eq hM (List.mem_range.1 hj)).2, hc.bit, h.bit]
  rfl

def freeN (M : RegM) (n N i : Nat) : Bool := (List.range n).all fun j => hasB (M.near.getD i 0) j || hasB N j

theorem free_eq {P : Program} {ops : Array Oper} {M : RegM} (hM : M.ok P ops = true) {listed : Array Bool} {N : Nat} (h : Rep listed ops.size N) {i : Nat} (hi : i < ops.size) : freeN M ops.size N i = Region.free .any ops listed i := by
  unfold RegM.ok at hM
  simp only [Bool.and_eq_true] at hM
  have hn := eqL.out hM.1.2
  have e : M.near.getD i 0 = nearOf ops i := by rw [hn]; simp [hi]
  unfold freeN Region.free
  rw [e, Array.getElem?_eq_getElem hi]
  simp only
  rw [Bool.eq_iff_iff, List.all_eq_true, List.all_eq_true]
  refine forall_congr' fun j => forall_congr' fun hj => ?_
  have hj := List.mem_range.1 hj
  rw [h.bitT hj, Array.getElem?_eq_getElem hj]
  unfold hasB nearOf
  rw [testBit_fold (fun j => Nat.beq j i || (match ops[i]?, ops[j]? with
    | some oi, some oj => oj.after.any (fun e => Region.binds .any e && e.on == i) || oi.apart ops oj
    | _, none => true
    | none, _ => false)) (fun j => j) j]
  rw [Nat.zero_testBit, Bool.false_or]
  have any_eq : ∀ p : Nat → Bool, ((List.range ops.size).any fun e => p e && e == j) = p j := fun p => by
    rw [Bool.eq_iff_iff, List.any_eq_true]
    constructor
    · rintro ⟨k, _, hk⟩
      simp only [Bool.and_eq_true, beq_iff_eq] at hk
      rw [← hk.2]; exact hk.1
    · intro hp
      exact ⟨j, List.mem_range.2 hj, by simp [hp]⟩
  rw [any_eq]
  simp only [Array.getElem?_eq_getElem hi, Array.getElem?_eq_getElem hj]
  have hb : (Nat.beq j i) = (j == i) := by rw [Bool.eq_iff_iff, Nat.beq_eq, beq_iff_eq]
  rw [hb]
  cases (j == i) <;> cases N.testBit j <;> simp

def okN (M : RegM) (pres : Bool) (n N i : Nat) : Bool :=
  freeN M n N i && (match M.kinds.getD i 2 with
    | 0 => true
    | _ => match pres with
      | true => true
      | false => blockedN M n N i)

def presN (M : RegM) (pres : Bool) (n N i : Nat) : Bool := match pres with
  | false => false
  | true => match M.kinds.getD i 2 with
    | 0 => false
    | _ => !blockedN M n N i

def aheadN (M : RegM) (n N i : Nat) : Bool := (fun C : Nat => (readyN M n C).all (fun j => Nat.beq j i)) (closeN M n i n N)
def growN (M : RegM) (n N i : Nat) (W : Nat → Bool) : Nat → Bool := match aheadN M n N i with
  | true => (fun C : Nat => fun j => W j || hasB C j) (closeN M n i n N)
  | false => fun _ => true
def nextN (M : RegM) (pres : Bool) (n N i : Nat) (W : Nat → Bool) : Nat → Bool := match presN M pres n N i with
  | true => growN M n N i W
  | false => W
theorem ahead_eq {P : Program} {ops : Array Oper} {M : RegM} (hM : M.ok P ops = true) {listed : Array Bool} {N : Nat} (h : Rep listed ops.size N) {i : Nat} : aheadN M ops.size N i = aheadB ops listed i := by
  have hc := close_eq hM i ops.size h
  unfold aheadN aheadB
  simp only
  rw [ready_eq hM hc]
theorem grow_eq {P : Program} {ops : Array Oper} {M : RegM} (hM : M.ok P ops = true) {listed : Array Bool} {N : Nat} (h : Rep listed ops.size N) {i : Nat} {W : Nat → Bool} : growN M ops.size N i W = growW ops listed i W := by
  have hc := close_eq hM i ops.size h
  unfold growN growW
  rw [ahead_eq hM h]
  cases aheadB ops listed i
  · rfl
  · simp only
    funext j
    rw [hc.bit]
    rfl

def DMixN (P : Program) (B : Base) (ops : Array Oper) (M : RegM) (n : Nat) (pres : Bool) (S : Nat → Prop) (E : List PanicEntry → List Deferred → World → Prop) (Q : Bnd → List Deferred → World → Prop) : (Nat → Bool) → Nat → Nat → Bnd → List Deferred → World → Prop
  | W, 0, N, e, ds, w => must (readyN M n N).isEmpty (Q e ds w)
  | W, f + 1, N, e, ds, w => match pickN M (readyN M n N) with
    | some i => must (okN M pres n N i) (match ops[i]? with
      | none => False
      | some o => guardD ops o B e (fun e => DOpS P B o (presN M pres n N i) S (fun e => DMixN P B ops M n pres S E Q (nextN M pres n N i W) f (Nat.lor N (bit i)) e ds w) e w)
          (fun e => DMixN P B ops M n pres S E Q W f (Nat.lor N (bit i)) (putE e o.dst undef) ds w))
    | none => match readyN M n N with
      | [] => Q e ds w
      | rs => allOf rs fun i => match ops[i]? with
        | none => False
        | some o => guardD ops o B e (fun e => DOp P ops B o (fun x _ _ ds w => match x with
          | .panic ch => E ch ds w
          | _ => False) (fun e ds w1 => turnM (pres && W i) S w w1 (DMixN P B ops M n pres S E Q W f (Nat.lor N (bit i)) e ds w1)) e ds w)
          (fun e => DMixN P B ops M n pres S E Q W f (Nat.lor N (bit i)) (putE e o.dst undef) ds w)

theorem allOf_congr {φ ψ : Nat → Prop} : ∀ {l : List Nat}, (∀ i ∈ l, φ i = ψ i) → allOf l φ = allOf l ψ
  | [], _ => rfl
  | [i], h => by
    unfold allOf
    exact h i (List.mem_cons_self ..)
  | i :: j :: r, h => by
    unfold allOf
    rw [h i (List.mem_cons_self ..), allOf_congr fun k hk => h k (List.mem_cons_of_mem _ hk)]

theorem DMixN_eq {P : Program} {B : Base} {ops : Array Oper} {M : RegM} (hM : M.ok P ops = true) {pres : Bool} {S : Nat → Prop} {E : List PanicEntry → List Deferred → World → Prop} {Q : Bnd → List Deferred → World → Prop} : ∀ (W : Nat → Bool) (f : Nat) {listed : Array Bool} {N : Nat}, Rep listed ops.size N →
    DMixN P B ops M ops.size pres S E Q W f N = DMix P B ops pres S E Q W f listed
  | W, 0, listed, N, h => by
    funext e ds w
    unfold DMixN DMix
    rw [ready_eq hM h]
  | W, f + 1, listed, N, h => by
    have ih : ∀ W i, i < ops.size → DMixN P B ops M ops.size pres S E Q W f (Nat.lor N (bit i)) = DMix P B ops pres S E Q W f (listed.setIfInBounds i true) := fun W i hi => DMixN_eq hM W f (h.set hi)
    have hp : pickN M (readyN M ops.size N) = pickS P ops (readyN M ops.size N) := pick_eq hM _ fun i hi => ready_lt hi
    funext e ds w
    unfold DMixN DMix
    rw [ready_eq hM h, hp]
    cases hpk : pickS P ops (readyN M ops.size N) with
    | some i =>
      have hi : i < ops.size := ready_lt (pickS_some hpk).1
      have h1 : okN M pres ops.size N i = okS P ops pres listed i := by
        unfold okN okS
        rw [free_eq hM h hi, (still_eq hM hi).1, blocked_eq hM h hi]
        try (cases kindAt P ops i <;> cases pres <;> rfl)
      have h2 : presN M pres ops.size N i = presAt P ops pres listed i := by
        unfold presN presAt
        rw [(still_eq hM hi).1, blocked_eq hM h hi]
      have h3 : nextN M pres ops.size N i W = nextW P ops pres listed i W := by
        unfold nextN nextW
        rw [h2, grow_eq hM h]
      simp only [h1, h2, h3, ih _ i hi]
      try (cases ops[i]? <;> rfl)
    | none =>
      cases hrs : readyN M ops.size N with
      | nil => rfl
      | cons a r =>
        simp only
        refine allOf_congr fun i hi => ?_
        have hi : i < ops.size := ready_lt (by rw [hrs]; exact hi)
        simp only [ih _ i hi]
        try (cases ops[i]? <;> rfl)
def seekM (l : List (Nat × RegM)) (k : Nat) : Option RegM := match l with
  | [] => none
  | (j, M) :: r => match Nat.beq j k with
    | true => some M
    | false => seekM r k

theorem Rep.init (n : Nat) : Rep (Array.replicate n false) n 0 := ⟨by simp, fun i => by
  rw [Nat.zero_testBit]
  by_cases h : i < n
  · simp [h]
  · simp [h]⟩

/-! ### code -/

/-- the first region's number: by it a loop, or what stands behind a fork, is told -/
def key : Code → Option Nat
  | .region id _ _ => some id
  | .seq x y => match key x with
    | some k => some k
    | none => key y
  | .cond _ x y => match key x with
    | some k => some k
    | none => key y
  | .block _ c => key c
  | .loop c => key c
  | .scope c => key c
  | _ => none

def wrOps : List Oper → List Nat
  | [] => []
  | o :: r => match o.dst with
    | some d => d :: wrOps r
    | none => wrOps r

def writes : Code → List Nat
  | .region _ ops _ => wrOps ops.toList
  | .seq x y => writes x ++ writes y
  | .cond _ x y => writes x ++ writes y
  | .block _ c => writes c
  | .loop c => writes c
  | .scope c => writes c
  | _ => []

theorem mem_wrOps {l : List Oper} {o : Oper} (h : o ∈ l) {d : Nat} (hd : o.dst = some d) : d ∈ wrOps l := by
  induction l with
  | nil => cases h
  | cons x r ih =>
    unfold wrOps
    cases h with
    | head => rw [hd]; exact List.mem_cons_self ..
    | tail _ h => split <;> simp [ih h]

/-- which slots a loop, or what stands behind a fork, goes by, and their shapes -/
structure Ann where
  loops : List (Nat × List (Nat × Value))
  forks : List (Nat × List (Nat × Value))
  keeps : List Nat
  lates : List Nat
  masks : List (Nat × RegM)

def seek (l : List (Nat × List (Nat × Value))) (k : Option Nat) : Option (List (Nat × Value)) := match k with
  | none => none
  | some k => match l with
    | [] => none
    | (i, x) :: r => match Nat.beq i k with
      | true => some x
      | false => seek r (some k)

def memb (W : List Nat) (t : Nat) : Bool := match W with
  | [] => false
  | d :: r => match Nat.beq d t with
    | true => true
    | false => memb r t

def filterK (W : List Nat) : Bnd → (Bnd → Prop) → Prop
  | [], κ => κ []
  | (d, v) :: r, κ => match memb W d with
    | true => filterK W r κ
    | false => filterK W r fun l => κ ((d, v) :: l)

def Fn : List Value → Type → Type
  | [], ρ => ρ
  | z :: zs, ρ => match z with
    | .int _ _ => Int → Fn zs ρ
    | .bool _ => Bool → Fn zs ρ
    | .string _ => ByteArray → Fn zs ρ
    | .slice _ _ _ => Option Addr → Nat → Nat → Fn zs ρ
    | .pointer _ => Option Addr → Fn zs ρ
    | .map _ => Option Nat → Fn zs ρ
    | _ => Value → Fn zs ρ

/-- a relation on values of those shapes, asked of values; of other shapes it says no -/
def ap : (zs : List Value) → Fn zs (World → Prop) → List Value → World → Prop
  | [], I, _, w => I w
  | z :: zs, I, vs, w => match vs with
    | [] => False
    | v :: vs => match z, I with
      | .int k _, I => match v with
        | .int k' n => must (decide (k' = k)) (ap zs (I n) vs w)
        | _ => False
      | .bool _, I => match v with
        | .bool b => ap zs (I b) vs w
        | _ => False
      | .string _, I => match v with
        | .string s => ap zs (I s) vs w
        | _ => False
      | .slice _ _ _, I => match v with
        | .slice a n c => ap zs (I a n c) vs w
        | _ => False
      | .pointer _, I => match v with
        | .pointer p => ap zs (I p) vs w
        | _ => False
      | .map _, I => match v with
        | .map r => ap zs (I r) vs w
        | _ => False
      | .float _ _, I => ap zs (I v) vs w
      | .complex _ _ _, I => ap zs (I v) vs w
      | .chan _, I => ap zs (I v) vs w
      | .func _ _ _, I => ap zs (I v) vs w
      | .nilFunc, I => ap zs (I v) vs w
      | .iface _ _, I => ap zs (I v) vs w
      | .nilIface, I => ap zs (I v) vs w
      | .agg _, I => ap zs (I v) vs w
      | .tuple _, I => ap zs (I v) vs w


def allT : List Value → (List Value → Prop) → Prop
  | [], φ => φ []
  | z :: zs, φ => match z with
    | .int k _ => ∀ n, allT zs fun l => φ (.int k n :: l)
    | .bool _ => ∀ b, allT zs fun l => φ (.bool b :: l)
    | .string _ => ∀ s, allT zs fun l => φ (.string s :: l)
    | .slice _ _ _ => ∀ a n c, allT zs fun l => φ (.slice a n c :: l)
    | .pointer _ => ∀ p, allT zs fun l => φ (.pointer p :: l)
    | .map _ => ∀ r, allT zs fun l => φ (.map r :: l)
    | _ => ∀ v, allT zs fun l => φ (v :: l)

theorem ap.all : ∀ {zs : List Value} {I : Fn zs (World → Prop)} {vs : List Value} {w : World} {φ : List Value → Prop}, vs.length = zs.length → ap zs I vs w → allT zs φ → φ vs
  | [], I, vs, w, φ, hl, _, h => by
    cases vs with
    | nil => exact h
    | cons v vs => simp at hl
  | z :: zs, I, vs, w, φ, hl, hI, h => by
    cases vs with
    | nil => simp at hl
    | cons v vs =>
      have hl' : vs.length = zs.length := by simpa using hl
      cases z <;> simp only [allT] at h
      case int k _ =>
        cases v <;> try exact hI.elim
        rename_i k' n
        obtain ⟨hk, hI⟩ := must.out hI
        obtain rfl := of_decide_eq_true hk
        exact ap.all (φ := fun l => φ (.int k' n :: l)) hl' hI (h n)
      case bool =>
        cases v <;> try exact hI.elim
        rename_i x
        exact ap.all (φ := fun l => φ (.bool x :: l)) hl' hI (h x)
      case string =>
        cases v <;> try exact hI.elim
        rename_i x
        exact ap.all (φ := fun l => φ (.string x :: l)) hl' hI (h x)
      case slice =>
        cases v <;> try exact hI.elim
        rename_i x y u
        exact ap.all (φ := fun l => φ (.slice x y u :: l)) hl' hI (h x y u)
      case pointer =>
        cases v <;> try exact hI.elim
        rename_i x
        exact ap.all (φ := fun l => φ (.pointer x :: l)) hl' hI (h x)
      case map =>
        cases v <;> try exact hI.elim
        rename_i x
        exact ap.all (φ := fun l => φ (.map x :: l)) hl' hI (h x)
      all_goals exact ap.all (φ := fun l => φ (v :: l)) hl' hI (h v)

theorem memb_iff {W : List Nat} {t : Nat} : memb W t = true ↔ t ∈ W := by
  induction W with
  | nil => simp [memb]
  | cons d r ih =>
    unfold memb
    cases h : Nat.beq d t with
    | true =>
      have := Nat.eq_of_beq_eq_true h
      simp [this]
    | false =>
      have : d ≠ t := by rintro rfl; simp at h
      simp only [ih, List.mem_cons]
      constructor
      · exact .inr
      · rintro (rfl | h)
        · exact absurd rfl this
        · exact h

theorem filterK.out {W : List Nat} : ∀ {e : Bnd} {κ : Bnd → Prop}, filterK W e κ → ∃ e1, (∀ B t, t ∉ W → get B e1 t = get B e t) ∧ (∀ B t, t ∈ W → get B e1 t = B t) ∧ κ e1
  | [], κ, h => ⟨[], fun _ _ _ => rfl, fun _ _ _ => rfl, h⟩
  | (d, v) :: r, κ, h => by
    unfold filterK at h
    split at h
    · rename_i hm
      have hd : d ∈ W := memb_iff.1 hm
      obtain ⟨e1, h1, h2, h⟩ := filterK.out h
      refine ⟨e1, fun B t ht => ?_, h2, h⟩
      rw [h1 B t ht, get_cons, if_neg (by rintro rfl; exact ht hd)]
    · rename_i hm
      have hd : d ∉ W := fun hd => by rw [memb_iff.2 hd] at hm; cases hm
      obtain ⟨e1, h1, h2, h⟩ := filterK.out h
      refine ⟨(d, v) :: e1, fun B t ht => ?_, fun B t ht => ?_, h⟩
      · rw [get_cons, get_cons, h1 B t ht]
      · rw [get_cons, if_neg (by rintro rfl; exact hd ht), h2 B t ht]

def zsOf : List (Nat × Value) → List Value
  | [] => []
  | (_, z) :: r => z :: zsOf r

def vals (B : Base) (e : Bnd) : List (Nat × Value) → List Value
  | [] => []
  | (t, _) :: r => get B e t :: vals B e r

def bindS : List (Nat × Value) → List Value → Bnd → Bnd
  | (t, _) :: r, v :: vs, e => (t, v) :: bindS r vs e
  | _, _, e => e

theorem vals_length (B : Base) (e : Bnd) : ∀ S, (vals B e S).length = (zsOf S).length
  | [] => rfl
  | (_, _) :: r => by simp [vals, zsOf, vals_length B e r]

theorem get_bindS (B : Base) (f : Nat → Value) (e : Bnd) : ∀ (S : List (Nat × Value)) (t : Nat), (∀ u, get B e u = f u) → get B (bindS S (S.map fun p => f p.1) e) t = f t
  | [], t, h => h t
  | (d, z) :: r, t, h => by
    show get B ((d, f d) :: bindS r (r.map fun p => f p.1) e) t = _
    rw [get_cons]
    split
    · rename_i e1; rw [e1]
    · exact get_bindS B f e r t h

theorem vals_eq (B : Base) (e : Bnd) : ∀ S, vals B e S = S.map fun p => get B e p.1
  | [] => rfl
  | (_, _) :: r => by simp [vals, vals_eq B e r]

def dsEq (ds' ds : List Deferred) (X : Prop) : Prop := match ds', ds with
  | [], [] => X
  | ds', ds => ds' = ds ∧ X

theorem dsEq.out {ds' ds : List Deferred} {X : Prop} (h : dsEq ds' ds X) : ds' = ds ∧ X := by
  unfold dsEq at h
  split at h
  · exact ⟨rfl, h⟩
  · exact h

def seqQ (y : Base → Bnd → List Deferred → World → Prop) (Q : Post) : Post := fun x B e ds w => match x with
  | .normal => y B e ds w
  | .exit id => Q (.exit id) B e ds w
  | .goto l => Q (.goto l) B e ds w
  | .ret => Q .ret B e ds w
  | .panic ch => Q (.panic ch) B e ds w
  | .outgrown => False

def blockQ (id : Nat) (Q : Post) : Post := fun x B e ds w => match x with
  | .exit id' => match Nat.beq id' id with
    | true => Q .normal B e ds w
    | false => Q (.exit id') B e ds w
  | .normal => Q .normal B e ds w
  | .goto l => Q (.goto l) B e ds w
  | .ret => Q .ret B e ds w
  | .panic ch => Q (.panic ch) B e ds w
  | .outgrown => False

/-- a scope: no way out of it by a jump -/
def scopeQ (Q : Post) : Post := fun x B e ds w => match x with
  | .goto _ => False
  | x => Q x B e ds w

def D (P : Program) (A : Ann) : Code → Post → Base → Bnd → List Deferred → World → Prop
  | .skip, Q, B, e, ds, w => Q .normal B e ds w
  | .label _, Q, B, e, ds, w => Q .normal B e ds w
  | .exit id, Q, B, e, ds, w => Q (.exit id) B e ds w
  | .ret, Q, B, e, ds, w => Q .ret B e ds w
  | .region id ops draw, Q, B, e, ds, w => match draw with
    | false => DOps P B ops Q ops.toList (fun e ds w => Q .normal B e ds w) e ds w
    | true => match hasTurn P ops.toList with
      | false => must (Region.lexB .any ops) (DOpsQ P B ops ops.toList (fun e => ∀ w', Drew w w' → Q .normal B e ds w') e w)
      | true => must (Region.noSelect ops) (match seekM A.masks id with
        | none => match memb A.keeps id with
          | true => ∀ w', Drew w w' → ∃ S : Nat → Prop, DMix P B ops true S (fun ch ds w => ∀ B e, Q (.panic ch) B e ds w) (fun e ds w => Q .normal B e ds w) (fun _ => !memb A.lates id) ops.size (Array.replicate ops.size false) e ds w'
          | false => ∀ w', Drew w w' → DMix P B ops false (fun _ => False) (fun ch ds w => ∀ B e, Q (.panic ch) B e ds w) (fun e ds w => Q .normal B e ds w) (fun _ => true) ops.size (Array.replicate ops.size false) e ds w'
        | some M => must (M.ok P ops) (match memb A.keeps id with
          | true => ∀ w', Drew w w' → ∃ S : Nat → Prop, DMixN P B ops M ops.size true S (fun ch ds w => ∀ B e, Q (.panic ch) B e ds w) (fun e ds w => Q .normal B e ds w) (fun _ => !memb A.lates id) ops.size 0 e ds w'
          | false => ∀ w', Drew w w' → DMixN P B ops M ops.size false (fun _ => False) (fun ch ds w => ∀ B e, Q (.panic ch) B e ds w) (fun e ds w => Q .normal B e ds w) (fun _ => true) ops.size 0 e ds w'))
  | .seq x y, Q, B, e, ds, w => match seek A.forks (key y) with
    | none => D P A x (seqQ (fun B e ds w => D P A y Q B e ds w) Q) B e ds w
    | some S => ∃ J : Fn (zsOf S) (World → Prop), D P A x (seqQ (fun B' e' ds' w' => dsEq ds' ds (ap (zsOf S) J (vals B' e' S) w')) Q) B e ds w ∧
        filterK (writes x) e fun e1 => allT (zsOf S) fun vs => ∀ (B' : Base) (w' : World), ap (zsOf S) J vs w' → D P A y Q B' (bindS S vs e1) ds w'
  | .cond c x y, Q, B, e, ds, w => match ev B e c with
    | .bool b => PIf b (D P A x Q B e ds w) (D P A y Q B e ds w)
    | _ => False
  | .block id c, Q, B, e, ds, w => D P A c (blockQ id Q) B e ds w
  | .scope c, Q, B, e, ds, w => D P A c (scopeQ Q) B e ds w
  | .loop c, Q, B, e, ds, w => match seek A.loops (key c) with
    | none => False
    | some S => ∃ I : Nat → Fn (zsOf S) (World → Prop), (∃ m, ap (zsOf S) (I m) (vals B e S) w) ∧
        ∀ m, filterK (writes c) e fun e1 => allT (zsOf S) fun vs => ∀ (B' : Base) (w' : World), ap (zsOf S) (I m) vs w' →
          D P A c (seqQ (fun B' e' ds' w' => dsEq ds' ds (∃ m', m' < m ∧ ap (zsOf S) (I m') (vals B' e' S) w')) Q) B' (bindS S vs e1) ds w'
  | _, _, _, _, _, _ => False

theorem PostA.mono {n : Nat} {B0 B1 : Base} {e0 e1 : Bnd} {W W' : List Nat} {Q Q' : Post} {x : Exit} {a : Act} {w : World} (h : PostA n B1 e1 W Q x a w)
    (hW : ∀ t, t ∈ W → t ∈ W') (hag : ∀ t, t ∉ W' → get B1 e1 t = get B0 e0 t) (hQ : ∀ B e ds w, Q x B e ds w → Q' x B e ds w) : PostA n B0 e0 W' Q' x a w := by
  obtain ⟨B, e, hr, ha, hq⟩ := h
  exact ⟨B, e, hr, fun t ht => (ha t (fun hm => ht (hW t hm))).trans (hag t ht), hQ _ _ _ _ hq⟩

theorem get_base {B B' : Base} {x : Value} {t : Nat} : ∀ {e : Bnd}, get B e t = x → B' t = x → get B' e t = x
  | [], _, h => h
  | (d, v) :: r, h, h' => by
    rw [get_cons] at h ⊢
    split
    · rename_i e1; rw [if_pos e1] at h; exact h
    · rename_i e1; rw [if_neg e1] at h; exact get_base h h'

/-- the frame at the head of a loop, or behind a fork -/
theorem head_rel {n : Nat} {B0 : Base} {e0 e1 : Bnd} {W : List Nat} (S : List (Nat × Value)) {a : Act} (hsz : a.tmps.size = n)
    (h1 : ∀ B t, t ∉ W → get B e1 t = get B e0 t) (h2 : ∀ B t, t ∈ W → get B e1 t = B t)
    (hB : ∀ t, t ∉ W → a.tmps.getD t undef = get B0 e0 t) :
    Rel n (fun t => a.tmps.getD t undef) (bindS S (S.map fun p => a.tmps.getD p.1 undef) e1) a := by
  refine ⟨hsz, fun t => (get_bindS _ (fun t => a.tmps.getD t undef) e1 S t fun u => ?_).symm⟩
  by_cases hu : u ∈ W
  · rw [h2 _ u hu]
  · rw [h1 _ u hu]
    exact get_base (hB u hu).symm rfl

theorem vals_rel {n : Nat} {B : Base} {e : Bnd} {a : Act} (h : Rel n B e a) : ∀ S : List (Nat × Value), vals B e S = S.map fun p => a.tmps.getD p.1 undef := fun S => by
  rw [vals_eq]
  exact List.map_congr_left fun p _ => (h.slot p.1).symm

theorem wpQuiet_mono {P : Program} {ops : Array Oper} {C : World → Prop} {Q Q' : Act → Prop} (h : ∀ a, Q a → Q' a) : ∀ (l : List Oper) (a : Act), wpQuiet P ops C Q l a → wpQuiet P ops C Q' l a
  | [], a, hq => h a hq
  | o :: rest, a, hq => by
    unfold wpQuiet at hq ⊢
    split
    · rename_i hw
      rw [if_pos hw] at hq
      exact Oper.quiet_mono (wpQuiet_mono h rest) hq
    · rename_i hw
      rw [if_neg hw] at hq
      exact wpQuiet_mono h rest _ hq

theorem D_wp {P : Program} (hm : P.follows .mixedOrders = true) {A : Ann} {n : Nat} : ∀ (c : Code) (Q : Post) (B : Base) (e : Bnd) (a : Act) (w : World),
    (∀ t, t ∈ writes c → t < n) → (∀ x B e ds w, Q x B e ds w → x ≠ .outgrown) → Rel n B e a → D P A c Q B e a.defers w → c.wp P (PostA n B e (writes c) Q) a w := by
  intro c
  induction c with
  | skip => intro Q B e a w _ _ hr h; exact wp_skip ⟨B, e, hr, fun _ _ => rfl, h⟩
  | label l => intro Q B e a w _ _ hr h; exact wp_label ⟨B, e, hr, fun _ _ => rfl, h⟩
  | exit id => intro Q B e a w _ _ hr h; exact wp_exit ⟨B, e, hr, fun _ _ => rfl, h⟩
  | ret => intro Q B e a w _ _ hr h; exact wp_ret ⟨B, e, hr, fun _ _ => rfl, h⟩
  | goto l => intro Q B e a w _ _ hr h; exact h.elim
  | refuse why => intro Q B e a w _ _ hr h; exact h.elim
  | scope c ih =>
    intro Q B e a w hw hQ hr h
    refine wp_scope_straight (Code.wp_mono ?_ (ih (scopeQ Q) B e a w hw (by intro ex B e ds w hq he; subst he; exact hQ _ _ _ _ _ hq rfl) hr h))
    intro ex a' w' hp
    obtain ⟨B1, e1, hr1, hag1, hq⟩ := hp
    cases ex with
    | goto l => exact hq.elim
    | normal => exact ⟨B1, e1, hr1, hag1, hq⟩
    | exit id => exact ⟨B1, e1, hr1, hag1, hq⟩
    | ret => exact ⟨B1, e1, hr1, hag1, hq⟩
    | panic ch => exact ⟨B1, e1, hr1, hag1, hq⟩
    | outgrown => exact ⟨B1, e1, hr1, hag1, hq⟩
  | rangeFunc f ps x y ih1 ih2 => intro Q B e a w _ _ hr h; exact h.elim
  | region id ops draw =>
    intro Q B e a w hw _ hr h
    have hl : ∀ o ∈ ops.toList, ∀ d, o.dst = some d → d < n ∧ d ∈ writes (.region id ops draw) := fun o ho d hd => ⟨hw d (mem_wrOps ho hd), mem_wrOps ho hd⟩
    have hops : ∀ j t, gslot ops j = some t → t < n := by
      intro j t hj
      unfold gslot at hj
      cases ho : ops[j]? with
      | none => rw [ho] at hj; simp at hj
      | some o =>
        rw [ho] at hj
        have hmem : o ∈ ops.toList := by
          have := Array.getElem?_eq_some_iff.1 ho
          obtain ⟨hlt, rfl⟩ := this
          simp
        exact (hl o hmem t hj).1
    cases draw with
    | false => exact wp_region_list (DOps_wp hops ops.toList e a w hl hr (fun _ _ => rfl) h)
    | true =>
      unfold D at h
      simp only at h
      split at h
      · obtain ⟨hB, h⟩ := must.out h
        refine wp_region_quiet (C := Drew w) hm hB ⟨1, rfl⟩ ?_
        have := DOpsQ_quiet (B0 := B) (e0 := e) (W := writes (.region id ops true)) hops ops.toList e a hl hr (fun _ _ => rfl) h
        refine wpQuiet_mono ?_ _ _ this
        rintro a' ⟨e', hr', hd', hag', hq⟩ w' hw'
        exact ⟨B, e', hr', hag', by rw [hd']; exact hq w' hw'⟩
      · obtain ⟨hsel, h⟩ := must.out h
        have fin : ∀ (pres : Bool) (S : Nat → Prop) (V : Nat → Bool), DMix P B ops pres S (fun ch ds w => ∀ B e, Q (.panic ch) B e ds w) (fun e ds w => Q .normal B e ds w) V ops.size (Array.replicate ops.size false) e a.defers (w.drewN 1) → (Code.region id ops true).wp P (PostA n B e (writes (.region id ops true)) Q) a w := fun pres S V h =>
          wp_region_any hm (wpAny_of_M (fun ch a w h => PanA.post ch a w h) (fun _ _ h => h) _ _ _ _ _ (DMix_wp (B0 := B) (e0 := e) (W := writes (.region id ops true)) hops hsel hl V _ _ e a _ hr (fun _ _ => rfl) h))
        split at h
        · split at h
          · obtain ⟨S, h⟩ := h _ ⟨1, rfl⟩
            exact fin _ S _ h
          · exact fin _ _ _ (h _ ⟨1, rfl⟩)
        · obtain ⟨hM, h⟩ := must.out h
          split at h
          · obtain ⟨S, h⟩ := h _ ⟨1, rfl⟩
            rw [DMixN_eq hM _ _ (Rep.init _)] at h
            exact fin _ S _ h
          · have h := h _ ⟨1, rfl⟩
            rw [DMixN_eq hM _ _ (Rep.init _)] at h
            exact fin _ _ _ h
  | seq x y ihx ihy =>
    intro Q B e a w hw hQ hr h
    have hwx : ∀ t, t ∈ writes x → t < n := fun t ht => hw t (List.mem_append.2 (.inl ht))
    have hwy : ∀ t, t ∈ writes y → t < n := fun t ht => hw t (List.mem_append.2 (.inr ht))
    have other : ∀ (N : Base → Bnd → List Deferred → World → Prop) (ex : Exit) (a' : Act) (w' : World), ex ≠ .normal → PostA n B e (writes x) (seqQ N Q) ex a' w' → PostA n B e (writes (x.seq y)) Q ex a' w' := by
      intro N ex a' w' hne hp
      refine hp.mono (fun t ht => List.mem_append.2 (.inl ht)) (fun _ _ => rfl) fun B1 e1 ds1 w1 hq => ?_
      cases ex with
      | normal => exact absurd rfl hne
      | outgrown => exact hq.elim
      | _ => exact hq
    have hsq : ∀ (N : Base → Bnd → List Deferred → World → Prop) ex B e ds w, seqQ N Q ex B e ds w → ex ≠ .outgrown := by
      intro N ex B e ds w hq he
      subst he
      exact hq.elim
    unfold D at h
    split at h
    · have hx := ihx _ B e a w hwx (hsq _) hr h
      refine wp_seq (Code.wp_mono ?_ hx)
      intro ex a' w' hp
      cases ex with
      | normal =>
        obtain ⟨B1, e1, hr1, hag1, hq⟩ := hp
        have hy := ihy Q B1 e1 a' w' hwy hQ hr1 hq
        refine Code.wp_mono (fun ex a'' w'' hp => ?_) hy
        refine hp.mono (fun t ht => List.mem_append.2 (.inr ht)) (fun t ht => hag1 t fun hm => ht (List.mem_append.2 (.inl hm))) fun _ _ _ _ hq => hq
      | exit id => exact other _ _ _ _ (by simp) hp
      | goto l => exact other _ _ _ _ (by simp) hp
      | ret => exact other _ _ _ _ (by simp) hp
      | panic ch => exact other _ _ _ _ (by simp) hp
      | outgrown => exact other _ _ _ _ (by simp) hp
    · rename_i S hS
      obtain ⟨J, h, hrest⟩ := h
      obtain ⟨e1, h1, h2, hrest⟩ := filterK.out hrest
      have hx := ihx _ B e a w hwx (hsq _) hr h
      refine wp_seq (Code.wp_mono ?_ hx)
      intro ex a' w' hp
      cases ex with
      | normal =>
        obtain ⟨B2, e2, hr2, hag2, hq⟩ := hp
        obtain ⟨hds, hJ⟩ := dsEq.out hq
        have hv := vals_rel hr2 S
        have hlen := vals_length B2 e2 S
        have hy0 := ap.all hlen hJ hrest (fun t => a'.tmps.getD t undef) w' hJ
        rw [hv, ← hds] at hy0
        have hr3 := head_rel (n := n) S hr2.size h1 h2 (B0 := B) (fun t ht => (hr2.slot t).trans (hag2 t ht))
        have hy := ihy Q _ _ a' w' hwy hQ hr3 hy0
        refine Code.wp_mono (fun ex a'' w'' hp => ?_) hy
        refine hp.mono (fun t ht => List.mem_append.2 (.inr ht)) (fun t ht => ?_) fun _ _ _ _ hq => hq
        rw [← hr3.slot]
        exact (hr2.slot t).trans (hag2 t fun hm => ht (List.mem_append.2 (.inl hm)))
      | exit id => exact other _ _ _ _ (by simp) hp
      | goto l => exact other _ _ _ _ (by simp) hp
      | ret => exact other _ _ _ _ (by simp) hp
      | panic ch => exact other _ _ _ _ (by simp) hp
      | outgrown => exact other _ _ _ _ (by simp) hp
  | cond c x y ihx ihy =>
    intro Q B e a w hw hQ hr h
    unfold D at h
    split at h
    · rename_i b hb
      refine wp_cond_split (t := b) (by rw [hr.eval]; exact hb) (fun ht => ?_) (fun hf => ?_)
      · subst ht
        refine Code.wp_mono (fun ex a' w' hp => ?_) (ihx Q B e a w (fun t ht => hw t (List.mem_append.2 (.inl ht))) hQ hr h)
        exact hp.mono (fun t ht => List.mem_append.2 (.inl ht)) (fun _ _ => rfl) fun _ _ _ _ hq => hq
      · subst hf
        refine Code.wp_mono (fun ex a' w' hp => ?_) (ihy Q B e a w (fun t ht => hw t (List.mem_append.2 (.inr ht))) hQ hr h)
        exact hp.mono (fun t ht => List.mem_append.2 (.inr ht)) (fun _ _ => rfl) fun _ _ _ _ hq => hq
    · exact h.elim
  | block id c ih =>
    intro Q B e a w hw hQ hr h
    refine wp_block (Code.wp_mono ?_ (ih (blockQ id Q) B e a w hw (by intro ex B e ds w hq he; subst he; exact hq.elim) hr h))
    intro ex a' w' hp
    obtain ⟨B1, e1, hr1, hag1, hq⟩ := hp
    cases ex with
    | exit id' =>
      show (if id' = id then _ else _)
      simp only [blockQ] at hq
      cases hb : Nat.beq id' id with
      | true =>
        rw [hb] at hq
        rw [if_pos (Nat.eq_of_beq_eq_true hb)]
        exact ⟨B1, e1, hr1, hag1, hq⟩
      | false =>
        rw [hb] at hq
        rw [if_neg (by rintro rfl; simp at hb)]
        exact ⟨B1, e1, hr1, hag1, hq⟩
    | normal => exact ⟨B1, e1, hr1, hag1, hq⟩
    | goto l => exact ⟨B1, e1, hr1, hag1, hq⟩
    | ret => exact ⟨B1, e1, hr1, hag1, hq⟩
    | panic ch => exact ⟨B1, e1, hr1, hag1, hq⟩
    | outgrown => exact hq.elim
  | loop c ih =>
    intro Q B e a w hw hQ hr h
    unfold D at h
    split at h
    · exact h.elim
    · rename_i S hS
      obtain ⟨I, ⟨m0, h0⟩, hround⟩ := h
      refine wp_loop_ghost (fun m a' w' => a'.tmps.size = n ∧ (∀ t, t ∉ writes c → a'.tmps.getD t undef = get B e t) ∧ a'.defers = a.defers ∧
        ap (zsOf S) (I m) (S.map fun p => a'.tmps.getD p.1 undef) w') m0 ⟨hr.size, fun t _ => hr.slot t, rfl, by rw [← vals_rel hr S]; exact h0⟩ ?_
      rintro m a' w' ⟨hsz, hag, hds, hI⟩
      obtain ⟨e1, h1, h2, hr0⟩ := filterK.out (hround m)
      have hlen : (S.map fun p => a'.tmps.getD p.1 undef).length = (zsOf S).length := by rw [← vals_length B e S, vals_eq]; simp
      have hb := ap.all hlen hI hr0 (fun t => a'.tmps.getD t undef) w' hI
      have hrel := head_rel (n := n) S hsz h1 h2 hag
      rw [← hds] at hb
      have hbody := ih _ _ _ a' w' hw (by intro ex B e ds w hq he; subst he; exact hq.elim) hrel hb
      refine Code.wp_mono ?_ hbody
      intro ex a'' w'' hp
      obtain ⟨B2, e2, hr2, hag2, hq⟩ := hp
      have hag3 : ∀ t, t ∉ writes c → get B2 e2 t = get B e t := fun t ht => (hag2 t ht).trans ((hrel.slot t).symm.trans (hag t ht))
      cases ex with
      | normal =>
        obtain ⟨hds2, m', hlt, hI'⟩ := dsEq.out hq
        refine ⟨m', hlt, hr2.size, fun t ht => (hr2.slot t).trans (hag3 t ht), hds2.trans hds, ?_⟩
        rw [← vals_rel hr2 S]
        exact hI'
      | outgrown => exact hq.elim
      | exit id => exact ⟨B2, e2, hr2, hag3, hq⟩
      | goto l => exact ⟨B2, e2, hr2, hag3, hq⟩
      | ret => exact ⟨B2, e2, hr2, hag3, hq⟩
      | panic ch => exact ⟨B2, e2, hr2, hag3, hq⟩

/-! ### a call -/

def resK (P : Program) : List ResultVar → Base → Bnd → World → (List Value → Prop) → Prop
  | [], _, _, _, κ => κ []
  | r :: rs, B, e, w, κ => match r with
    | .tmp t => resK P rs B e w fun l => κ (get B e t :: l)
    | .cell a t => must (known P t) (PLd P t (get B e a) w fun v => resK P rs B e w fun l => κ (v :: l))

def oneOf (l : List Value) : Value := match l with
  | [v] => v
  | l => .tuple l.toArray

/-- what was deferred, one behind the other; then the function is left -/
def Lv (P : Program) (ret : World → Prop) (pan : List PanicEntry → World → Prop) : List Deferred → FrameMode → World → Prop
  | [], .returning, w => ret w
  | [], .panicking chain, w => pan chain w
  | [], .run, _ => False
  | d :: ds, u, w => u ≠ .run ∧ ∃ g cap, d.target = .fn (.func g) cap ∧ enters P g = true ∧
      CallsD P g (d.args ++ cap) u w fun e u' w' => onEnd e (fun _ => Lv P ret pan ds (settle u') w') (fun ch => Lv P ret pan ds (raised u' ch) w')

def LeavesE (P : Program) (fn : Func) (B : Base) (e : Bnd) (R : Ending → World → Prop) (ds : List Deferred) (u : FrameMode) (w : World) : Prop :=
  Lv P (fun w => resK P fn.results.toList B e w fun l => R (.returned (oneOf l)) w) (fun ch w => R (.panicked ch) w) ds u w

def topQ (P : Program) (fn : Func) (R : Ending → World → Prop) : Post := fun x B e ds w => match x with
  | .normal => LeavesE P fn B e R ds .returning w
  | .ret => LeavesE P fn B e R ds .returning w
  | .panic ch => LeavesE P fn B e R ds (.panicking ch) w
  | _ => False

def readR (tmps : Array Value) : ResultVar → Sem Value
  | .tmp t => pure (tmps.getD t undef)
  | .cell a t => do loadVar t (← asAddr (tmps.getD a undef))

theorem resK_run {P : Program} {B : Base} {e : Bnd} {n : Nat} {a : Act} (hr : Rel n B e a) {w : World} : ∀ {rs : List ResultVar} {κ : List Value → Prop}, resK P rs B e w κ →
    ∃ l, (rs.mapM (readR a.tmps)).run P w = Result.ok l w ∧ κ l
  | [], κ, h => ⟨[], by rw [List.mapM_nil]; rfl, h⟩
  | r :: rs, κ, h => by
    unfold resK at h
    cases r with
    | tmp t =>
      obtain ⟨l, hl, h⟩ := resK_run hr h
      refine ⟨_, ?_, h⟩
      rw [List.mapM_cons]
      simp only [readR, Sem.run_bind, Sem.run_pure, Result.andThen_ok, hl, hr.slot]
    | cell c t =>
      obtain ⟨hb, h⟩ := must.out h
      obtain ⟨v, hv, h⟩ := PLd.out (known.out hb).1 h
      obtain ⟨l, hl, h⟩ := resK_run hr h
      refine ⟨_, ?_, h⟩
      rw [List.mapM_cons]
      have hv' := hv w rfl
      rw [← hr.slot] at hv'
      have : (readR a.tmps (.cell c t)).run P w = .ok v w := by
        unfold readR
        cases hx : a.tmps.getD c undef <;> rw [hx] at hv' <;> simp only [Instr.loadAt, Instr.sureAddr, stuck, Sem.run_bind, Sem.run_halt, Result.andThen, reduceCtorEq] at hv'
        rename_i p
        cases p with
        | none => simp at hv'
        | some p => show (do loadVar t (← asAddr (a.tmps.getD c undef)) : Sem Value).run P w = _
                    rw [hx]; simpa [asAddr] using hv'
      simp only [Sem.run_bind, this, Sem.run_pure, Result.andThen_ok, hl]

theorem results_run {P : Program} {fn : Func} {a : Act} {w : World} {l : List Value} (h : (fn.results.toList.mapM (readR a.tmps)).run P w = Result.ok l w) : (results fn a.tmps).run P w = .ok (oneOf l) w := by
  have h2 : (fn.results.mapM (readR a.tmps)).run P w = Result.ok l.toArray w := by
    rw [Array.mapM_eq_mapM_toList, Sem.run_map, h]
    rfl
  have h3 : (results fn a.tmps) = (fn.results.mapM (readR a.tmps) >>= fun vs => pure (if h : vs.size = 1 then vs[0] else Value.tuple vs)) := by
      unfold results
      congr 2
  rw [h3]
  simp only [Sem.run_bind, h2, Result.andThen_ok, Sem.run_pure]
  congr 1
  match l with
  | [] => rfl
  | [v] => rfl
  | v :: u :: r =>
    rw [dif_neg (by simp)]
    rfl

theorem leaves_of {P : Program} {fn : Func} {B : Base} {e : Bnd} {n : Nat} {a : Act} (hr : Rel n B e a) {R : Ending → World → Prop} : ∀ (ds : List Deferred) (u : FrameMode) (w : World),
    LeavesE P fn B e R ds u w → Leaves P fn a.tmps R ds u w
  | [], .returning, w, h => by
    obtain ⟨l, hl, h⟩ := resK_run hr h
    exact ⟨_, results_run hl, h⟩
  | [], .panicking ch, w, h => h
  | [], .run, w, h => h.elim
  | d :: ds, u, w, h => by
    obtain ⟨hu, g, cap, ht, hb, hc⟩ := h
    refine ⟨hu, .func g, cap, g, d.args ++ cap, ht, ?_, ?_⟩
    · rw [ht]; simp only [invoke]; exact callFunc_run hb _ _
    · intro c cs hcm
      obtain ⟨x, u', w', fr, hR, rest⟩ := hc c cs hcm
      refine ⟨x, u', w', fr, ?_, rest⟩
      cases x with
      | returned v => exact leaves_of hr ds _ _ hR
      | panicked ch => exact leaves_of hr ds _ _ hR
      | outgrown => exact hR.elim

def bindArgs : Nat → List Value → Bnd
  | _, [] => []
  | i, v :: vs => (i, v) :: bindArgs (i + 1) vs

theorem get_bindArgs : ∀ (l : List Value) (i t : Nat), get (fun _ => undef) (bindArgs i l) t = if i ≤ t then l.getD (t - i) undef else undef
  | [], i, t => by simp [bindArgs, get]
  | v :: vs, i, t => by
    rw [bindArgs, get_cons, get_bindArgs vs (i + 1) t]
    by_cases h : i = t
    · subst h; simp
    · rw [if_neg h]
      by_cases h2 : i + 1 ≤ t
      · rw [if_pos h2, if_pos (by omega), show t - i = (t - (i + 1)) + 1 from by omega]; rfl
      · rw [if_neg h2, if_neg (by omega)]

def allLt (n : Nat) : List Nat → Bool
  | [] => true
  | d :: r => match Nat.blt d n with
    | true => allLt n r
    | false => false

theorem allLt_spec {n : Nat} : ∀ {W : List Nat}, allLt n W = true → ∀ t, t ∈ W → t < n
  | [], _, t, ht => by cases ht
  | d :: r, h, t, ht => by
    unfold allLt at h
    split at h
    · rename_i hd
      cases ht with
      | head => have : d + 1 ≤ n := by simpa [Nat.blt] using hd
                omega
      | tail _ ht => exact allLt_spec h t ht
    · cases h

/-- THE FORMULA IS ENOUGH -/
theorem D_calls {P : Program} (A : Ann) {f : FuncId} {fn : Func} {c : Code} {args : Array Value} {w : World} {R : Ending → World → Prop} (hm : P.follows .mixedOrders = true)
    (hf : P.funcs[f]? = some fn) (hb : fn.body = some c) (hn : args.size ≤ fn.ntmps) (hw : allLt fn.ntmps (writes c) = true)
    (h : D P A c (topQ P fn R) (fun _ => undef) (bindArgs 0 args.toList) [] w) : Calls P f args w R := by
  refine calls_of_wp_defers hf hb ?_
  have hrel : Rel fn.ntmps (fun _ => undef) (bindArgs 0 args.toList) { tmps := args ++ Array.replicate (fn.ntmps - args.size) undef, defers := [] } := by
    refine ⟨by simp; omega, fun t => ?_⟩
    rw [get_bindArgs, if_pos (Nat.zero_le _), Nat.sub_zero]
    simp only [Array.getD_eq_getD_getElem?, List.getD_eq_getElem?_getD, Array.getElem?_append, Array.getElem?_toList]
    by_cases ht : t < args.size
    · simp [ht]
    · rw [if_neg ht]
      simp only [Array.getElem?_replicate]
      have : args[t]? = none := by simp; omega
      rw [this]
      split <;> rfl
  refine Code.wp_mono ?_ (D_wp hm c (topQ P fn R) _ _ _ w (allLt_spec hw) (by intro x B e ds w hq he; subst he; exact hq.elim) hrel h)
  rintro x a' w' ⟨B, e, hr, _, hq⟩
  cases x with
  | normal => exact leaves_of hr _ _ _ hq
  | ret => exact leaves_of hr _ _ _ hq
  | panic ch => exact leaves_of hr _ _ _ hq
  | exit id => exact hq.elim
  | goto l => exact hq.elim
  | outgrown => exact hq.elim

/-! ### a deferred call -/

def topQD (P : Program) (fn : Func) (R : Ending → World → Prop) : Post := fun x B e ds w => match x with
  | .normal => (match ds with
    | [] => LeavesE P fn B e R [] .returning w
    | _ => False)
  | .ret => (match ds with
    | [] => LeavesE P fn B e R [] .returning w
    | _ => False)
  | .panic ch => (match ds with
    | [] => R (.panicked ch) w
    | _ => False)
  | _ => False

theorem topQD.out {P : Program} {fn : Func} {R : Ending → World → Prop} {x : Exit} {B : Base} {e : Bnd} {n : Nat} {a : Act} {w : World} (hr : Rel n B e a) (h : topQD P fn R x B e a.defers w) :
    a.defers = [] ∧ ((x = .normal ∨ x = .ret) ∧ (∃ v, (results fn a.tmps).run P w = .ok v w ∧ R (.returned v) w) ∨ ∃ ch, x = .panic ch ∧ R (.panicked ch) w) := by
  have fin : ∀ ds, a.defers = ds → (match ds with
    | [] => LeavesE P fn B e R [] .returning w
    | _ => False) → ds = [] ∧ ∃ v, (results fn a.tmps).run P w = .ok v w ∧ R (.returned v) w := by
    intro ds hds h
    split at h
    · obtain ⟨l, hl, h⟩ := resK_run hr h
      exact ⟨rfl, _, results_run hl, h⟩
    · exact h.elim
  unfold topQD at h
  split at h
  · obtain ⟨h1, h2⟩ := fin _ rfl h
    exact ⟨h1, .inl ⟨.inl rfl, h2⟩⟩
  · obtain ⟨h1, h2⟩ := fin _ rfl h
    exact ⟨h1, .inl ⟨.inr rfl, h2⟩⟩
  · split at h
    · rename_i hds
      exact ⟨hds, .inr ⟨_, rfl, h⟩⟩
    · exact h.elim
  · exact h.elim

theorem enter_rel {n : Nat} {args : Array Value} (hn : args.size ≤ n) (ds : List Deferred) : Rel n (fun _ => undef) (bindArgs 0 args.toList) { tmps := args ++ Array.replicate (n - args.size) undef, defers := ds } := by
  refine ⟨by simp; omega, fun t => ?_⟩
  rw [get_bindArgs, if_pos (Nat.zero_le _), Nat.sub_zero]
  simp only [Array.getD_eq_getD_getElem?, List.getD_eq_getElem?_getD, Array.getElem?_append, Array.getElem?_toList]
  by_cases ht : t < args.size
  · simp [ht]
  · rw [if_neg ht]
    simp only [Array.getElem?_replicate]
    have : args[t]? = none := by simp; omega
    rw [this]
    split <;> rfl

/-- a deferred function that neither defers nor recovers -/
theorem D_callsD {P : Program} (A : Ann) {f : FuncId} {fn : Func} {c : Code} {args : Array Value} {u : FrameMode} {w : World} {R : Ending → World → Prop} (hm : P.follows .mixedOrders = true)
    (hf : P.funcs[f]? = some fn) (hb : fn.body = some c) (hn : args.size ≤ fn.ntmps) (hw : allLt fn.ntmps (writes c) = true)
    (h : D P A c (topQD P fn R) (fun _ => undef) (bindArgs 0 args.toList) [] w) : CallsD P f args u w fun e u' w' => u' = u ∧ R e w' := by
  refine callsD_of_wp hf hb (Code.wp_mono ?_ (D_wp hm c (topQD P fn R) _ _ _ w (allLt_spec hw) (by intro x B e ds w hq he; subst he; exact hq.elim) (enter_rel hn []) h))
  rintro x a' w' ⟨B, e, hr, _, hq⟩
  obtain ⟨hd, (⟨rfl | rfl, h⟩ | ⟨ch, rfl, h⟩)⟩ := hq.out hr
  · exact ⟨hd, h⟩
  · exact ⟨hd, h⟩
  · exact ⟨hd, h⟩

/-- what recover gives, and what becomes of what was raised -/
def recVal : FrameMode → Value
  | .panicking ({ v, recovered := false, goexit := false } :: _) => v
  | _ => .nilIface
def recMode : FrameMode → FrameMode
  | .panicking ({ v, recovered := false, goexit := false } :: older) => .panicking ({ v, recovered := true } :: older)
  | u => u

theorem recover_eq {c₀ : Frame} {cs : List Frame} {u : FrameMode} (hu : c₀.mode = u) : recoverD (c₀ :: cs) = some (recVal u, { c₀ with mode := recMode u } :: cs) ∨ (recoverD (c₀ :: cs) = none ∧ recVal u = .nilIface ∧ recMode u = u) := by
  subst hu
  unfold recoverD
  simp only
  split
  · rename_i h
    left
    rw [h]
    rfl
  · rename_i hne
    right
    refine ⟨rfl, ?_, ?_⟩
    · unfold recVal
      split
      · rename_i v older h; exact absurd h (hne v older)
      · rfl
    · unfold recMode
      split
      · rename_i v older h; exact absurd h (hne v older)
      · rfl

/-- a deferred function that asks first what was raised -/
theorem D_callsR {P : Program} (A : Ann) {f : FuncId} {fn : Func} {id : Nat} {o : Oper} {d : Tmp} {ats : Array TypeId} {c : Code} {args : Array Value} {u : FrameMode} {w : World} {R : Ending → FrameMode → World → Prop} (hm : P.follows .mixedOrders = true)
    (hf : P.funcs[f]? = some fn) (hb : fn.body = some (.seq (.region id #[o] false) c)) (ho : o.op = .call { callee := .builtin .recover, args := #[], argTypes := ats }) (hd : o.dst = some d) (hg : o.guard = none) (hdn : Nat.blt d fn.ntmps = true)
    (hn : args.size ≤ fn.ntmps) (hw : allLt fn.ntmps (writes c) = true)
    (h : D P A c (topQD P fn fun e w' => R e (recMode u) w') (fun _ => undef) ((d, recVal u) :: bindArgs 0 args.toList) [] w) : CallsD P f args u w R := by
  refine callsD_of_wpS hf hb fun c₀ cs hu => wpS_seq (wpS_region ?_)
  have hrun : ∀ a : Act, (execOp a.eval o).run P w = .ok .recover w := fun a => by simp [execOp, ho, resolve, invoke, builtin]
  have hwant : ∀ y, Region.wanted o y = true := fun y => by simp [Region.wanted, hg]
  have hdn' : d + 1 ≤ fn.ntmps := by simpa [Nat.blt] using hdn
  have go : ∀ (v : Value) (cs' : List Frame), v = recVal u → cs' = { c₀ with mode := recMode u } :: cs →
      c.wpS P (bodyPostS P fn c₀ cs R) (({ tmps := args ++ Array.replicate (fn.ntmps - args.size) undef, defers := [] } : Act).put o.dst v) cs' w := by
    rintro v cs' rfl rfl
    refine wpS_of_wp ?_
    have hrel := (enter_rel hn []).put o.dst (fun t ht => by rw [hd] at ht; exact (Option.some.inj ht) ▸ hdn') (recVal u)
    rw [hd] at hrel ⊢
    refine Code.wp_mono ?_ (D_wp hm c _ _ _ _ w (allLt_spec hw) (by intro x B e ds w hq he; subst he; exact hq.elim) hrel h)
    rintro x a' w' ⟨B, e, hr, _, hq⟩
    obtain ⟨hd, (⟨rfl | rfl, h⟩ | ⟨ch, rfl, h⟩)⟩ := hq.out hr
    · exact ⟨hd, _, rfl, h⟩
    · exact ⟨hd, _, rfl, h⟩
    · exact ⟨hd, _, rfl, h⟩
  simp only [show (List.range (#[o] : Array Oper).size) = [0] from rfl, wpOpsS, List.getElem?_toArray, List.getElem?_cons_zero, hwant, if_true, hrun]
  rcases recover_eq (cs := cs) hu with h1 | ⟨h1, h2, h3⟩
  · rw [h1]
    exact go _ _ rfl rfl
  · rw [h1]
    exact go _ _ h2.symm (by rw [h3, ← hu])

/-! bits, as the model has them -/
def iAnd (k : IntKind) (x y : Int) : Int := k.wrap (BitVec.ofInt k.bits x &&& BitVec.ofInt k.bits y).toNat
def iOr (k : IntKind) (x y : Int) : Int := k.wrap (BitVec.ofInt k.bits x ||| BitVec.ofInt k.bits y).toNat
def iXor (k : IntKind) (x y : Int) : Int := k.wrap (BitVec.ofInt k.bits x ^^^ BitVec.ofInt k.bits y).toNat
def iAndNot (k : IntKind) (x y : Int) : Int := k.wrap (BitVec.ofInt k.bits x &&& ~~~BitVec.ofInt k.bits y).toNat
def iShl (k : IntKind) (x y : Int) : Int := k.wrap (x * 2 ^ (min y.toNat k.bits))
def iShr (k : IntKind) (x y : Int) : Int := x.fdiv (2 ^ (min y.toNat k.bits))

abbrev OA := Option Addr
abbrev RW := Ending → World → Prop
abbrev PnC (R : Ending → World → Prop) : List PanicEntry → World → Prop := fun ch w => R (.panicked ch) w
abbrev PnV (R : Ending → World → Prop) : Value → World → Prop := fun pv w => R (.panicked [{ v := pv, recovered := false }]) w
abbrev RdI (w : World) (b o : Nat) (K : Int → Prop) : Prop := ∃ t, w.cell? ⟨b, o, none⟩ = some (.int .i64 t) ∧ K t
abbrev RdP (w : World) (b o : Nat) (K : Option Addr → Prop) : Prop := ∃ t, w.cell? ⟨b, o, none⟩ = some (.pointer t) ∧ K t
abbrev RdT (w : World) (b o : Nat) (K : ByteArray → Prop) : Prop := ∃ t, w.cell? ⟨b, o, none⟩ = some (.string t) ∧ K t
abbrev RdB (w : World) (b o : Nat) (K : Bool → Prop) : Prop := ∃ t, w.cell? ⟨b, o, none⟩ = some (.bool t) ∧ K t
abbrev RdM (w : World) (b o : Nat) (K : Option Nat → Prop) : Prop := ∃ t, w.cell? ⟨b, o, none⟩ = some (.map t) ∧ K t
abbrev RdL (w : World) (b o : Nat) (K : Option Addr → Nat → Nat → Prop) : Prop := ∃ a n c, w.cell? ⟨b, o, none⟩ = some (.slice a n c) ∧ K a n c
theorem DC0 {P : Program} {f : FuncId} {fn : Func} {c : Code} {args : Array Value} {w : World} {R : Ending → World → Prop} (A : Ann) (hm : P.follows .mixedOrders = true)
 (hf : P.funcs[f]? = some fn) (hb : fn.body = some c) (hn : (Nat.ble args.size fn.ntmps && allLt fn.ntmps (writes c)) = true)
 (h : D P A c (topQ P fn R) (fun _ => undef) (bindArgs 0 args.toList) [] w) : Calls P f args w R := by
 rw [Bool.and_eq_true] at hn
 exact D_calls A hm hf hb (Nat.le_of_ble_eq_true hn.1) hn.2 h

end Go.Lift
