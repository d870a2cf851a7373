/-
  Worlds, blocks, lists of numbers: what a formula's words are met with. No program is named here.
-/
import Derived.Test.YtpbpjojdfcdbbaaGreatDoorLift
import Derived.Maps.AppendAt
import Derived.Below
namespace Go.Lift
open Go
set_option linter.unusedVariables false

abbrev Grew (w w' : World) : Prop := Keep (fun _ => False) w w'

theorem Keep.refl {S : Nat → Prop} (w : World) : Keep S w w := ⟨rfl, rfl, rfl, Nat.le_refl _, fun _ _ _ => rfl⟩
theorem Keep.trans {S S1 S2 : Nat → Prop} {a b c : World} (h : Keep S1 a b) (k : Keep S2 b c) (h1 : ∀ k, k < a.heap.size → S1 k → S k) (h2 : ∀ k, k < a.heap.size → S2 k → S k) : Keep S a c :=
  ⟨k.os.trans h.os, k.tape.trans h.tape, k.output.trans h.output, Nat.le_trans h.size k.size, fun i hi hS =>
    (k.block i (Nat.lt_of_lt_of_le hi h.size) (fun hs => hS (h2 i hi hs))).trans (h.block i hi (fun hs => hS (h1 i hi hs)))⟩
theorem Keep.mono {S S' : Nat → Prop} {a b : World} (h : Keep S a b) (hs : ∀ k, k < a.heap.size → S k → S' k) : Keep S' a b :=
  ⟨h.os, h.tape, h.output, h.size, fun k hk hn => h.block k hk fun h' => hn (hs k hk h')⟩
/-- one behind the other, of one set -/
theorem Keep.then {S : Nat → Prop} {a b c : World} (h : Keep S a b) (k : Keep S b c) : Keep S a c := h.trans k (fun _ _ h => h) (fun _ _ h => h)
/-- the second turns new blocks, too -/
theorem Keep.new {S S2 : Nat → Prop} {a b c : World} (h : Keep S a b) (k : Keep S2 b c) (h2 : ∀ k, S2 k → S k ∨ a.heap.size ≤ k) : Keep S a c :=
  h.trans k (fun _ _ h => h) (fun i hi hs => (h2 i hs).resolve_right (by omega))
theorem Keep.grew {S : Nat → Prop} {a b c : World} (h : Keep S a b) (k : Grew b c) : Keep S a c := h.trans k (fun _ _ h => h) (fun _ _ h => h.elim)
theorem Grew.keep {S : Nat → Prop} {a b : World} (h : Grew a b) : Keep S a b := h.mono fun _ _ h => h.elim
theorem Keep.alloc {S : Nat → Prop} (w : World) (o : Obj) : Keep S w (w.alloc o) :=
  ⟨rfl, rfl, rfl, by simp, fun k hk _ => heap_alloc_old w o k hk⟩
theorem Keep.drewN {S : Nat → Prop} (w : World) (n : Nat) : Keep S w (w.drewN n) := ⟨rfl, rfl, rfl, Nat.le_refl _, fun _ _ _ => rfl⟩
theorem Drew.keep {S : Nat → Prop} {w w' : World} (h : Drew w w') : Keep S w w' := by obtain ⟨n, rfl⟩ := h; exact Keep.drewN w n
theorem Drew.heap {w w' : World} (h : Drew w w') : w'.heap = w.heap := by obtain ⟨n, rfl⟩ := h; rfl
theorem Keep.setCell {S : Nat → Prop} (w : World) (a : Addr) (v : Value) (h : S a.block) : Keep S w (w.setCell a v) :=
  ⟨rfl, rfl, rfl, by simp [World.setCell], fun k _ hn => by
    simp only [World.setCell, Array.getElem?_modify]
    rw [if_neg (by rintro rfl; exact hn h)]⟩
theorem Keep.below {w w' : World} (h : Grew w w') : RowKit.Below w.heap.size w w' := ⟨h.os, h.tape, h.output, h.size, fun k hk => h.block k hk (fun h => h)⟩
theorem Keep.of_below {w w' : World} (h : RowKit.Below w.heap.size w w') : Grew w w' := ⟨h.os, h.tape, h.output, h.size, fun k hk _ => h.block k hk⟩
theorem Keep.of_grownBy {w w' : World} {r : Option Nat} (h : w.grownBy w' r) : Keep (fun k => some k = r) w w' := ⟨h.os, h.tape, h.output, h.size, fun k hk hn => h.block k hk hn⟩
theorem Keep.cell {S : Nat → Prop} {w w' : World} (h : Keep S w w') {a : Addr} (hb : a.block < w.heap.size) (hn : ¬ S a.block) : w'.cell? a = w.cell? a :=
  World.cell?_of_block (w := w) (h.block a.block hb hn)
theorem Keep.get {S : Nat → Prop} {w w' : World} (h : Keep S w w') {b : Nat} {o : Obj} (hb : w.heap[b]? = some o) (hn : ¬ S b) : w'.heap[b]? = some o := by
  rw [h.block b (Array.getElem?_eq_some_iff.1 hb).1 hn]; exact hb
theorem lt_of_get {w : World} {b : Nat} {o : Obj} (hb : w.heap[b]? = some o) : b < w.heap.size := (Array.getElem?_eq_some_iff.1 hb).1

theorem cell_at {w : World} {b : Nat} {cs : Array Value} {t : TypeId} {f : Nat × Nat} (hb : w.heap[b]? = some (Obj.cells cs t f)) {off : Nat} {v : Value} (hv : cs[off]? = some v) :
    w.cell? ⟨b, off, none⟩ = some v := by simp [World.cell?, hb, hv]

theorem PA.mk {w : World} {o : Obj} {κ : World → Prop} (h : ∀ w1, Grew w w1 → w1.heap.size = w.heap.size + 1 → w1.heap[w.heap.size]? = some o → κ w1) : PA w o κ :=
  h (w.alloc o) (Keep.alloc w o) (by simp) (heap_alloc_new w o)

theorem PS.mk {w : World} {b off : Nat} {v : Value} {κ : World → Prop} {cs : Array Value} {t : TypeId} (hb : w.heap[b]? = some (.cells cs t (0, 0))) (ho : off < cs.size)
    (h : ∀ w1, Keep (· = b) w w1 → w1.heap.size = w.heap.size → w1.heap[b]? = some (.cells (cs.setIfInBounds off v) t (0, 0)) → κ w1) : PS w ⟨b, off, none⟩ v κ := by
  refine ⟨⟨cs[off], cell_at hb (by simp [ho])⟩, by simp [World.frozen?, hb], h _ (Keep.setCell w _ v rfl) (by simp [World.setCell]) ?_⟩
  simp [World.setCell, Array.getElem?_modify, hb]

/-- it comes back, with a value of which this is so -/
def Ok (φ : Value → World → Prop) : Ending → World → Prop := fun e w => ∃ v, e = .returned v ∧ φ v w

theorem Ok.mk {φ : Value → World → Prop} {v : Value} {w : World} (h : φ v w) : Ok φ (.returned v) w := ⟨v, rfl, h⟩

theorem PC.ok {P : Program} {g : FuncId} {args : Array Value} {w : World} {φ κ : Value → World → Prop} {ε : List PanicEntry → World → Prop} (h : Calls P g args w (Ok φ))
    (hk : ∀ v w', φ v w' → κ v w') : PC P g args w κ ε :=
  h.mono fun e w' ⟨v, he, hv⟩ => by subst he; exact hk v w' hv

theorem Calls.ok {P : Program} {g : FuncId} {args : Array Value} {w : World} {φ κ : Value → World → Prop} (h : Calls P g args w (Ok φ)) (hk : ∀ v w', φ v w' → κ v w') : Calls P g args w (Ok κ) :=
  h.mono fun e w' ⟨v, he, hv⟩ => ⟨v, he, hk v w' hv⟩

/-! numbers -/

def I64 (x : Int) : Prop := -9223372036854775808 ≤ x ∧ x ≤ 9223372036854775807

theorem wrap_i64 {x : Int} (h : I64 x) : IntKind.wrap .i64 x = x := by
  unfold I64 at h
  unfold IntKind.wrap
  simp [IntKind.signed, IntKind.bits]
  omega

/-- the room of one slice: 2^47 bytes -/
def Big : Nat := 140737488355328

/-! lists of numbers -/

/-- a slice (its place, its length) that reads as a list of numbers -/
structure Ints (w : World) (a : Option Addr) (n : Nat) (xs : List Int) : Prop where
  len : n = xs.length
  big : n * 8 ≤ Big
  rng : ∀ x ∈ xs, I64 x
  cell : ∀ (i : Nat) x, xs[i]? = some x → ∃ b off, a = some ⟨b, off, none⟩ ∧ b < w.heap.size ∧ w.cell? ⟨b, off + i, none⟩ = some (.int .i64 x)

def notIn (S : Nat → Prop) (a : Option Addr) : Prop := ∀ p, a = some p → ¬ S p.block

/-- which block a slice lies in -/
def blk : Option Addr → Option Nat
  | none => none
  | some a => some a.block

theorem notIn_blk {S : Nat → Prop} {a : Option Addr} : notIn S a ↔ ∀ b, blk a = some b → ¬ S b := by
  cases a with
  | none => simp [notIn, blk]
  | some a => simp [notIn, blk]

/-- a slice that owns its block, and the room behind it; its elements' cells -/
structure Own (w : World) (e : TypeId) (k : Nat) (a : Option Addr) (n c : Nat) (cs : List Value) : Prop where
  row : w.ownsRow 0 e k (.slice a n c) n cs

theorem Own.nil (w : World) (e : TypeId) (k : Nat) : Own w e k none 0 0 [] := ⟨World.ownsRow_nil w 0 e k⟩

theorem Own.length {w : World} {e : TypeId} {k : Nat} {a : Option Addr} {n c : Nat} {cs : List Value} (h : Own w e k a n c cs) : cs.length = n * k := h.row.1

theorem Own.cases {w : World} {e : TypeId} {k : Nat} {a : Option Addr} {n c : Nat} {cs : List Value} (h : Own w e k a n c cs) :
    (a = none ∧ n = 0 ∧ c = 0 ∧ cs = []) ∨
    ∃ g cur, a = some ⟨g, 0, none⟩ ∧ w.heap[g]? = some (.cells cur e (0, 0)) ∧ n ≤ c ∧ cur.size = c * k ∧ cur.toList.take (n * k) = cs := by
  rcases h.row.2 with ⟨he, hn⟩ | ⟨g, cap, cur, he, _, hg, hnc, _, hcs, htake⟩
  · simp only [Value.slice.injEq] at he
    obtain ⟨rfl, rfl, rfl⟩ := he
    exact .inl ⟨rfl, rfl, rfl, List.eq_nil_of_length_eq_zero (by simpa using h.row.1)⟩
  · simp only [Value.slice.injEq] at he
    obtain ⟨rfl, -, rfl⟩ := he
    exact .inr ⟨g, cur, rfl, hg, hnc, hcs, htake⟩

theorem Own.keep {S : Nat → Prop} {w w' : World} {e : TypeId} {k : Nat} {a : Option Addr} {n c : Nat} {cs : List Value} (h : Own w e k a n c cs) (hk : Keep S w w') (hn : notIn S a) : Own w' e k a n c cs := by
  refine ⟨⟨h.row.1, ?_⟩⟩
  rcases h.row.2 with h0 | ⟨g, cap, cur, he, hb, hg, rest⟩
  · exact .inl h0
  · refine .inr ⟨g, cap, cur, he, hb, hk.get hg ?_, rest⟩
    simp only [Value.slice.injEq] at he
    exact hn _ he.1
theorem Own.grew {w w' : World} {e : TypeId} {k : Nat} {a : Option Addr} {n c : Nat} {cs : List Value} (h : Own w e k a n c cs) (hk : Grew w w') : Own w' e k a n c cs := h.keep hk fun _ _ h => h

theorem Own.lt {w : World} {e : TypeId} {k : Nat} {a : Option Addr} {n c : Nat} {cs : List Value} (h : Own w e k a n c cs) {b : Nat} (hb : blk a = some b) : b < w.heap.size := by
  rcases h.cases with ⟨rfl, _⟩ | ⟨g, cur, rfl, hg, _⟩
  · cases hb
  · simp only [blk, Option.some.injEq] at hb
    subst hb
    exact lt_of_get hg

theorem Own.cell {w : World} {e : TypeId} {k : Nat} {a : Option Addr} {n c : Nat} {cs : List Value} (h : Own w e k a n c cs) {j : Nat} {u : Value} (hj : cs[j]? = some u) :
    ∃ g, a = some ⟨g, 0, none⟩ ∧ g < w.heap.size ∧ w.cell? ⟨g, j, none⟩ = some u := by
  rcases h.cases with ⟨_, _, _, rfl⟩ | ⟨g, cur, rfl, hg, _, _, ht⟩
  · simp at hj
  · refine ⟨g, rfl, lt_of_get hg, cell_at hg ?_⟩
    rw [← ht, List.getElem?_take] at hj
    split at hj
    · simpa using hj
    · cases hj

/-- a new block's slice -/
theorem Own.of_new {w : World} {e : TypeId} {k : Nat} {g n : Nat} {cur : Array Value} (hg : w.heap[g]? = some (.cells cur e (0, 0))) (hs : cur.size = n * k) (hb : n ≤ maxLen) :
    Own w e k (some ⟨g, 0, none⟩) n n cur.toList :=
  ⟨⟨by simpa using hs, .inr ⟨g, n, cur, rfl, Nat.zero_le _, hg, Nat.le_refl _, hb, hs, by rw [List.take_of_length_le]; simp [hs]⟩⟩⟩

/-- a type of slices, with its elements' type, their cells, their bytes -/
structure SlT (P : Program) (t e : TypeId) (k bytes : Nat) : Prop where
  under : P.underlying t = some (.slice e)
  row : (P.info? e).map (fun i => (i.zero.map fun z => z.cells.size, i.size, i.bytes)) = some (some k, k, bytes)
  pos : 0 < k

theorem SlT.info {P : Program} {t e : TypeId} {k bytes : Nat} (h : SlT P t e k bytes) : ∃ i z, P.info? e = some i ∧ i.zero = some z ∧ i.size = k ∧ i.bytes = bytes ∧ z.cells.size = k := by
  have hr := h.row
  cases hi : P.info? e with
  | none => rw [hi] at hr; cases hr
  | some i =>
    rw [hi] at hr
    simp only [Option.map_some, Option.some.injEq, Prod.mk.injEq] at hr
    cases hz : i.zero with
    | none => rw [hz] at hr; cases hr.1
    | some z =>
      rw [hz] at hr
      exact ⟨i, z, rfl, hz, hr.2.1, hr.2.2, by simpa using hr.1⟩

/-- elements more, from wherever -/
theorem app_src {P : Program} {t e ty : TypeId} {k bytes : Nat} (hT : SlT P t e k bytes) {w : World} {a : Option Addr} {n c : Nat} {xs news : List Value} {p : Addr} {m c2 : Nat} {κ ε : Value → World → Prop}
    (ho : Own w e k a n c xs) (hnews : ∀ j u, news[j]? = some u → w.cell? (p.add j) = some u) (hl : news.length = m * k) (h1 : ∀ u ∈ news, u.oneCell' = true) (hbig : (n + m) * bytes ≤ Big) (hmax : n + m ≤ maxLen)
    (h : ∀ a' c' w', Own w' e k a' (n + m) c' (xs ++ news) → Keep (fun j => some j = blk a) w w' → (blk a' = blk a ∨ blk a' = some w.heap.size) → κ (.slice a' (n + m) c') w') :
    PRun P (Builtin.append_ #[t, t] ty #[.slice a n c, .slice (some p) m c2]) w κ ε := by
  obtain ⟨i, z, hi, hz, hs, hb, hzs⟩ := SlT.info hT
  obtain ⟨v', w', hr, hown, hgrow, hnil, hloc⟩ := run_append_own_at (P := P) w 0 t ty e i z k bytes hT.under hi hz hs hb hzs hT.pos (.slice a n c) n xs ho.row
    p m c2 news hl hnews h1 hmax hbig (Nat.zero_le _)
  have hblk : ∀ (a : Option Addr) n c, (Value.slice a n c).ownBlock = blk a := fun a n c => by cases a <;> rfl
  have hshape : ∃ a' c', v' = .slice a' (n + m) c' := by
    rcases hown.2 with ⟨rfl, h0⟩ | ⟨g', cap', cur', rfl, _⟩
    · exact ⟨none, 0, by rw [h0]⟩
    · exact ⟨_, _, rfl⟩
  obtain ⟨a', c', rfl⟩ := hshape
  simp only [hblk] at hgrow hloc
  exact PRun.mk hr (h a' c' w' ⟨hown⟩ (Keep.of_grownBy hgrow) hloc)

/-- elements more, that lie at the head of a block -/
theorem app_own {P : Program} {t e ty : TypeId} {k bytes : Nat} (hT : SlT P t e k bytes) {w : World} {a : Option Addr} {n c : Nat} {xs news : List Value} {g m c2 : Nat} {cur : Array Value} {f : Nat × Nat} {κ ε : Value → World → Prop}
    (ho : Own w e k a n c xs) (hg : w.heap[g]? = some (.cells cur e f)) (hnews : cur.toList.take (m * k) = news) (hl : news.length = m * k) (h1 : ∀ u ∈ news, u.oneCell' = true) (hbig : (n + m) * bytes ≤ Big) (hmax : n + m ≤ maxLen)
    (h : ∀ a' c' w', Own w' e k a' (n + m) c' (xs ++ news) → Keep (fun j => some j = blk a) w w' → (blk a' = blk a ∨ blk a' = some w.heap.size) → κ (.slice a' (n + m) c') w') :
    PRun P (Builtin.append_ #[t, t] ty #[.slice a n c, .slice (some ⟨g, 0, none⟩) m c2]) w κ ε := by
  exact app_src hT ho (fun j u hj => by
      rw [Addr.add_lit, Nat.zero_add]
      refine cell_at hg ?_
      rw [← hnews, List.getElem?_take] at hj
      split at hj
      · simpa using hj
      · cases hj) hl h1 hbig hmax h

/-- numbers -/
def ints (xs : List Int) : List Value := xs.map (Value.int .i64)
theorem equalIn_slice {P : Program} {t e : TypeId} (ht : P.underlying t = some (.slice e)) (d : Nat) (a : Option Addr) (n c : Nat) (w : World) :
    (Op.equalIn (d + 1) t (.slice a n c) (.slice none 0 0)).run P w = .ok a.isNone w := by
  cases a <;> simp [Op.equalIn, run_underlying ht]
theorem equalIn_ptr {P : Program} {t e : TypeId} (ht : P.underlying t = some (.pointer e)) (d : Nat) (a : Option Addr) (w : World) :
    (Op.equalIn (d + 1) t (.pointer a) (.pointer none)).run P w = .ok a.isNone w := by
  cases a <;> simp [Op.equalIn, run_underlying ht]

/-- a slice held against nil -/
theorem eq_nil_slice {P : Program} {t e : TypeId} (ht : P.underlying t = some (.slice e)) {x y : Operand} {a : Option Addr} {n c : Nat} {w : World} {κ ε : Value → World → Prop} (h : κ (.bool a.isNone) w) :
    PRun P (do eqGuard .eql t x y (.slice a n c) (.slice none 0 0); binOp .eql t (.slice a n c) (.slice none 0 0)) w κ ε := by
  refine PRun.mk (v := .bool a.isNone) ?_ h
  have h2 : (do eqGuard .eql t x y (.slice a n c) (.slice none 0 0); binOp .eql t (.slice a n c) (.slice none 0 0) : Sem Value).run P w =
    ((Op.equalIn (9999 + 1) t (.slice a n c) (.slice none 0 0)) >>= fun b => (pure (Value.bool b) : Sem Value)).run P w := rfl
  rw [h2, Sem.run_bind, equalIn_slice ht]
  rfl
theorem eq_nil_ptr {P : Program} {t e : TypeId} (ht : P.underlying t = some (.pointer e)) {x y : Operand} {p : Option Addr} {w : World} {κ ε : Value → World → Prop} (h : κ (.bool p.isNone) w) :
    PRun P (do eqGuard .eql t x y (.pointer p) (.pointer none); binOp .eql t (.pointer p) (.pointer none)) w κ ε := by
  refine PRun.mk (v := .bool p.isNone) ?_ h
  have h2 : (do eqGuard .eql t x y (.pointer p) (.pointer none); binOp .eql t (.pointer p) (.pointer none) : Sem Value).run P w =
    ((Op.equalIn (9999 + 1) t (.pointer p) (.pointer none)) >>= fun b => (pure (Value.bool b) : Sem Value)).run P w := rfl
  rw [h2, Sem.run_bind, equalIn_ptr ht]
  rfl

theorem run_ne_nil_ptr {P : Program} {t e : TypeId} (ht : P.underlying t = some (.pointer e)) (x y : Operand) (p : Option Addr) (w : World) :
    (do eqGuard .neq t x y (.pointer p) (.pointer none); binOp .neq t (.pointer p) (.pointer none) : Sem Value).run P w = .ok (.bool p.isSome) w := by
  have h2 : (do eqGuard .neq t x y (.pointer p) (.pointer none); binOp .neq t (.pointer p) (.pointer none) : Sem Value).run P w =
    ((Op.equalIn (9999 + 1) t (.pointer p) (.pointer none)) >>= fun b => (pure (Value.bool !b) : Sem Value)).run P w := rfl
  rw [h2, Sem.run_bind, equalIn_ptr ht]
  cases p <;> rfl
theorem ne_nil_ptr {P : Program} {t e : TypeId} (ht : P.underlying t = some (.pointer e)) {x y : Operand} {p : Option Addr} {w : World} {κ ε : Value → World → Prop} (h : κ (.bool p.isSome) w) :
    PRun P (do eqGuard .neq t x y (.pointer p) (.pointer none); binOp .neq t (.pointer p) (.pointer none)) w κ ε := PRun.mk (run_ne_nil_ptr ht x y p w) h

/-- what a thing's blocks were, and are: none is another's -/
structure Evo (F : Nat → Prop) (w : World) (F' : Nat → Prop) (w' : World) : Prop where
  keep : Keep F w w'
  new : ∀ b, F' b → F b ∨ w.heap.size ≤ b

theorem Evo.refl (F : Nat → Prop) (w : World) : Evo F w F w := ⟨Keep.refl w, fun _ h => .inl h⟩
theorem Evo.trans {F G H : Nat → Prop} {a b c : World} (h : Evo F a G b) (k : Evo G b H c) : Evo F a H c :=
  ⟨h.keep.trans k.keep (fun _ _ h => h) (fun i hi hg => (h.new i hg).resolve_right (by omega)), fun i hi => by
    rcases k.new i hi with h1 | h1
    · exact h.new i h1
    · exact .inr (Nat.le_trans h.keep.size h1)⟩
end Go.Lift
