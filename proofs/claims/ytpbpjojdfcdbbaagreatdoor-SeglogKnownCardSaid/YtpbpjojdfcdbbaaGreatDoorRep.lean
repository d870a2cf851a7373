/-
  How things of Lean's lie in a world: codes of cells, slices of them that are read, slices that are built. No program is named here.
-/
import Derived.Test.YtpbpjojdfcdbbaaGreatDoorBase
import Derived.Laws.Strings
import Derived.Laws.OwnMore
import Derived.Laws.MakeOwn
namespace Go.Lift
open Go
set_option linter.unusedVariables false

/-! tests -/
theorem PIf.dec {p : Prop} [Decidable p] {X Y : Prop} (h1 : p → X) (h2 : ¬ p → Y) : PIf (decide p) X Y :=
  PIf.mk (fun h => h1 (of_decide_eq_true h)) (fun h => h2 (of_decide_eq_false h))
theorem PIf.neI {x y : Int} {X Y : Prop} (h1 : x ≠ y → X) (h2 : x = y → Y) : PIf (x != y) X Y :=
  PIf.mk (fun h => h1 (by simpa using h)) (fun h => h2 (by simpa using h))
theorem PIf.eqI {x y : Int} {X Y : Prop} (h1 : x = y → X) (h2 : x ≠ y → Y) : PIf (x == y) X Y :=
  PIf.mk (fun h => h1 (by simpa using h)) (fun h => h2 (by simpa using h))
theorem PIf.not {b : Bool} {X Y : Prop} (h : PIf b Y X) : PIf (!b) X Y := by cases b <;> exact h
theorem bytes_ext {a b : ByteArray} (h : a.toList = b.toList) : a = b := by
  have h1 : ∀ x : ByteArray, x.toList = x.data.toList := fun x => ByteArray.toList_eq x
  rw [h1, h1] at h
  exact ByteArray.ext (Array.toList_inj.1 h)
theorem PIf.eqS {x y : ByteArray} {X Y : Prop} (h1 : x = y → X) (h2 : x ≠ y → Y) : PIf (ByteArray.toList x == ByteArray.toList y) X Y :=
  PIf.mk (fun h => h1 (bytes_ext (by simpa using h))) (fun h => h2 (fun e => by subst e; simp at h))
theorem PIf.neS {x y : ByteArray} {X Y : Prop} (h1 : x ≠ y → X) (h2 : x = y → Y) : PIf (!(ByteArray.toList x == ByteArray.toList y)) X Y := (PIf.eqS h2 h1).not
theorem wrap_succ {j : Nat} (h : j < 4611686018427387904) : IntKind.wrap .i64 ((j : Int) + 1) = ((j + 1 : Nat) : Int) := by
  rw [wrap_i64 (by unfold I64; omega)]; simp

theorem Drew.then {w w1 w2 : World} (h : Drew w w1) (k : Drew w1 w2) : Drew w w2 := by obtain ⟨p, rfl⟩ := h; obtain ⟨q, rfl⟩ := k; exact ⟨p + q, by simp⟩
theorem Drew.refl (w : World) : Drew w w := ⟨0, rfl⟩

theorem take_same {α : Type} {xs ys : List α} {j : Nat} {x : α} (ht : xs.take j = ys.take j) (hx : xs[j]? = some x) (hy : ys[j]? = some x) : xs.take (j + 1) = ys.take (j + 1) := by
  rw [List.take_add_one, List.take_add_one, ht, hx, hy]

/-! codes -/

/-- how a thing is written in cells, in a world, but for what lies in blocks of D -/
structure Cod (α : Type) where
  k : Nat
  rep : World → (Nat → Prop) → α → List Value → Prop
  keep : ∀ {S D : Nat → Prop} {w w' : World} {x : α} {cs : List Value}, rep w D x cs → Keep S w w' → (∀ b, D b → ¬ S b) → rep w' D x cs
  mono : ∀ {D D' : Nat → Prop} {w : World} {x : α} {cs : List Value}, rep w D x cs → (∀ b, D b → D' b) → rep w D' x cs
  len : ∀ {D : Nat → Prop} {w : World} {x : α} {cs : List Value}, rep w D x cs → cs.length = k
  one : ∀ {D : Nat → Prop} {w : World} {x : α} {cs : List Value}, rep w D x cs → ∀ u ∈ cs, u.oneCell' = true

/-- a code that asks nothing of a world -/
def flat {α : Type} (k : Nat) (enc : α → List Value) (ok : α → Prop) (hl : ∀ x, (enc x).length = k) (h1 : ∀ x, ∀ u ∈ enc x, u.oneCell' = true) : Cod α where
  k := k
  rep := fun _ _ x cs => cs = enc x ∧ ok x
  keep := fun h _ _ => h
  mono := fun h _ => h
  len := fun h => by rw [h.1]; exact hl _
  one := fun h => by rw [h.1]; exact h1 _

def cI64 : Cod Int := flat 1 (fun x => [.int .i64 x]) I64 (fun _ => rfl) (fun x u hu => by simp at hu; subst hu; rfl)
def cU8 : Cod UInt8 := flat 1 (fun x => [.int .u8 x.toNat]) (fun _ => True) (fun _ => rfl) (fun x u hu => by simp at hu; subst hu; rfl)
def cStr : Cod ByteArray := flat 1 (fun x => [.string x]) (fun _ => True) (fun _ => rfl) (fun x u hu => by simp at hu; subst hu; rfl)
def cBool : Cod Bool := flat 1 (fun x => [.bool x]) (fun _ => True) (fun _ => rfl) (fun x u hu => by simp at hu; subst hu; rfl)

/-! slices that are read -/

structure Row {α : Type} (c : Cod α) (bytes : Nat) (w : World) (D : Nat → Prop) (a : Option Addr) (n : Nat) (xs : List α) : Prop where
  len : n = xs.length
  big : n * bytes ≤ Big
  el : ∀ (i : Nat) x, xs[i]? = some x → ∃ b off es, a = some ⟨b, off, none⟩ ∧ b < w.heap.size ∧ D b ∧ (∀ j, j < c.k → w.cell? ⟨b, off + i * c.k + j, none⟩ = es[j]?) ∧ c.rep w D x es

section
variable {α : Type} {c : Cod α} {bytes : Nat} {w w' : World} {D D' S : Nat → Prop} {a : Option Addr} {n : Nat} {xs : List α}

theorem Row.keep (h : Row c bytes w D a n xs) (hk : Keep S w w') (hd : ∀ b, D b → ¬ S b) : Row c bytes w' D a n xs :=
  ⟨h.len, h.big, fun i x hi => by
    obtain ⟨b, off, es, ha, hb, hD, hc, hr⟩ := h.el i x hi
    exact ⟨b, off, es, ha, Nat.lt_of_lt_of_le hb hk.size, hD, fun j hj => (hk.cell (a := ⟨b, off + i * c.k + j, none⟩) hb (hd b hD)).trans (hc j hj), c.keep hr hk hd⟩⟩
theorem Row.grew (h : Row c bytes w D a n xs) (hk : Grew w w') : Row c bytes w' D a n xs := h.keep hk fun _ _ h => h
theorem Row.mono (h : Row c bytes w D a n xs) (hd : ∀ b, D b → D' b) : Row c bytes w D' a n xs :=
  ⟨h.len, h.big, fun i x hi => by
    obtain ⟨b, off, es, ha, hb, hD, hc, hr⟩ := h.el i x hi
    exact ⟨b, off, es, ha, hb, hd b hD, hc, c.mono hr hd⟩⟩
theorem Row.nil (w : World) (D : Nat → Prop) : Row c bytes w D none 0 [] := ⟨rfl, by simp, fun i x h => by simp at h⟩
theorem Row.at (h : Row c bytes w D a n xs) {i : Int} (h0 : 0 ≤ i) (h1 : i < (n : Int)) :
    ∃ b off x es, a = some ⟨b, off, none⟩ ∧ b < w.heap.size ∧ D b ∧ xs[i.toNat]? = some x ∧ (∀ j, j < c.k → w.cell? ⟨b, off + i.toNat * c.k + j, none⟩ = es[j]?) ∧ c.rep w D x es := by
  have hl := h.len
  have hi : i.toNat < xs.length := by omega
  obtain ⟨b, off, es, ha, hb, hD, hc, hr⟩ := h.el i.toNat xs[i.toNat] (by simp [hi])
  exact ⟨b, off, _, es, ha, hb, hD, by simp [hi], hc, hr⟩

theorem Row.atN (h : Row c bytes w D a n xs) {i : Nat} (h1 : i < n) :
    ∃ b off x es, a = some ⟨b, off, none⟩ ∧ b < w.heap.size ∧ D b ∧ xs[i]? = some x ∧ (∀ j, j < c.k → w.cell? ⟨b, off + i * c.k + j, none⟩ = es[j]?) ∧ c.rep w D x es := by
  have := h.at (i := (i : Int)) (by omega) (by omega)
  simpa using this
end

/-- one cell an element -/
theorem Row.at1 {α : Type} {enc : α → Value} {ok : α → Prop} {hl h1} {bytes : Nat} {w : World} {D : Nat → Prop} {a : Option Addr} {n : Nat} {xs : List α} (h : Row (flat 1 (fun x => [enc x]) ok hl h1) bytes w D a n xs) {i : Nat} (hi : i < n) :
    ∃ b off x, a = some ⟨b, off, none⟩ ∧ xs[i]? = some x ∧ ok x ∧ w.cell? ⟨b, off + i, none⟩ = some (enc x) := by
  obtain ⟨b, off, x, es, ha, hb, _, hx, hc, rfl, ho⟩ := h.atN hi
  refine ⟨b, off, x, ha, hx, ho, ?_⟩
  have := hc 0 Nat.one_pos
  simpa [flat] using this

/-! slices that are built -/

def Reps {α : Type} (c : Cod α) (w : World) (D : Nat → Prop) : List α → List Value → Prop
  | [], cs => cs = []
  | x :: xs, cs => ∃ es r, cs = es ++ r ∧ c.rep w D x es ∧ Reps c w D xs r

section
variable {α : Type} {c : Cod α} {w w' : World} {D D' S : Nat → Prop}

theorem Reps.keep (hk : Keep S w w') (hd : ∀ b, D b → ¬ S b) : ∀ {xs : List α} {cs : List Value}, Reps c w D xs cs → Reps c w' D xs cs
  | [], _, h => h
  | x :: xs, _, ⟨es, r, h1, h2, h3⟩ => ⟨es, r, h1, c.keep h2 hk hd, Reps.keep hk hd h3⟩
theorem Reps.mono (hd : ∀ b, D b → D' b) : ∀ {xs : List α} {cs : List Value}, Reps c w D xs cs → Reps c w D' xs cs
  | [], _, h => h
  | x :: xs, _, ⟨es, r, h1, h2, h3⟩ => ⟨es, r, h1, c.mono h2 hd, Reps.mono hd h3⟩
theorem Reps.append : ∀ {xs ys : List α} {cs ds : List Value}, Reps c w D xs cs → Reps c w D ys ds → Reps c w D (xs ++ ys) (cs ++ ds)
  | [], ys, _, ds, h, k => by cases h; exact k
  | x :: xs, ys, _, ds, ⟨es, r, h1, h2, h3⟩, k => ⟨es, r ++ ds, by rw [h1, List.append_assoc], h2, Reps.append h3 k⟩
theorem Reps.one {x : α} {es : List Value} (h : c.rep w D x es) : Reps c w D [x] es := ⟨es, [], by simp, h, rfl⟩
theorem Reps.length : ∀ {xs : List α} {cs : List Value}, Reps c w D xs cs → cs.length = xs.length * c.k
  | [], _, h => by cases h; simp
  | x :: xs, _, ⟨es, r, h1, h2, h3⟩ => by
    rw [h1, List.length_append, c.len h2, Reps.length h3, List.length_cons, Nat.add_mul, Nat.one_mul, Nat.add_comm]
theorem Reps.one' : ∀ {xs : List α} {cs : List Value}, Reps c w D xs cs → ∀ u ∈ cs, u.oneCell' = true
  | [], _, h, u, hu => by cases h; simp at hu
  | x :: xs, _, ⟨es, r, h1, h2, h3⟩, u, hu => by
    rw [h1] at hu
    rcases List.mem_append.1 hu with hu | hu
    · exact c.one h2 u hu
    · exact Reps.one' h3 u hu
theorem Reps.at : ∀ {xs : List α} {cs : List Value}, Reps c w D xs cs → ∀ {i : Nat} {x : α}, xs[i]? = some x → ∃ es, (∀ j, j < c.k → cs[i * c.k + j]? = es[j]?) ∧ c.rep w D x es
  | [], _, h, i, x, hi => by simp at hi
  | y :: xs, _, ⟨es, r, h1, h2, h3⟩, i, x, hi => by
    have hl := c.len h2
    cases i with
    | zero =>
      simp at hi; subst hi
      refine ⟨es, fun j hj => ?_, h2⟩
      rw [h1, Nat.zero_mul, Nat.zero_add, List.getElem?_append_left (by omega)]
    | succ i =>
      obtain ⟨fs, h4, h5⟩ := Reps.at h3 (i := i) (x := x) (by simpa using hi)
      refine ⟨fs, fun j hj => ?_, h5⟩
      rw [h1, Nat.add_mul, Nat.one_mul, List.getElem?_append_right (by omega), ← h4 j hj]
      congr 1
      omega
/-- a row that is read, its cells one behind the other -/
theorem Row.reps {bytes : Nat} {a : Option Addr} {n : Nat} {xs : List α} (h : Row c bytes w D a n xs) : ∃ cs, Reps c w D xs cs ∧ (xs ≠ [] → 0 < c.k → ∃ b off, a = some ⟨b, off, none⟩ ∧ b < w.heap.size ∧ D b ∧ ∀ j u, cs[j]? = some u → w.cell? ⟨b, off + j, none⟩ = some u) := by
  have main : ∀ (ys : List α) (m : Nat), (∀ i x, ys[i]? = some x → xs[m + i]? = some x) → ∃ cs, Reps c w D ys cs ∧ ∀ b off, a = some ⟨b, off, none⟩ → 0 < c.k → ∀ j u, cs[j]? = some u → w.cell? ⟨b, off + m * c.k + j, none⟩ = some u := by
    intro ys
    induction ys with
    | nil => intro m _; exact ⟨[], rfl, fun b off _ _ j u hj => by simp at hj⟩
    | cons y ys ih =>
      intro m hm
      obtain ⟨r, h1, h2⟩ := ih (m + 1) (fun i x hi => by have := hm (i + 1) x (by simpa using hi); rw [show m + 1 + i = m + (i + 1) by omega]; exact this)
      obtain ⟨b, off, es, ha, hb, hD, hc, hr⟩ := h.el m y (hm 0 y rfl)
      refine ⟨es ++ r, ⟨es, r, rfl, hr, h1⟩, fun b' off' ha' hk j u hj => ?_⟩
      rw [ha] at ha'; cases ha'
      have hl := c.len hr
      by_cases hjk : j < c.k
      · rw [List.getElem?_append_left (by omega)] at hj
        rw [← hj]; exact hc j hjk
      · rw [List.getElem?_append_right (by omega)] at hj
        have := h2 b off ha hk (j - es.length) u hj
        rw [← this]
        congr 2
        rw [Nat.add_mul]
        omega
  obtain ⟨cs, h1, h2⟩ := main xs 0 (fun i x hi => by simpa using hi)
  refine ⟨cs, h1, fun hne hk => ?_⟩
  cases xs with
  | nil => exact absurd rfl hne
  | cons x xs =>
    obtain ⟨b, off, es, ha, hb, hD, hc, hr⟩ := h.el 0 x rfl
    refine ⟨b, off, ha, hb, hD, fun j u hj => ?_⟩
    have := h2 b off ha hk j u hj
    simpa using this
end

/-- a slice that is built: its block is its own, and the room behind it; F: the blocks of all of it -/
structure Lst {α : Type} (c : Cod α) (e : TypeId) (F : Nat → Prop) (w : World) (a : Option Addr) (n cap : Nat) (xs : List α) : Prop where
  body : ∃ cs D, Own w e c.k a n cap cs ∧ Reps c w D xs cs ∧ (∀ b, D b → F b ∧ blk a ≠ some b)
  self : ∀ b, blk a = some b → F b
  dom : ∀ b, F b → b < w.heap.size

section
variable {α : Type} {c : Cod α} {e : TypeId} {w w' : World} {F F' S : Nat → Prop} {a : Option Addr} {n cap : Nat} {xs : List α}

theorem Lst.nil (w : World) : Lst c e (fun _ => False) w none 0 0 [] :=
  ⟨⟨[], fun _ => False, Own.nil _ _ _, rfl, fun _ h => h.elim⟩, fun b h => (by cases h), fun _ h => h.elim⟩
theorem Lst.keep (h : Lst c e F w a n cap xs) (hk : Keep S w w') (hd : ∀ b, F b → ¬ S b) : Lst c e F w' a n cap xs := by
  obtain ⟨cs, D, ho, hr, hD⟩ := h.body
  exact ⟨⟨cs, D, ho.keep hk (notIn_blk.2 fun b hb => hd b (h.self b hb)), hr.keep hk (fun b hb => hd b (hD b hb).1), hD⟩, h.self, fun b hb => Nat.lt_of_lt_of_le (h.dom b hb) hk.size⟩
theorem Lst.grew (h : Lst c e F w a n cap xs) (hk : Grew w w') : Lst c e F w' a n cap xs := h.keep hk fun _ _ h => h
theorem Lst.mono (h : Lst c e F w a n cap xs) (hF : ∀ b, F b → F' b) (hd : ∀ b, F' b → b < w.heap.size) : Lst c e F' w a n cap xs := by
  obtain ⟨cs, D, ho, hr, hD⟩ := h.body
  exact ⟨⟨cs, D, ho, hr, fun b hb => ⟨hF b (hD b hb).1, (hD b hb).2⟩⟩, fun b hb => hF b (h.self b hb), hd⟩
theorem Lst.len (h : Lst c e F w a n cap xs) (hk : 0 < c.k) : n = xs.length := by
  obtain ⟨cs, D, ho, hr, hD⟩ := h.body
  have h1 := ho.length
  rw [hr.length] at h1
  exact (Nat.eq_of_mul_eq_mul_right hk h1).symm
/-- where one ends there is none of it -/
theorem Own.lt_cap {k : Nat} {cs : List Value} (h : Own w e k a n cap cs) : n ≤ cap := by
  rcases h.cases with ⟨_, rfl, rfl, _⟩ | ⟨g, cur, _, _, hnc, _, _⟩
  · exact Nat.le_refl _
  · exact hnc
/-- it is read -/
theorem Lst.row {bytes : Nat} (h : Lst c e F w a n cap xs) (hk : 0 < c.k) (hb : xs.length * bytes ≤ Big) : Row c bytes w F a n xs := by
  have hl := h.len hk
  obtain ⟨cs, D, ho, hr, hD⟩ := h.body
  refine ⟨hl, by rw [hl]; exact hb, fun i x hi => ?_⟩
  obtain ⟨es, h1, h2⟩ := hr.at hi
  have hel := c.len h2
  have h0 := h1 0 hk
  rw [Nat.add_zero, List.getElem?_eq_getElem (show 0 < es.length by omega)] at h0
  obtain ⟨g, ha, hg, _⟩ := ho.cell h0
  refine ⟨g, 0, es, ha, hg, h.self g (by rw [ha]; rfl), fun j hj => ?_, c.mono h2 fun b hb => (hD b hb).1⟩
  have hj' := h1 j hj
  rw [List.getElem?_eq_getElem (show j < es.length by omega)] at hj' ⊢
  obtain ⟨g', ha', _, hc⟩ := ho.cell hj'
  rw [ha] at ha'; cases ha'
  rw [Nat.zero_add]
  exact hc

/-- one more, that was laid in a block of its own just now -/
theorem papp {P : Program} {t ty : TypeId} {bytes : Nat} {arr : Array Value} {x : α} {κ ε : Value → World → Prop} (h : Lst c e F w a n cap xs) (hT : SlT P t e c.k bytes)
    {D : Nat → Prop} (hx : c.rep w D x arr.toList) (hD : ∀ b, D b → b < w.heap.size ∧ blk a ≠ some b) (hb : (xs.length + 1) * bytes ≤ Big) (hm : xs.length + 1 ≤ maxLen)
    (hκ : ∀ a' cap' w' F', Lst c e F' w' a' (n + 1) cap' (xs ++ [x]) → Keep (fun j => blk a = some j) w w' → (∀ b, F' b → F b ∨ D b ∨ w.heap.size ≤ b) → (∀ b, blk a' = some b → F b ∨ w.heap.size ≤ b) → κ (.slice a' (n + 1) cap') w') :
    PA w (.cells arr e) fun w1 => PRun P (Builtin.append_ #[t, t] ty #[.slice a n cap, .slice (some ⟨w.heap.size, 0, none⟩) 1 1]) w1 κ ε := by
  have hl := h.len hT.pos
  obtain ⟨cs, D0, ho, hr, hD0⟩ := h.body
  refine PA.mk fun w1 k1 s1 g1 => ?_
  have hxl := c.len hx
  have hown1 := ho.grew k1
  refine app_own hT (news := arr.toList) hown1 g1 (by rw [List.take_of_length_le (by omega)]) (by omega) (c.one hx) (by rw [hl]; exact hb) (by rw [hl]; exact hm) fun a' c' w3 ho3 hk3 hl3 => ?_
  have hk : Keep (fun j => blk a = some j) w w3 := (Grew.keep k1).then (hk3.mono fun _ _ h => h.symm)
  let F' : Nat → Prop := fun b => F b ∨ D b ∨ (w.heap.size ≤ b ∧ b < w3.heap.size)
  have hsz : w1.heap.size ≤ w3.heap.size := hk3.size
  refine hκ a' c' w3 F' ⟨⟨_, fun b => D0 b ∨ D b, ho3, Reps.append ((hr.keep hk fun b hb => (hD0 b hb).2).mono fun b hb => .inl hb) (Reps.one (c.mono (c.keep hx hk fun b hb => (hD b hb).2) fun b hb => .inr hb)), ?_⟩, ?_, ?_⟩ hk ?_ ?_
  · intro b hb
    have hlt : b < w.heap.size := hb.elim (fun h1 => h.dom b (hD0 b h1).1) fun h1 => (hD b h1).1
    refine ⟨hb.elim (fun h1 => .inl (hD0 b h1).1) fun h1 => .inr (.inl h1), ?_⟩
    rcases hl3 with hl3 | hl3
    · rw [hl3]; exact hb.elim (fun h1 => (hD0 b h1).2) fun h1 => (hD b h1).2
    · rw [hl3]; intro he; cases he; omega
  · intro b hb
    rcases hl3 with hl3 | hl3
    · exact .inl (h.self b (hl3 ▸ hb))
    · have := ho3.lt hb
      rw [hl3] at hb; cases hb; exact .inr (.inr ⟨by omega, this⟩)
  · rintro b (hb | hb | hb)
    · have := h.dom b hb; omega
    · have := (hD b hb).1; omega
    · exact hb.2
  · rintro b (hb | hb | hb)
    · exact .inl hb
    · exact .inr (.inl hb)
    · exact .inr (.inr hb.1)
  · intro b hb
    rcases hl3 with hl3 | hl3
    · exact .inl (h.self b (hl3 ▸ hb))
    · rw [hl3] at hb; cases hb; exact .inr (by omega)

/-- more, that are read in a row -/
theorem appRow {P : Program} {t ty : TypeId} {bytes : Nat} {κ ε : Value → World → Prop} (h : Lst c e F w a n cap xs) (hT : SlT P t e c.k bytes)
    {D : Nat → Prop} {p : Addr} {m mc : Nat} {ys : List α} (hx : Row c bytes w D (some p) m ys) (hD : ∀ b, D b → b < w.heap.size ∧ blk a ≠ some b) (hb : (xs.length + ys.length) * bytes ≤ Big) (hm : xs.length + ys.length ≤ maxLen)
    (hκ : ∀ a' cap' w' F', Lst c e F' w' a' (n + m) cap' (xs ++ ys) → Keep (fun j => blk a = some j) w w' → (∀ b, F' b → F b ∨ D b ∨ w.heap.size ≤ b) → (∀ b, blk a' = some b → F b ∨ w.heap.size ≤ b) → κ (.slice a' (n + m) cap') w') :
    PRun P (Builtin.append_ #[t, t] ty #[.slice a n cap, .slice (some p) m mc]) w κ ε := by
  have hl := h.len hT.pos
  have hml := hx.len
  obtain ⟨cs, D0, ho, hr, hD0⟩ := h.body
  obtain ⟨ds, hr2, hcell⟩ := hx.reps
  have hsrc : ∀ j u, ds[j]? = some u → w.cell? (p.add j) = some u := fun j u hj => by
    have hne : ys ≠ [] := by rintro rfl; have := hr2.length; simp at this; subst this; simp at hj
    obtain ⟨b, off, hp, _, _, hc⟩ := hcell hne hT.pos
    cases hp
    rw [Addr.add_lit]; exact hc j u hj
  refine app_src hT (news := ds) ho hsrc (by rw [hr2.length, hml]) hr2.one' (by rw [hl, hml]; exact hb) (by rw [hl, hml]; exact hm) fun a' c' w3 ho3 hk3 hl3 => ?_
  have hk : Keep (fun j => blk a = some j) w w3 := hk3.mono fun _ _ h => h.symm
  let F' : Nat → Prop := fun b => F b ∨ D b ∨ (w.heap.size ≤ b ∧ b < w3.heap.size)
  have hsz : w.heap.size ≤ w3.heap.size := hk3.size
  refine hκ a' c' w3 F' ⟨⟨_, fun b => D0 b ∨ D b, ho3, Reps.append ((hr.keep hk fun b hb => (hD0 b hb).2).mono fun b hb => .inl hb) ((hr2.keep hk fun b hb => (hD b hb).2).mono fun b hb => .inr hb), ?_⟩, ?_, ?_⟩ hk ?_ ?_
  · intro b hb
    have hlt : b < w.heap.size := hb.elim (fun h1 => h.dom b (hD0 b h1).1) fun h1 => (hD b h1).1
    refine ⟨hb.elim (fun h1 => .inl (hD0 b h1).1) fun h1 => .inr (.inl h1), ?_⟩
    rcases hl3 with hl3 | hl3
    · rw [hl3]; exact hb.elim (fun h1 => (hD0 b h1).2) fun h1 => (hD b h1).2
    · rw [hl3]; intro he; cases he; omega
  · intro b hb
    rcases hl3 with hl3 | hl3
    · exact .inl (h.self b (hl3 ▸ hb))
    · have := ho3.lt hb
      rw [hl3] at hb; cases hb; exact .inr (.inr ⟨Nat.le_refl _, this⟩)
  · rintro b (hb | hb | hb)
    · have := h.dom b hb; omega
    · have := (hD b hb).1; omega
    · exact hb.2
  · rintro b (hb | hb | hb)
    · exact .inl hb
    · exact .inr (.inl hb)
    · exact .inr (.inr hb.1)
  · intro b hb
    rcases hl3 with hl3 | hl3
    · exact .inl (h.self b (hl3 ▸ hb))
    · rw [hl3] at hb; cases hb; exact .inr (by omega)
end

theorem Reps.free {α : Type} {k : Nat} {enc : α → List Value} {ok : α → Prop} {hl h1} {w w' : World} {D E : Nat → Prop} : ∀ {xs : List α} {cs : List Value}, Reps (flat k enc ok hl h1) w D xs cs → Reps (flat k enc ok hl h1) w' E xs cs
  | [], _, h => h
  | x :: xs, _, ⟨es, r, h1, h2, h3⟩ => ⟨es, r, h1, h2, h3.free⟩
/-- one of things that ask nothing of a world has its own block alone -/
theorem Lst.alone {α : Type} {k : Nat} {enc : α → List Value} {ok : α → Prop} {hl h1} {e : TypeId} {F : Nat → Prop} {w : World} {a : Option Addr} {n cap : Nat} {xs : List α} (h : Lst (flat k enc ok hl h1) e F w a n cap xs) :
    Lst (flat k enc ok hl h1) e (fun b => blk a = some b) w a n cap xs := by
  obtain ⟨cs, E, ho, hr, hE⟩ := h.body
  exact ⟨⟨cs, fun _ => False, ho, hr.free, fun _ h => h.elim⟩, fun b hb => hb, fun b hb => h.dom b (h.self b hb)⟩

/-- what a call hands back: a new list -/
def New {α : Type} (c : Cod α) (e : TypeId) (w0 : World) (xs : List α) (v : Value) (w : World) : Prop :=
  ∃ a n cap F, v = .slice a n cap ∧ Lst c e F w a n cap xs ∧ Grew w0 w ∧ ∀ b, F b → w0.heap.size ≤ b

/-- a literal of one-celled things, laid in a new block -/
theorem Row.lit {α : Type} {enc : α → Value} {ok : α → Prop} {hl h1} {bytes : Nat} {w : World} {g : Nat} {e : TypeId} {f : Nat × Nat} {cs : Array Value} (hg : w.heap[g]? = some (.cells cs e f)) (xs : List α) (hc : cs.toList = xs.map enc) (hr : ∀ x ∈ xs, ok x) (hb : xs.length * bytes ≤ Big) :
    Row (flat 1 (fun x => [enc x]) ok hl h1) bytes w (· = g) (some ⟨g, 0, none⟩) xs.length xs :=
  ⟨rfl, hb, fun i x hi => ⟨g, 0, [enc x], rfl, lt_of_get hg, rfl, fun j hj => by
    have : j = 0 := Nat.lt_one_iff.1 hj
    subst this
    have : cs.toList[i]? = some (enc x) := by rw [hc]; simp [hi]
    have h2 := cell_at hg (off := i) (v := enc x) (by simpa using this)
    simpa [flat] using h2, rfl, hr x (List.mem_of_getElem? hi)⟩⟩

/-- a part of a row -/
theorem Row.part {α : Type} {c : Cod α} {bytes : Nat} {w : World} {D : Nat → Prop} {a : Option Addr} {n : Nat} {xs : List α} (h : Row c bytes w D a n xs) {lo hi cap : Nat} (h1 : lo ≤ hi) (h2 : hi ≤ n) (h3 : n ≤ cap) :
    Row c bytes w D (subA a lo cap c.k) (hi - lo) ((xs.take hi).drop lo) := by
  have hl := h.len
  refine ⟨by simp; omega, Nat.le_trans (Nat.mul_le_mul_right _ (by omega)) h.big, fun i x hx => ?_⟩
  rw [List.getElem?_drop, List.getElem?_take] at hx
  split at hx
  · rename_i hlt
    obtain ⟨b, off, es, ha, hb, hD, hc, hr⟩ := h.el (lo + i) x hx
    by_cases he : cap = lo
    · omega
    · exact ⟨b, off + lo * c.k, es, by rw [ha]; simp [subA, he, Addr.add_lit], hb, hD, fun j hj => by rw [← hc j hj]; congr 2; rw [Nat.add_mul]; omega, hr⟩
  · cases hx

/-- a list's room -/
theorem Lst.cap_le {α : Type} {c : Cod α} {e : TypeId} {F : Nat → Prop} {w : World} {a : Option Addr} {n cap : Nat} {xs : List α} (h : Lst c e F w a n cap xs) : n ≤ cap := by
  obtain ⟨cs, E, ho, _⟩ := h.body
  exact ho.lt_cap

theorem Row.take {α : Type} {c : Cod α} {bytes : Nat} {w : World} {D : Nat → Prop} {a : Option Addr} {n : Nat} {xs : List α} (h : Row c bytes w D a n xs) {m : Nat} (hm : m ≤ n) : Row c bytes w D a m (xs.take m) := by
  have hl := h.len
  refine ⟨by simp; omega, Nat.le_trans (Nat.mul_le_mul_right _ hm) h.big, fun i x hi => ?_⟩
  rw [List.getElem?_take] at hi
  split at hi
  · exact h.el i x hi
  · cases hi


/-- the same, of one that may be nil -/
theorem appRow' {α : Type} {c : Cod α} {e : TypeId} {w : World} {F : Nat → Prop} {a : Option Addr} {n cap : Nat} {xs : List α} {P : Program} {t ty : TypeId} {bytes : Nat} {κ ε : Value → World → Prop} (h : Lst c e F w a n cap xs) (hT : SlT P t e c.k bytes)
    {D : Nat → Prop} {a2 : Option Addr} {m mc : Nat} {ys : List α} (hx : Row c bytes w D a2 m ys) (hnil : a2 = none → m = 0 ∧ mc = 0) (hD : ∀ b, D b → b < w.heap.size ∧ blk a ≠ some b) (hb : (xs.length + ys.length) * bytes ≤ Big) (hm : xs.length + ys.length ≤ maxLen)
    (hκ : ∀ a' cap' w' F', Lst c e F' w' a' (n + m) cap' (xs ++ ys) → Keep (fun j => blk a = some j) w w' → (∀ b, F' b → F b ∨ D b ∨ w.heap.size ≤ b) → (∀ b, blk a' = some b → F b ∨ w.heap.size ≤ b) → κ (.slice a' (n + m) cap') w') :
    PRun P (Builtin.append_ #[t, t] ty #[.slice a n cap, .slice a2 m mc]) w κ ε := by
  cases a2 with
  | some p => exact appRow h hT hx hD hb hm hκ
  | none =>
    obtain ⟨rfl, rfl⟩ := hnil rfl
    have hy : ys = [] := List.eq_nil_of_length_eq_zero hx.len.symm
    subst hy
    obtain ⟨i, z, hi, hz, hs, hby, hzs⟩ := SlT.info hT
    obtain ⟨cs, D0, ho, hr, hD0⟩ := h.body
    have hrun := run_append_owned_none (P := P) (w := w) 0 t ty e i c.k hT.under hi (.slice a n cap) n cs ho.row
    exact PRun.mk hrun (hκ a cap w F (by simpa using h) (Keep.refl _) (fun b hb => .inl hb) fun b hb => .inl (h.self b hb))

theorem Lst.nil0 {α : Type} {c : Cod α} {e : TypeId} {F : Nat → Prop} {w : World} {a : Option Addr} {n cap : Nat} {xs : List α} (h : Lst c e F w a n cap xs) (ha : a = none) : n = 0 ∧ cap = 0 := by
  obtain ⟨cs, E, ho, _⟩ := h.body
  rcases ho.cases with ⟨_, h1, h2, _⟩ | ⟨g, cur, rfl, _⟩
  · exact ⟨h1, h2⟩
  · cases ha

/-- bytes, all 0 -/
theorem makeU8 {P : Program} {t e : TypeId} (hT : SlT P t e 1 1) (hz : (P.info? e).bind (·.zero) = some (.int .u8 0)) {l c : Nat} (hlc : l ≤ c) (hb : c ≤ Big) {w : World} {κ ε : Value → World → Prop}
    (h : ∀ w', Lst cU8 e (· = w.heap.size) w' (some ⟨w.heap.size, 0, none⟩) l c (List.replicate l 0) → Grew w w' → w'.heap.size = w.heap.size + 1 → κ (.slice (some ⟨w.heap.size, 0, none⟩) l c) w') :
    PRun P (Instr.makeSlice t (.int .i64 (l : Int)) (.int .i64 (c : Int))) w κ ε := by
  unfold Big at hb
  obtain ⟨i, z, hi, hzi, hs, hby, hzs⟩ := hT.info
  have hzu : z = .int .u8 0 := by
    rw [hi] at hz
    simp only [Option.bind_some, hzi] at hz
    exact Option.some.inj hz
  subst hzu
  have hr := run_make (P := P) w t e i _ hT.under hi hzi .i64 .i64 l c (by omega) (by omega) (by rw [hby]; omega) (by omega)
  rw [Int.toNat_natCast, Int.toNat_natCast, hs, Nat.mul_one] at hr
  have hk : Grew w (w.alloc (.cells (madeCells (Value.int .u8 0).cells c) e)) := Keep.alloc w _
  have hmade : (madeCells (Value.int .u8 0).cells c).toList = List.replicate c (.int .u8 0) := by
    unfold madeCells
    rw [Array.toList_map]
    apply List.ext_getElem
    · simp
    · intro j h1 h2
      simp [Value.cells, Nat.mod_one]
  refine PRun.mk hr (h _ ⟨⟨List.replicate l (.int .u8 0), fun _ => False, ⟨⟨by simp [cU8, flat], .inr ⟨w.heap.size, c, _, rfl, Nat.zero_le _, heap_alloc_new w _, hlc, by unfold maxLen; omega, by simp [size_madeCells, cU8, flat], ?_⟩⟩⟩, ?_, fun _ h => h.elim⟩, fun b hb => by simpa [blk] using hb.symm, fun b hb => by subst hb; simp⟩ hk (by simp))
  · rw [hmade]
    simp only [cU8, flat, Nat.mul_one, List.take_replicate]
    rw [Nat.min_eq_left hlc]
  · have gen : ∀ l : Nat, Reps cU8 (w.alloc (.cells (madeCells (Value.int .u8 0).cells c) e)) (fun _ => False) (List.replicate l 0) (List.replicate l (.int .u8 0)) := by
      intro l
      induction l with
      | zero => rfl
      | succ l ih => exact ⟨[.int .u8 0], List.replicate l (.int .u8 0), rfl, ⟨rfl, trivial⟩, ih⟩
    exact gen l
end Go.Lift
