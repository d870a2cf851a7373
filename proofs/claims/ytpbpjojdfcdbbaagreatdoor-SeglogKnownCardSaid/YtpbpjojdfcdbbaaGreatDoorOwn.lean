/- cells of built slices that are turned; nil that is appended. No program is named here. -/
import Derived.Test.YtpbpjojdfcdbbaaGreatDoorRep
namespace Go.Lift
open Go
set_option linter.unusedVariables false

/-- one cell of an own block, written -/
theorem Own.set {w : World} {e : TypeId} {k : Nat} {a : Option Addr} {n cap : Nat} {cs : List Value} (h : Own w e k a n cap cs) {m : Nat} {v : Value} {κ : World → Prop} (hm : m < cs.length) {b off : Nat} (ha : a = some ⟨b, off, none⟩)
    (hκ : ∀ w1, Own w1 e k a n cap (cs.set m v) → Keep (fun b => blk a = some b) w w1 → w1.heap.size = w.heap.size → κ w1) : PS w ⟨b, off + m, none⟩ v κ := by
  have hl := h.row.1
  rcases h.row.2 with ⟨he, hn⟩ | ⟨g, cp, cur, he, h0, hg, hnc, hmx, hcs, htake⟩
  · simp only [Value.slice.injEq] at he
    rw [he.1] at ha; cases ha
  · simp only [Value.slice.injEq] at he
    obtain ⟨he1, -, he3⟩ := he
    subst he1
    subst he3
    cases ha
    rw [Nat.zero_add]
    have hmc : m < cur.size := by
      have := congrArg List.length htake
      simp at this
      omega
    refine PS.mk hg hmc fun w1 k1 s1 g1 => hκ w1 ⟨⟨by simpa using hl, .inr ⟨_, _, _, rfl, h0, g1, hnc, hmx, by simpa using hcs, ?_⟩⟩⟩ (k1.mono fun b _ hb => by rw [hb]; rfl) s1
    rw [Array.toList_setIfInBounds, List.take_set, htake]

theorem Reps.flat_iff {α : Type} {k : Nat} {enc : α → List Value} {hl h1} {w : World} {D : Nat → Prop} : ∀ {xs : List α} {cs : List Value}, Reps (flat k enc (fun _ => True) hl h1) w D xs cs ↔ cs = xs.flatMap enc
  | [], cs => by simp [Reps]
  | x :: xs, cs => by
    constructor
    · rintro ⟨es, r, rfl, ⟨rfl, -⟩, h3⟩
      rw [Reps.flat_iff.1 h3]; rfl
    · rintro rfl
      exact ⟨enc x, xs.flatMap enc, rfl, ⟨rfl, trivial⟩, Reps.flat_iff.2 rfl⟩

theorem flatMap_set {α : Type} {enc : α → List Value} {k : Nat} (hl : ∀ x, (enc x).length = k) {x' : α} {v : Value} {j : Nat} (hj : j < k) : ∀ (xs : List α) (i : Nat) (x : α), xs[i]? = some x → enc x' = (enc x).set j v → (xs.flatMap enc).set (i * k + j) v = (xs.set i x').flatMap enc
  | [], i, x, h, _ => by simp at h
  | y :: ys, 0, x, h, he => by
    simp at h; subst h
    rw [List.flatMap_cons, List.set_cons_zero, List.flatMap_cons, Nat.zero_mul, Nat.zero_add, List.set_append_left _ _ (by rw [hl]; exact hj), he]
  | y :: ys, i + 1, x, h, he => by
    have := flatMap_set hl hj ys i x (by simpa using h) he
    have e : (i + 1) * k + j - k = i * k + j := by rw [Nat.add_mul]; omega
    have e2 : k ≤ (i + 1) * k + j := by rw [Nat.add_mul]; omega
    rw [List.flatMap_cons, List.set_cons_succ, List.flatMap_cons, List.set_append_right _ _ (by rw [hl]; exact e2), hl, e, this]

theorem flatMap_length {α : Type} {enc : α → List Value} {k : Nat} (hl : ∀ x, (enc x).length = k) : ∀ xs : List α, (xs.flatMap enc).length = xs.length * k
  | [] => by simp
  | x :: xs => by rw [List.flatMap_cons, List.length_append, hl, flatMap_length hl xs, List.length_cons, Nat.add_mul, Nat.one_mul, Nat.add_comm]

theorem Lst.set {α : Type} {k : Nat} {enc : α → List Value} {hl h1} {e : TypeId} {F : Nat → Prop} {w : World} {a : Option Addr} {n cap : Nat} {xs : List α} (h : Lst (flat k enc (fun _ => True) hl h1) e F w a n cap xs) {i j : Nat} {x x' : α} {v : Value} {κ : World → Prop}
    (hx : xs[i]? = some x) (hj : j < k) (he : enc x' = (enc x).set j v) {b off : Nat} (ha : a = some ⟨b, off, none⟩)
    (hκ : ∀ w1, Lst (flat k enc (fun _ => True) hl h1) e F w1 a n cap (xs.set i x') → Keep (fun b => blk a = some b) w w1 → w1.heap.size = w.heap.size → κ w1) : PS w ⟨b, off + i * k + j, none⟩ v κ := by
  obtain ⟨cs, D, ho, hr, hD⟩ := h.body
  have hc := Reps.flat_iff.1 hr
  subst hc
  have hil : i < xs.length := (List.getElem?_eq_some_iff.1 hx).1
  rw [Nat.add_assoc]
  refine ho.set (m := i * k + j) ?_ ha fun w1 ho1 k1 s1 => hκ w1 ⟨⟨_, D, ho1, Reps.flat_iff.2 (flatMap_set hl hj xs i x hx he), hD⟩, h.self, fun b hb => by rw [s1]; exact h.dom b hb⟩ k1 s1
  rw [flatMap_length hl]
  have : (i + 1) * k ≤ xs.length * k := Nat.mul_le_mul_right _ hil
  rw [Nat.add_mul] at this
  omega
/-- none more, from a slice that is nil, whatever its room is said to be -/
theorem run_append_none0 {P : Program} {w : World} (base : Nat) (t ty e : TypeId) (i : TypeInfo) (size : Nat) (ht : P.underlying t = some (.slice e)) (hi : P.info? e = some i)
    (v : Value) (n : Nat) (xs : List Value) (hown : w.ownsRow base e size v n xs) (mc : Nat) :
    (Builtin.append_ #[t, t] ty #[v, .slice none 0 mc]).run P w = .ok v w := by
  rcases hown.2 with ⟨rfl, rfl⟩ | ⟨g, cap, cur, rfl, _, _, hnc, _⟩
  · simp [Builtin.append_, run_underlying ht, sizeOf, typeInfo, hi, Builtin.lenOf, Builtin.firstCells]
  · simp [Builtin.append_, run_underlying ht, sizeOf, typeInfo, hi, Builtin.lenOf, Builtin.firstCells, hnc, storeCells]
theorem appRow0 {α : Type} {c : Cod α} {e : TypeId} {w : World} {F : Nat → Prop} {a : Option Addr} {n cap : Nat} {xs : List α} {P : Program} {t ty : TypeId} {bytes : Nat} {κ ε : Value → World → Prop} (h : Lst c e F w a n cap xs) (hT : SlT P t e c.k bytes)
    {D : Nat → Prop} {a2 : Option Addr} {m mc : Nat} {ys : List α} (hx : Row c bytes w D a2 m ys) (hD : ∀ b, D b → b < w.heap.size ∧ blk a ≠ some b) (hb : (xs.length + ys.length) * bytes ≤ Big) (hm : xs.length + ys.length ≤ maxLen)
    (hκ : ∀ a' cap' w' F', Lst c e F' w' a' (n + m) cap' (xs ++ ys) → Keep (fun j => blk a = some j) w w' → (∀ b, F' b → F b ∨ D b ∨ w.heap.size ≤ b) → (∀ b, blk a' = some b → F b ∨ w.heap.size ≤ b) → κ (.slice a' (n + m) cap') w') :
    PRun P (Builtin.append_ #[t, t] ty #[.slice a n cap, .slice a2 m mc]) w κ ε := by
  cases a2 with
  | some p => exact appRow h hT hx hD hb hm hκ
  | none =>
    have hy : ys = [] := by
      cases ys with
      | nil => rfl
      | cons y r => obtain ⟨b, off, es, ha, _⟩ := hx.el 0 y rfl; cases ha
    subst hy
    obtain rfl : m = 0 := hx.len
    obtain ⟨i, z, hi, hz, hs, hby, hzs⟩ := SlT.info hT
    obtain ⟨cs, D0, ho, hr, hD0⟩ := h.body
    exact PRun.mk (run_append_none0 (P := P) (w := w) 0 t ty e i c.k hT.under hi (.slice a n cap) n cs ho.row mc) (hκ a cap w F (by simpa using h) (Keep.refl _) (fun b hb => .inl hb) fun b hb => .inl (h.self b hb))
end Go.Lift
