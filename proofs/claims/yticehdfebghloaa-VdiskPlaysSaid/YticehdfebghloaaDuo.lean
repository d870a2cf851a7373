/- two things beside each other, each in its own blocks -/
import Derived.Test.YticehdfebghloaaRep
namespace Go.Lift
open Go
set_option linter.unusedVariables false

structure Thing where
  at' : World → (Nat → Prop) → Prop
  keep : ∀ {S F : Nat → Prop} {w w' : World}, at' w F → Keep S w w' → (∀ b, F b → ¬ S b) → at' w' F
  dom : ∀ {F : Nat → Prop} {w : World}, at' w F → ∀ b, F b → b < w.heap.size

/-- two things that were made behind w0, apart from one another and from X -/
def Duo (w0 w : World) (A B : Thing) (X : Nat → Prop) : Prop := ∃ F G, A.at' w F ∧ B.at' w G ∧ Grew w0 w ∧ (∀ b, F b → w0.heap.size ≤ b ∧ ¬ X b ∧ ¬ G b) ∧ (∀ b, G b → w0.heap.size ≤ b ∧ ¬ X b) ∧ ∀ b, X b → b < w.heap.size

section
variable {P : Program} {w0 w w1 w' : World} {A A' B : Thing} {X Y : Nat → Prop}
theorem Duo.gr (h : Duo w0 w A B X) : Grew w0 w := by obtain ⟨F, G, h1, h2, h3, _⟩ := h; exact h3
theorem Duo.swap (h : Duo w0 w A B X) : Duo w0 w B A X := by
  obtain ⟨F, G, h1, h2, h3, h4, h5, h6⟩ := h
  exact ⟨G, F, h2, h1, h3, fun b hb => ⟨(h5 b hb).1, (h5 b hb).2, fun hf => (h4 b hf).2.2 hb⟩, fun b hb => ⟨(h4 b hb).1, (h4 b hb).2.1⟩, h6⟩
theorem Duo.grew (h : Duo w0 w A B X) (hk : Grew w w') : Duo w0 w' A B X := by
  obtain ⟨F, G, h1, h2, h3, h4, h5, h6⟩ := h
  exact ⟨F, G, A.keep h1 hk fun _ _ h => h, B.keep h2 hk fun _ _ h => h, h3.grew hk, h4, h5, fun b hb => Nat.lt_of_lt_of_le (h6 b hb) hk.size⟩
theorem Duo.mono (h : Duo w0 w A B X) (hx : ∀ b, Y b → X b) : Duo w0 w A B Y := by
  obtain ⟨F, G, h1, h2, h3, h4, h5, h6⟩ := h
  exact ⟨F, G, h1, h2, h3, fun b hb => ⟨(h4 b hb).1, fun hy => (h4 b hb).2.1 (hx b hy), (h4 b hb).2.2⟩, fun b hb => ⟨(h5 b hb).1, fun hy => (h5 b hb).2 (hx b hy)⟩, fun b hb => h6 b (hx b hb)⟩
theorem Duo.add (h : Duo w0 w A B X) (hk : Grew w w') (hY : ∀ b, Y b → w.heap.size ≤ b ∧ b < w'.heap.size) : Duo w0 w' A B (fun b => X b ∨ Y b) := by
  obtain ⟨F, G, h1, h2, h3, h4, h5, h6⟩ := h
  exact ⟨F, G, A.keep h1 hk fun _ _ h => h, B.keep h2 hk fun _ _ h => h, h3.grew hk, fun b hb => ⟨(h4 b hb).1, fun hx => hx.elim (h4 b hb).2.1 fun hy => by have := A.dom h1 b hb; have := (hY b hy).1; omega, (h4 b hb).2.2⟩,
    fun b hb => ⟨(h5 b hb).1, fun hx => hx.elim (h5 b hb).2 fun hy => by have := B.dom h2 b hb; have := (hY b hy).1; omega⟩, fun b hb => hb.elim (fun h => Nat.lt_of_lt_of_le (h6 b h) hk.size) fun h => (hY b h).2⟩
/-- what others do, in blocks of X -/
theorem Duo.other (h : Duo w0 w A B X) (hk : Keep Y w w') (hY : ∀ b, Y b → X b) (hX : ∀ b, Y b → w0.heap.size ≤ b) : Duo w0 w' A B X := by
  obtain ⟨F, G, h1, h2, h3, h4, h5, h6⟩ := h
  exact ⟨F, G, A.keep h1 hk fun b hb hy => (h4 b hb).2.1 (hY b hy), B.keep h2 hk fun b hb hy => (h5 b hb).2 (hY b hy), h3.new hk fun b hb => .inr (hX b hb), h4, h5, fun b hb => Nat.lt_of_lt_of_le (h6 b hb) hk.size⟩

/-- two made one behind the other -/
theorem Duo.of {F G : Nat → Prop} (hg : Grew w0 w) (hA : A.at' w1 F) (hF : ∀ b, F b → w.heap.size ≤ b) (hk : Grew w w1) (hB : B.at' w' G) (hG : ∀ b, G b → w1.heap.size ≤ b) (hk2 : Grew w1 w') : Duo w0 w' A B (fun b => b < w.heap.size) := by
  have s0 := hg.size; have s1 := hk.size; have s2 := hk2.size
  refine ⟨F, G, A.keep hA hk2 fun _ _ h => h, hB, (hg.grew hk).grew hk2, fun b hb => ⟨by have := hF b hb; omega, fun h => by have := hF b hb; omega, fun h => by have := A.dom hA b hb; have := hG b h; omega⟩, fun b hb => ⟨by have := hG b hb; omega, fun h => by have := hG b hb; omega⟩, fun b hb => by omega⟩

/-- a call that turns the first one -/
theorem Duo.call {g : FuncId} {args : Array Value} {Q : Value → World → Prop} (h : Duo w0 w A B X)
    (hc : ∀ F, A.at' w F → (∀ b, F b → w0.heap.size ≤ b ∧ ¬ X b) → Calls P g args w (Ok fun v w' => ∃ F', Q v w' ∧ A'.at' w' F' ∧ Evo F w F' w')) : Calls P g args w (Ok fun v w' => Q v w' ∧ Duo w0 w' A' B X ∧ Keep (fun b => ¬ X b) w w') := by
  obtain ⟨F, G, h1, h2, h3, h4, h5, h6⟩ := h
  refine Calls.ok (hc F h1 fun b hb => ⟨(h4 b hb).1, (h4 b hb).2.1⟩) ?_
  rintro v w' ⟨F', hq, hA, hev⟩
  have := h3.size; have := hev.keep.size
  exact ⟨hq, ⟨F', G, hA, B.keep h2 hev.keep fun b hb hf => (h4 b hf).2.2 hb, h3.new hev.keep fun b hb => .inr (h4 b hb).1,
    fun b hb => (hev.new b hb).elim (h4 b) fun h => ⟨by omega, fun hx => by have := h6 b hx; omega, fun hg => by have := B.dom h2 b hg; omega⟩, h5, fun b hb => by have := h6 b hb; omega⟩, hev.keep.mono fun b _ hb => (h4 b hb).2.1⟩
/-- one that reads it -/
theorem Duo.look {g : FuncId} {args : Array Value} {Q : Value → World → Prop} (h : Duo w0 w A B X) (hc : ∀ F, A.at' w F → Calls P g args w (Ok fun v w' => Q v w' ∧ Grew w w')) : Calls P g args w (Ok fun v w' => Q v w' ∧ Duo w0 w' A B X ∧ Grew w w') := by
  have h0 := h
  obtain ⟨F, G, h1, h2, h3⟩ := h
  refine Calls.ok (hc F h1) ?_
  rintro v w' ⟨hq, hk⟩
  exact ⟨hq, h0.grew hk, hk⟩
end
end Go.Lift
