/- all cells of a block, one behind the other. No program is named here. -/
import Derived.Test.YtpbpjojdfcdbbaaGreatDoorRep
namespace Go.Lift
open Go
set_option linter.unusedVariables false

def setsA (cs : Array Value) : Nat → List Value → Array Value
  | _, [] => cs
  | i, v :: vs => setsA (cs.setIfInBounds i v) (i + 1) vs
theorem setsA_get : ∀ (vs : List Value) (cs : Array Value) (i j : Nat), (setsA cs i vs)[j]? = if i ≤ j ∧ j < i + vs.length ∧ j < cs.size then vs[j - i]? else cs[j]?
  | [], cs, i, j => by rw [if_neg (by simp; omega)]; rfl
  | v :: vs, cs, i, j => by
    unfold setsA
    rw [setsA_get vs, Array.getElem?_setIfInBounds]
    simp only [List.length_cons, Array.size_setIfInBounds]
    by_cases h1 : i + 1 ≤ j ∧ j < i + 1 + vs.length ∧ j < cs.size
    · rw [if_pos h1, if_pos (by omega), show j - i = (j - (i + 1)) + 1 by omega, List.getElem?_cons_succ]
    · rw [if_neg h1]
      by_cases h2 : i = j
      · subst h2
        by_cases h3 : i < cs.size
        · rw [if_pos rfl, if_pos h3, if_pos (by omega), Nat.sub_self, List.getElem?_cons_zero]
        · rw [if_pos rfl, if_neg h3, if_neg (by omega), Array.getElem?_eq_none (by omega)]
      · rw [if_neg h2, if_neg (by omega)]
theorem setsA_all {vs : List Value} {cs : Array Value} (h : vs.length = cs.size) : setsA cs 0 vs = vs.toArray := by
  apply Array.ext_getElem?
  intro j
  rw [setsA_get]
  by_cases hj : j < cs.size
  · rw [if_pos (by omega)]; simp
  · rw [if_neg (by omega), Array.getElem?_eq_none (by omega)]
    simp; omega

theorem storeK_some {g : Nat} {t : TypeId} {κ : World → Prop} : ∀ (vs : List Value) (i : Nat) {w : World} {cs : Array Value}, w.heap[g]? = some (.cells cs t (0, 0)) → i + vs.length ≤ cs.size →
    (∀ w', Keep (· = g) w w' → w'.heap.size = w.heap.size → w'.heap[g]? = some (.cells (setsA cs i vs) t (0, 0)) → κ w') → storeK ⟨g, 0, none⟩ i vs w κ
  | [], i, w, cs, hg, hl, h => h w (Keep.refl _) rfl hg
  | v :: vs, i, w, cs, hg, hl, h => by
    unfold storeK
    rw [Addr.add_lit, Nat.zero_add]
    rw [List.length_cons] at hl
    exact PS.mk hg (by omega) fun w1 k1 s1 g1 => storeK_some vs (i + 1) g1 (by simp; omega) fun w2 k2 s2 g2 => h w2 (k1.then k2) (s2.trans s1) g2
/-- all of them -/
theorem storeAll {g : Nat} {t : TypeId} {κ : World → Prop} {w : World} {cs : Array Value} (vs : List Value) (hg : w.heap[g]? = some (.cells cs t (0, 0))) (hl : vs.length = cs.size)
    (h : ∀ w', Keep (· = g) w w' → w'.heap.size = w.heap.size → w'.heap[g]? = some (.cells vs.toArray t (0, 0)) → κ w') : storeK ⟨g, 0, none⟩ 0 vs w κ :=
  storeK_some vs 0 hg (by omega) fun w' k s g' => h w' k s (by rw [g', setsA_all hl])
end Go.Lift
