/- a block that was laid just now, as a slice that is built -/
import Derived.Test.YtpmakiecgphijaaGreatDoorRep
namespace Go.Lift
open Go
set_option linter.unusedVariables false
theorem Reps.map {α : Type} {enc : α → Value} {ok : α → Prop} {hl h1} {w : World} {D : Nat → Prop} : ∀ {l : List α}, (∀ x ∈ l, ok x) → Reps (flat 1 (fun x => [enc x]) ok hl h1) w D l (l.map enc)
  | [], _ => rfl
  | x :: l, h => ⟨[enc x], l.map enc, rfl, ⟨rfl, h x (List.mem_cons_self ..)⟩, Reps.map fun y hy => h y (List.mem_cons_of_mem _ hy)⟩
theorem Lst.of_block {α : Type} {enc : α → Value} {ok : α → Prop} {hl h1} {e : TypeId} {w : World} {g : Nat} {cs : Array Value} (hg : w.heap[g]? = some (.cells cs e (0, 0))) (l : List α) (hc : cs.toList = l.map enc) (hok : ∀ x ∈ l, ok x) (hb : l.length ≤ maxLen) :
    Lst (flat 1 (fun x => [enc x]) ok hl h1) e (· = g) w (some ⟨g, 0, none⟩) l.length l.length l :=
  ⟨⟨l.map enc, fun _ => False, hc ▸ Own.of_new (k := 1) hg (by have := congrArg List.length hc; simp at this; omega) hb, Reps.map hok, fun _ h => h.elim⟩, fun b hb => by simpa [blk] using hb.symm, fun b hb => by subst hb; exact lt_of_get hg⟩
end Go.Lift
