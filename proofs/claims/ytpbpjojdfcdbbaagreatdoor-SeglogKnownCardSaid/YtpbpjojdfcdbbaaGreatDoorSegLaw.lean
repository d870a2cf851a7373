/- segments: what the statements ask of frames and names, in plain Lean -/
import Derived.Test.YtpbpjojdfcdbbaaGreatDoorWire
import Derived.Test.YtpbpjojdfcdbbaaGreatDoorSegName
namespace Go.Lift
open Go
theorem segFrame_ok {e : EventV} (h : e.Ok) (hd : e.deps.length ≤ 64) : segFrame e = (evFr e, 0) := by
  have h1 := ev_le h hd
  have hp : evPut e = (encInts (evInts e), 0) := by unfold evPut; rw [if_neg (by omega)]
  have hf : frPut 1 (encInts (evInts e)) = (evFr e, 0) := by unfold frPut evFr; rw [if_neg (by decide), if_neg (by omega)]
  unfold segFrame
  rw [hp]
  simp only
  rw [hf]; simp
theorem segFrame_no {e : EventV} (hd : ¬ e.deps.length ≤ 64) : segFrame e = ([], 3) := by
  have hp : evPut e = ([], 3) := by unfold evPut; rw [if_pos (by omega)]
  unfold segFrame
  rw [hp]; simp
theorem evFrs_take {l : List EventV} {i j : Nat} (h : i ≤ j) : (evFrs (l.take i)).length ≤ (evFrs (l.take j)).length := by
  have : l.take j = l.take i ++ (l.take j).drop i := by
    conv => lhs; rw [← List.take_append_drop i (l.take j)]
    rw [List.take_take, Nat.min_eq_left h]
  rw [this, evFrs_append, List.length_append]; omega
theorem evFrs_le {l : List EventV} (h : ∀ e ∈ l, e.Ok ∧ e.deps.length ≤ 64) : (evFrs l).length ≤ 675 * l.length := by
  induction l with
  | nil => simp [evFrs]
  | cons e l ih =>
    rw [evFrs_cons, List.length_append, List.length_cons]
    have h1 := evFr_length (h e (List.mem_cons_self ..)).1 (h e (List.mem_cons_self ..)).2
    have h2 := ih fun x hx => h x (List.mem_cons_of_mem _ hx)
    omega
end Go.Lift
