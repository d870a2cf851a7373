/- what the statements share: a number below another one -/
import Derived.Test.YtpbpjojdfcdbbaaGreatDoorRep
import Derived.Test.YtpbpjojdfcdbbaaGreatDoorCode
namespace Go.Proofs.YtpbpjojdfcdbbaaGreatDoor
open Go.Lift
set_option linter.unusedVariables false
set_option maxRecDepth 20000

def pick (k n : Int) : Int := if n < 1 then 0 else if k.tmod n < 0 then k.tmod n + n else k.tmod n

theorem pick_range {k n : Int} (h : 1 ≤ n) : 0 ≤ pick k n ∧ pick k n < n := by
  unfold pick
  rw [if_neg (by omega)]
  have h1 : k.tmod n < n := Int.tmod_lt_of_pos k (by omega)
  have h2 : -n < k.tmod n := Int.lt_tmod_of_pos k (by omega)
  split <;> omega

theorem kit_Pick {k n : Int} {w : World} (hn : I64 n) : Calls Tryz.prog F_kit_Pick #[.int .i64 k, .int .i64 n] w (Ok fun v w' => v = .int .i64 (pick k n) ∧ w = w') := by
  refine L_kit_Pick (PIf.mk (fun h => ?_) (fun h => ?_))
  · have h := of_decide_eq_true h
    exact Ok.mk ⟨by simp [pick, h], rfl⟩
  · have h := of_decide_eq_false h
    have hr := pick_range (k := k) (n := n) (by omega)
    have hrun : ∀ x y, (do eqGuard .rem 3 x y (.int .i64 k) (.int .i64 n); binOp .rem 3 (.int .i64 k) (.int .i64 n) : Sem Value).run Tryz.prog w = .ok (.int .i64 (k.tmod n)) w := fun x y => by
      have : n ≠ 0 := by omega
      simp [eqGuard, binOp, Op.intDiv, this]
    refine PRun.mk (hrun _ _) ⟨_, rfl, PIf.mk (fun h2 => ?_) (fun h2 => ?_)⟩
    · have h2 := of_decide_eq_true h2
      unfold pick at hr
      rw [if_neg (by omega), if_pos h2] at hr
      refine Ok.mk ⟨?_, rfl⟩
      rw [wrap_i64 (by unfold I64 at *; omega)]
      unfold pick
      rw [if_neg (by omega), if_pos h2]
    · have h2 := of_decide_eq_false h2
      refine Ok.mk ⟨?_, rfl⟩
      unfold pick
      rw [if_neg (by omega), if_neg h2]
end Go.Proofs.YtpbpjojdfcdbbaaGreatDoor
