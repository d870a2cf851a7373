/- what the statements share, of texts -/
import Derived.Test.YtpbpjojdfcdbbaaGreatDoorKitBytes
namespace Go.Proofs.YtpbpjojdfcdbbaaGreatDoor
open Go.Lift
set_option linter.unusedVariables false
set_option maxRecDepth 20000

theorem slStr : SlT Tryz.prog 70 9 1 16 := ⟨by kernel_rfl, by kernel_rfl, by decide⟩

theorem kit_SameTexts {a b : Option Addr} {n m c d : Nat} {xs ys : List ByteArray} {w : World} {D E : Nat → Prop} (ha : Row cStr 16 w D a n xs) (hb : Row cStr 16 w E b m ys) :
    Calls Tryz.prog F_kit_SameTexts #[.slice a n c, .slice b m d] w (Ok fun v w' => v = .bool (decide (xs = ys)) ∧ Drew w w') := by
  have ha0 := ha.len; have hb0 := hb.len; have ha1 := ha.big
  unfold Big at ha1
  refine L_kit_SameTexts (PIf.neI (fun h => ?_) (fun h => ?_))
  · have hne : xs ≠ ys := by rintro rfl; simp [ha0, hb0] at h
    exact Ok.mk ⟨by simp [hne], Drew.refl w⟩
  · refine ⟨fun k i w' => ∃ j : Nat, i = j ∧ j ≤ n ∧ k = n - j ∧ xs.take j = ys.take j ∧ Drew w w', ⟨_, 0, rfl, Nat.zero_le _, rfl, rfl, Drew.refl w⟩, ?_⟩
    rintro k i _ w1 ⟨j, rfl, hj, rfl, ht, hd⟩
    refine PIf.dec (fun h1 => ?_) (fun h1 => ?_)
    · obtain ⟨b1, o1, x, rfl, hx, _, hc1⟩ := (ha.grew hd.keep).at1 (i := j) (by omega)
      obtain ⟨b2, o2, y, rfl, hy, _, hc2⟩ := (hb.grew hd.keep).at1 (i := j) (by omega)
      refine ⟨b1, o1, rfl, by omega, by omega, _, hc1, b2, o2, rfl, by omega, by omega, _, hc2, fun w2 hd2 => ?_⟩
      refine PIf.neS (fun h2 => ?_) (fun hxy => ?_)
      · have hne : xs ≠ ys := by rintro rfl; rw [hx] at hy; cases hy; exact h2 rfl
        exact Ok.mk ⟨by simp [hne], hd.then hd2⟩
      · subst hxy
        exact ⟨_, by omega, j + 1, wrap_succ (by omega), by omega, rfl, take_same ht hx hy, hd.then hd2⟩
    · have : xs = ys := by
        have e1 : xs.take j = xs := List.take_of_length_le (by omega)
        have e2 : ys.take j = ys := List.take_of_length_le (by omega)
        rw [← e1, ← e2, ht]
      exact Ok.mk ⟨by simp [this], hd⟩
end Go.Proofs.YtpbpjojdfcdbbaaGreatDoor
