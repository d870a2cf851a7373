/- what the statements share, of numbers -/
import Derived.Test.YtnfcddhabhbicaaVec
namespace Go.Proofs.Ytnfcddhabhbicaa
open Go.Lift
set_option linter.unusedVariables false

theorem kit_SameInts {a b : Option Addr} {n m c d : Nat} {xs ys : List Int} {w : World} (ha : Ints w a n xs) (hb : Ints w b m ys) :
    Calls Try.prog F_kit_SameInts #[.slice a n c, .slice b m d] w (Ok fun v w' => v = .bool (decide (xs = ys)) ∧ Drew w w') := by
  have ha0 := ha.len; have hb0 := hb.len; have ha1 := ha.big
  unfold Big at ha1
  refine L_kit_SameInts (PIf.mk (fun h => ?_) (fun h => ?_))
  · have hne : xs ≠ ys := by rintro rfl; simp [ha0, hb0] at h
    exact Ok.mk ⟨by simp [hne], 0, rfl⟩
  · have hnm : n = m := by
      have : (n : Int) = m := by simpa using h
      omega
    refine ⟨fun k i w' => ∃ j : Nat, i = j ∧ j ≤ n ∧ k = n - j ∧ xs.take j = ys.take j ∧ Drew w w', ⟨_, 0, rfl, Nat.zero_le _, rfl, rfl, 0, rfl⟩, ?_⟩
    rintro k i _ w1 ⟨j, rfl, hj, rfl, ht, hd⟩
    refine PIf.mk (fun h1 => ?_) (fun h1 => ?_)
    · have h1 := of_decide_eq_true h1
      obtain ⟨b1, o1, x, rfl, _, hx, _, hc1⟩ := (ha.grew hd.keep).at (i := (j : Int)) (by omega) (by omega)
      obtain ⟨b2, o2, y, rfl, _, hy, _, hc2⟩ := (hb.grew hd.keep).at (i := (j : Int)) (by omega) (by omega)
      rw [Int.toNat_natCast] at hx hy
      refine ⟨b1, o1, rfl, by omega, by omega, x, hc1, b2, o2, rfl, by omega, by omega, y, hc2, fun w2 hd2 => ?_⟩
      have hd3 : Drew w w2 := by obtain ⟨p, rfl⟩ := hd; obtain ⟨q, rfl⟩ := hd2; exact ⟨p + q, by simp⟩
      refine PIf.mk (fun h2 => ?_) (fun h2 => ?_)
      · have hne : xs ≠ ys := by rintro rfl; rw [hx] at hy; cases hy; simp at h2
        exact Ok.mk ⟨by simp [hne], hd3⟩
      · have hxy : x = y := by simpa using h2
        subst hxy
        refine ⟨_, ?_, j + 1, ?_, by omega, rfl, ?_, hd3⟩
        · omega
        · rw [wrap_i64 (by unfold I64; omega)]; simp
        · rw [List.take_add_one, List.take_add_one, ht, hx, hy]
    · have h1 := of_decide_eq_false h1
      have : xs = ys := by
        have e1 : xs.take j = xs := List.take_of_length_le (by omega)
        have e2 : ys.take j = ys := List.take_of_length_le (by omega)
        rw [← e1, ← e2, ht]
      exact Ok.mk ⟨by simp [this], hd⟩

def pick (k n : Int) : Int := if n < 1 then 0 else if k.tmod n < 0 then k.tmod n + n else k.tmod n

theorem pick_range {k n : Int} (h : 1 ≤ n) : 0 ≤ pick k n ∧ pick k n < n := by
  unfold pick
  rw [if_neg (by omega)]
  have h1 : k.tmod n < n := Int.tmod_lt_of_pos k (by omega)
  have h2 : -n < k.tmod n := Int.lt_tmod_of_pos k (by omega)
  split <;> omega

theorem kit_Pick {k n : Int} {w : World} (hn : I64 n) : Calls Try.prog F_kit_Pick #[.int .i64 k, .int .i64 n] w (Ok fun v w' => v = .int .i64 (pick k n) ∧ w = w') := by
  refine L_kit_Pick (PIf.mk (fun h => ?_) (fun h => ?_))
  · have h := of_decide_eq_true h
    exact Ok.mk ⟨by simp [pick, h], rfl⟩
  · have h := of_decide_eq_false h
    have hr := pick_range (k := k) (n := n) (by omega)
    have hrun : ∀ x y, (do eqGuard .rem 3 x y (.int .i64 k) (.int .i64 n); binOp .rem 3 (.int .i64 k) (.int .i64 n) : Sem Value).run Try.prog w = .ok (.int .i64 (k.tmod n)) w := fun x y => by
      have : n ≠ 0 := by omega
      simp [eqGuard, binOp, Op.intDiv, this]
    refine PRun.mk (hrun _ _) ⟨_, rfl, PIf.mk (fun h2 => ?_) (fun h2 => ?_)⟩
    · have h2 := of_decide_eq_true h2
      unfold pick at hr
      rw [if_neg (by omega), if_pos h2] at hr
      refine Ok.mk ⟨?_, rfl⟩
      rw [wrap_i64 (by unfold I64 at *; omega)]
      unfold pick
      rw [if_neg (by omega), if_pos h2]
    · have h2 := of_decide_eq_false h2
      refine Ok.mk ⟨?_, rfl⟩
      unfold pick
      rw [if_neg (by omega), if_neg h2]
end Go.Proofs.Ytnfcddhabhbicaa
