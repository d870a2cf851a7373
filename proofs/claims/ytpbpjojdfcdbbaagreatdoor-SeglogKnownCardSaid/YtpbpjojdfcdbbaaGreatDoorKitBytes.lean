/- what the statements share, of bytes -/
import Derived.Test.YtpbpjojdfcdbbaaGreatDoorPick
import Derived.Test.YtpbpjojdfcdbbaaGreatDoorBytes8
namespace Go.Proofs.YtpbpjojdfcdbbaaGreatDoor
open Go.Lift
set_option linter.unusedVariables false
set_option maxRecDepth 20000

theorem kit_CopyBytes {a : Option Addr} {n c : Nat} {xs : List UInt8} {w : World} {D : Nat → Prop} (ha : Row cU8 1 w D a n xs) :
    Calls Tryz.prog F_kit_CopyBytes #[.slice a n c] w (Ok (New cU8 5 w xs)) := by
  have ha0 := ha.len; have ha1 := ha.big
  unfold Big at ha1
  refine L_kit_CopyBytes ⟨fun k oa on oc i w' => i = (on : Int) ∧ on ≤ n ∧ k = n - on ∧ ∃ F, Lst cU8 5 F w' oa on oc (xs.take on) ∧ Grew w w' ∧ ∀ b, F b → w.heap.size ≤ b,
    ⟨_, rfl, Nat.zero_le _, rfl, fun _ => False, by simpa using Lst.nil w, Keep.refl _, fun _ h => h.elim⟩, ?_⟩
  rintro k oa on oc i _ w1 ⟨rfl, hj, rfl, F, ho, hk, hF⟩
  refine PIf.dec (fun h1 => ?_) (fun h1 => ?_)
  · obtain ⟨b, off, x, rfl, hx, _, hc⟩ := (ha.grew hk).at1 (i := on) (by omega)
    have htl : (xs.take on).length = on := by simp; omega
    refine ⟨b, off, rfl, by omega, by omega, _, hc, papp ho slU8 (x := x) (D := fun _ => False) ⟨rfl, trivial⟩ (fun _ h => h.elim) (by rw [htl]; unfold Big; omega) (by rw [htl]; unfold maxLen; omega) fun a' c' w3 F' ho3 hk3 hF3 _ => ?_⟩
    refine ⟨_, _, _, rfl, n - (on + 1), by omega, wrap_succ (by omega), by omega, rfl, F', ?_, hk.new hk3 fun b hb => .inr (hF b (ho.self b hb)), ?_⟩
    · rw [List.take_add_one, hx]; exact ho3
    · intro b hb
      rcases hF3 b hb with h | h | h
      · exact hF b h
      · exact h.elim
      · exact Nat.le_trans hk.size h
  · obtain rfl : on = n := by omega
    rw [List.take_of_length_le (by omega)] at ho
    exact Ok.mk ⟨_, _, _, F, rfl, ho, hk, hF⟩

end Go.Proofs.YtpbpjojdfcdbbaaGreatDoor
