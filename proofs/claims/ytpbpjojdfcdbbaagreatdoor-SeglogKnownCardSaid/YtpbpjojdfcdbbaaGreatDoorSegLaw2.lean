/- a name of a segment is a file's name -/
import Derived.Test.YtpbpjojdfcdbbaaGreatDoorSegLaw
import Derived.Test.YtpbpjojdfcdbbaaGreatDoorDiskOps4
namespace Go.Proofs.YtpbpjojdfcdbbaaGreatDoor
open Go.Lift
theorem seg_name_ok {n : Int} (h0 : 0 ≤ n) (h1 : n < 1000000000000) : isNameV (⟨(segName n).toArray⟩ : ByteArray) = true := by
  have hl := segName_length n
  have hd := dec_digits n.toNat
  have hs := segName_yes h0 h1
  have h2 : (⟨(segName n).toArray⟩ : ByteArray).size = (segName n).length := by simp [ByteArray.size]
  unfold isNameV
  rw [h2, Bool.and_eq_true, Bool.and_eq_true, decide_eq_true_eq, decide_eq_true_eq]
  refine ⟨⟨by rw [hs, List.length_append]; show 1 ≤ 4 + _; omega, hl⟩, ?_⟩
  show (segName n).all okByte = true
  rw [hs, List.all_append, Bool.and_eq_true]
  refine ⟨by decide, List.all_eq_true.2 fun d hd' => ?_⟩
  have := List.all_eq_true.1 hd.2.1 d hd'
  have hdig : ∀ d : UInt8, isDig d = true → okByte d = true := by
    intro d
    have h : (List.range 256).all (fun n => !(isDig (UInt8.ofNat n)) || okByte (UInt8.ofNat n)) = true := by decide +kernel
    have := List.all_eq_true.1 h d.toNat (List.mem_range.2 d.toNat_lt)
    rw [UInt8.ofNat_toNat] at this
    intro hx
    rw [hx] at this
    simpa using this
  exact hdig d this
end Go.Proofs.YtpbpjojdfcdbbaaGreatDoor
