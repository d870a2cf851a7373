/- a disk with one file -/
import Derived.Test.YtpbpjojdfcdbbaaGreatDoorLawD
namespace Go.Proofs.YtpbpjojdfcdbbaaGreatDoor
open Go.Lift
set_option linter.unusedVariables false
/-- a disk with one file, that was never synced -/
def oneD (n : Nat) (k : ByteArray) (bs : List UInt8) : DiskV := ⟨n, [(k, ⟨bs, 0, false⟩)], false, 0, false⟩
theorem create_one {n : Nat} {k : ByteArray} (h : isNameV k = true) : (newD n).create k = (0, oneD n k []) := by
  simp [DiskV.create, DiskV.op, DiskV.dies, DiskV.armed, newD, oneD, h, aget, DiskV.setF, aput]
theorem append_one {n : Nat} {k : ByteArray} {bs xs : List UInt8} (h : bs.length + xs.length ≤ n) : (oneD n k bs).append k xs = (0, oneD n k (bs ++ xs)) := by
  have hr : ¬ ((xs.length : Int) > (oneD n k bs).room) := by unfold DiskV.room DiskV.used sumLen oneD; simp; omega
  have e : (oneD n k bs).append k xs = if (xs.length : Int) > (oneD n k bs).room then (12, oneD n k bs) else (0, (oneD n k bs).setF k ⟨bs ++ xs, 0, false⟩) := by
    simp [DiskV.append, DiskV.op, DiskV.dies, DiskV.armed, oneD, DiskV.onF, aget]
  rw [e, if_neg hr]
  simp [oneD, DiskV.setF, aput]
theorem read_one {n : Nat} {k : ByteArray} {bs : List UInt8} : (oneD n k bs).read k = (bs, 0) := by
  simp [DiskV.read, oneD, aget]
theorem read_two {n : Nat} {k k' : ByteArray} {bs : List UInt8} (h : k' ≠ k) : (oneD n k bs).read k' = ([], 14) := by
  simp [DiskV.read, oneD, aget, h]
end Go.Proofs.YtpbpjojdfcdbbaaGreatDoor
