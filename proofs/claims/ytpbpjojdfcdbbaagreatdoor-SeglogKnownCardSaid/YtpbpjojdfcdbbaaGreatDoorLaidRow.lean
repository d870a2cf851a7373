/- what the variables that a row lists give -/
import Derived.Test.YtpbpjojdfcdbbaaGreatDoorSeg
import Derived.Test.YtpbpjojdfcdbbaaGreatDoorRows
import Derived.Test.YtpbpjojdfcdbbaaGreatDoorIn
import Derived.LaidMore
import Derived.MakeChecks
import Derived.Stop.LaidErr
import Derived.Lib.LaidTab
import Derived.StringKeys
import Derived.ChangeMaps5
namespace Go.Lift
open Go
theorem getD_cast (l : List Nat) (i : Nat) : (l.map fun n : Nat => (n : Int)).getD i 0 = ((l.getD i 0 : Nat) : Int) := by
  simp only [List.getD_eq_getElem?_getD, List.getElem?_map]
  cases l[i]? <;> rfl
end Go.Lift
namespace Go.Proofs.YtpbpjojdfcdbbaaGreatDoor
open Go.Lift
set_option maxRecDepth 100000

theorem gLower : Tryz.prog.globalNamed "quayside/crc.lower" = some 0 := by kernel_rfl
theorem gUpper : Tryz.prog.globalNamed "quayside/crc.upper" = some 1 := by kernel_rfl
theorem lower_len : lowerT.length = 16 := by decide +kernel
theorem upper_len : upperT.length = 16 := by decide +kernel
theorem tabs_of {W : World} (h1 : Lib.TabIs Tryz.prog W "quayside/crc.lower" .u32 (lowerT.map fun n : Nat => (n : Int))) (h2 : Lib.TabIs Tryz.prog W "quayside/crc.upper" .u32 (upperT.map fun n : Nat => (n : Int))) : Tabs W :=
  have c2 := fun i (hi : i < 16) => (h2.cell gUpper i (by rw [List.length_map, upper_len]; exact hi)).trans (by rw [getD_cast])
  ⟨fun i hi => (h1.cell gLower i (by rw [List.length_map, lower_len]; exact hi)).trans (by rw [getD_cast]), c2, lt_of_cell (c2 0 (by decide))⟩

def laid5 : List (String × DataW Unit) := [("math/bits.deBruijn32tab", Rows.laid_math_bits_deBruijn32tab), ("math/bits.deBruijn64tab", Rows.laid_math_bits_deBruijn64tab), ("internal/strconv.uint64pow10", Rows.laid_internal_strconv_uint64pow10), ("quayside/crc.lower", Rows.laid_quayside_crc_lower), ("quayside/crc.upper", Rows.laid_quayside_crc_upper)]
theorem door5 (os : Os) (args : Array Value) : laidMetH Tryz.prog laid5 ((World.doorLaid Tryz.prog 400 os).forCall (fun _ _ => 0) ⟨#[], args, []⟩).memory :=
  laidMetH_of_parts3 (fuel := 8) (laidMet_of_run' 8 (by kernel_rfl) (by kernel_rfl)) (by kernel_rfl) (by kernel_rfl)
theorem of_laid2' {W : World} (h : laidMet Tryz.prog [("quayside/crc.lower", Rows.laid_quayside_crc_lower), ("quayside/crc.upper", Rows.laid_quayside_crc_upper)] W) : Tabs W := by
  have u32 : ∃ t n e, (Tryz.prog.globals[0]?).map (·.type) = some t ∧ (Tryz.prog.globals[1]?).map (·.type) = some t ∧ Tryz.prog.underlying t = some (.array n e) ∧ Tryz.prog.underlying e = some (.int .u32) ∧ Tryz.prog.cellsOf e = 1 ∧ Tryz.prog.cellsOf t = n := ⟨206, 16, 162, by kernel_rfl, by kernel_rfl, by kernel_rfl, by kernel_rfl, by kernel_rfl, by kernel_rfl⟩
  obtain ⟨t, n, e, h1, h2, h3, h4, h5, h6⟩ := u32
  refine tabs_of ?_ ?_
  · exact Lib.tabIs_of_head gLower h1 h3 h4 h5 h6 (show laidMet Tryz.prog (("quayside/crc.lower", Lib.tabData .u32 (lowerT.map fun n : Nat => (n : Int))) :: _) W from h)
  · exact Lib.tabIs_of_head gUpper h2 h3 h4 h5 h6 (show laidMet Tryz.prog (("quayside/crc.upper", Lib.tabData .u32 (upperT.map fun n : Nat => (n : Int))) :: _) W from h.tail)
theorem of_laid5 {W : World} (h : laidMetH Tryz.prog laid5 W) : Laid W := by
  rw [MakeChecks.laidMetH_plain _ _ _ (by kernel_rfl)] at h
  refine ⟨of_laid2' h.tail.tail.tail, ?_⟩
  have u64 : ∃ g t n e, Tryz.prog.globalNamed "internal/strconv.uint64pow10" = some g ∧ (Tryz.prog.globals[g]?).map (·.type) = some t ∧ Tryz.prog.underlying t = some (.array n e) ∧ Tryz.prog.underlying e = some (.int .u64) ∧ Tryz.prog.cellsOf e = 1 ∧ Tryz.prog.cellsOf t = n := ⟨2, 208, 20, 167, by kernel_rfl, by kernel_rfl, by kernel_rfl, by kernel_rfl, by kernel_rfl, by kernel_rfl⟩
  obtain ⟨g, t, n, e, h0, h1, h3, h4, h5, h6⟩ := u64
  exact Lib.tabIs_of_head h0 h1 h3 h4 h5 h6 (show laidMet Tryz.prog (("internal/strconv.uint64pow10", Lib.tabData .u64 Lib.pow10Tab) :: _) W from h.tail.tail)

end Go.Proofs.YtpbpjojdfcdbbaaGreatDoor
