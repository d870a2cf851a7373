/- calls of chapter 22 as arguments -/
import Derived.Test.YtpbpjojdfcdbbaaGreatDoorSlLasts
import Derived.Test.YtpbpjojdfcdbbaaGreatDoorEvIn
namespace Go.Proofs.YtpbpjojdfcdbbaaGreatDoor
open Go.Lift
set_option linter.unusedVariables false
set_option maxRecDepth 20000
theorem reads_Act22 : Reads Tryz.prog cAct22 51 := fun H enc w held fuel cs x h hw => by
  obtain ⟨xs, n2, _, rfl, hcl, hxl, hfs⟩ := DataW.trod_struct (Tryz.underlying51) h
  have hc5 : Tryz.prog.cellsOf 51 = 4 := by kernel_rfl
  have hl : cs.length = 4 := hcl.trans hc5
  have k1 : Tryz.prog.cellsOf 3 = 1 := by kernel_rfl
  have k2 : Tryz.prog.cellsOf 22 = 1 := by kernel_rfl
  have k3 : Tryz.prog.cellsOf 49 = 1 := by kernel_rfl
  match cs, hl with
  | [v0, v1, v2, v3], _ =>
  match xs, hxl with
  | [y0, y1, y2, y3], _ =>
    have f0 := hfs 0 _ rfl
    have f1 := hfs 1 _ rfl
    have f2 := hfs 2 _ rfl
    have f3 := hfs 3 _ rfl
    simp only [k1, k2, k3, List.drop_zero, List.drop_succ_cons, List.take_succ_cons, List.take_zero, List.getElem?_cons_zero, List.getElem?_cons_succ] at f0 f1 f2 f3
    obtain ⟨z0, e0, -, w0⟩ := DataW.trod_int Tryz.underlying3 f0
    obtain ⟨z1, e1, -, w1⟩ := DataW.trod_int Tryz.underlying3 f1
    have hu : Tryz.prog.underlying 51 = _ := Tryz.underlying51
    have h2 : Light Tryz.prog 22 y2.1 := by
      intro q hq
      refine hw q ?_
      simp only [DataW.weights, hu, List.map_cons, List.map_nil, DataW.weightsEach, List.mem_append]
      right; right; left; exact hq
    have h3 : Light Tryz.prog 49 y3.1 := by
      intro q hq
      refine hw q ?_
      simp only [DataW.weights, hu, List.map_cons, List.map_nil, DataW.weightsEach, List.mem_append]
      right; right; right; left; exact hq
    obtain ⟨a2, n2, c2, l2, e2, -, -, i2⟩ := open_row (bytes := 96) Tryz.underlying22 (by kernel_rfl) (by decide) (by kernel_rfl) reads_Ev f2 h2
    obtain ⟨a3, n3, c3, l3, e3, -, hn3, i3⟩ := open_row (bytes := 1) Tryz.underlying49 (by kernel_rfl) (by decide) (by kernel_rfl) (reads_U8 Tryz.underlying5) f3 h3
    cases e0; cases e1; cases e2; cases e3
    exact ⟨⟨z0, z1, l2, l3⟩, a2, n2, c2, a3, n3, c3, rfl, i2, i3, i64_of_wf w0, i64_of_wf w1, hn3⟩
end Go.Proofs.YtpbpjojdfcdbbaaGreatDoor
