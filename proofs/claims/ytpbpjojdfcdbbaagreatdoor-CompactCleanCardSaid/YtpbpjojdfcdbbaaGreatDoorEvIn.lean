/- events as arguments; a name of a segment is a file's -/
import Derived.Test.YtpbpjojdfcdbbaaGreatDoorEvent
import Derived.Test.YtpbpjojdfcdbbaaGreatDoorIn
namespace Go.Proofs.YtpbpjojdfcdbbaaGreatDoor
open Go.Lift
set_option linter.unusedVariables false
set_option maxRecDepth 20000
theorem reads_Ev : Reads Tryz.prog cEv 39 := fun H enc w held fuel cs x h hw => by
  obtain ⟨xs, n2, _, rfl, hcl, hxl, hfs⟩ := DataW.trod_struct (Tryz.underlying39) h
  have hc5 : Tryz.prog.cellsOf 39 = 10 := by kernel_rfl
  have hl : cs.length = 10 := hcl.trans hc5
  have k1 : Tryz.prog.cellsOf 3 = 1 := by kernel_rfl
  have k2 : Tryz.prog.cellsOf 36 = 2 := by kernel_rfl
  have k3 : Tryz.prog.cellsOf 37 = 1 := by kernel_rfl
  match cs, hl with
  | [v0, v1, v2, v3, v4, v5, v6, v7, v8, v9], _ =>
  match xs, hxl with
  | [y0, y1, y2, y3, y4, y5, y6, y7, y8], _ =>
    have f0 := hfs 0 _ rfl
    have f1 := hfs 1 _ rfl
    have f2 := hfs 2 _ rfl
    have f3 := hfs 3 _ rfl
    have f4 := hfs 4 _ rfl
    have f5 := hfs 5 _ rfl
    have f6 := hfs 6 _ rfl
    have f7 := hfs 7 _ rfl
    have f8 := hfs 8 _ rfl
    simp only [k1, k2, k3, List.drop_zero, List.drop_succ_cons, List.take_succ_cons, List.take_zero, List.getElem?_cons_zero, List.getElem?_cons_succ] at f0 f1 f2 f3 f4 f5 f6 f7 f8
    obtain ⟨zs, n3, _, hy0, hcl0, hxl0, hfs0⟩ := DataW.trod_struct (Tryz.underlying36) f0
    match zs, hxl0 with
    | [u0, u1], _ =>
    have g0 := hfs0 0 _ rfl
    have g1 := hfs0 1 _ rfl
    simp only [k1, k2, k3, List.drop_zero, List.drop_succ_cons, List.take_succ_cons, List.take_zero, List.getElem?_cons_zero, List.getElem?_cons_succ] at g0 g1
    obtain ⟨z0, e0, -, w0⟩ := DataW.trod_int Tryz.underlying3 g0
    obtain ⟨z1, e1, -, w1⟩ := DataW.trod_int Tryz.underlying3 g1
    obtain ⟨z2, e2, -, w2⟩ := DataW.trod_int Tryz.underlying3 f1
    obtain ⟨z4, e4, -, w4⟩ := DataW.trod_int Tryz.underlying3 f3
    obtain ⟨z5, e5, -, w5⟩ := DataW.trod_int Tryz.underlying3 f4
    obtain ⟨z6, e6, -, w6⟩ := DataW.trod_int Tryz.underlying3 f5
    obtain ⟨z7, e7, -, w7⟩ := DataW.trod_int Tryz.underlying3 f6
    obtain ⟨z8, e8, -, w8⟩ := DataW.trod_int Tryz.underlying3 f7
    obtain ⟨z9, e9, -, w9⟩ := DataW.trod_int Tryz.underlying3 f8
    have hyy : Light Tryz.prog 37 y2.1 := by
      intro q hq
      refine hw q ?_
      have hu : Tryz.prog.underlying 39 = _ := Tryz.underlying39
      simp only [DataW.weights, hu, List.map_cons, List.map_nil, DataW.weightsEach, List.mem_append]
      right; right; left; exact hq
    obtain ⟨a3, n4, c4, l4, e3, -, -, i3⟩ := open_row (bytes := 8) Tryz.underlying37 (by kernel_rfl) (by decide) (by kernel_rfl) (reads_I64 Tryz.underlying3) f2 hyy
    cases e0; cases e1; cases e2; cases e3; cases e4; cases e5; cases e6; cases e7; cases e8; cases e9
    exact ⟨⟨z0, z1, z2, l4, z4, z5, z6, z7, z8, z9⟩, a3, n4, c4, rfl, i3, i64_of_wf w0, i64_of_wf w1, i64_of_wf w2, fun x hx => by
      obtain ⟨i, hi⟩ := List.mem_iff_getElem?.1 hx
      obtain ⟨b, off, es, -, -, -, -, hr⟩ := i3.el i x hi
      exact hr.2, i64_of_wf w4, i64_of_wf w5, i64_of_wf w6, i64_of_wf w7, i64_of_wf w8, i64_of_wf w9⟩
end Go.Proofs.YtpbpjojdfcdbbaaGreatDoor
