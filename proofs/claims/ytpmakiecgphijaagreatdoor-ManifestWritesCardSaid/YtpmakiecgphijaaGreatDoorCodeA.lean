import Derived.Test.YtpmakiecgphijaaGreatDoorLift
import Derived.Test.YtpmakiecgphijaaGreatDoorRows
import Derived.KernelRfl
namespace Go.Proofs.YtpmakiecgphijaaGreatDoor
open Go.Lift
set_option maxRecDepth 100000
set_option linter.unusedVariables false
theorem mixed : Tryz.prog.follows .mixedOrders = true := by kernel_rfl
/-- quayside/quaysidelaw20.SegmentLoads -/
abbrev F_law20_SegmentLoads : Nat := 3
def A_law20_SegmentLoads : Ann := ⟨[(21, [(19, .int .i64 0)])], [], [], [], []⟩
theorem L_law20_SegmentLoads {b1a : Option Addr} {b1n : Nat} {b1c : Nat} {no2 : Int} {l3a : Option Addr} {l3n : Nat} {l3c : Nat} {w : World} {R : Ending → World → Prop}
    (h : PIf (decide ((((b1n : Nat) : Int) : Int) > 4096)) (PC Tryz.prog 8 #[] w (fun v4 w5 => ∃ (t6 : Bool), v4 = .bool t6 ∧ R (.returned (.bool t6)) w5) (fun ch w =>
      R (.panicked ch) w)) (PC Tryz.prog 7 #[.slice l3a l3n l3c] w (fun v7 w8 => ∃ (t9 : Bool), v7 = .bool t9 ∧ PIf t9 (PC Tryz.prog 8 #[] w8 (fun v10 w11 =>
      ∃ (t12 : Bool), v10 = .bool t12 ∧ R (.returned (.bool t12)) w11) (fun ch w => R (.panicked ch) w)) (PC Tryz.prog 9 #[.int .i64 8192] w8 (fun v13 w14 =>
      ∃ (t15 : Option Addr), ∃ (t16 : Int), v13 = .tuple #[.pointer t15, .int .i64 t16] ∧ PC Tryz.prog 10 #[.int .i64 8192] w14 (fun v17 w18 => ∃ (t19 : Option Addr), ∃ (t20 : Int), v17 = .tuple #[.pointer t19, .int .i64 t20] ∧
      PIf ((t16 : Int) != 0) (R (.returned (.bool false)) w18) (PIf ((t20 : Int) != 0) (R (.returned (.bool false)) w18) (PRun Tryz.prog (do eqGuard .eql 26 (.tmp 47) (.const (.pointer none)) (.pointer t15) (.pointer none); binOp .eql 26 (.pointer t15) (.pointer none)) w18 (fun v21 w22 =>
      ∃ (t23 : Bool), v21 = .bool t23 ∧ PIf t23 (R (.returned (.bool false)) w22) (PC Tryz.prog 12 #[.int .i64 no2] w22 (fun v24 w25 => ∃ (t26 : ByteArray), v24 = .string t26 ∧
      PC Tryz.prog 11 #[.pointer t15, .string t26] w25 (fun v27 w28 => ∃ (t29 : Int), v27 = .int .i64 t29 ∧ PC Tryz.prog 12 #[.int .i64 no2] w28 (fun v30 w31 =>
      ∃ (t32 : ByteArray), v30 = .string t32 ∧ PC Tryz.prog 13 #[.pointer t15, .string t32, .slice b1a b1n b1c] w31 (fun v33 w34 => ∃ (t35 : Int), v33 = .int .i64 t35 ∧
      PC Tryz.prog 15 #[.int .i64 no2] w34 (fun v36 w37 => ∃ (t38 : ByteArray), v36 = .string t38 ∧ PC Tryz.prog 14 #[.pointer t19, .string t38] w37 (fun v39 w40 =>
      ∃ (t41 : Int), v39 = .int .i64 t41 ∧ PC Tryz.prog 15 #[.int .i64 no2] w40 (fun v42 w43 => ∃ (t44 : ByteArray), v42 = .string t44 ∧ PC Tryz.prog 16 #[.pointer t19, .string t44, .slice b1a b1n b1c] w43 (fun v45 w46 =>
      ∃ (t47 : Int), v45 = .int .i64 t47 ∧ PC Tryz.prog 17 #[.pointer t15, .int .i64 no2] w46 (fun v48 w49 => ∃ (t50a : Option Addr) (t50n : Nat) (t50c : Nat), ∃ (t51 : Int), v48 = .tuple #[.slice t50a t50n t50c, .int .i64 t51] ∧
      PC Tryz.prog 18 #[.pointer t19, .int .i64 no2] w49 (fun v52 w53 => ∃ (t54a : Option Addr) (t54n : Nat) (t54c : Nat), ∃ (t55 : Int), v52 = .tuple #[.slice t54a t54n t54c, .int .i64 t55] ∧
      PC Tryz.prog 17 #[.pointer t15, .int .i64 (IntKind.wrap .i64 (no2 + 1))] w53 (fun v56 w57 => ∃ (t58a : Option Addr) (t58n : Nat) (t58c : Nat), ∃ (t59 : Int), v56 = .tuple #[.slice t58a t58n t58c, .int .i64 t59] ∧
      PIf ((t51 : Int) != t55) (R (.returned (.bool false)) w57) (PC Tryz.prog 19 #[.slice t50a t50n t50c, .slice t54a t54n t54c] w57 (fun v60 w61 => ∃ (t62 : Bool), v60 = .bool t62 ∧
      PIf (!t62) (R (.returned (.bool false)) w61) (PIf ((((t58n : Nat) : Int) : Int) != 0) (R (.returned (.bool false)) w61) (PIf ((t59 : Int) != 0) (R (.returned (.bool false)) w61) (PC Tryz.prog 20 #[.slice t50a t50n t50c] w61 (fun v63 w64 =>
      v63 = .tuple #[] ∧ PC Tryz.prog 17 #[.pointer t15, .int .i64 no2] w64 (fun v65 w66 => ∃ (t67a : Option Addr) (t67n : Nat) (t67c : Nat), ∃ (t68 : Int), v65 = .tuple #[.slice t67a t67n t67c, .int .i64 t68] ∧
      PC Tryz.prog 19 #[.slice t67a t67n t67c, .slice t54a t54n t54c] w66 (fun v69 w70 => ∃ (t71 : Bool), v69 = .bool t71 ∧ PIf (!t71) (R (.returned (.bool false)) w70) ((∃ I72 : Nat → Int → World → Prop, (∃ m73, I72 m73 0 w70) ∧
      ∀ (m73 : Nat) (i75 : Int) (B76 : Nat → Value) (w77 : World), I72 m73 i75 w77 → PIf (decide ((i75 : Int) < ((l3n : Nat) : Int))) ((∃ b78 o79, l3a = some ⟨b78, o79, none⟩ ∧
      (0 : Int) ≤ i75 ∧ i75 < ((l3n : Nat) : Int) ∧ (∃ (t80 : Int), ∃ (t81 : Int), ∃ (t82 : Int), ∃ (t83a : Option Addr) (t83n : Nat) (t83c : Nat), ∃ (t84 : Int), ∃ (t85 : Int), ∃ (t86 : Int), ∃ (t87 : Int), ∃ (t88 : Int), ∃ (t89 : Int), w77.cell? ⟨b78, o79 + Int.toNat i75 * 10, none⟩ = some (.int .i64 t80) ∧
      w77.cell? ⟨b78, o79 + Int.toNat i75 * 10 + 1, none⟩ = some (.int .i64 t81) ∧ w77.cell? ⟨b78, o79 + Int.toNat i75 * 10 + 2, none⟩ = some (.int .i64 t82) ∧
      w77.cell? ⟨b78, o79 + Int.toNat i75 * 10 + 3, none⟩ = some (.slice t83a t83n t83c) ∧ w77.cell? ⟨b78, o79 + Int.toNat i75 * 10 + 4, none⟩ = some (.int .i64 t84) ∧
      w77.cell? ⟨b78, o79 + Int.toNat i75 * 10 + 5, none⟩ = some (.int .i64 t85) ∧ w77.cell? ⟨b78, o79 + Int.toNat i75 * 10 + 6, none⟩ = some (.int .i64 t86) ∧
      w77.cell? ⟨b78, o79 + Int.toNat i75 * 10 + 7, none⟩ = some (.int .i64 t87) ∧ w77.cell? ⟨b78, o79 + Int.toNat i75 * 10 + 8, none⟩ = some (.int .i64 t88) ∧
      w77.cell? ⟨b78, o79 + Int.toNat i75 * 10 + 9, none⟩ = some (.int .i64 t89) ∧ PC Tryz.prog 21 #[.agg #[.int .i64 t80, .int .i64 t81, .int .i64 t82, .slice t83a t83n t83c, .int .i64 t84, .int .i64 t85, .int .i64 t86, .int .i64 t87, .int .i64 t88, .int .i64 t89]] w77 (fun v90 w91 =>
      ∃ (t92a : Option Addr) (t92n : Nat) (t92c : Nat), ∃ (t93 : Int), v90 = .tuple #[.slice t92a t92n t92c, .int .i64 t93] ∧ (∃ b94 o95, l3a = some ⟨b94, o95, none⟩ ∧
      (0 : Int) ≤ i75 ∧ i75 < ((l3n : Nat) : Int) ∧ (∃ (t96 : Int), ∃ (t97 : Int), ∃ (t98 : Int), ∃ (t99a : Option Addr) (t99n : Nat) (t99c : Nat), ∃ (t100 : Int), ∃ (t101 : Int), ∃ (t102 : Int), ∃ (t103 : Int), ∃ (t104 : Int), ∃ (t105 : Int), w91.cell? ⟨b94, o95 + Int.toNat i75 * 10, none⟩ = some (.int .i64 t96) ∧
      w91.cell? ⟨b94, o95 + Int.toNat i75 * 10 + 1, none⟩ = some (.int .i64 t97) ∧ w91.cell? ⟨b94, o95 + Int.toNat i75 * 10 + 2, none⟩ = some (.int .i64 t98) ∧
      w91.cell? ⟨b94, o95 + Int.toNat i75 * 10 + 3, none⟩ = some (.slice t99a t99n t99c) ∧ w91.cell? ⟨b94, o95 + Int.toNat i75 * 10 + 4, none⟩ = some (.int .i64 t100) ∧
      w91.cell? ⟨b94, o95 + Int.toNat i75 * 10 + 5, none⟩ = some (.int .i64 t101) ∧ w91.cell? ⟨b94, o95 + Int.toNat i75 * 10 + 6, none⟩ = some (.int .i64 t102) ∧
      w91.cell? ⟨b94, o95 + Int.toNat i75 * 10 + 7, none⟩ = some (.int .i64 t103) ∧ w91.cell? ⟨b94, o95 + Int.toNat i75 * 10 + 8, none⟩ = some (.int .i64 t104) ∧
      w91.cell? ⟨b94, o95 + Int.toNat i75 * 10 + 9, none⟩ = some (.int .i64 t105) ∧ PC Tryz.prog 22 #[.agg #[.int .i64 t96, .int .i64 t97, .int .i64 t98, .slice t99a t99n t99c, .int .i64 t100, .int .i64 t101, .int .i64 t102, .int .i64 t103, .int .i64 t104, .int .i64 t105]] w91 (fun v106 w107 =>
      ∃ (t108a : Option Addr) (t108n : Nat) (t108c : Nat), ∃ (t109 : Int), v106 = .tuple #[.slice t108a t108n t108c, .int .i64 t109] ∧ PIf ((t93 : Int) != t109) (R (.returned (.bool false)) w107) (PC Tryz.prog 23 #[.slice t92a t92n t92c, .slice t108a t108n t108c] w107 (fun v110 w111 =>
      ∃ (t112 : Bool), v110 = .bool t112 ∧ PIf (!t112) (R (.returned (.bool false)) w111) ((∃ m74, m74 < m73 ∧ I72 m74 (IntKind.wrap .i64 (i75 + 1)) w111))) (fun ch w =>
      R (.panicked ch) w))) (fun ch w => R (.panicked ch) w)))) (fun ch w => R (.panicked ch) w)))) (PC Tryz.prog 8 #[] w77 (fun v113 w114 => ∃ (t115 : Bool), v113 = .bool t115 ∧
      R (.returned (.bool t115)) w114) (fun ch w => R (.panicked ch) w))))) (fun ch w => R (.panicked ch) w)) (fun ch w => R (.panicked ch) w)) (fun ch w =>
      R (.panicked ch) w))))) (fun ch w => R (.panicked ch) w))) (fun ch w => R (.panicked ch) w)) (fun ch w => R (.panicked ch) w)) (fun ch w => R (.panicked ch) w)) (fun ch w =>
      R (.panicked ch) w)) (fun ch w => R (.panicked ch) w)) (fun ch w => R (.panicked ch) w)) (fun ch w => R (.panicked ch) w)) (fun ch w => R (.panicked ch) w)) (fun ch w =>
      R (.panicked ch) w)) (fun ch w => R (.panicked ch) w)) (fun ch w => R (.panicked ch) w))) (fun pv w => R (.panicked [{ v := pv, recovered := false }]) w)))) (fun ch w =>
      R (.panicked ch) w)) (fun ch w => R (.panicked ch) w))) (fun ch w => R (.panicked ch) w))) :
    Calls Tryz.prog 3 #[.slice b1a b1n b1c, .int .i64 no2, .slice l3a l3n l3c] w R :=
  D_calls A_law20_SegmentLoads mixed Tryz.func3 rfl (Nat.le_of_ble_eq_true (by kernel_rfl)) (by kernel_rfl) (Eq.mp (by kernel_rfl) h)
/-- quayside/quaysidelaw20.SegmentKnown -/
abbrev F_law20_SegmentKnown : Nat := 4
def A_law20_SegmentKnown : Ann := ⟨[(4, [(3, .int .i64 0)]), (7, [(4, .int .i64 0)]), (13, [(6, .int .i64 0)])], [], [], [], [(9, ⟨[0, 0, 3, 4, 0, 0, 48, 64, 136, 256, 768, 1024, 1024, 7168, 9216, 1024, 1024, 1024, 132096, 328704, 558080, 1049600, 2114560, 4195328, 8389632], [33554431, 33554431, 33554428, 33554427, 33554431, 33554431, 33554383, 33554367, 33554295, 33554175, 33553919, 33553407, 33553407, 33547263, 33545215, 33553407, 33553407, 33553407, 33422335, 33225727, 32996351, 32504831, 31439871, 29359103, 25164799], [0, 0, 0, 1, 0, 0, 0, 1, 2, 0, 0, 0, 0, 0, 1, 0, 0, 0, 0, 0, 0, 1, 2, 0, 0]⟩), (15, ⟨[0, 0, 0, 7, 8, 24, 32, 32, 160, 352, 32, 1056, 32, 4128, 8224, 18976, 32800, 65568, 163840, 262144, 786432, 262144, 262144, 7602176, 8650752, 17039360], [67108863, 67108863, 67108863, 67108856, 67108855, 67108847, 67108831, 67108831, 67108703, 67108511, 67108831, 67107807, 67108831, 67104735, 67100639, 67089887, 67076063, 67043295, 66977791, 66846719, 66322431, 66846719, 66846719, 59506687, 58458111, 50069503], [0, 0, 0, 2, 0, 0, 0, 0, 0, 0, 0, 0, 0, 0, 2, 2, 0, 0, 0, 0, 2, 0, 0, 2, 0, 0]⟩)]⟩
theorem L_law20_SegmentKnown  {w : World} {R : Ending → World → Prop}
    (h : PA w (.cells #[.int .i64 (-9223372036854775808), .int .i64 (-1), .int .i64 0, .int .i64 1, .int .i64 7, .int .i64 9, .int .i64 10, .int .i64 99, .int .i64 100, .int .i64 123456789012, .int .i64 999999999999, .int .i64 1000000000000, .int .i64 9223372036854775807] 3) fun w1 =>
      PA w1 (.cells #[.string (⟨#[]⟩ : ByteArray), .string (⟨#[115, 101, 103, 46]⟩ : ByteArray), .string (⟨#[115, 101, 103, 46, 48]⟩ : ByteArray), .string (⟨#[115, 101, 103, 46, 48, 48]⟩ : ByteArray), .string (⟨#[115, 101, 103, 46, 48, 49]⟩ : ByteArray), .string (⟨#[115, 101, 103, 46, 45, 49]⟩ : ByteArray), .string (⟨#[115, 101, 103, 46, 43, 49]⟩ : ByteArray), .string (⟨#[115, 101, 103, 46, 49, 32]⟩ : ByteArray), .string (⟨#[32, 115, 101, 103, 46, 49]⟩ : ByteArray), .string (⟨#[115, 101, 103, 49]⟩ : ByteArray), .string (⟨#[83, 101, 103, 46, 49]⟩ : ByteArray), .string (⟨#[115, 101, 103, 46, 97]⟩ : ByteArray), .string (⟨#[115, 101, 103, 46, 49, 50, 120]⟩ : ByteArray), .string (⟨#[115, 101, 103, 46, 57, 57, 57, 57, 57, 57, 57, 57, 57, 57, 57, 57]⟩ : ByteArray), .string (⟨#[115, 101, 103, 46, 49, 48, 48, 48, 48, 48, 48, 48, 48, 48, 48, 48, 48]⟩ : ByteArray), .string (⟨#[115, 101, 103, 46, 57, 57, 57, 57, 57, 57, 57, 57, 57, 57, 57, 57, 57, 57, 57, 57, 57, 57, 57, 57]⟩ : ByteArray), .string (⟨#[115, 101, 103, 46, 0]⟩ : ByteArray), .string (⟨#[109, 97, 110, 105, 102, 101, 115, 116]⟩ : ByteArray)] 9) fun w2 =>
      (∃ I3 : Nat → Int → World → Prop, (∃ m4, I3 m4 0 w2) ∧ ∀ (m4 : Nat) (i6 : Int) (B7 : Nat → Value) (w8 : World), I3 m4 i6 w8 → PIf (decide ((i6 : Int) < ((13 : Nat) : Int))) ((∃ I9 : Nat → Int → World → Prop, (∃ m10, I9 m10 0 w8) ∧
      ∀ (m10 : Nat) (k12 : Int) (B13 : Nat → Value) (w14 : World), I9 m10 k12 w14 → PIf (decide ((k12 : Int) < ((18 : Nat) : Int))) ((∀ w16, Drew w14 w16 → (∃ b17 o18, ((some ⟨w.heap.size, 0, none⟩) : Option Addr) = some ⟨b17, o18, none⟩ ∧
      (0 : Int) ≤ i6 ∧ i6 < ((13 : Nat) : Int) ∧ (∃ (t19 : Int), w16.cell? ⟨b17, o18 + Int.toNat i6, none⟩ = some (.int .i64 t19) ∧ (∃ b20 o21, ((some ⟨w1.heap.size, 0, none⟩) : Option Addr) = some ⟨b20, o21, none⟩ ∧
      (0 : Int) ≤ k12 ∧ k12 < ((18 : Nat) : Int) ∧ (∃ (t22 : ByteArray), w16.cell? ⟨b20, o21 + Int.toNat k12, none⟩ = some (.string t22) ∧ PC Tryz.prog 24 #[.int .i64 t19, .string t22] w16 (fun v23 w24 =>
      ∃ (t25 : Bool), v23 = .bool t25 ∧ PIf (!t25) (R (.returned (.bool false)) w24) ((∃ b26 o27, ((some ⟨w.heap.size, 0, none⟩) : Option Addr) = some ⟨b26, o27, none⟩ ∧
      (0 : Int) ≤ i6 ∧ i6 < ((13 : Nat) : Int) ∧ (∃ (t28 : Int), w24.cell? ⟨b26, o27 + Int.toNat i6, none⟩ = some (.int .i64 t28) ∧ (∃ (t29 : Int), (∀ w', (do eqGuard .rem 3 (.tmp 37) (.tmp 39) (.int .i64 k12) (.int .i64 ((13 : Nat) : Int)); binOp .rem 3 (.int .i64 k12) (.int .i64 ((13 : Nat) : Int))).run Tryz.prog w' = .ok (.int .i64 t29) w') ∧
      (∃ b30 o31, ((some ⟨w.heap.size, 0, none⟩) : Option Addr) = some ⟨b30, o31, none⟩ ∧ (0 : Int) ≤ t29 ∧ t29 < ((13 : Nat) : Int) ∧ (∃ (t32 : Int), w24.cell? ⟨b30, o31 + Int.toNat t29, none⟩ = some (.int .i64 t32) ∧
      PC Tryz.prog 25 #[.int .i64 t28, .int .i64 t32] w24 (fun v33 w34 => ∃ (t35 : Bool), v33 = .bool t35 ∧ PIf (!t35) (R (.returned (.bool false)) w34) ((∃ m11, m11 < m10 ∧
      I9 m11 (IntKind.wrap .i64 (k12 + 1)) w34))) (fun ch wpp => ∀ (_ : Base) (_ : Bnd), R (.panicked ch) wpp)))))))) (fun ch wpp => ∀ (_ : Base) (_ : Bnd), R (.panicked ch) wpp))))))) ((∃ m5, m5 < m4 ∧
      I3 m5 (IntKind.wrap .i64 (i6 + 1)) w14)))) (PC Tryz.prog 26 #[.int .i64 1] w8 (fun v36 w37 => ∃ (t38 : Int), ∃ (t39 : Int), ∃ (t40 : Int), ∃ (t41a : Option Addr) (t41n : Nat) (t41c : Nat), ∃ (t42 : Int), ∃ (t43 : Int), ∃ (t44 : Int), ∃ (t45 : Int), ∃ (t46 : Int), ∃ (t47 : Int), v36 = .agg #[.int .i64 t38, .int .i64 t39, .int .i64 t40, .slice t41a t41n t41c, .int .i64 t42, .int .i64 t43, .int .i64 t44, .int .i64 t45, .int .i64 t46, .int .i64 t47] ∧
      PC Tryz.prog 26 #[.int .i64 2] w37 (fun v48 w49 => ∃ (t50 : Int), ∃ (t51 : Int), ∃ (t52 : Int), ∃ (t53a : Option Addr) (t53n : Nat) (t53c : Nat), ∃ (t54 : Int), ∃ (t55 : Int), ∃ (t56 : Int), ∃ (t57 : Int), ∃ (t58 : Int), ∃ (t59 : Int), v48 = .agg #[.int .i64 t50, .int .i64 t51, .int .i64 t52, .slice t53a t53n t53c, .int .i64 t54, .int .i64 t55, .int .i64 t56, .int .i64 t57, .int .i64 t58, .int .i64 t59] ∧
      PC Tryz.prog 26 #[.int .i64 3] w49 (fun v60 w61 => ∃ (t62 : Int), ∃ (t63 : Int), ∃ (t64 : Int), ∃ (t65a : Option Addr) (t65n : Nat) (t65c : Nat), ∃ (t66 : Int), ∃ (t67 : Int), ∃ (t68 : Int), ∃ (t69 : Int), ∃ (t70 : Int), ∃ (t71 : Int), v60 = .agg #[.int .i64 t62, .int .i64 t63, .int .i64 t64, .slice t65a t65n t65c, .int .i64 t66, .int .i64 t67, .int .i64 t68, .int .i64 t69, .int .i64 t70, .int .i64 t71] ∧
      PA w61 (.cells #[.int .i64 t38, .int .i64 t39, .int .i64 t40, .slice t41a t41n t41c, .int .i64 t42, .int .i64 t43, .int .i64 t44, .int .i64 t45, .int .i64 t46, .int .i64 t47, .int .i64 t50, .int .i64 t51, .int .i64 t52, .slice t53a t53n t53c, .int .i64 t54, .int .i64 t55, .int .i64 t56, .int .i64 t57, .int .i64 t58, .int .i64 t59, .int .i64 t62, .int .i64 t63, .int .i64 t64, .slice t65a t65n t65c, .int .i64 t66, .int .i64 t67, .int .i64 t68, .int .i64 t69, .int .i64 t70, .int .i64 t71] 47) fun w72 =>
      (∃ I73 : Nat → Int → World → Prop, (∃ m74, I73 m74 0 w72) ∧ ∀ (m74 : Nat) (cut76 : Int) (B77 : Nat → Value) (w78 : World), I73 m74 cut76 w78 → PIf (decide ((cut76 : Int) < 70)) ((∀ w80, Drew w78 w80 → PC Tryz.prog 27 #[.slice (some ⟨w61.heap.size, 0, none⟩) 3 3, .int .i64 cut76, .int .i64 cut76] w80 (fun v81 w82 =>
      ∃ (t83 : Bool), v81 = .bool t83 ∧ PIf (!t83) (R (.returned (.bool false)) w82) (((0 : Int) ≤ (Int.tmod cut76 4) ∧ ((Int.tmod cut76 4) : Int) ≤ ((3 : Nat) : Int) ∧
      PC Tryz.prog 29 #[.int .i64 (Int.tmod cut76 20)] w82 (fun v84 w85 => ∃ (t86a : Option Addr) (t86n : Nat) (t86c : Nat), v84 = .slice t86a t86n t86c ∧ PC Tryz.prog 28 #[.slice (some ⟨w61.heap.size, 0, none⟩) (Int.toNat (Int.tmod cut76 4)) 3, .int .i64 (Int.tmod cut76 4), .slice t86a t86n t86c] w85 (fun v87 w88 =>
      ∃ (t89 : Bool), v87 = .bool t89 ∧ PIf (!t89) (R (.returned (.bool false)) w88) (PC Tryz.prog 29 #[.int .i64 cut76] w88 (fun v90 w91 => ∃ (t92a : Option Addr) (t92n : Nat) (t92c : Nat), v90 = .slice t92a t92n t92c ∧
      PC Tryz.prog 3 #[.slice t92a t92n t92c, .int .i64 cut76, .slice (some ⟨w61.heap.size, 0, none⟩) 3 3] w91 (fun v93 w94 => ∃ (t95 : Bool), v93 = .bool t95 ∧
      PIf (!t95) (R (.returned (.bool false)) w94) ((∃ m75, m75 < m74 ∧ I73 m75 (IntKind.wrap .i64 (cut76 + 1)) w94))) (fun ch wpp => ∀ (_ : Base) (_ : Bnd), R (.panicked ch) wpp)) (fun ch wpp =>
      ∀ (_ : Base) (_ : Bnd), R (.panicked ch) wpp))) (fun ch wpp => ∀ (_ : Base) (_ : Bnd), R (.panicked ch) wpp)) (fun ch wpp => ∀ (_ : Base) (_ : Bnd), R (.panicked ch) wpp)))) (fun ch wpp =>
      ∀ (_ : Base) (_ : Bnd), R (.panicked ch) wpp))) (PC Tryz.prog 8 #[] w78 (fun v96 w97 => ∃ (t98 : Bool), v96 = .bool t98 ∧ R (.returned (.bool t98)) w97) (fun ch w =>
      R (.panicked ch) w)))) (fun ch w => R (.panicked ch) w)) (fun ch w => R (.panicked ch) w)) (fun ch w => R (.panicked ch) w)))) :
    Calls Tryz.prog 4 #[] w R :=
  D_calls A_law20_SegmentKnown mixed Tryz.func4 rfl (Nat.le_of_ble_eq_true (by kernel_rfl)) (by kernel_rfl) (Eq.mp (by kernel_rfl) h)
/-- quayside/quaysidelaw21.ManifestWhole -/
abbrev F_law21_ManifestWhole : Nat := 5
def A_law21_ManifestWhole : Ann := ⟨[], [(13, []), (27, [])], [], [], []⟩
theorem L_law21_ManifestWhole {n1 : Int} {first3a : Option Addr} {first3n : Nat} {first3c : Nat} {then5a : Option Addr} {then5n : Nat} {then5c : Nat} {fuse6 : Int} {keep7 : Int} {b8a : Option Addr} {b8n : Nat} {b8c : Nat} {w : World} {R : Ending → World → Prop}
    (h : PA w (.cells #[.slice first3a first3n first3c] 58) fun w9 => PA w9 (.cells #[.slice then5a then5n then5c] 58) fun w10 => (∃ (t11a : Option Addr) (t11n : Nat) (t11c : Nat), w10.cell? ⟨w.heap.size, 0, none⟩ = some (.slice t11a t11n t11c) ∧
      PIf (decide ((((t11n : Nat) : Int) : Int) > 100)) (PC Tryz.prog 30 #[] w10 (fun v12 w13 => ∃ (t14 : Bool), v12 = .bool t14 ∧ R (.returned (.bool t14)) w13) (fun ch w =>
      R (.panicked ch) w)) ((∃ (t15a : Option Addr) (t15n : Nat) (t15c : Nat), w10.cell? ⟨w9.heap.size, 0, none⟩ = some (.slice t15a t15n t15c) ∧ PIf (decide ((((t15n : Nat) : Int) : Int) > 100)) (PC Tryz.prog 30 #[] w10 (fun v16 w17 =>
      ∃ (t18 : Bool), v16 = .bool t18 ∧ R (.returned (.bool t18)) w17) (fun ch w => R (.panicked ch) w)) (PIf (decide ((((b8n : Nat) : Int) : Int) > 4096)) (PC Tryz.prog 30 #[] w10 (fun v19 w20 =>
      ∃ (t21 : Bool), v19 = .bool t21 ∧ R (.returned (.bool t21)) w20) (fun ch w => R (.panicked ch) w)) (PC Tryz.prog 31 #[.int .i64 n1, .int .i64 1000] w10 (fun v22 w23 =>
      ∃ (t24 : Int), v22 = .int .i64 t24 ∧ PC Tryz.prog 9 #[.int .i64 (IntKind.wrap .i64 (64 + t24))] w23 (fun v25 w26 => ∃ (t27 : Option Addr), ∃ (t28 : Int), v25 = .tuple #[.pointer t27, .int .i64 t28] ∧
      PIf ((t28 : Int) != 0) (R (.returned (.bool false)) w26) (PRun Tryz.prog (do eqGuard .eql 26 (.tmp 51) (.const (.pointer none)) (.pointer t27) (.pointer none); binOp .eql 26 (.pointer t27) (.pointer none)) w26 (fun v29 w30 =>
      ∃ (t31 : Bool), v29 = .bool t31 ∧ PIf t31 (R (.returned (.bool false)) w30) (PC Tryz.prog 11 #[.pointer t27, .string (⟨#[115, 101, 103, 46, 49]⟩ : ByteArray)] w30 (fun v32 w33 =>
      ∃ (t34 : Int), v32 = .int .i64 t34 ∧ PC Tryz.prog 13 #[.pointer t27, .string (⟨#[115, 101, 103, 46, 49]⟩ : ByteArray), .slice b8a b8n b8c] w33 (fun v35 w36 =>
      ∃ (t37 : Int), v35 = .int .i64 t37 ∧ PC Tryz.prog 32 #[.pointer t27, .string (⟨#[115, 101, 103, 46, 49]⟩ : ByteArray)] w36 (fun v38 w39 => ∃ (t40 : Int), v38 = .int .i64 t40 ∧
      (∃ (t41a : Option Addr) (t41n : Nat) (t41c : Nat), w39.cell? ⟨w.heap.size, 0, none⟩ = some (.slice t41a t41n t41c) ∧ PC Tryz.prog 33 #[.pointer t27, .agg #[.slice t41a t41n t41c]] w39 (fun v42 w43 =>
      ∃ (t44 : Int), v42 = .int .i64 t44 ∧ PC Tryz.prog 34 #[.pointer t27] w43 (fun v45 w46 => ∃ (t47a : Option Addr) (t47n : Nat) (t47c : Nat), ∃ (t48 : Bool), v45 = .tuple #[.agg #[.slice t47a t47n t47c], .bool t48] ∧
      PA w46 (.cells #[.slice none 0 0] 58) fun w49 => PS w49 ⟨w46.heap.size, 0, none⟩ (.slice t47a t47n t47c) fun w50 => (∃ J51 : World → Prop, (PIf (!(((t44 : Int) == 0) == t48)) (R (.returned (.bool false)) w50) (PIf t48 ((∃ (t52a : Option Addr) (t52n : Nat) (t52c : Nat), w50.cell? ⟨w46.heap.size, 0, none⟩ = some (.slice t52a t52n t52c) ∧
      (∃ (t53a : Option Addr) (t53n : Nat) (t53c : Nat), w50.cell? ⟨w.heap.size, 0, none⟩ = some (.slice t53a t53n t53c) ∧ PC Tryz.prog 35 #[.slice t52a t52n t52c, .slice t53a t53n t53c] w50 (fun v54 w55 =>
      ∃ (t56 : Bool), v54 = .bool t56 ∧ PIf (!t56) (R (.returned (.bool false)) w55) (J51  w55)) (fun ch w => R (.panicked ch) w)))) (J51  w50))) ∧ ∀  (B57 : Nat → Value) (w58 : World), J51  w58 → PC Tryz.prog 36 #[.pointer t27, .string (⟨#[115, 101, 103, 46, 49]⟩ : ByteArray)] w58 (fun v59 w60 =>
      ∃ (t61a : Option Addr) (t61n : Nat) (t61c : Nat), ∃ (t62 : Int), v59 = .tuple #[.slice t61a t61n t61c, .int .i64 t62] ∧ PC Tryz.prog 31 #[.int .i64 fuse6, .int .i64 7] w60 (fun v63 w64 =>
      ∃ (t65 : Int), v63 = .int .i64 t65 ∧ PC Tryz.prog 37 #[.pointer t27, .int .i64 t65] w64 (fun v66 w67 => v66 = .tuple #[] ∧ (∃ (t68a : Option Addr) (t68n : Nat) (t68c : Nat), w67.cell? ⟨w9.heap.size, 0, none⟩ = some (.slice t68a t68n t68c) ∧
      PC Tryz.prog 33 #[.pointer t27, .agg #[.slice t68a t68n t68c]] w67 (fun v69 w70 => ∃ (t71 : Int), v69 = .int .i64 t71 ∧ PC Tryz.prog 38 #[.pointer t27, .int .i64 keep7] w70 (fun v72 w73 =>
      v72 = .tuple #[] ∧ PC Tryz.prog 34 #[.pointer t27] w73 (fun v74 w75 => ∃ (t76a : Option Addr) (t76n : Nat) (t76c : Nat), ∃ (t77 : Bool), v74 = .tuple #[.agg #[.slice t76a t76n t76c], .bool t77] ∧
      PA w75 (.cells #[.slice none 0 0] 58) fun w78 => PS w78 ⟨w75.heap.size, 0, none⟩ (.slice t76a t76n t76c) fun w79 => PC Tryz.prog 36 #[.pointer t27, .string (⟨#[115, 101, 103, 46, 49]⟩ : ByteArray)] w79 (fun v80 w81 =>
      ∃ (t82a : Option Addr) (t82n : Nat) (t82c : Nat), ∃ (t83 : Int), v80 = .tuple #[.slice t82a t82n t82c, .int .i64 t83] ∧ PIf ((t83 : Int) != 0) (R (.returned (.bool false)) w81) (PC Tryz.prog 23 #[.slice t61a t61n t61c, .slice t82a t82n t82c] w81 (fun v84 w85 =>
      ∃ (t86 : Bool), v84 = .bool t86 ∧ PIf (!t86) (R (.returned (.bool false)) w85) (PIf ((t71 : Int) == 0) (PIf t77 ((∃ (t87a : Option Addr) (t87n : Nat) (t87c : Nat), w85.cell? ⟨w75.heap.size, 0, none⟩ = some (.slice t87a t87n t87c) ∧
      (∃ (t88a : Option Addr) (t88n : Nat) (t88c : Nat), w85.cell? ⟨w9.heap.size, 0, none⟩ = some (.slice t88a t88n t88c) ∧ PC Tryz.prog 35 #[.slice t87a t87n t87c, .slice t88a t88n t88c] w85 (fun v89 w90 =>
      ∃ (t91 : Bool), v89 = .bool t91 ∧ PIf t91 (PC Tryz.prog 30 #[] w90 (fun v92 w93 => ∃ (t94 : Bool), v92 = .bool t94 ∧ R (.returned (.bool t94)) w93) (fun ch w =>
      R (.panicked ch) w)) (R (.returned (.bool false)) w90)) (fun ch w => R (.panicked ch) w)))) (R (.returned (.bool false)) w85)) (PIf ((t71 : Int) != 15) (PIf (t77 == t48) ((∃ (t95a : Option Addr) (t95n : Nat) (t95c : Nat), w85.cell? ⟨w75.heap.size, 0, none⟩ = some (.slice t95a t95n t95c) ∧
      (∃ (t96a : Option Addr) (t96n : Nat) (t96c : Nat), w85.cell? ⟨w46.heap.size, 0, none⟩ = some (.slice t96a t96n t96c) ∧ PC Tryz.prog 35 #[.slice t95a t95n t95c, .slice t96a t96n t96c] w85 (fun v97 w98 =>
      ∃ (t99 : Bool), v97 = .bool t99 ∧ PIf t99 (PC Tryz.prog 30 #[] w98 (fun v100 w101 => ∃ (t102 : Bool), v100 = .bool t102 ∧ R (.returned (.bool t102)) w101) (fun ch w =>
      R (.panicked ch) w)) (R (.returned (.bool false)) w98)) (fun ch w => R (.panicked ch) w)))) (R (.returned (.bool false)) w85)) ((∃ J103 : World → Prop, (PIf t77 ((∃ (t104a : Option Addr) (t104n : Nat) (t104c : Nat), w85.cell? ⟨w75.heap.size, 0, none⟩ = some (.slice t104a t104n t104c) ∧
      (∃ (t105a : Option Addr) (t105n : Nat) (t105c : Nat), w85.cell? ⟨w9.heap.size, 0, none⟩ = some (.slice t105a t105n t105c) ∧ PC Tryz.prog 35 #[.slice t104a t104n t104c, .slice t105a t105n t105c] w85 (fun v106 w107 =>
      ∃ (t108 : Bool), v106 = .bool t108 ∧ PIf t108 (PC Tryz.prog 30 #[] w107 (fun v109 w110 => ∃ (t111 : Bool), v109 = .bool t111 ∧ R (.returned (.bool t111)) w110) (fun ch w =>
      R (.panicked ch) w)) (J103  w107)) (fun ch w => R (.panicked ch) w)))) (J103  w85)) ∧ ∀  (B112 : Nat → Value) (w113 : World), J103  w113 → PIf (t77 == t48) ((∃ (t114a : Option Addr) (t114n : Nat) (t114c : Nat), w113.cell? ⟨w75.heap.size, 0, none⟩ = some (.slice t114a t114n t114c) ∧
      (∃ (t115a : Option Addr) (t115n : Nat) (t115c : Nat), w113.cell? ⟨w46.heap.size, 0, none⟩ = some (.slice t115a t115n t115c) ∧ PC Tryz.prog 35 #[.slice t114a t114n t114c, .slice t115a t115n t115c] w113 (fun v116 w117 =>
      ∃ (t118 : Bool), v116 = .bool t118 ∧ PIf t118 (PC Tryz.prog 30 #[] w117 (fun v119 w120 => ∃ (t121 : Bool), v119 = .bool t121 ∧ R (.returned (.bool t121)) w120) (fun ch w =>
      R (.panicked ch) w)) (R (.returned (.bool false)) w117)) (fun ch w => R (.panicked ch) w)))) (R (.returned (.bool false)) w113)))))) (fun ch w => R (.panicked ch) w))) (fun ch w =>
      R (.panicked ch) w)) (fun ch w => R (.panicked ch) w)) (fun ch w => R (.panicked ch) w)) (fun ch w => R (.panicked ch) w))) (fun ch w => R (.panicked ch) w)) (fun ch w =>
      R (.panicked ch) w)) (fun ch w => R (.panicked ch) w))) (fun ch w => R (.panicked ch) w)) (fun ch w => R (.panicked ch) w))) (fun ch w => R (.panicked ch) w)) (fun ch w =>
      R (.panicked ch) w)) (fun ch w => R (.panicked ch) w))) (fun pv w => R (.panicked [{ v := pv, recovered := false }]) w))) (fun ch w => R (.panicked ch) w)) (fun ch w =>
      R (.panicked ch) w))))))) :
    Calls Tryz.prog 5 #[.int .i64 n1, .agg #[.slice first3a first3n first3c], .agg #[.slice then5a then5n then5c], .int .i64 fuse6, .int .i64 keep7, .slice b8a b8n b8c] w R :=
  D_calls A_law21_ManifestWhole mixed Tryz.func5 rfl (Nat.le_of_ble_eq_true (by kernel_rfl)) (by kernel_rfl) (Eq.mp (by kernel_rfl) h)
/-- quayside/quaysidelaw21.ManifestWrites -/
abbrev F_law21_ManifestWrites : Nat := 6
def A_law21_ManifestWrites : Ann := ⟨[(7, [(13, .int .i64 0)])], [(14, [])], [], [], [(16, ⟨[0, 0, 0, 0, 12, 16, 34, 65, 192, 256, 768, 256, 256, 6400, 8448, 16640, 34048, 65792, 131328, 327680, 524288, 524288, 3670016, 4718592, 8912896], [33554431, 33554431, 33554431, 33554431, 33554419, 33554415, 33554397, 33554366, 33554303, 33554175, 33553663, 33554175, 33554175, 33548031, 33545983, 33537791, 33520383, 33488639, 33423103, 33292287, 33030143, 33030143, 29884415, 28835839, 24641535], [0, 0, 0, 0, 0, 1, 2, 0, 0, 0, 1, 0, 0, 0, 0, 1, 2, 0, 0, 0, 0, 0, 2, 0, 0]⟩)]⟩
theorem L_law21_ManifestWrites {n1 : Int} {l2a : Option Addr} {l2n : Nat} {l2c : Nat} {w3a : Option Addr} {w3n : Nat} {w3c : Nat} {fuse4 : Int} {keep5 : Int} {w : World} {R : Ending → World → Prop}
    (h : PC Tryz.prog 39 #[.slice l2a l2n l2c] w (fun v6 w7 => ∃ (t8 : Bool), v6 = .bool t8 ∧ PIf t8 (PC Tryz.prog 30 #[] w7 (fun v9 w10 => ∃ (t11 : Bool), v9 = .bool t11 ∧
      R (.returned (.bool t11)) w10) (fun ch w => R (.panicked ch) w)) (PC Tryz.prog 40 #[.int .i64 n1, .slice l2a l2n l2c] w7 (fun v12 w13 => ∃ (t14 : Option Addr), ∃ (t15 : Option Addr), v12 = .tuple #[.pointer t14, .pointer t15] ∧
      PRun Tryz.prog (do eqGuard .eql 26 (.tmp 25) (.const (.pointer none)) (.pointer t14) (.pointer none); binOp .eql 26 (.pointer t14) (.pointer none)) w13 (fun v16 w17 =>
      ∃ (t18 : Bool), v16 = .bool t18 ∧ PIf t18 (R (.returned (.bool false)) w17) (PC Tryz.prog 41 #[.pointer t14, .pointer t15] w17 (fun v19 w20 => ∃ (t21 : Bool), v19 = .bool t21 ∧
      PIf (!t21) (R (.returned (.bool false)) w20) ((∃ I22 : Nat → Int → World → Prop, (∃ m23, I22 m23 0 w20) ∧ ∀ (m23 : Nat) (i25 : Int) (B26 : Nat → Value) (w27 : World), I22 m23 i25 w27 → PIf (decide ((i25 : Int) < ((w3n : Nat) : Int))) (PIf (decide ((i25 : Int) < 10)) ((∃ b28 o29, w3a = some ⟨b28, o29, none⟩ ∧
      (0 : Int) ≤ i25 ∧ i25 < ((w3n : Nat) : Int) ∧ (∃ (t30a : Option Addr) (t30n : Nat) (t30c : Nat), w27.cell? ⟨b28, o29 + Int.toNat i25, none⟩ = some (.slice t30a t30n t30c) ∧
      PIf (decide ((((t30n : Nat) : Int) : Int) > 100)) (PC Tryz.prog 30 #[] w27 (fun v31 w32 => ∃ (t33 : Bool), v31 = .bool t33 ∧ R (.returned (.bool t33)) w32) (fun ch w =>
      R (.panicked ch) w)) ((∃ J34 : World → Prop, (PIf (((Int.tmod i25 2) : Int) == 1) (PC Tryz.prog 37 #[.pointer t14, .int .i64 fuse4] w27 (fun v35 w36 =>
      v35 = .tuple #[] ∧ PC Tryz.prog 42 #[.pointer t15, .int .i64 fuse4] w36 (fun v37 w38 => v37 = .tuple #[] ∧ J34  w38) (fun ch w => R (.panicked ch) w)) (fun ch w =>
      R (.panicked ch) w)) (J34  w27)) ∧ ∀  (B39 : Nat → Value) (w40 : World), J34  w40 → (∃ b41 o42, w3a = some ⟨b41, o42, none⟩ ∧ (0 : Int) ≤ i25 ∧ i25 < ((w3n : Nat) : Int) ∧
      (∃ (t43a : Option Addr) (t43n : Nat) (t43c : Nat), w40.cell? ⟨b41, o42 + Int.toNat i25, none⟩ = some (.slice t43a t43n t43c) ∧ PC Tryz.prog 43 #[.slice t43a t43n t43c] w40 (fun v44 w45 =>
      ∃ (t46a : Option Addr) (t46n : Nat) (t46c : Nat), v44 = .slice t46a t46n t46c ∧ PA w45 (.cells #[.slice none 0 0] 58) fun w47 => PS w47 ⟨w45.heap.size, 0, none⟩ (.slice t46a t46n t46c) fun w48 =>
      (∃ (t49a : Option Addr) (t49n : Nat) (t49c : Nat), w48.cell? ⟨w45.heap.size, 0, none⟩ = some (.slice t49a t49n t49c) ∧ PC Tryz.prog 33 #[.pointer t14, .agg #[.slice t49a t49n t49c]] w48 (fun v50 w51 =>
      ∃ (t52 : Int), v50 = .int .i64 t52 ∧ (∀ w54, Drew w51 w54 → (∃ b55 o56, w3a = some ⟨b55, o56, none⟩ ∧ (0 : Int) ≤ i25 ∧ i25 < ((w3n : Nat) : Int) ∧ (∃ (t57a : Option Addr) (t57n : Nat) (t57c : Nat), w54.cell? ⟨b55, o56 + Int.toNat i25, none⟩ = some (.slice t57a t57n t57c) ∧
      PC Tryz.prog 44 #[.pointer t15, .agg #[.slice t57a t57n t57c]] w54 (fun v58 w59 => ∃ (t60 : Int), v58 = .int .i64 t60 ∧ PIf ((t52 : Int) != t60) (R (.returned (.bool false)) w59) ((∃ (t61a : Option Addr) (t61n : Nat) (t61c : Nat), w59.cell? ⟨w45.heap.size, 0, none⟩ = some (.slice t61a t61n t61c) ∧
      (∃ b62 o63, w3a = some ⟨b62, o63, none⟩ ∧ (0 : Int) ≤ i25 ∧ i25 < ((w3n : Nat) : Int) ∧ (∃ (t64a : Option Addr) (t64n : Nat) (t64c : Nat), w59.cell? ⟨b62, o63 + Int.toNat i25, none⟩ = some (.slice t64a t64n t64c) ∧
      PC Tryz.prog 35 #[.slice t61a t61n t61c, .slice t64a t64n t64c] w59 (fun v65 w66 => ∃ (t67 : Bool), v65 = .bool t67 ∧ PIf (!t67) (R (.returned (.bool false)) w66) (PC Tryz.prog 41 #[.pointer t14, .pointer t15] w66 (fun v68 w69 =>
      ∃ (t70 : Bool), v68 = .bool t70 ∧ PIf (!t70) (R (.returned (.bool false)) w69) (PIf (((Int.tmod i25 3) : Int) == 1) (PC Tryz.prog 38 #[.pointer t14, .int .i64 keep5] w69 (fun v71 w72 =>
      v71 = .tuple #[] ∧ PC Tryz.prog 45 #[.pointer t15, .int .i64 keep5] w72 (fun v73 w74 => v73 = .tuple #[] ∧ PC Tryz.prog 41 #[.pointer t14, .pointer t15] w74 (fun v75 w76 =>
      ∃ (t77 : Bool), v75 = .bool t77 ∧ PIf (!t77) (R (.returned (.bool false)) w76) ((∃ m24, m24 < m23 ∧ I22 m24 (IntKind.wrap .i64 (i25 + 1)) w76))) (fun ch w =>
      R (.panicked ch) w)) (fun ch w => R (.panicked ch) w)) (fun ch w => R (.panicked ch) w)) ((∃ m24, m24 < m23 ∧ I22 m24 (IntKind.wrap .i64 (i25 + 1)) w69)))) (fun ch wpp =>
      ∀ (_ : Base) (_ : Bnd), R (.panicked ch) wpp))) (fun ch wpp => ∀ (_ : Base) (_ : Bnd), R (.panicked ch) wpp)))))) (fun ch wpp => ∀ (_ : Base) (_ : Bnd), R (.panicked ch) wpp))))) (fun ch w =>
      R (.panicked ch) w))) (fun ch w => R (.panicked ch) w)))))))) (PC Tryz.prog 30 #[] w27 (fun v78 w79 => ∃ (t80 : Bool), v78 = .bool t80 ∧ R (.returned (.bool t80)) w79) (fun ch w =>
      R (.panicked ch) w))) (PC Tryz.prog 30 #[] w27 (fun v81 w82 => ∃ (t83 : Bool), v81 = .bool t83 ∧ R (.returned (.bool t83)) w82) (fun ch w => R (.panicked ch) w))))) (fun ch w =>
      R (.panicked ch) w))) (fun pv w => R (.panicked [{ v := pv, recovered := false }]) w)) (fun ch w => R (.panicked ch) w))) (fun ch w => R (.panicked ch) w)) :
    Calls Tryz.prog 6 #[.int .i64 n1, .slice l2a l2n l2c, .slice w3a w3n w3c, .int .i64 fuse4, .int .i64 keep5] w R :=
  D_calls A_law21_ManifestWrites mixed Tryz.func6 rfl (Nat.le_of_ble_eq_true (by kernel_rfl)) (by kernel_rfl) (Eq.mp (by kernel_rfl) h)
/-- quayside/quaysidelaw10.Long -/
abbrev F_law10_Long : Nat := 7
def A_law10_Long : Ann := ⟨[(2, [(3, .int .i64 0)])], [], [], [], []⟩
theorem L_law10_Long {l1a : Option Addr} {l1n : Nat} {l1c : Nat} {w : World} {R : Ending → World → Prop}
    (h : (∃ I2 : Nat → Int → World → Prop, (∃ m3, I2 m3 0 w) ∧ ∀ (m3 : Nat) (i5 : Int) (B6 : Nat → Value) (w7 : World), I2 m3 i5 w7 → PIf (decide ((i5 : Int) < ((l1n : Nat) : Int))) ((∃ b8 o9, l1a = some ⟨b8, o9, none⟩ ∧
      (0 : Int) ≤ i5 ∧ i5 < ((l1n : Nat) : Int) ∧ (∃ (t10a : Option Addr) (t10n : Nat) (t10c : Nat), w7.cell? ⟨b8, o9 + Int.toNat i5 * 10 + 3, none⟩ = some (.slice t10a t10n t10c) ∧
      PIf (decide ((((t10n : Nat) : Int) : Int) > 100)) (R (.returned (.bool true)) w7) ((∃ m4, m4 < m3 ∧ I2 m4 (IntKind.wrap .i64 (i5 + 1)) w7))))) (R (.returned (.bool (decide ((((l1n : Nat) : Int) : Int) > 200)))) w7))) :
    Calls Tryz.prog 7 #[.slice l1a l1n l1c] w R :=
  D_calls A_law10_Long mixed Tryz.func7 rfl (Nat.le_of_ble_eq_true (by kernel_rfl)) (by kernel_rfl) (Eq.mp (by kernel_rfl) h)
/-- quayside/quaysidelaw20.works -/
abbrev F_law20_works : Nat := 8
def A_law20_works : Ann := ⟨[], [], [], [], []⟩
theorem L_law20_works  {w : World} {R : Ending → World → Prop}
    (h : PC Tryz.prog 9 #[.int .i64 1000] w (fun v1 w2 => ∃ (t3 : Option Addr), ∃ (t4 : Int), v1 = .tuple #[.pointer t3, .int .i64 t4] ∧ PC Tryz.prog 26 #[.int .i64 1] w2 (fun v5 w6 =>
      ∃ (t7 : Int), ∃ (t8 : Int), ∃ (t9 : Int), ∃ (t10a : Option Addr) (t10n : Nat) (t10c : Nat), ∃ (t11 : Int), ∃ (t12 : Int), ∃ (t13 : Int), ∃ (t14 : Int), ∃ (t15 : Int), ∃ (t16 : Int), v5 = .agg #[.int .i64 t7, .int .i64 t8, .int .i64 t9, .slice t10a t10n t10c, .int .i64 t11, .int .i64 t12, .int .i64 t13, .int .i64 t14, .int .i64 t15, .int .i64 t16] ∧
      PC Tryz.prog 21 #[.agg #[.int .i64 t7, .int .i64 t8, .int .i64 t9, .slice t10a t10n t10c, .int .i64 t11, .int .i64 t12, .int .i64 t13, .int .i64 t14, .int .i64 t15, .int .i64 t16]] w6 (fun v17 w18 =>
      ∃ (t19a : Option Addr) (t19n : Nat) (t19c : Nat), ∃ (t20 : Int), v17 = .tuple #[.slice t19a t19n t19c, .int .i64 t20] ∧ PC Tryz.prog 26 #[.int .i64 2] w18 (fun v21 w22 =>
      ∃ (t23 : Int), ∃ (t24 : Int), ∃ (t25 : Int), ∃ (t26a : Option Addr) (t26n : Nat) (t26c : Nat), ∃ (t27 : Int), ∃ (t28 : Int), ∃ (t29 : Int), ∃ (t30 : Int), ∃ (t31 : Int), ∃ (t32 : Int), v21 = .agg #[.int .i64 t23, .int .i64 t24, .int .i64 t25, .slice t26a t26n t26c, .int .i64 t27, .int .i64 t28, .int .i64 t29, .int .i64 t30, .int .i64 t31, .int .i64 t32] ∧
      PC Tryz.prog 21 #[.agg #[.int .i64 t23, .int .i64 t24, .int .i64 t25, .slice t26a t26n t26c, .int .i64 t27, .int .i64 t28, .int .i64 t29, .int .i64 t30, .int .i64 t31, .int .i64 t32]] w22 (fun v33 w34 =>
      ∃ (t35a : Option Addr) (t35n : Nat) (t35c : Nat), ∃ (t36 : Int), v33 = .tuple #[.slice t35a t35n t35c, .int .i64 t36] ∧ PC Tryz.prog 46 #[.string (⟨#[115, 101, 103, 46, 55]⟩ : ByteArray)] w34 (fun v37 w38 =>
      ∃ (t39 : Int), ∃ (t40 : Bool), v37 = .tuple #[.int .i64 t39, .bool t40] ∧ PC Tryz.prog 46 #[.string (⟨#[115, 101, 103, 46, 48, 55]⟩ : ByteArray)] w38 (fun v41 w42 =>
      ∃ (t43 : Int), ∃ (t44 : Bool), v41 = .tuple #[.int .i64 t43, .bool t44] ∧ PIf ((t4 : Int) != 0) (R (.returned (.bool false)) w42) (PIf ((t20 : Int) != 0) (R (.returned (.bool false)) w42) (PIf ((t36 : Int) != 0) (R (.returned (.bool false)) w42) (PRun Tryz.prog (do eqGuard .eql 26 (.tmp 46) (.const (.pointer none)) (.pointer t3) (.pointer none); binOp .eql 26 (.pointer t3) (.pointer none)) w42 (fun v45 w46 =>
      ∃ (t47 : Bool), v45 = .bool t47 ∧ PIf t47 (R (.returned (.bool false)) w46) (PC Tryz.prog 11 #[.pointer t3, .string (⟨#[115, 101, 103, 46, 55]⟩ : ByteArray)] w46 (fun v48 w49 =>
      ∃ (t50 : Int), v48 = .int .i64 t50 ∧ PIf ((t50 : Int) != 0) (R (.returned (.bool false)) w49) (PC Tryz.prog 13 #[.pointer t3, .string (⟨#[115, 101, 103, 46, 55]⟩ : ByteArray), .slice t19a t19n t19c] w49 (fun v51 w52 =>
      ∃ (t53 : Int), v51 = .int .i64 t53 ∧ PC Tryz.prog 13 #[.pointer t3, .string (⟨#[115, 101, 103, 46, 55]⟩ : ByteArray), .slice t35a t35n t35c] w52 (fun v54 w55 =>
      ∃ (t56 : Int), v54 = .int .i64 t56 ∧ ((0 : Int) ≤ (IntKind.wrap .i64 (Int.tdiv ((t19n : Nat) : Int) 2)) ∧ ((IntKind.wrap .i64 (Int.tdiv ((t19n : Nat) : Int) 2)) : Int) ≤ ((t19c : Nat) : Int) ∧
      PC Tryz.prog 13 #[.pointer t3, .string (⟨#[115, 101, 103, 46, 55]⟩ : ByteArray), .slice t19a (Int.toNat (IntKind.wrap .i64 (Int.tdiv ((t19n : Nat) : Int) 2))) t19c] w55 (fun v57 w58 =>
      ∃ (t59 : Int), v57 = .int .i64 t59 ∧ PC Tryz.prog 17 #[.pointer t3, .int .i64 7] w58 (fun v60 w61 => ∃ (t62a : Option Addr) (t62n : Nat) (t62c : Nat), ∃ (t63 : Int), v60 = .tuple #[.slice t62a t62n t62c, .int .i64 t63] ∧
      PC Tryz.prog 12 #[.int .i64 7] w61 (fun v64 w65 => ∃ (t66 : ByteArray), v64 = .string t66 ∧ PIf ((ByteArray.toList t66) == (ByteArray.toList (⟨#[115, 101, 103, 46, 55]⟩ : ByteArray))) (PIf ((t39 : Int) == 7) (PIf t40 (PIf (!t44) (PIf ((t63 : Int) == (IntKind.wrap .i64 (((t19n : Nat) : Int) + ((t35n : Nat) : Int)))) (PC Tryz.prog 26 #[.int .i64 1] w65 (fun v67 w68 =>
      ∃ (t69 : Int), ∃ (t70 : Int), ∃ (t71 : Int), ∃ (t72a : Option Addr) (t72n : Nat) (t72c : Nat), ∃ (t73 : Int), ∃ (t74 : Int), ∃ (t75 : Int), ∃ (t76 : Int), ∃ (t77 : Int), ∃ (t78 : Int), v67 = .agg #[.int .i64 t69, .int .i64 t70, .int .i64 t71, .slice t72a t72n t72c, .int .i64 t73, .int .i64 t74, .int .i64 t75, .int .i64 t76, .int .i64 t77, .int .i64 t78] ∧
      PC Tryz.prog 26 #[.int .i64 2] w68 (fun v79 w80 => ∃ (t81 : Int), ∃ (t82 : Int), ∃ (t83 : Int), ∃ (t84a : Option Addr) (t84n : Nat) (t84c : Nat), ∃ (t85 : Int), ∃ (t86 : Int), ∃ (t87 : Int), ∃ (t88 : Int), ∃ (t89 : Int), ∃ (t90 : Int), v79 = .agg #[.int .i64 t81, .int .i64 t82, .int .i64 t83, .slice t84a t84n t84c, .int .i64 t85, .int .i64 t86, .int .i64 t87, .int .i64 t88, .int .i64 t89, .int .i64 t90] ∧
      PA w80 (.cells #[.int .i64 t69, .int .i64 t70, .int .i64 t71, .slice t72a t72n t72c, .int .i64 t73, .int .i64 t74, .int .i64 t75, .int .i64 t76, .int .i64 t77, .int .i64 t78, .int .i64 t81, .int .i64 t82, .int .i64 t83, .slice t84a t84n t84c, .int .i64 t85, .int .i64 t86, .int .i64 t87, .int .i64 t88, .int .i64 t89, .int .i64 t90] 47) fun w91 =>
      PC Tryz.prog 19 #[.slice t62a t62n t62c, .slice (some ⟨w80.heap.size, 0, none⟩) 2 2] w91 (fun v92 w93 => ∃ (t94 : Bool), v92 = .bool t94 ∧ R (.returned (.bool t94)) w93) (fun ch w =>
      R (.panicked ch) w)) (fun ch w => R (.panicked ch) w)) (fun ch w => R (.panicked ch) w)) (R (.returned (.bool false)) w65)) (R (.returned (.bool false)) w65)) (R (.returned (.bool false)) w65)) (R (.returned (.bool false)) w65)) (R (.returned (.bool false)) w65)) (fun ch w =>
      R (.panicked ch) w)) (fun ch w => R (.panicked ch) w)) (fun ch w => R (.panicked ch) w))) (fun ch w => R (.panicked ch) w)) (fun ch w => R (.panicked ch) w))) (fun ch w =>
      R (.panicked ch) w))) (fun pv w => R (.panicked [{ v := pv, recovered := false }]) w))))) (fun ch w => R (.panicked ch) w)) (fun ch w => R (.panicked ch) w)) (fun ch w =>
      R (.panicked ch) w)) (fun ch w => R (.panicked ch) w)) (fun ch w => R (.panicked ch) w)) (fun ch w => R (.panicked ch) w)) (fun ch w => R (.panicked ch) w)) :
    Calls Tryz.prog 8 #[] w R :=
  D_calls A_law20_works mixed Tryz.func8 rfl (Nat.le_of_ble_eq_true (by kernel_rfl)) (by kernel_rfl) (Eq.mp (by kernel_rfl) h)
/-- quayside/vdisk.New -/
abbrev F_vdisk_New : Nat := 9
def A_vdisk_New : Ann := ⟨[], [], [], [], []⟩
theorem L_vdisk_New {n1 : Int} {w : World} {R : Ending → World → Prop}
    (h : PIf (decide ((n1 : Int) < 64)) (R (.returned (.tuple #[.pointer none, .int .i64 1])) w) (PIf (decide ((n1 : Int) > 262144)) (R (.returned (.tuple #[.pointer none, .int .i64 1])) w) (PA w (.map #[] 0) fun w2 =>
      PA w2 (.cells #[.int .i64 n1, .map (some w.heap.size), .bool false, .int .i64 0, .bool false] 80) fun w3 => R (.returned (.tuple #[.pointer (some ⟨w2.heap.size, 0, none⟩), .int .i64 0])) w3))) :
    Calls Tryz.prog 9 #[.int .i64 n1] w R :=
  D_calls A_vdisk_New mixed Tryz.func9 rfl (Nat.le_of_ble_eq_true (by kernel_rfl)) (by kernel_rfl) (Eq.mp (by kernel_rfl) h)
/-- quayside/quaysideref19.New -/
abbrev F_ref19_New : Nat := 10
def A_ref19_New : Ann := ⟨[], [], [], [], []⟩
theorem L_ref19_New {n1 : Int} {w : World} {R : Ending → World → Prop}
    (h : PIf (decide ((n1 : Int) < 64)) (R (.returned (.tuple #[.pointer none, .int .i64 1])) w) (PIf (decide ((n1 : Int) > 262144)) (R (.returned (.tuple #[.pointer none, .int .i64 1])) w) (PA w (.cells #[.int .i64 n1, .int .i64 (-1), .slice none 0 0, .bool false] 83) fun w2 =>
      R (.returned (.tuple #[.pointer (some ⟨w.heap.size, 0, none⟩), .int .i64 0])) w2))) :
    Calls Tryz.prog 10 #[.int .i64 n1] w R :=
  D_calls A_ref19_New mixed Tryz.func10 rfl (Nat.le_of_ble_eq_true (by kernel_rfl)) (by kernel_rfl) (Eq.mp (by kernel_rfl) h)
/-- (*quayside/vdisk.Disk).Create -/
abbrev F_vdisk_Disk_Create : Nat := 11
def A_vdisk_Disk_Create : Ann := ⟨[], [], [], [], []⟩
theorem L_vdisk_Disk_Create {d1 : Option Addr} {name2 : ByteArray} {w : World} {R : Ending → World → Prop}
    (h : PA w (.cells #[.pointer d1] 26) fun w3 => PA w3 (.cells #[.string name2] 9) fun w4 => (∃ (t5 : Option Addr), w4.cell? ⟨w.heap.size, 0, none⟩ = some (.pointer t5) ∧
      PC Tryz.prog 47 #[.pointer t5, .func (.func 48) #[] #[.pointer (some ⟨w3.heap.size, 0, none⟩), .pointer (some ⟨w.heap.size, 0, none⟩)]] w4 (fun v6 w7 =>
      ∃ (t8 : Int), v6 = .int .i64 t8 ∧ R (.returned (.int .i64 t8)) w7) (fun ch w => R (.panicked ch) w))) :
    Calls Tryz.prog 11 #[.pointer d1, .string name2] w R :=
  D_calls A_vdisk_Disk_Create mixed Tryz.func11 rfl (Nat.le_of_ble_eq_true (by kernel_rfl)) (by kernel_rfl) (Eq.mp (by kernel_rfl) h)
/-- quayside/segment.Name -/
abbrev F_segment_Name : Nat := 12
def A_segment_Name : Ann := ⟨[], [], [], [], []⟩
theorem L_segment_Name {no1 : Int} {w : World} {R : Ending → World → Prop}
    (h : PIf (decide ((no1 : Int) < 0)) (R (.returned (.string (⟨#[]⟩ : ByteArray))) w) (PIf (decide ((no1 : Int) ≥ 1000000000000)) (R (.returned (.string (⟨#[]⟩ : ByteArray))) w) (PC Tryz.prog 50 #[.int .i64 no1] w (fun v2 w3 =>
      ∃ (t4 : ByteArray), v2 = .string t4 ∧ PRun Tryz.prog (do eqGuard .add 9 (.const (.string (⟨#[115, 101, 103, 46]⟩ : ByteArray))) (.tmp 10) (.string (⟨#[115, 101, 103, 46]⟩ : ByteArray)) (.string t4); binOp .add 9 (.string (⟨#[115, 101, 103, 46]⟩ : ByteArray)) (.string t4)) w3 (fun v5 w6 =>
      ∃ (t7 : ByteArray), v5 = .string t7 ∧ R (.returned (.string t7)) w6) (fun pv w => R (.panicked [{ v := pv, recovered := false }]) w)) (fun ch w => R (.panicked ch) w)))) :
    Calls Tryz.prog 12 #[.int .i64 no1] w R :=
  D_calls A_segment_Name mixed Tryz.func12 rfl (Nat.le_of_ble_eq_true (by kernel_rfl)) (by kernel_rfl) (Eq.mp (by kernel_rfl) h)
/-- (*quayside/vdisk.Disk).Append -/
abbrev F_vdisk_Disk_Append : Nat := 13
def A_vdisk_Disk_Append : Ann := ⟨[], [], [], [], []⟩
theorem L_vdisk_Disk_Append {d1 : Option Addr} {name2 : ByteArray} {b3a : Option Addr} {b3n : Nat} {b3c : Nat} {w : World} {R : Ending → World → Prop}
    (h : PA w (.cells #[.pointer d1] 26) fun w4 => PA w4 (.cells #[.slice b3a b3n b3c] 22) fun w5 => (∃ (t6 : Option Addr), w5.cell? ⟨w.heap.size, 0, none⟩ = some (.pointer t6) ∧
      PC Tryz.prog 51 #[.pointer t6, .string name2, .func (.func 52) #[] #[.pointer (some ⟨w4.heap.size, 0, none⟩), .pointer (some ⟨w.heap.size, 0, none⟩)]] w5 (fun v7 w8 =>
      ∃ (t9 : Int), v7 = .int .i64 t9 ∧ R (.returned (.int .i64 t9)) w8) (fun ch w => R (.panicked ch) w))) :
    Calls Tryz.prog 13 #[.pointer d1, .string name2, .slice b3a b3n b3c] w R :=
  D_calls A_vdisk_Disk_Append mixed Tryz.func13 rfl (Nat.le_of_ble_eq_true (by kernel_rfl)) (by kernel_rfl) (Eq.mp (by kernel_rfl) h)
/-- (*quayside/quaysideref19.Disk).Create -/
abbrev F_ref19_Disk_Create : Nat := 14
def A_ref19_Disk_Create : Ann := ⟨[], [], [], [], []⟩
theorem L_ref19_Disk_Create {d1 : Option Addr} {name2 : ByteArray} {w : World} {R : Ending → World → Prop}
    (h : PC Tryz.prog 54 #[.pointer d1] w (fun v3 w4 => ∃ (t5 : Bool), v3 = .bool t5 ∧ PIf t5 (R (.returned (.int .i64 15)) w4) (PC Tryz.prog 55 #[.string name2] w4 (fun v6 w7 =>
      ∃ (t8 : Bool), v6 = .bool t8 ∧ PIf (!t8) (R (.returned (.int .i64 1)) w7) (PC Tryz.prog 56 #[.pointer d1, .string name2] w7 (fun v9 w10 => ∃ (t11 : Int), v9 = .int .i64 t11 ∧
      PIf (decide ((t11 : Int) ≥ 0)) (R (.returned (.int .i64 16)) w10) ((∃ b12 o13, d1 = some ⟨b12, o13, none⟩ ∧ (∃ (t14a : Option Addr) (t14n : Nat) (t14c : Nat), w10.cell? ⟨b12, o13 + 2, none⟩ = some (.slice t14a t14n t14c) ∧
      PIf (decide ((((t14n : Nat) : Int) : Int) ≥ 64)) (R (.returned (.int .i64 12)) w10) (PC Tryz.prog 57 #[.pointer d1, .agg #[.string name2, .slice none 0 0, .int .i64 0, .bool false]] w10 (fun v15 w16 =>
      v15 = .tuple #[] ∧ R (.returned (.int .i64 0)) w16) (fun ch w => R (.panicked ch) w)))))) (fun ch w => R (.panicked ch) w))) (fun ch w => R (.panicked ch) w))) (fun ch w =>
      R (.panicked ch) w)) :
    Calls Tryz.prog 14 #[.pointer d1, .string name2] w R :=
  D_calls A_ref19_Disk_Create mixed Tryz.func14 rfl (Nat.le_of_ble_eq_true (by kernel_rfl)) (by kernel_rfl) (Eq.mp (by kernel_rfl) h)
/-- quayside/quaysideref20.Name -/
abbrev F_ref20_Name : Nat := 15
def A_ref20_Name : Ann := ⟨[(4, [(0, .int .i64 0), (3, .slice none 0 0)]), (9, [(4, .slice none 0 0), (5, .int .i64 0)])], [], [], [], []⟩
theorem L_ref20_Name {no1 : Int} {w : World} {R : Ending → World → Prop}
    (h : PIf (decide ((no1 : Int) < 0)) (R (.returned (.string (⟨#[]⟩ : ByteArray))) w) (PIf (decide ((no1 : Int) > 999999999999)) (R (.returned (.string (⟨#[]⟩ : ByteArray))) w) ((∃ I2 : Nat → Int → Option Addr → Nat → Nat → World → Prop, (∃ m3, I2 m3 no1 none 0 0 w) ∧
      ∀ (m3 : Nat) (no5 : Int) (digits6a : Option Addr) (digits6n : Nat) (digits6c : Nat) (B7 : Nat → Value) (w8 : World), I2 m3 no5 digits6a digits6n digits6c w8 → PA w8 (.cells #[.int .u8 (IntKind.wrap .u8 (IntKind.wrap .i64 (48 + (Int.tmod no5 10))))] 5) fun w9 =>
      PRun Tryz.prog (Builtin.append_ #[22, 22] 22 #[.slice digits6a digits6n digits6c, .slice (some ⟨w8.heap.size, 0, none⟩) 1 1]) w9 (fun v10 w11 => ∃ (t12a : Option Addr) (t12n : Nat) (t12c : Nat), v10 = .slice t12a t12n t12c ∧
      PIf (((IntKind.wrap .i64 (Int.tdiv no5 10)) : Int) == 0) (PA w11 (.cells #[.int .u8 115, .int .u8 101, .int .u8 103, .int .u8 46] 5) fun w13 => PRun Tryz.prog (convert 22 22 (.slice (some ⟨w11.heap.size, 0, none⟩) 4 4)) w13 (fun v14 w15 =>
      ∃ (t16a : Option Addr) (t16n : Nat) (t16c : Nat), v14 = .slice t16a t16n t16c ∧ (∃ I17 : Nat → Option Addr → Nat → Nat → Int → World → Prop, (∃ m18, I17 m18 t16a t16n t16c (IntKind.wrap .i64 (((t12n : Nat) : Int) - 1)) w15) ∧
      ∀ (m18 : Nat) (out20a : Option Addr) (out20n : Nat) (out20c : Nat) (i21 : Int) (B22 : Nat → Value) (w23 : World), I17 m18 out20a out20n out20c i21 w23 → PIf (decide ((i21 : Int) ≥ 0)) ((∃ b24 o25, t12a = some ⟨b24, o25, none⟩ ∧
      (0 : Int) ≤ i21 ∧ i21 < ((t12n : Nat) : Int) ∧ (∃ (t26 : Int), w23.cell? ⟨b24, o25 + Int.toNat i21, none⟩ = some (.int .u8 t26) ∧ PA w23 (.cells #[.int .u8 t26] 5) fun w27 =>
      PRun Tryz.prog (Builtin.append_ #[22, 22] 22 #[.slice out20a out20n out20c, .slice (some ⟨w23.heap.size, 0, none⟩) 1 1]) w27 (fun v28 w29 => ∃ (t30a : Option Addr) (t30n : Nat) (t30c : Nat), v28 = .slice t30a t30n t30c ∧
      (∃ m19, m19 < m18 ∧ I17 m19 t30a t30n t30c (IntKind.wrap .i64 (i21 - 1)) w29)) (fun pv w => R (.panicked [{ v := pv, recovered := false }]) w)))) (PRun Tryz.prog (convert 22 9 (.slice out20a out20n out20c)) w23 (fun v31 w32 =>
      ∃ (t33 : ByteArray), v31 = .string t33 ∧ R (.returned (.string t33)) w32) (fun pv w => R (.panicked [{ v := pv, recovered := false }]) w)))) (fun pv w =>
      R (.panicked [{ v := pv, recovered := false }]) w)) ((∃ m4, m4 < m3 ∧ I2 m4 (IntKind.wrap .i64 (Int.tdiv no5 10)) t12a t12n t12c w11))) (fun pv w => R (.panicked [{ v := pv, recovered := false }]) w))))) :
    Calls Tryz.prog 15 #[.int .i64 no1] w R :=
  D_calls A_ref20_Name mixed Tryz.func15 rfl (Nat.le_of_ble_eq_true (by kernel_rfl)) (by kernel_rfl) (Eq.mp (by kernel_rfl) h)
/-- (*quayside/quaysideref19.Disk).Append -/
abbrev F_ref19_Disk_Append : Nat := 16
def A_ref19_Disk_Append : Ann := ⟨[], [], [8], [], [(8, ⟨[0, 1, 2, 4, 0, 0, 32, 64, 128, 0, 768, 1024, 2048, 0, 12288, 32767, 65535, 98303], [262143, 262142, 262141, 262139, 262143, 262143, 262111, 262079, 262015, 262143, 261375, 261119, 260095, 262143, 249855, 262119, 229375, 180223], [0, 0, 0, 1, 0, 0, 0, 0, 1, 0, 0, 0, 1, 0, 2, 0, 0, 2]⟩)]⟩
theorem L_ref19_Disk_Append {d1 : Option Addr} {name2 : ByteArray} {b3a : Option Addr} {b3n : Nat} {b3c : Nat} {w : World} {R : Ending → World → Prop}
    (h : PC Tryz.prog 54 #[.pointer d1] w (fun v4 w5 => ∃ (t6 : Bool), v4 = .bool t6 ∧ PIf t6 (R (.returned (.int .i64 15)) w5) (PC Tryz.prog 56 #[.pointer d1, .string name2] w5 (fun v7 w8 =>
      ∃ (t9 : Int), v7 = .int .i64 t9 ∧ PIf (decide ((t9 : Int) < 0)) (R (.returned (.int .i64 14)) w8) (PC Tryz.prog 58 #[.pointer d1] w8 (fun v10 w11 => ∃ (t12 : Int), v10 = .int .i64 t12 ∧
      PIf (decide ((((b3n : Nat) : Int) : Int) > t12)) (R (.returned (.int .i64 12)) w11) ((∀ w14, Drew w11 w14 → ∃ S15 : Nat → Prop, (∃ b16 o17, d1 = some ⟨b16, o17, none⟩ ∧
      (¬ S15 b16 ∧ (∃ (t18a : Option Addr) (t18n : Nat) (t18c : Nat), w14.cell? ⟨b16, o17 + 2, none⟩ = some (.slice t18a t18n t18c) ∧ (∃ b19 o20, d1 = some ⟨b19, o20, none⟩ ∧
      (∃ (t21a : Option Addr) (t21n : Nat) (t21c : Nat), w14.cell? ⟨b19, o20 + 2, none⟩ = some (.slice t21a t21n t21c) ∧ (∃ b22 o23, t21a = some ⟨b22, o23, none⟩ ∧
      (0 : Int) ≤ t9 ∧ t9 < ((t21n : Nat) : Int) ∧ (∃ (t24a : Option Addr) (t24n : Nat) (t24c : Nat), w14.cell? ⟨b22, o23 + Int.toNat t9 * 4 + 1, none⟩ = some (.slice t24a t24n t24c) ∧
      PRun Tryz.prog (Builtin.append_ #[22, 22] 22 #[.slice t24a t24n t24c, .slice b3a b3n b3c]) w14 (fun v25 w26 => ∃ (t27a : Option Addr) (t27n : Nat) (t27c : Nat), v25 = .slice t27a t27n t27c ∧
      (Keep S15 w14 w26 ∧ (∃ b28 o29, t18a = some ⟨b28, o29, none⟩ ∧ (0 : Int) ≤ t9 ∧ t9 < ((t18n : Nat) : Int) ∧ PS w26 ⟨b28, o29 + Int.toNat t9 * 4 + 1, none⟩ (.slice t27a t27n t27c) fun w30 =>
      (Keep S15 w26 w30 ∧ R (.returned (.int .i64 0)) w30)))) (fun pv wpp => ∀ (_ : Base) (_ : Bnd), R (.panicked [{ v := pv, recovered := false }]) wpp))))))))))) (fun ch w =>
      R (.panicked ch) w))) (fun ch w => R (.panicked ch) w))) (fun ch w => R (.panicked ch) w)) :
    Calls Tryz.prog 16 #[.pointer d1, .string name2, .slice b3a b3n b3c] w R :=
  D_calls A_ref19_Disk_Append mixed Tryz.func16 rfl (Nat.le_of_ble_eq_true (by kernel_rfl)) (by kernel_rfl) (Eq.mp (by kernel_rfl) h)
/-- quayside/segment.Load -/
abbrev F_segment_Load : Nat := 17
def A_segment_Load : Ann := ⟨[(6, [(8, .slice none 0 0), (9, .int .i64 0)])], [], [], [], []⟩
theorem L_segment_Load {d1 : Option Addr} {no2 : Int} {w : World} {R : Ending → World → Prop}
    (h : PC Tryz.prog 12 #[.int .i64 no2] w (fun v3 w4 => ∃ (t5 : ByteArray), v3 = .string t5 ∧ PC Tryz.prog 36 #[.pointer d1, .string t5] w4 (fun v6 w7 => ∃ (t8a : Option Addr) (t8n : Nat) (t8c : Nat), ∃ (t9 : Int), v6 = .tuple #[.slice t8a t8n t8c, .int .i64 t9] ∧
      PIf ((t9 : Int) != 0) (R (.returned (.tuple #[.slice none 0 0, .int .i64 0])) w7) ((∃ I10 : Nat → Option Addr → Nat → Nat → Int → World → Prop, (∃ m11, I10 m11 none 0 0 0 w7) ∧
      ∀ (m11 : Nat) (out13a : Option Addr) (out13n : Nat) (out13c : Nat) (at14 : Int) (B15 : Nat → Value) (w16 : World), I10 m11 out13a out13n out13c at14 w16 → ((0 : Int) ≤ at14 ∧
      (at14 : Int) ≤ ((t8n : Nat) : Int) ∧ PC Tryz.prog 59 #[.slice (subA t8a (Int.toNat at14) t8c 1) (t8n - Int.toNat at14) (t8c - Int.toNat at14)] w16 (fun v17 w18 =>
      ∃ (t19 : Int), ∃ (t20a : Option Addr) (t20n : Nat) (t20c : Nat), ∃ (t21 : Int), ∃ (t22 : Int), v17 = .tuple #[.agg #[.int .i64 t19, .slice t20a t20n t20c], .int .i64 t21, .int .i64 t22] ∧
      PA w18 (.cells #[.int .i64 0, .slice none 0 0] 98) fun w23 => PS w23 ⟨w18.heap.size, 0, none⟩ (.int .i64 t19) fun w24 => PS w24 ⟨w18.heap.size, 0 + 1, none⟩ (.slice t20a t20n t20c) fun w25 =>
      PIf ((t22 : Int) != 0) (R (.returned (.tuple #[.slice out13a out13n out13c, .int .i64 at14])) w25) ((∃ (t26 : Int), w25.cell? ⟨w18.heap.size, 0, none⟩ = some (.int .i64 t26) ∧
      PIf ((t26 : Int) != 1) (R (.returned (.tuple #[.slice out13a out13n out13c, .int .i64 at14])) w25) ((∃ (t27a : Option Addr) (t27n : Nat) (t27c : Nat), w25.cell? ⟨w18.heap.size, 0 + 1, none⟩ = some (.slice t27a t27n t27c) ∧
      PC Tryz.prog 60 #[.slice t27a t27n t27c] w25 (fun v28 w29 => ∃ (t30 : Int), ∃ (t31 : Int), ∃ (t32 : Int), ∃ (t33a : Option Addr) (t33n : Nat) (t33c : Nat), ∃ (t34 : Int), ∃ (t35 : Int), ∃ (t36 : Int), ∃ (t37 : Int), ∃ (t38 : Int), ∃ (t39 : Int), ∃ (t40 : Int), v28 = .tuple #[.agg #[.int .i64 t30, .int .i64 t31, .int .i64 t32, .slice t33a t33n t33c, .int .i64 t34, .int .i64 t35, .int .i64 t36, .int .i64 t37, .int .i64 t38, .int .i64 t39], .int .i64 t40] ∧
      PA w29 (.cells #[.int .i64 0, .int .i64 0, .int .i64 0, .slice none 0 0, .int .i64 0, .int .i64 0, .int .i64 0, .int .i64 0, .int .i64 0, .int .i64 0] 47) fun w41 =>
      PS w41 ⟨w29.heap.size, 0, none⟩ (.int .i64 t30) fun w42 => PS w42 ⟨w29.heap.size, 0 + 1, none⟩ (.int .i64 t31) fun w43 => PS w43 ⟨w29.heap.size, 0 + 2, none⟩ (.int .i64 t32) fun w44 =>
      PS w44 ⟨w29.heap.size, 0 + 3, none⟩ (.slice t33a t33n t33c) fun w45 => PS w45 ⟨w29.heap.size, 0 + 4, none⟩ (.int .i64 t34) fun w46 => PS w46 ⟨w29.heap.size, 0 + 5, none⟩ (.int .i64 t35) fun w47 =>
      PS w47 ⟨w29.heap.size, 0 + 6, none⟩ (.int .i64 t36) fun w48 => PS w48 ⟨w29.heap.size, 0 + 7, none⟩ (.int .i64 t37) fun w49 => PS w49 ⟨w29.heap.size, 0 + 8, none⟩ (.int .i64 t38) fun w50 =>
      PS w50 ⟨w29.heap.size, 0 + 9, none⟩ (.int .i64 t39) fun w51 => PIf ((t40 : Int) != 0) (R (.returned (.tuple #[.slice out13a out13n out13c, .int .i64 at14])) w51) ((∃ (t52 : Int), ∃ (t53 : Int), ∃ (t54 : Int), ∃ (t55a : Option Addr) (t55n : Nat) (t55c : Nat), ∃ (t56 : Int), ∃ (t57 : Int), ∃ (t58 : Int), ∃ (t59 : Int), ∃ (t60 : Int), ∃ (t61 : Int), w51.cell? ⟨w29.heap.size, 0, none⟩ = some (.int .i64 t52) ∧
      w51.cell? ⟨w29.heap.size, 0 + 1, none⟩ = some (.int .i64 t53) ∧ w51.cell? ⟨w29.heap.size, 0 + 2, none⟩ = some (.int .i64 t54) ∧ w51.cell? ⟨w29.heap.size, 0 + 3, none⟩ = some (.slice t55a t55n t55c) ∧
      w51.cell? ⟨w29.heap.size, 0 + 4, none⟩ = some (.int .i64 t56) ∧ w51.cell? ⟨w29.heap.size, 0 + 5, none⟩ = some (.int .i64 t57) ∧ w51.cell? ⟨w29.heap.size, 0 + 6, none⟩ = some (.int .i64 t58) ∧
      w51.cell? ⟨w29.heap.size, 0 + 7, none⟩ = some (.int .i64 t59) ∧ w51.cell? ⟨w29.heap.size, 0 + 8, none⟩ = some (.int .i64 t60) ∧ w51.cell? ⟨w29.heap.size, 0 + 9, none⟩ = some (.int .i64 t61) ∧
      PA w51 (.cells #[.int .i64 t52, .int .i64 t53, .int .i64 t54, .slice t55a t55n t55c, .int .i64 t56, .int .i64 t57, .int .i64 t58, .int .i64 t59, .int .i64 t60, .int .i64 t61] 47) fun w62 =>
      PRun Tryz.prog (Builtin.append_ #[23, 23] 23 #[.slice out13a out13n out13c, .slice (some ⟨w51.heap.size, 0, none⟩) 1 1]) w62 (fun v63 w64 => ∃ (t65a : Option Addr) (t65n : Nat) (t65c : Nat), v63 = .slice t65a t65n t65c ∧
      (∃ m12, m12 < m11 ∧ I10 m12 t65a t65n t65c (IntKind.wrap .i64 (at14 + t21)) w64)) (fun pv w => R (.panicked [{ v := pv, recovered := false }]) w)))) (fun ch w =>
      R (.panicked ch) w)))))) (fun ch w => R (.panicked ch) w))))) (fun ch w => R (.panicked ch) w)) (fun ch w => R (.panicked ch) w)) :
    Calls Tryz.prog 17 #[.pointer d1, .int .i64 no2] w R :=
  D_calls A_segment_Load mixed Tryz.func17 rfl (Nat.le_of_ble_eq_true (by kernel_rfl)) (by kernel_rfl) (Eq.mp (by kernel_rfl) h)
/-- quayside/quaysideref20.Load -/
abbrev F_ref20_Load : Nat := 18
def A_ref20_Load : Ann := ⟨[(6, [(8, .slice none 0 0), (9, .int .i64 0)])], [], [], [], []⟩
theorem L_ref20_Load {d1 : Option Addr} {no2 : Int} {w : World} {R : Ending → World → Prop}
    (h : PC Tryz.prog 15 #[.int .i64 no2] w (fun v3 w4 => ∃ (t5 : ByteArray), v3 = .string t5 ∧ PC Tryz.prog 61 #[.pointer d1, .string t5] w4 (fun v6 w7 => ∃ (t8a : Option Addr) (t8n : Nat) (t8c : Nat), ∃ (t9 : Int), v6 = .tuple #[.slice t8a t8n t8c, .int .i64 t9] ∧
      PIf ((t9 : Int) != 0) (R (.returned (.tuple #[.slice none 0 0, .int .i64 0])) w7) ((∃ I10 : Nat → Option Addr → Nat → Nat → Int → World → Prop, (∃ m11, I10 m11 none 0 0 0 w7) ∧
      ∀ (m11 : Nat) (out13a : Option Addr) (out13n : Nat) (out13c : Nat) (at14 : Int) (B15 : Nat → Value) (w16 : World), I10 m11 out13a out13n out13c at14 w16 → PIf (decide ((at14 : Int) < ((t8n : Nat) : Int))) (((0 : Int) ≤ at14 ∧
      (at14 : Int) ≤ ((t8n : Nat) : Int) ∧ PC Tryz.prog 62 #[.slice (subA t8a (Int.toNat at14) t8c 1) (t8n - Int.toNat at14) (t8c - Int.toNat at14)] w16 (fun v17 w18 =>
      ∃ (t19 : Int), ∃ (t20a : Option Addr) (t20n : Nat) (t20c : Nat), ∃ (t21 : Int), ∃ (t22 : Int), v17 = .tuple #[.agg #[.int .i64 t19, .slice t20a t20n t20c], .int .i64 t21, .int .i64 t22] ∧
      PA w18 (.cells #[.int .i64 0, .slice none 0 0] 98) fun w23 => PS w23 ⟨w18.heap.size, 0, none⟩ (.int .i64 t19) fun w24 => PS w24 ⟨w18.heap.size, 0 + 1, none⟩ (.slice t20a t20n t20c) fun w25 =>
      PIf ((t22 : Int) != 0) (R (.returned (.tuple #[.slice out13a out13n out13c, .int .i64 at14])) w25) ((∃ (t26 : Int), w25.cell? ⟨w18.heap.size, 0, none⟩ = some (.int .i64 t26) ∧
      PIf ((t26 : Int) != 1) (R (.returned (.tuple #[.slice out13a out13n out13c, .int .i64 at14])) w25) ((∃ (t27a : Option Addr) (t27n : Nat) (t27c : Nat), w25.cell? ⟨w18.heap.size, 0 + 1, none⟩ = some (.slice t27a t27n t27c) ∧
      PC Tryz.prog 63 #[.slice t27a t27n t27c] w25 (fun v28 w29 => ∃ (t30 : Int), ∃ (t31 : Int), ∃ (t32 : Int), ∃ (t33a : Option Addr) (t33n : Nat) (t33c : Nat), ∃ (t34 : Int), ∃ (t35 : Int), ∃ (t36 : Int), ∃ (t37 : Int), ∃ (t38 : Int), ∃ (t39 : Int), ∃ (t40 : Int), v28 = .tuple #[.agg #[.int .i64 t30, .int .i64 t31, .int .i64 t32, .slice t33a t33n t33c, .int .i64 t34, .int .i64 t35, .int .i64 t36, .int .i64 t37, .int .i64 t38, .int .i64 t39], .int .i64 t40] ∧
      PA w29 (.cells #[.int .i64 0, .int .i64 0, .int .i64 0, .slice none 0 0, .int .i64 0, .int .i64 0, .int .i64 0, .int .i64 0, .int .i64 0, .int .i64 0] 47) fun w41 =>
      PS w41 ⟨w29.heap.size, 0, none⟩ (.int .i64 t30) fun w42 => PS w42 ⟨w29.heap.size, 0 + 1, none⟩ (.int .i64 t31) fun w43 => PS w43 ⟨w29.heap.size, 0 + 2, none⟩ (.int .i64 t32) fun w44 =>
      PS w44 ⟨w29.heap.size, 0 + 3, none⟩ (.slice t33a t33n t33c) fun w45 => PS w45 ⟨w29.heap.size, 0 + 4, none⟩ (.int .i64 t34) fun w46 => PS w46 ⟨w29.heap.size, 0 + 5, none⟩ (.int .i64 t35) fun w47 =>
      PS w47 ⟨w29.heap.size, 0 + 6, none⟩ (.int .i64 t36) fun w48 => PS w48 ⟨w29.heap.size, 0 + 7, none⟩ (.int .i64 t37) fun w49 => PS w49 ⟨w29.heap.size, 0 + 8, none⟩ (.int .i64 t38) fun w50 =>
      PS w50 ⟨w29.heap.size, 0 + 9, none⟩ (.int .i64 t39) fun w51 => PIf ((t40 : Int) != 0) (R (.returned (.tuple #[.slice out13a out13n out13c, .int .i64 at14])) w51) ((∃ (t52 : Int), ∃ (t53 : Int), ∃ (t54 : Int), ∃ (t55a : Option Addr) (t55n : Nat) (t55c : Nat), ∃ (t56 : Int), ∃ (t57 : Int), ∃ (t58 : Int), ∃ (t59 : Int), ∃ (t60 : Int), ∃ (t61 : Int), w51.cell? ⟨w29.heap.size, 0, none⟩ = some (.int .i64 t52) ∧
      w51.cell? ⟨w29.heap.size, 0 + 1, none⟩ = some (.int .i64 t53) ∧ w51.cell? ⟨w29.heap.size, 0 + 2, none⟩ = some (.int .i64 t54) ∧ w51.cell? ⟨w29.heap.size, 0 + 3, none⟩ = some (.slice t55a t55n t55c) ∧
      w51.cell? ⟨w29.heap.size, 0 + 4, none⟩ = some (.int .i64 t56) ∧ w51.cell? ⟨w29.heap.size, 0 + 5, none⟩ = some (.int .i64 t57) ∧ w51.cell? ⟨w29.heap.size, 0 + 6, none⟩ = some (.int .i64 t58) ∧
      w51.cell? ⟨w29.heap.size, 0 + 7, none⟩ = some (.int .i64 t59) ∧ w51.cell? ⟨w29.heap.size, 0 + 8, none⟩ = some (.int .i64 t60) ∧ w51.cell? ⟨w29.heap.size, 0 + 9, none⟩ = some (.int .i64 t61) ∧
      PA w51 (.cells #[.int .i64 t52, .int .i64 t53, .int .i64 t54, .slice t55a t55n t55c, .int .i64 t56, .int .i64 t57, .int .i64 t58, .int .i64 t59, .int .i64 t60, .int .i64 t61] 47) fun w62 =>
      PRun Tryz.prog (Builtin.append_ #[23, 23] 23 #[.slice out13a out13n out13c, .slice (some ⟨w51.heap.size, 0, none⟩) 1 1]) w62 (fun v63 w64 => ∃ (t65a : Option Addr) (t65n : Nat) (t65c : Nat), v63 = .slice t65a t65n t65c ∧
      (∃ m12, m12 < m11 ∧ I10 m12 t65a t65n t65c (IntKind.wrap .i64 (at14 + t21)) w64)) (fun pv w => R (.panicked [{ v := pv, recovered := false }]) w)))) (fun ch w =>
      R (.panicked ch) w)))))) (fun ch w => R (.panicked ch) w))) (R (.returned (.tuple #[.slice out13a out13n out13c, .int .i64 at14])) w16)))) (fun ch w =>
      R (.panicked ch) w)) (fun ch w => R (.panicked ch) w)) :
    Calls Tryz.prog 18 #[.pointer d1, .int .i64 no2] w R :=
  D_calls A_ref20_Load mixed Tryz.func18 rfl (Nat.le_of_ble_eq_true (by kernel_rfl)) (by kernel_rfl) (Eq.mp (by kernel_rfl) h)
/-- quayside/quaysidekit.SameEvents -/
abbrev F_kit_SameEvents : Nat := 19
def A_kit_SameEvents : Ann := ⟨[(4, [(5, .int .i64 0)])], [], [], [], [(6, ⟨[0, 0, 3, 4, 0, 0, 48, 64, 136, 256], [1023, 1023, 1020, 1019, 1023, 1023, 975, 959, 887, 767], [0, 0, 0, 1, 0, 0, 0, 1, 2, 0]⟩)]⟩
theorem L_kit_SameEvents {a1a : Option Addr} {a1n : Nat} {a1c : Nat} {b2a : Option Addr} {b2n : Nat} {b2c : Nat} {w : World} {R : Ending → World → Prop}
    (h : PIf ((((a1n : Nat) : Int) : Int) != ((b2n : Nat) : Int)) (R (.returned (.bool false)) w) ((∃ I3 : Nat → Int → World → Prop, (∃ m4, I3 m4 0 w) ∧ ∀ (m4 : Nat) (i6 : Int) (B7 : Nat → Value) (w8 : World), I3 m4 i6 w8 → PIf (decide ((i6 : Int) < ((a1n : Nat) : Int))) ((∀ w10, Drew w8 w10 → (∃ b11 o12, a1a = some ⟨b11, o12, none⟩ ∧
      (0 : Int) ≤ i6 ∧ i6 < ((a1n : Nat) : Int) ∧ (∃ (t13 : Int), ∃ (t14 : Int), ∃ (t15 : Int), ∃ (t16a : Option Addr) (t16n : Nat) (t16c : Nat), ∃ (t17 : Int), ∃ (t18 : Int), ∃ (t19 : Int), ∃ (t20 : Int), ∃ (t21 : Int), ∃ (t22 : Int), w10.cell? ⟨b11, o12 + Int.toNat i6 * 10, none⟩ = some (.int .i64 t13) ∧
      w10.cell? ⟨b11, o12 + Int.toNat i6 * 10 + 1, none⟩ = some (.int .i64 t14) ∧ w10.cell? ⟨b11, o12 + Int.toNat i6 * 10 + 2, none⟩ = some (.int .i64 t15) ∧
      w10.cell? ⟨b11, o12 + Int.toNat i6 * 10 + 3, none⟩ = some (.slice t16a t16n t16c) ∧ w10.cell? ⟨b11, o12 + Int.toNat i6 * 10 + 4, none⟩ = some (.int .i64 t17) ∧
      w10.cell? ⟨b11, o12 + Int.toNat i6 * 10 + 5, none⟩ = some (.int .i64 t18) ∧ w10.cell? ⟨b11, o12 + Int.toNat i6 * 10 + 6, none⟩ = some (.int .i64 t19) ∧
      w10.cell? ⟨b11, o12 + Int.toNat i6 * 10 + 7, none⟩ = some (.int .i64 t20) ∧ w10.cell? ⟨b11, o12 + Int.toNat i6 * 10 + 8, none⟩ = some (.int .i64 t21) ∧
      w10.cell? ⟨b11, o12 + Int.toNat i6 * 10 + 9, none⟩ = some (.int .i64 t22) ∧ (∃ b23 o24, b2a = some ⟨b23, o24, none⟩ ∧ (0 : Int) ≤ i6 ∧ i6 < ((b2n : Nat) : Int) ∧
      (∃ (t25 : Int), ∃ (t26 : Int), ∃ (t27 : Int), ∃ (t28a : Option Addr) (t28n : Nat) (t28c : Nat), ∃ (t29 : Int), ∃ (t30 : Int), ∃ (t31 : Int), ∃ (t32 : Int), ∃ (t33 : Int), ∃ (t34 : Int), w10.cell? ⟨b23, o24 + Int.toNat i6 * 10, none⟩ = some (.int .i64 t25) ∧
      w10.cell? ⟨b23, o24 + Int.toNat i6 * 10 + 1, none⟩ = some (.int .i64 t26) ∧ w10.cell? ⟨b23, o24 + Int.toNat i6 * 10 + 2, none⟩ = some (.int .i64 t27) ∧
      w10.cell? ⟨b23, o24 + Int.toNat i6 * 10 + 3, none⟩ = some (.slice t28a t28n t28c) ∧ w10.cell? ⟨b23, o24 + Int.toNat i6 * 10 + 4, none⟩ = some (.int .i64 t29) ∧
      w10.cell? ⟨b23, o24 + Int.toNat i6 * 10 + 5, none⟩ = some (.int .i64 t30) ∧ w10.cell? ⟨b23, o24 + Int.toNat i6 * 10 + 6, none⟩ = some (.int .i64 t31) ∧
      w10.cell? ⟨b23, o24 + Int.toNat i6 * 10 + 7, none⟩ = some (.int .i64 t32) ∧ w10.cell? ⟨b23, o24 + Int.toNat i6 * 10 + 8, none⟩ = some (.int .i64 t33) ∧
      w10.cell? ⟨b23, o24 + Int.toNat i6 * 10 + 9, none⟩ = some (.int .i64 t34) ∧ PC Tryz.prog 64 #[.agg #[.int .i64 t13, .int .i64 t14, .int .i64 t15, .slice t16a t16n t16c, .int .i64 t17, .int .i64 t18, .int .i64 t19, .int .i64 t20, .int .i64 t21, .int .i64 t22], .agg #[.int .i64 t25, .int .i64 t26, .int .i64 t27, .slice t28a t28n t28c, .int .i64 t29, .int .i64 t30, .int .i64 t31, .int .i64 t32, .int .i64 t33, .int .i64 t34]] w10 (fun v35 w36 =>
      ∃ (t37 : Bool), v35 = .bool t37 ∧ PIf (!t37) (R (.returned (.bool false)) w36) ((∃ m5, m5 < m4 ∧ I3 m5 (IntKind.wrap .i64 (i6 + 1)) w36))) (fun ch wpp =>
      ∀ (_ : Base) (_ : Bnd), R (.panicked ch) wpp))))))) (R (.returned (.bool true)) w8)))) :
    Calls Tryz.prog 19 #[.slice a1a a1n a1c, .slice b2a b2n b2c] w R :=
  D_calls A_kit_SameEvents mixed Tryz.func19 rfl (Nat.le_of_ble_eq_true (by kernel_rfl)) (by kernel_rfl) (Eq.mp (by kernel_rfl) h)
/-- quayside/quaysidekit.SpoilEvents -/
abbrev F_kit_SpoilEvents : Nat := 20
def A_kit_SpoilEvents : Ann := ⟨[(1, [(2, .int .i64 0)])], [], [], [], []⟩
theorem L_kit_SpoilEvents {l1a : Option Addr} {l1n : Nat} {l1c : Nat} {w : World} {R : Ending → World → Prop}
    (h : (∃ I2 : Nat → Int → World → Prop, (∃ m3, I2 m3 0 w) ∧ ∀ (m3 : Nat) (i5 : Int) (B6 : Nat → Value) (w7 : World), I2 m3 i5 w7 → PIf (decide ((i5 : Int) < ((l1n : Nat) : Int))) ((∃ b8 o9, l1a = some ⟨b8, o9, none⟩ ∧
      (0 : Int) ≤ i5 ∧ i5 < ((l1n : Nat) : Int) ∧ (∃ (t10a : Option Addr) (t10n : Nat) (t10c : Nat), w7.cell? ⟨b8, o9 + Int.toNat i5 * 10 + 3, none⟩ = some (.slice t10a t10n t10c) ∧
      PC Tryz.prog 65 #[.slice t10a t10n t10c] w7 (fun v11 w12 => v11 = .tuple #[] ∧ (∃ b13 o14, l1a = some ⟨b13, o14, none⟩ ∧ (0 : Int) ≤ i5 ∧ i5 < ((l1n : Nat) : Int) ∧
      PS w12 ⟨b13, o14 + Int.toNat i5 * 10 + 2, none⟩ (.int .i64 77) fun w15 => (∃ b16 o17, l1a = some ⟨b16, o17, none⟩ ∧ (0 : Int) ≤ i5 ∧ i5 < ((l1n : Nat) : Int) ∧
      PS w15 ⟨b16, o17 + Int.toNat i5 * 10 + 8, none⟩ (.int .i64 (-7)) fun w18 => (∃ m4, m4 < m3 ∧ I2 m4 (IntKind.wrap .i64 (i5 + 1)) w18)))) (fun ch w => R (.panicked ch) w)))) (R (.returned (.tuple #[])) w7))) :
    Calls Tryz.prog 20 #[.slice l1a l1n l1c] w R :=
  D_calls A_kit_SpoilEvents mixed Tryz.func20 rfl (Nat.le_of_ble_eq_true (by kernel_rfl)) (by kernel_rfl) (Eq.mp (by kernel_rfl) h)
/-- quayside/segment.Frame -/
abbrev F_segment_Frame : Nat := 21
def A_segment_Frame : Ann := ⟨[], [], [], [], []⟩
theorem L_segment_Frame {e2 : Int} {e3 : Int} {e4 : Int} {e5a : Option Addr} {e5n : Nat} {e5c : Nat} {e6 : Int} {e7 : Int} {e8 : Int} {e9 : Int} {e10 : Int} {e11 : Int} {w : World} {R : Ending → World → Prop}
    (h : PA w (.cells #[.int .i64 e2, .int .i64 e3, .int .i64 e4, .slice e5a e5n e5c, .int .i64 e6, .int .i64 e7, .int .i64 e8, .int .i64 e9, .int .i64 e10, .int .i64 e11] 47) fun w12 =>
      (∃ (t13 : Int), ∃ (t14 : Int), ∃ (t15 : Int), ∃ (t16a : Option Addr) (t16n : Nat) (t16c : Nat), ∃ (t17 : Int), ∃ (t18 : Int), ∃ (t19 : Int), ∃ (t20 : Int), ∃ (t21 : Int), ∃ (t22 : Int), w12.cell? ⟨w.heap.size, 0, none⟩ = some (.int .i64 t13) ∧
      w12.cell? ⟨w.heap.size, 0 + 1, none⟩ = some (.int .i64 t14) ∧ w12.cell? ⟨w.heap.size, 0 + 2, none⟩ = some (.int .i64 t15) ∧ w12.cell? ⟨w.heap.size, 0 + 3, none⟩ = some (.slice t16a t16n t16c) ∧
      w12.cell? ⟨w.heap.size, 0 + 4, none⟩ = some (.int .i64 t17) ∧ w12.cell? ⟨w.heap.size, 0 + 5, none⟩ = some (.int .i64 t18) ∧ w12.cell? ⟨w.heap.size, 0 + 6, none⟩ = some (.int .i64 t19) ∧
      w12.cell? ⟨w.heap.size, 0 + 7, none⟩ = some (.int .i64 t20) ∧ w12.cell? ⟨w.heap.size, 0 + 8, none⟩ = some (.int .i64 t21) ∧ w12.cell? ⟨w.heap.size, 0 + 9, none⟩ = some (.int .i64 t22) ∧
      PC Tryz.prog 66 #[.agg #[.int .i64 t13, .int .i64 t14, .int .i64 t15, .slice t16a t16n t16c, .int .i64 t17, .int .i64 t18, .int .i64 t19, .int .i64 t20, .int .i64 t21, .int .i64 t22]] w12 (fun v23 w24 =>
      ∃ (t25a : Option Addr) (t25n : Nat) (t25c : Nat), ∃ (t26 : Int), v23 = .tuple #[.slice t25a t25n t25c, .int .i64 t26] ∧ PIf ((t26 : Int) != 0) (R (.returned (.tuple #[.slice none 0 0, .int .i64 t26])) w24) (PC Tryz.prog 67 #[.agg #[.int .i64 1, .slice t25a t25n t25c]] w24 (fun v27 w28 =>
      ∃ (t29a : Option Addr) (t29n : Nat) (t29c : Nat), ∃ (t30 : Int), v27 = .tuple #[.slice t29a t29n t29c, .int .i64 t30] ∧ R (.returned (.tuple #[.slice t29a t29n t29c, .int .i64 t30])) w28) (fun ch w =>
      R (.panicked ch) w))) (fun ch w => R (.panicked ch) w))) :
    Calls Tryz.prog 21 #[.agg #[.int .i64 e2, .int .i64 e3, .int .i64 e4, .slice e5a e5n e5c, .int .i64 e6, .int .i64 e7, .int .i64 e8, .int .i64 e9, .int .i64 e10, .int .i64 e11]] w R :=
  D_calls A_segment_Frame mixed Tryz.func21 rfl (Nat.le_of_ble_eq_true (by kernel_rfl)) (by kernel_rfl) (Eq.mp (by kernel_rfl) h)
/-- quayside/quaysideref20.Frame -/
abbrev F_ref20_Frame : Nat := 22
def A_ref20_Frame : Ann := ⟨[], [], [], [], []⟩
theorem L_ref20_Frame {e2 : Int} {e3 : Int} {e4 : Int} {e5a : Option Addr} {e5n : Nat} {e5c : Nat} {e6 : Int} {e7 : Int} {e8 : Int} {e9 : Int} {e10 : Int} {e11 : Int} {w : World} {R : Ending → World → Prop}
    (h : PA w (.cells #[.int .i64 e2, .int .i64 e3, .int .i64 e4, .slice e5a e5n e5c, .int .i64 e6, .int .i64 e7, .int .i64 e8, .int .i64 e9, .int .i64 e10, .int .i64 e11] 47) fun w12 =>
      (∃ (t13 : Int), ∃ (t14 : Int), ∃ (t15 : Int), ∃ (t16a : Option Addr) (t16n : Nat) (t16c : Nat), ∃ (t17 : Int), ∃ (t18 : Int), ∃ (t19 : Int), ∃ (t20 : Int), ∃ (t21 : Int), ∃ (t22 : Int), w12.cell? ⟨w.heap.size, 0, none⟩ = some (.int .i64 t13) ∧
      w12.cell? ⟨w.heap.size, 0 + 1, none⟩ = some (.int .i64 t14) ∧ w12.cell? ⟨w.heap.size, 0 + 2, none⟩ = some (.int .i64 t15) ∧ w12.cell? ⟨w.heap.size, 0 + 3, none⟩ = some (.slice t16a t16n t16c) ∧
      w12.cell? ⟨w.heap.size, 0 + 4, none⟩ = some (.int .i64 t17) ∧ w12.cell? ⟨w.heap.size, 0 + 5, none⟩ = some (.int .i64 t18) ∧ w12.cell? ⟨w.heap.size, 0 + 6, none⟩ = some (.int .i64 t19) ∧
      w12.cell? ⟨w.heap.size, 0 + 7, none⟩ = some (.int .i64 t20) ∧ w12.cell? ⟨w.heap.size, 0 + 8, none⟩ = some (.int .i64 t21) ∧ w12.cell? ⟨w.heap.size, 0 + 9, none⟩ = some (.int .i64 t22) ∧
      PC Tryz.prog 68 #[.agg #[.int .i64 t13, .int .i64 t14, .int .i64 t15, .slice t16a t16n t16c, .int .i64 t17, .int .i64 t18, .int .i64 t19, .int .i64 t20, .int .i64 t21, .int .i64 t22]] w12 (fun v23 w24 =>
      ∃ (t25a : Option Addr) (t25n : Nat) (t25c : Nat), ∃ (t26 : Int), v23 = .tuple #[.slice t25a t25n t25c, .int .i64 t26] ∧ PIf ((t26 : Int) != 0) (R (.returned (.tuple #[.slice none 0 0, .int .i64 t26])) w24) (PC Tryz.prog 69 #[.agg #[.int .i64 1, .slice t25a t25n t25c]] w24 (fun v27 w28 =>
      ∃ (t29a : Option Addr) (t29n : Nat) (t29c : Nat), ∃ (t30 : Int), v27 = .tuple #[.slice t29a t29n t29c, .int .i64 t30] ∧ R (.returned (.tuple #[.slice t29a t29n t29c, .int .i64 t30])) w28) (fun ch w =>
      R (.panicked ch) w))) (fun ch w => R (.panicked ch) w))) :
    Calls Tryz.prog 22 #[.agg #[.int .i64 e2, .int .i64 e3, .int .i64 e4, .slice e5a e5n e5c, .int .i64 e6, .int .i64 e7, .int .i64 e8, .int .i64 e9, .int .i64 e10, .int .i64 e11]] w R :=
  D_calls A_ref20_Frame mixed Tryz.func22 rfl (Nat.le_of_ble_eq_true (by kernel_rfl)) (by kernel_rfl) (Eq.mp (by kernel_rfl) h)
/-- quayside/quaysidekit.SameBytes -/
abbrev F_kit_SameBytes : Nat := 23
def A_kit_SameBytes : Ann := ⟨[(4, [(5, .int .i64 0)])], [], [], [], []⟩
theorem L_kit_SameBytes {a1a : Option Addr} {a1n : Nat} {a1c : Nat} {b2a : Option Addr} {b2n : Nat} {b2c : Nat} {w : World} {R : Ending → World → Prop}
    (h : PIf ((((a1n : Nat) : Int) : Int) != ((b2n : Nat) : Int)) (R (.returned (.bool false)) w) ((∃ I3 : Nat → Int → World → Prop, (∃ m4, I3 m4 0 w) ∧ ∀ (m4 : Nat) (i6 : Int) (B7 : Nat → Value) (w8 : World), I3 m4 i6 w8 → PIf (decide ((i6 : Int) < ((a1n : Nat) : Int))) ((∃ b10 o11, a1a = some ⟨b10, o11, none⟩ ∧
      (0 : Int) ≤ i6 ∧ i6 < ((a1n : Nat) : Int) ∧ (∃ (t12 : Int), w8.cell? ⟨b10, o11 + Int.toNat i6, none⟩ = some (.int .u8 t12) ∧ (∃ b13 o14, b2a = some ⟨b13, o14, none⟩ ∧
      (0 : Int) ≤ i6 ∧ i6 < ((b2n : Nat) : Int) ∧ (∃ (t15 : Int), w8.cell? ⟨b13, o14 + Int.toNat i6, none⟩ = some (.int .u8 t15) ∧ (∀ w9, Drew w8 w9 → PIf ((t12 : Int) != t15) (R (.returned (.bool false)) w9) ((∃ m5, m5 < m4 ∧
      I3 m5 (IntKind.wrap .i64 (i6 + 1)) w9)))))))) (R (.returned (.bool true)) w8)))) :
    Calls Tryz.prog 23 #[.slice a1a a1n a1c, .slice b2a b2n b2c] w R :=
  D_calls A_kit_SameBytes mixed Tryz.func23 rfl (Nat.le_of_ble_eq_true (by kernel_rfl)) (by kernel_rfl) (Eq.mp (by kernel_rfl) h)
/-- quayside/quaysidelaw20.SegmentNames -/
abbrev F_law20_SegmentNames : Nat := 24
def A_law20_SegmentNames : Ann := ⟨[], [], [], [], []⟩
theorem L_law20_SegmentNames {no1 : Int} {name2 : ByteArray} {w : World} {R : Ending → World → Prop}
    (h : PIf (decide ((((ByteArray.size name2 : Nat) : Int) : Int) > 1000)) (PC Tryz.prog 8 #[] w (fun v3 w4 => ∃ (t5 : Bool), v3 = .bool t5 ∧ R (.returned (.bool t5)) w4) (fun ch w =>
      R (.panicked ch) w)) (PC Tryz.prog 46 #[.string name2] w (fun v6 w7 => ∃ (t8 : Int), ∃ (t9 : Bool), v6 = .tuple #[.int .i64 t8, .bool t9] ∧ PC Tryz.prog 70 #[.string name2] w7 (fun v10 w11 =>
      ∃ (t12 : Int), ∃ (t13 : Bool), v10 = .tuple #[.int .i64 t12, .bool t13] ∧ PC Tryz.prog 12 #[.int .i64 no1] w11 (fun v14 w15 => ∃ (t16 : ByteArray), v14 = .string t16 ∧
      PC Tryz.prog 15 #[.int .i64 no1] w15 (fun v17 w18 => ∃ (t19 : ByteArray), v17 = .string t19 ∧ PIf ((ByteArray.toList t16) == (ByteArray.toList t19)) (PIf ((t8 : Int) == t12) (PIf (t9 == t13) (PC Tryz.prog 8 #[] w18 (fun v20 w21 =>
      ∃ (t22 : Bool), v20 = .bool t22 ∧ R (.returned (.bool t22)) w21) (fun ch w => R (.panicked ch) w)) (R (.returned (.bool false)) w18)) (R (.returned (.bool false)) w18)) (R (.returned (.bool false)) w18)) (fun ch w =>
      R (.panicked ch) w)) (fun ch w => R (.panicked ch) w)) (fun ch w => R (.panicked ch) w)) (fun ch w => R (.panicked ch) w))) :
    Calls Tryz.prog 24 #[.int .i64 no1, .string name2] w R :=
  D_calls A_law20_SegmentNames mixed Tryz.func24 rfl (Nat.le_of_ble_eq_true (by kernel_rfl)) (by kernel_rfl) (Eq.mp (by kernel_rfl) h)
/-- quayside/quaysidelaw20.SegmentBack -/
abbrev F_law20_SegmentBack : Nat := 25
def A_law20_SegmentBack : Ann := ⟨[], [(3, [(19, .bool false)])], [], [], []⟩
theorem L_law20_SegmentBack {a1 : Int} {b2 : Int} {w : World} {R : Ending → World → Prop}
    (h : PC Tryz.prog 12 #[.int .i64 a1] w (fun v3 w4 => ∃ (t5 : ByteArray), v3 = .string t5 ∧ (∃ J6 : Bool → World → Prop, (PIf (decide ((a1 : Int) < 0)) (J6 true w4) (J6 (decide ((a1 : Int) ≥ 1000000000000)) w4)) ∧
      ∀ (t7 : Bool) (B8 : Nat → Value) (w9 : World), J6 t7 w9 → PIf t7 (PC Tryz.prog 46 #[.string t5] w9 (fun v10 w11 => ∃ (t12 : Int), ∃ (t13 : Bool), v10 = .tuple #[.int .i64 t12, .bool t13] ∧
      PIf ((ByteArray.toList t5) == (ByteArray.toList (⟨#[]⟩ : ByteArray))) (PIf (!t13) (PC Tryz.prog 8 #[] w11 (fun v14 w15 => ∃ (t16 : Bool), v14 = .bool t16 ∧
      R (.returned (.bool t16)) w15) (fun ch w => R (.panicked ch) w)) (R (.returned (.bool false)) w11)) (R (.returned (.bool false)) w11)) (fun ch w => R (.panicked ch) w)) (PC Tryz.prog 46 #[.string t5] w9 (fun v17 w18 =>
      ∃ (t19 : Int), ∃ (t20 : Bool), v17 = .tuple #[.int .i64 t19, .bool t20] ∧ PC Tryz.prog 9 #[.int .i64 64] w18 (fun v21 w22 => ∃ (t23 : Option Addr), ∃ (t24 : Int), v21 = .tuple #[.pointer t23, .int .i64 t24] ∧
      PIf ((t24 : Int) != 0) (R (.returned (.bool false)) w22) (PRun Tryz.prog (do eqGuard .eql 26 (.tmp 46) (.const (.pointer none)) (.pointer t23) (.pointer none); binOp .eql 26 (.pointer t23) (.pointer none)) w22 (fun v25 w26 =>
      ∃ (t27 : Bool), v25 = .bool t27 ∧ PIf t27 (R (.returned (.bool false)) w26) (PIf ((t19 : Int) == a1) (PIf t20 (PIf ((a1 : Int) == b2) (PIf (decide ((((ByteArray.size t5 : Nat) : Int) : Int) ≤ 16)) (PC Tryz.prog 11 #[.pointer t23, .string t5] w26 (fun v28 w29 =>
      ∃ (t30 : Int), v28 = .int .i64 t30 ∧ PIf ((t30 : Int) == 0) (PC Tryz.prog 8 #[] w29 (fun v31 w32 => ∃ (t33 : Bool), v31 = .bool t33 ∧ R (.returned (.bool t33)) w32) (fun ch w =>
      R (.panicked ch) w)) (R (.returned (.bool false)) w29)) (fun ch w => R (.panicked ch) w)) (R (.returned (.bool false)) w26)) (PC Tryz.prog 12 #[.int .i64 b2] w26 (fun v34 w35 =>
      ∃ (t36 : ByteArray), v34 = .string t36 ∧ PIf (!((ByteArray.toList t36) == (ByteArray.toList t5))) (PIf (decide ((((ByteArray.size t5 : Nat) : Int) : Int) ≤ 16)) (PC Tryz.prog 11 #[.pointer t23, .string t5] w35 (fun v37 w38 =>
      ∃ (t39 : Int), v37 = .int .i64 t39 ∧ PIf ((t39 : Int) == 0) (PC Tryz.prog 8 #[] w38 (fun v40 w41 => ∃ (t42 : Bool), v40 = .bool t42 ∧ R (.returned (.bool t42)) w41) (fun ch w =>
      R (.panicked ch) w)) (R (.returned (.bool false)) w38)) (fun ch w => R (.panicked ch) w)) (R (.returned (.bool false)) w35)) (R (.returned (.bool false)) w35)) (fun ch w =>
      R (.panicked ch) w))) (R (.returned (.bool false)) w26)) (R (.returned (.bool false)) w26))) (fun pv w => R (.panicked [{ v := pv, recovered := false }]) w))) (fun ch w =>
      R (.panicked ch) w)) (fun ch w => R (.panicked ch) w)))) (fun ch w => R (.panicked ch) w)) :
    Calls Tryz.prog 25 #[.int .i64 a1, .int .i64 b2] w R :=
  D_calls A_law20_SegmentBack mixed Tryz.func25 rfl (Nat.le_of_ble_eq_true (by kernel_rfl)) (by kernel_rfl) (Eq.mp (by kernel_rfl) h)
/-- quayside/quaysidelaw20.some -/
abbrev F_law20_some : Nat := 26
def A_law20_some : Ann := ⟨[], [], [], [], []⟩
theorem L_law20_some {seq1 : Int} {w : World} {R : Ending → World → Prop}
    (h : PA w (.cells #[.int .i64 0, .int .i64 0, .int .i64 0, .slice none 0 0, .int .i64 0, .int .i64 0, .int .i64 0, .int .i64 0, .int .i64 0, .int .i64 0] 47) fun w2 =>
      PA w2 (.cells #[.int .i64 (IntKind.wrap .i64 (seq1 - 1))] 3) fun w3 => PS w3 ⟨w.heap.size, 0, none⟩ (.int .i64 0) fun w4 => PS w4 ⟨w.heap.size, 0 + 1, none⟩ (.int .i64 seq1) fun w5 =>
      PS w5 ⟨w.heap.size, 0 + 2, none⟩ (.int .i64 seq1) fun w6 => PS w6 ⟨w.heap.size, 0 + 3, none⟩ (.slice (some ⟨w2.heap.size, 0, none⟩) 1 1) fun w7 => PS w7 ⟨w.heap.size, 0 + 4, none⟩ (.int .i64 0) fun w8 =>
      PS w8 ⟨w.heap.size, 0 + 5, none⟩ (.int .i64 0) fun w9 => PS w9 ⟨w.heap.size, 0 + 6, none⟩ (.int .i64 0) fun w10 => PS w10 ⟨w.heap.size, 0 + 7, none⟩ (.int .i64 1) fun w11 =>
      PS w11 ⟨w.heap.size, 0 + 8, none⟩ (.int .i64 3) fun w12 => PS w12 ⟨w.heap.size, 0 + 9, none⟩ (.int .i64 0) fun w13 => (∃ (r14 : Int), ∃ (r15 : Int), ∃ (r16 : Int), ∃ (r17a : Option Addr) (r17n : Nat) (r17c : Nat), ∃ (r18 : Int), ∃ (r19 : Int), ∃ (r20 : Int), ∃ (r21 : Int), ∃ (r22 : Int), ∃ (r23 : Int), w13.cell? ⟨w.heap.size, 0, none⟩ = some (.int .i64 r14) ∧
      w13.cell? ⟨w.heap.size, 0 + 1, none⟩ = some (.int .i64 r15) ∧ w13.cell? ⟨w.heap.size, 0 + 2, none⟩ = some (.int .i64 r16) ∧ w13.cell? ⟨w.heap.size, 0 + 3, none⟩ = some (.slice r17a r17n r17c) ∧
      w13.cell? ⟨w.heap.size, 0 + 4, none⟩ = some (.int .i64 r18) ∧ w13.cell? ⟨w.heap.size, 0 + 5, none⟩ = some (.int .i64 r19) ∧ w13.cell? ⟨w.heap.size, 0 + 6, none⟩ = some (.int .i64 r20) ∧
      w13.cell? ⟨w.heap.size, 0 + 7, none⟩ = some (.int .i64 r21) ∧ w13.cell? ⟨w.heap.size, 0 + 8, none⟩ = some (.int .i64 r22) ∧ w13.cell? ⟨w.heap.size, 0 + 9, none⟩ = some (.int .i64 r23) ∧
      R (.returned (.agg #[.int .i64 r14, .int .i64 r15, .int .i64 r16, .slice r17a r17n r17c, .int .i64 r18, .int .i64 r19, .int .i64 r20, .int .i64 r21, .int .i64 r22, .int .i64 r23])) w13)) :
    Calls Tryz.prog 26 #[.int .i64 seq1] w R :=
  D_calls A_law20_some mixed Tryz.func26 rfl (Nat.le_of_ble_eq_true (by kernel_rfl)) (by kernel_rfl) (Eq.mp (by kernel_rfl) h)
/-- quayside/quaysidelaw20.SegmentTorn -/
abbrev F_law20_SegmentTorn : Nat := 27
def A_law20_SegmentTorn : Ann := ⟨[(10, [(9, .slice none 0 0), (10, .slice none 0 0), (11, .int .i64 0)]), (22, [(14, .int .i64 0), (15, .int .i64 0)])], [(25, [(14, .int .i64 0), (15, .int .i64 0)])], [], [], []⟩
theorem L_law20_SegmentTorn {l1a : Option Addr} {l1n : Nat} {l1c : Nat} {cut2 : Int} {no3 : Int} {w : World} {R : Ending → World → Prop}
    (h : PC Tryz.prog 7 #[.slice l1a l1n l1c] w (fun v4 w5 => ∃ (t6 : Bool), v4 = .bool t6 ∧ PIf t6 (PC Tryz.prog 8 #[] w5 (fun v7 w8 => ∃ (t9 : Bool), v7 = .bool t9 ∧
      R (.returned (.bool t9)) w8) (fun ch w => R (.panicked ch) w)) (PIf (decide ((((l1n : Nat) : Int) : Int) > 60)) (PC Tryz.prog 8 #[] w5 (fun v10 w11 =>
      ∃ (t12 : Bool), v10 = .bool t12 ∧ R (.returned (.bool t12)) w11) (fun ch w => R (.panicked ch) w)) (PC Tryz.prog 31 #[.int .i64 no3, .int .i64 1000] w5 (fun v13 w14 =>
      ∃ (t15 : Int), v13 = .int .i64 t15 ∧ PC Tryz.prog 9 #[.int .i64 65536] w14 (fun v16 w17 => ∃ (t18 : Option Addr), ∃ (t19 : Int), v16 = .tuple #[.pointer t18, .int .i64 t19] ∧
      PIf ((t19 : Int) != 0) (R (.returned (.bool false)) w17) (PRun Tryz.prog (do eqGuard .eql 26 (.tmp 35) (.const (.pointer none)) (.pointer t18) (.pointer none); binOp .eql 26 (.pointer t18) (.pointer none)) w17 (fun v20 w21 =>
      ∃ (t22 : Bool), v20 = .bool t22 ∧ PIf t22 (R (.returned (.bool false)) w21) (PC Tryz.prog 12 #[.int .i64 t15] w21 (fun v23 w24 => ∃ (t25 : ByteArray), v23 = .string t25 ∧
      PC Tryz.prog 11 #[.pointer t18, .string t25] w24 (fun v26 w27 => ∃ (t28 : Int), v26 = .int .i64 t28 ∧ PIf ((t28 : Int) != 0) (R (.returned (.bool false)) w27) ((∃ I29 : Nat → Option Addr → Nat → Nat → Option Addr → Nat → Nat → Int → World → Prop, (∃ m30, I29 m30 none 0 0 none 0 0 0 w27) ∧
      ∀ (m30 : Nat) (all32a : Option Addr) (all32n : Nat) (all32c : Nat) (ends33a : Option Addr) (ends33n : Nat) (ends33c : Nat) (i34 : Int) (B35 : Nat → Value) (w36 : World), I29 m30 all32a all32n all32c ends33a ends33n ends33c i34 w36 → PIf (decide ((i34 : Int) < ((l1n : Nat) : Int))) ((∃ b37 o38, l1a = some ⟨b37, o38, none⟩ ∧
      (0 : Int) ≤ i34 ∧ i34 < ((l1n : Nat) : Int) ∧ (∃ (t39 : Int), ∃ (t40 : Int), ∃ (t41 : Int), ∃ (t42a : Option Addr) (t42n : Nat) (t42c : Nat), ∃ (t43 : Int), ∃ (t44 : Int), ∃ (t45 : Int), ∃ (t46 : Int), ∃ (t47 : Int), ∃ (t48 : Int), w36.cell? ⟨b37, o38 + Int.toNat i34 * 10, none⟩ = some (.int .i64 t39) ∧
      w36.cell? ⟨b37, o38 + Int.toNat i34 * 10 + 1, none⟩ = some (.int .i64 t40) ∧ w36.cell? ⟨b37, o38 + Int.toNat i34 * 10 + 2, none⟩ = some (.int .i64 t41) ∧
      w36.cell? ⟨b37, o38 + Int.toNat i34 * 10 + 3, none⟩ = some (.slice t42a t42n t42c) ∧ w36.cell? ⟨b37, o38 + Int.toNat i34 * 10 + 4, none⟩ = some (.int .i64 t43) ∧
      w36.cell? ⟨b37, o38 + Int.toNat i34 * 10 + 5, none⟩ = some (.int .i64 t44) ∧ w36.cell? ⟨b37, o38 + Int.toNat i34 * 10 + 6, none⟩ = some (.int .i64 t45) ∧
      w36.cell? ⟨b37, o38 + Int.toNat i34 * 10 + 7, none⟩ = some (.int .i64 t46) ∧ w36.cell? ⟨b37, o38 + Int.toNat i34 * 10 + 8, none⟩ = some (.int .i64 t47) ∧
      w36.cell? ⟨b37, o38 + Int.toNat i34 * 10 + 9, none⟩ = some (.int .i64 t48) ∧ PC Tryz.prog 21 #[.agg #[.int .i64 t39, .int .i64 t40, .int .i64 t41, .slice t42a t42n t42c, .int .i64 t43, .int .i64 t44, .int .i64 t45, .int .i64 t46, .int .i64 t47, .int .i64 t48]] w36 (fun v49 w50 =>
      ∃ (t51a : Option Addr) (t51n : Nat) (t51c : Nat), ∃ (t52 : Int), v49 = .tuple #[.slice t51a t51n t51c, .int .i64 t52] ∧ PIf ((t52 : Int) != 0) ((∃ b53 o54, l1a = some ⟨b53, o54, none⟩ ∧
      (0 : Int) ≤ i34 ∧ i34 < ((l1n : Nat) : Int) ∧ (∃ (t55a : Option Addr) (t55n : Nat) (t55c : Nat), w50.cell? ⟨b53, o54 + Int.toNat i34 * 10 + 3, none⟩ = some (.slice t55a t55n t55c) ∧
      PIf (decide ((((t55n : Nat) : Int) : Int) > 64)) (PC Tryz.prog 8 #[] w50 (fun v56 w57 => ∃ (t58 : Bool), v56 = .bool t58 ∧ R (.returned (.bool t58)) w57) (fun ch w =>
      R (.panicked ch) w)) (R (.returned (.bool false)) w50)))) (PRun Tryz.prog (Builtin.append_ #[22, 22] 22 #[.slice all32a all32n all32c, .slice t51a t51n t51c]) w50 (fun v59 w60 =>
      ∃ (t61a : Option Addr) (t61n : Nat) (t61c : Nat), v59 = .slice t61a t61n t61c ∧ PA w60 (.cells #[.int .i64 ((t61n : Nat) : Int)] 3) fun w62 => PRun Tryz.prog (Builtin.append_ #[45, 45] 45 #[.slice ends33a ends33n ends33c, .slice (some ⟨w60.heap.size, 0, none⟩) 1 1]) w62 (fun v63 w64 =>
      ∃ (t65a : Option Addr) (t65n : Nat) (t65c : Nat), v63 = .slice t65a t65n t65c ∧ (∃ m31, m31 < m30 ∧ I29 m31 t61a t61n t61c t65a t65n t65c (IntKind.wrap .i64 (i34 + 1)) w64)) (fun pv w =>
      R (.panicked [{ v := pv, recovered := false }]) w)) (fun pv w => R (.panicked [{ v := pv, recovered := false }]) w))) (fun ch w => R (.panicked ch) w)))) (PIf (decide ((((all32n : Nat) : Int) : Int) > 32768)) (PC Tryz.prog 8 #[] w36 (fun v66 w67 =>
      ∃ (t68 : Bool), v66 = .bool t68 ∧ R (.returned (.bool t68)) w67) (fun ch w => R (.panicked ch) w)) (PC Tryz.prog 31 #[.int .i64 cut2, .int .i64 (IntKind.wrap .i64 (((all32n : Nat) : Int) + 1))] w36 (fun v69 w70 =>
      ∃ (t71 : Int), v69 = .int .i64 t71 ∧ (∃ J72 : Int → Int → World → Prop, ((∃ I73 : Nat → Int → Int → World → Prop, (∃ m74, I73 m74 0 0 w70) ∧ ∀ (m74 : Nat) (n76 : Int) (at77 : Int) (B78 : Nat → Value) (w79 : World), I73 m74 n76 at77 w79 → PIf (decide ((n76 : Int) < ((ends33n : Nat) : Int))) ((∃ b80 o81, ends33a = some ⟨b80, o81, none⟩ ∧
      (0 : Int) ≤ n76 ∧ n76 < ((ends33n : Nat) : Int) ∧ (∃ (t82 : Int), w79.cell? ⟨b80, o81 + Int.toNat n76, none⟩ = some (.int .i64 t82) ∧ PIf (decide ((t82 : Int) ≤ t71)) ((∃ b83 o84, ends33a = some ⟨b83, o84, none⟩ ∧
      (0 : Int) ≤ n76 ∧ n76 < ((ends33n : Nat) : Int) ∧ (∃ (t85 : Int), w79.cell? ⟨b83, o84 + Int.toNat n76, none⟩ = some (.int .i64 t85) ∧ (∃ m75, m75 < m74 ∧
      I73 m75 (IntKind.wrap .i64 (n76 + 1)) t85 w79)))) (J72 n76 at77 w79)))) (J72 n76 at77 w79))) ∧ ∀ (n86 : Int) (at87 : Int) (B88 : Nat → Value) (w89 : World), J72 n86 at87 w89 → (∀ w91, Drew w89 w91 → ((0 : Int) ≤ t71 ∧
      (t71 : Int) ≤ ((all32c : Nat) : Int) ∧ PC Tryz.prog 12 #[.int .i64 t15] w91 (fun v92 w93 => ∃ (t94 : ByteArray), v92 = .string t94 ∧ PC Tryz.prog 13 #[.pointer t18, .string t94, .slice all32a (Int.toNat t71) all32c] w93 (fun v95 w96 =>
      ∃ (t97 : Int), v95 = .int .i64 t97 ∧ PIf ((t97 : Int) != 0) (R (.returned (.bool false)) w96) (PC Tryz.prog 17 #[.pointer t18, .int .i64 t15] w96 (fun v98 w99 =>
      ∃ (t100a : Option Addr) (t100n : Nat) (t100c : Nat), ∃ (t101 : Int), v98 = .tuple #[.slice t100a t100n t100c, .int .i64 t101] ∧ PIf ((t101 : Int) == at87) (((0 : Int) ≤ n86 ∧
      (n86 : Int) ≤ ((l1c : Nat) : Int) ∧ PC Tryz.prog 19 #[.slice t100a t100n t100c, .slice l1a (Int.toNat n86) l1c] w99 (fun v102 w103 => ∃ (t104 : Bool), v102 = .bool t104 ∧
      PIf t104 (PC Tryz.prog 8 #[] w103 (fun v105 w106 => ∃ (t107 : Bool), v105 = .bool t107 ∧ R (.returned (.bool t107)) w106) (fun ch w => R (.panicked ch) w)) (R (.returned (.bool false)) w103)) (fun ch w =>
      R (.panicked ch) w))) (R (.returned (.bool false)) w99)) (fun ch w => R (.panicked ch) w))) (fun ch wpp => ∀ (_ : Base) (_ : Bnd), R (.panicked ch) wpp)) (fun ch wpp =>
      ∀ (_ : Base) (_ : Bnd), R (.panicked ch) wpp))))) (fun ch w => R (.panicked ch) w)))))) (fun ch w => R (.panicked ch) w)) (fun ch w => R (.panicked ch) w))) (fun pv w =>
      R (.panicked [{ v := pv, recovered := false }]) w))) (fun ch w => R (.panicked ch) w)) (fun ch w => R (.panicked ch) w)))) (fun ch w => R (.panicked ch) w)) :
    Calls Tryz.prog 27 #[.slice l1a l1n l1c, .int .i64 cut2, .int .i64 no3] w R :=
  D_calls A_law20_SegmentTorn mixed Tryz.func27 rfl (Nat.le_of_ble_eq_true (by kernel_rfl)) (by kernel_rfl) (Eq.mp (by kernel_rfl) h)
/-- quayside/quaysidelaw20.SegmentOther -/
abbrev F_law20_SegmentOther : Nat := 28
def A_law20_SegmentOther : Ann := ⟨[(8, [(9, .int .i64 0), (10, .int .i64 0)])], [(29, [(9, .int .i64 0), (20, .slice none 0 0)])], [27], [], []⟩
theorem L_law20_SegmentOther {l1a : Option Addr} {l1n : Nat} {l1c : Nat} {kind2 : Int} {body3a : Option Addr} {body3n : Nat} {body3c : Nat} {w : World} {R : Ending → World → Prop}
    (h : PC Tryz.prog 7 #[.slice l1a l1n l1c] w (fun v4 w5 => ∃ (t6 : Bool), v4 = .bool t6 ∧ PIf t6 (PC Tryz.prog 8 #[] w5 (fun v7 w8 => ∃ (t9 : Bool), v7 = .bool t9 ∧
      R (.returned (.bool t9)) w8) (fun ch w => R (.panicked ch) w)) (PIf (decide ((((l1n : Nat) : Int) : Int) > 30)) (PC Tryz.prog 8 #[] w5 (fun v10 w11 =>
      ∃ (t12 : Bool), v10 = .bool t12 ∧ R (.returned (.bool t12)) w11) (fun ch w => R (.panicked ch) w)) (PIf (decide ((((body3n : Nat) : Int) : Int) > 1024)) (PC Tryz.prog 8 #[] w5 (fun v13 w14 =>
      ∃ (t15 : Bool), v13 = .bool t15 ∧ R (.returned (.bool t15)) w14) (fun ch w => R (.panicked ch) w)) (PC Tryz.prog 9 #[.int .i64 65536] w5 (fun v16 w17 =>
      ∃ (t18 : Option Addr), ∃ (t19 : Int), v16 = .tuple #[.pointer t18, .int .i64 t19] ∧ PIf ((t19 : Int) != 0) (R (.returned (.bool false)) w17) (PRun Tryz.prog (do eqGuard .eql 26 (.tmp 41) (.const (.pointer none)) (.pointer t18) (.pointer none); binOp .eql 26 (.pointer t18) (.pointer none)) w17 (fun v20 w21 =>
      ∃ (t22 : Bool), v20 = .bool t22 ∧ PIf t22 (R (.returned (.bool false)) w21) (PC Tryz.prog 11 #[.pointer t18, .string (⟨#[115, 101, 103, 46, 48]⟩ : ByteArray)] w21 (fun v23 w24 =>
      ∃ (t25 : Int), v23 = .int .i64 t25 ∧ PIf ((t25 : Int) != 0) (R (.returned (.bool false)) w24) ((∃ I26 : Nat → Int → Int → World → Prop, (∃ m27, I26 m27 0 0 w24) ∧
      ∀ (m27 : Nat) (n29 : Int) (i30 : Int) (B31 : Nat → Value) (w32 : World), I26 m27 n29 i30 w32 → PIf (decide ((i30 : Int) < ((l1n : Nat) : Int))) ((∃ b33 o34, l1a = some ⟨b33, o34, none⟩ ∧
      (0 : Int) ≤ i30 ∧ i30 < ((l1n : Nat) : Int) ∧ (∃ (t35 : Int), ∃ (t36 : Int), ∃ (t37 : Int), ∃ (t38a : Option Addr) (t38n : Nat) (t38c : Nat), ∃ (t39 : Int), ∃ (t40 : Int), ∃ (t41 : Int), ∃ (t42 : Int), ∃ (t43 : Int), ∃ (t44 : Int), w32.cell? ⟨b33, o34 + Int.toNat i30 * 10, none⟩ = some (.int .i64 t35) ∧
      w32.cell? ⟨b33, o34 + Int.toNat i30 * 10 + 1, none⟩ = some (.int .i64 t36) ∧ w32.cell? ⟨b33, o34 + Int.toNat i30 * 10 + 2, none⟩ = some (.int .i64 t37) ∧
      w32.cell? ⟨b33, o34 + Int.toNat i30 * 10 + 3, none⟩ = some (.slice t38a t38n t38c) ∧ w32.cell? ⟨b33, o34 + Int.toNat i30 * 10 + 4, none⟩ = some (.int .i64 t39) ∧
      w32.cell? ⟨b33, o34 + Int.toNat i30 * 10 + 5, none⟩ = some (.int .i64 t40) ∧ w32.cell? ⟨b33, o34 + Int.toNat i30 * 10 + 6, none⟩ = some (.int .i64 t41) ∧
      w32.cell? ⟨b33, o34 + Int.toNat i30 * 10 + 7, none⟩ = some (.int .i64 t42) ∧ w32.cell? ⟨b33, o34 + Int.toNat i30 * 10 + 8, none⟩ = some (.int .i64 t43) ∧
      w32.cell? ⟨b33, o34 + Int.toNat i30 * 10 + 9, none⟩ = some (.int .i64 t44) ∧ PC Tryz.prog 21 #[.agg #[.int .i64 t35, .int .i64 t36, .int .i64 t37, .slice t38a t38n t38c, .int .i64 t39, .int .i64 t40, .int .i64 t41, .int .i64 t42, .int .i64 t43, .int .i64 t44]] w32 (fun v45 w46 =>
      ∃ (t47a : Option Addr) (t47n : Nat) (t47c : Nat), ∃ (t48 : Int), v45 = .tuple #[.slice t47a t47n t47c, .int .i64 t48] ∧ PIf ((t48 : Int) != 0) (PC Tryz.prog 8 #[] w46 (fun v49 w50 =>
      ∃ (t51 : Bool), v49 = .bool t51 ∧ R (.returned (.bool t51)) w50) (fun ch w => R (.panicked ch) w)) (PIf (decide (((IntKind.wrap .i64 (n29 + ((t47n : Nat) : Int))) : Int) > 32768)) (PC Tryz.prog 8 #[] w46 (fun v52 w53 =>
      ∃ (t54 : Bool), v52 = .bool t54 ∧ R (.returned (.bool t54)) w53) (fun ch w => R (.panicked ch) w)) (PC Tryz.prog 13 #[.pointer t18, .string (⟨#[115, 101, 103, 46, 48]⟩ : ByteArray), .slice t47a t47n t47c] w46 (fun v55 w56 =>
      ∃ (t57 : Int), v55 = .int .i64 t57 ∧ (∃ m28, m28 < m27 ∧ I26 m28 (IntKind.wrap .i64 (n29 + ((t47n : Nat) : Int))) (IntKind.wrap .i64 (i30 + 1)) w56)) (fun ch w =>
      R (.panicked ch) w)))) (fun ch w => R (.panicked ch) w)))) (PC Tryz.prog 67 #[.agg #[.int .i64 kind2, .slice body3a body3n body3c]] w32 (fun v58 w59 =>
      ∃ (t60a : Option Addr) (t60n : Nat) (t60c : Nat), ∃ (t61 : Int), v58 = .tuple #[.slice t60a t60n t60c, .int .i64 t61] ∧ PIf ((t61 : Int) != 0) (PC Tryz.prog 8 #[] w59 (fun v62 w63 =>
      ∃ (t64 : Bool), v62 = .bool t64 ∧ R (.returned (.bool t64)) w63) (fun ch w => R (.panicked ch) w)) (PC Tryz.prog 13 #[.pointer t18, .string (⟨#[115, 101, 103, 46, 48]⟩ : ByteArray), .slice t60a t60n t60c] w59 (fun v65 w66 =>
      ∃ (t67 : Int), v65 = .int .i64 t67 ∧ PC Tryz.prog 26 #[.int .i64 1] w66 (fun v68 w69 => ∃ (t70 : Int), ∃ (t71 : Int), ∃ (t72 : Int), ∃ (t73a : Option Addr) (t73n : Nat) (t73c : Nat), ∃ (t74 : Int), ∃ (t75 : Int), ∃ (t76 : Int), ∃ (t77 : Int), ∃ (t78 : Int), ∃ (t79 : Int), v68 = .agg #[.int .i64 t70, .int .i64 t71, .int .i64 t72, .slice t73a t73n t73c, .int .i64 t74, .int .i64 t75, .int .i64 t76, .int .i64 t77, .int .i64 t78, .int .i64 t79] ∧
      PC Tryz.prog 21 #[.agg #[.int .i64 t70, .int .i64 t71, .int .i64 t72, .slice t73a t73n t73c, .int .i64 t74, .int .i64 t75, .int .i64 t76, .int .i64 t77, .int .i64 t78, .int .i64 t79]] w69 (fun v80 w81 =>
      ∃ (t82a : Option Addr) (t82n : Nat) (t82c : Nat), ∃ (t83 : Int), v80 = .tuple #[.slice t82a t82n t82c, .int .i64 t83] ∧ PIf ((t83 : Int) != 0) (R (.returned (.bool false)) w81) (PC Tryz.prog 13 #[.pointer t18, .string (⟨#[115, 101, 103, 46, 48]⟩ : ByteArray), .slice t82a t82n t82c] w81 (fun v84 w85 =>
      ∃ (t86 : Int), v84 = .int .i64 t86 ∧ PC Tryz.prog 60 #[.slice body3a body3n body3c] w85 (fun v87 w88 => ∃ (t89 : Int), ∃ (t90 : Int), ∃ (t91 : Int), ∃ (t92a : Option Addr) (t92n : Nat) (t92c : Nat), ∃ (t93 : Int), ∃ (t94 : Int), ∃ (t95 : Int), ∃ (t96 : Int), ∃ (t97 : Int), ∃ (t98 : Int), ∃ (t99 : Int), v87 = .tuple #[.agg #[.int .i64 t89, .int .i64 t90, .int .i64 t91, .slice t92a t92n t92c, .int .i64 t93, .int .i64 t94, .int .i64 t95, .int .i64 t96, .int .i64 t97, .int .i64 t98], .int .i64 t99] ∧
      PA w88 (.cells #[.int .i64 0, .int .i64 0, .int .i64 0, .slice none 0 0, .int .i64 0, .int .i64 0, .int .i64 0, .int .i64 0, .int .i64 0, .int .i64 0] 47) fun w100 =>
      PS w100 ⟨w88.heap.size, 0, none⟩ (.int .i64 t89) fun w101 => PS w101 ⟨w88.heap.size, 0 + 1, none⟩ (.int .i64 t90) fun w102 => PS w102 ⟨w88.heap.size, 0 + 2, none⟩ (.int .i64 t91) fun w103 =>
      PS w103 ⟨w88.heap.size, 0 + 3, none⟩ (.slice t92a t92n t92c) fun w104 => PS w104 ⟨w88.heap.size, 0 + 4, none⟩ (.int .i64 t93) fun w105 => PS w105 ⟨w88.heap.size, 0 + 5, none⟩ (.int .i64 t94) fun w106 =>
      PS w106 ⟨w88.heap.size, 0 + 6, none⟩ (.int .i64 t95) fun w107 => PS w107 ⟨w88.heap.size, 0 + 7, none⟩ (.int .i64 t96) fun w108 => PS w108 ⟨w88.heap.size, 0 + 8, none⟩ (.int .i64 t97) fun w109 =>
      PS w109 ⟨w88.heap.size, 0 + 9, none⟩ (.int .i64 t98) fun w110 => PC Tryz.prog 17 #[.pointer t18, .int .i64 0] w110 (fun v111 w112 => ∃ (t113a : Option Addr) (t113n : Nat) (t113c : Nat), ∃ (t114 : Int), v111 = .tuple #[.slice t113a t113n t113c, .int .i64 t114] ∧
      PC Tryz.prog 71 #[.slice l1a l1n l1c] w112 (fun v115 w116 => ∃ (t117a : Option Addr) (t117n : Nat) (t117c : Nat), v115 = .slice t117a t117n t117c ∧ (∃ J118 : Int → Option Addr → Nat → Nat → World → Prop, (PIf ((kind2 : Int) == 1) (PIf ((t99 : Int) == 0) ((∀ w120, Drew w116 w120 → ∃ S121 : Nat → Prop, (¬ S121 w88.heap.size ∧
      (∃ (t122 : Int), ∃ (t123 : Int), ∃ (t124 : Int), ∃ (t125a : Option Addr) (t125n : Nat) (t125c : Nat), ∃ (t126 : Int), ∃ (t127 : Int), ∃ (t128 : Int), ∃ (t129 : Int), ∃ (t130 : Int), ∃ (t131 : Int), w120.cell? ⟨w88.heap.size, 0, none⟩ = some (.int .i64 t122) ∧
      w120.cell? ⟨w88.heap.size, 0 + 1, none⟩ = some (.int .i64 t123) ∧ w120.cell? ⟨w88.heap.size, 0 + 2, none⟩ = some (.int .i64 t124) ∧ w120.cell? ⟨w88.heap.size, 0 + 3, none⟩ = some (.slice t125a t125n t125c) ∧
      w120.cell? ⟨w88.heap.size, 0 + 4, none⟩ = some (.int .i64 t126) ∧ w120.cell? ⟨w88.heap.size, 0 + 5, none⟩ = some (.int .i64 t127) ∧ w120.cell? ⟨w88.heap.size, 0 + 6, none⟩ = some (.int .i64 t128) ∧
      w120.cell? ⟨w88.heap.size, 0 + 7, none⟩ = some (.int .i64 t129) ∧ w120.cell? ⟨w88.heap.size, 0 + 8, none⟩ = some (.int .i64 t130) ∧ w120.cell? ⟨w88.heap.size, 0 + 9, none⟩ = some (.int .i64 t131) ∧
      PC Tryz.prog 26 #[.int .i64 1] w120 (fun v132 w133 => ∃ (t134 : Int), ∃ (t135 : Int), ∃ (t136 : Int), ∃ (t137a : Option Addr) (t137n : Nat) (t137c : Nat), ∃ (t138 : Int), ∃ (t139 : Int), ∃ (t140 : Int), ∃ (t141 : Int), ∃ (t142 : Int), ∃ (t143 : Int), v132 = .agg #[.int .i64 t134, .int .i64 t135, .int .i64 t136, .slice t137a t137n t137c, .int .i64 t138, .int .i64 t139, .int .i64 t140, .int .i64 t141, .int .i64 t142, .int .i64 t143] ∧
      (Keep S121 w120 w133 ∧ PA w133 (.cells #[.int .i64 t122, .int .i64 t123, .int .i64 t124, .slice t125a t125n t125c, .int .i64 t126, .int .i64 t127, .int .i64 t128, .int .i64 t129, .int .i64 t130, .int .i64 t131, .int .i64 t134, .int .i64 t135, .int .i64 t136, .slice t137a t137n t137c, .int .i64 t138, .int .i64 t139, .int .i64 t140, .int .i64 t141, .int .i64 t142, .int .i64 t143] 47) fun w144 =>
      (Keep S121 w133 w144 ∧ PRun Tryz.prog (Builtin.append_ #[23, 23] 23 #[.slice t117a t117n t117c, .slice (some ⟨w133.heap.size, 0, none⟩) 2 2]) w144 (fun v145 w146 =>
      ∃ (t147a : Option Addr) (t147n : Nat) (t147c : Nat), v145 = .slice t147a t147n t147c ∧ (Keep S121 w144 w146 ∧ J118 (IntKind.wrap .i64 ((IntKind.wrap .i64 (n29 + ((t60n : Nat) : Int))) + ((t82n : Nat) : Int))) t147a t147n t147c w146)) (fun pv wpp =>
      ∀ (_ : Base) (_ : Bnd), R (.panicked [{ v := pv, recovered := false }]) wpp)))) (fun ch wpp => ∀ (_ : Base) (_ : Bnd), R (.panicked ch) wpp))))) (J118 n29 t117a t117n t117c w116)) (J118 n29 t117a t117n t117c w116)) ∧
      ∀ (n148 : Int) (want149a : Option Addr) (want149n : Nat) (want149c : Nat) (B150 : Nat → Value) (w151 : World), J118 n148 want149a want149n want149c w151 → PIf ((t114 : Int) == n148) (PC Tryz.prog 19 #[.slice t113a t113n t113c, .slice want149a want149n want149c] w151 (fun v152 w153 =>
      ∃ (t154 : Bool), v152 = .bool t154 ∧ PIf t154 (PC Tryz.prog 8 #[] w153 (fun v155 w156 => ∃ (t157 : Bool), v155 = .bool t157 ∧ R (.returned (.bool t157)) w156) (fun ch w =>
      R (.panicked ch) w)) (R (.returned (.bool false)) w153)) (fun ch w => R (.panicked ch) w)) (R (.returned (.bool false)) w151))) (fun ch w => R (.panicked ch) w)) (fun ch w =>
      R (.panicked ch) w)) (fun ch w => R (.panicked ch) w)) (fun ch w => R (.panicked ch) w))) (fun ch w => R (.panicked ch) w)) (fun ch w => R (.panicked ch) w)) (fun ch w =>
      R (.panicked ch) w))) (fun ch w => R (.panicked ch) w))))) (fun ch w => R (.panicked ch) w))) (fun pv w => R (.panicked [{ v := pv, recovered := false }]) w))) (fun ch w =>
      R (.panicked ch) w))))) (fun ch w => R (.panicked ch) w)) :
    Calls Tryz.prog 28 #[.slice l1a l1n l1c, .int .i64 kind2, .slice body3a body3n body3c] w R :=
  D_calls A_law20_SegmentOther mixed Tryz.func28 rfl (Nat.le_of_ble_eq_true (by kernel_rfl)) (by kernel_rfl) (Eq.mp (by kernel_rfl) h)
/-- quayside/quaysidekit.Row -/
abbrev F_kit_Row : Nat := 29
def A_kit_Row : Ann := ⟨[(3, [(3, .slice none 0 0), (4, .int .i64 0)])], [], [], [], []⟩
theorem L_kit_Row {n1 : Int} {w : World} {R : Ending → World → Prop}
    (h : (∃ I2 : Nat → Option Addr → Nat → Nat → Int → World → Prop, (∃ m3, I2 m3 none 0 0 0 w) ∧ ∀ (m3 : Nat) (out5a : Option Addr) (out5n : Nat) (out5c : Nat) (i6 : Int) (B7 : Nat → Value) (w8 : World), I2 m3 out5a out5n out5c i6 w8 → PIf (decide ((i6 : Int) < n1)) (PA w8 (.cells #[.int .u8 (IntKind.wrap .u8 (IntKind.wrap .i64 (3 + (IntKind.wrap .i64 (5 * i6)))))] 5) fun w9 =>
      PRun Tryz.prog (Builtin.append_ #[22, 22] 22 #[.slice out5a out5n out5c, .slice (some ⟨w8.heap.size, 0, none⟩) 1 1]) w9 (fun v10 w11 => ∃ (t12a : Option Addr) (t12n : Nat) (t12c : Nat), v10 = .slice t12a t12n t12c ∧
      (∃ m4, m4 < m3 ∧ I2 m4 t12a t12n t12c (IntKind.wrap .i64 (i6 + 1)) w11)) (fun pv w => R (.panicked [{ v := pv, recovered := false }]) w)) (R (.returned (.slice out5a out5n out5c)) w8))) :
    Calls Tryz.prog 29 #[.int .i64 n1] w R :=
  D_calls A_kit_Row mixed Tryz.func29 rfl (Nat.le_of_ble_eq_true (by kernel_rfl)) (by kernel_rfl) (Eq.mp (by kernel_rfl) h)
/-- quayside/quaysidelaw21.known -/
abbrev F_law21_known : Nat := 30
def A_law21_known : Ann := ⟨[], [], [], [], []⟩
theorem L_law21_known  {w : World} {R : Ending → World → Prop}
    (h : PC Tryz.prog 9 #[.int .i64 64] w (fun v1 w2 => ∃ (t3 : Option Addr), ∃ (t4 : Int), v1 = .tuple #[.pointer t3, .int .i64 t4] ∧ PIf ((t4 : Int) != 0) (R (.returned (.bool false)) w2) (PRun Tryz.prog (do eqGuard .eql 26 (.tmp 14) (.const (.pointer none)) (.pointer t3) (.pointer none); binOp .eql 26 (.pointer t3) (.pointer none)) w2 (fun v5 w6 =>
      ∃ (t7 : Bool), v5 = .bool t7 ∧ PIf t7 (R (.returned (.bool false)) w6) (PC Tryz.prog 34 #[.pointer t3] w6 (fun v8 w9 => ∃ (t10a : Option Addr) (t10n : Nat) (t10c : Nat), ∃ (t11 : Bool), v8 = .tuple #[.agg #[.slice t10a t10n t10c], .bool t11] ∧
      PA w9 (.cells #[.slice none 0 0] 58) fun w12 => PS w12 ⟨w9.heap.size, 0, none⟩ (.slice t10a t10n t10c) fun w13 => PIf t11 (R (.returned (.bool false)) w13) (PA w13 (.cells #[.int .i64 1, .int .i64 2] 3) fun w14 =>
      PC Tryz.prog 33 #[.pointer t3, .agg #[.slice (some ⟨w13.heap.size, 0, none⟩) 2 2]] w14 (fun v15 w16 => ∃ (t17 : Int), v15 = .int .i64 t17 ∧ PIf ((t17 : Int) != 0) (R (.returned (.bool false)) w16) (PC Tryz.prog 37 #[.pointer t3, .int .i64 3] w16 (fun v18 w19 =>
      v18 = .tuple #[] ∧ PA w19 (.cells #[.int .i64 3] 3) fun w20 => PC Tryz.prog 33 #[.pointer t3, .agg #[.slice (some ⟨w19.heap.size, 0, none⟩) 1 1]] w20 (fun v21 w22 =>
      ∃ (t23 : Int), v21 = .int .i64 t23 ∧ PIf ((t23 : Int) != 15) (R (.returned (.bool false)) w22) (PC Tryz.prog 38 #[.pointer t3, .int .i64 99] w22 (fun v24 w25 =>
      v24 = .tuple #[] ∧ PC Tryz.prog 34 #[.pointer t3] w25 (fun v26 w27 => ∃ (t28a : Option Addr) (t28n : Nat) (t28c : Nat), ∃ (t29 : Bool), v26 = .tuple #[.agg #[.slice t28a t28n t28c], .bool t29] ∧
      PA w27 (.cells #[.slice none 0 0] 58) fun w30 => PS w30 ⟨w27.heap.size, 0, none⟩ (.slice t28a t28n t28c) fun w31 => PIf t29 ((∃ (t32a : Option Addr) (t32n : Nat) (t32c : Nat), w31.cell? ⟨w27.heap.size, 0, none⟩ = some (.slice t32a t32n t32c) ∧
      PA w31 (.cells #[.int .i64 1, .int .i64 2] 3) fun w33 => PC Tryz.prog 35 #[.slice t32a t32n t32c, .slice (some ⟨w31.heap.size, 0, none⟩) 2 2] w33 (fun v34 w35 =>
      ∃ (t36 : Bool), v34 = .bool t36 ∧ R (.returned (.bool t36)) w35) (fun ch w => R (.panicked ch) w))) (R (.returned (.bool false)) w31)) (fun ch w => R (.panicked ch) w)) (fun ch w =>
      R (.panicked ch) w))) (fun ch w => R (.panicked ch) w)) (fun ch w => R (.panicked ch) w))) (fun ch w => R (.panicked ch) w))) (fun ch w => R (.panicked ch) w))) (fun pv w =>
      R (.panicked [{ v := pv, recovered := false }]) w))) (fun ch w => R (.panicked ch) w)) :
    Calls Tryz.prog 30 #[] w R :=
  D_calls A_law21_known mixed Tryz.func30 rfl (Nat.le_of_ble_eq_true (by kernel_rfl)) (by kernel_rfl) (Eq.mp (by kernel_rfl) h)
/-- quayside/quaysidekit.Pick -/
abbrev F_kit_Pick : Nat := 31
def A_kit_Pick : Ann := ⟨[], [], [], [], []⟩
theorem L_kit_Pick {k1 : Int} {n2 : Int} {w : World} {R : Ending → World → Prop}
    (h : PIf (decide ((n2 : Int) < 1)) (R (.returned (.int .i64 0)) w) (PRun Tryz.prog (do eqGuard .rem 3 (.tmp 7) (.tmp 8) (.int .i64 k1) (.int .i64 n2); binOp .rem 3 (.int .i64 k1) (.int .i64 n2)) w (fun v3 w4 =>
      ∃ (t5 : Int), v3 = .int .i64 t5 ∧ PIf (decide ((t5 : Int) < 0)) (R (.returned (.int .i64 (IntKind.wrap .i64 (t5 + n2)))) w4) (R (.returned (.int .i64 t5)) w4)) (fun pv w =>
      R (.panicked [{ v := pv, recovered := false }]) w))) :
    Calls Tryz.prog 31 #[.int .i64 k1, .int .i64 n2] w R :=
  D_calls A_kit_Pick mixed Tryz.func31 rfl (Nat.le_of_ble_eq_true (by kernel_rfl)) (by kernel_rfl) (Eq.mp (by kernel_rfl) h)
/-- (*quayside/vdisk.Disk).Sync -/
abbrev F_vdisk_Disk_Sync : Nat := 32
def A_vdisk_Disk_Sync : Ann := ⟨[], [], [], [], []⟩
theorem L_vdisk_Disk_Sync {d1 : Option Addr} {name2 : ByteArray} {w : World} {R : Ending → World → Prop}
    (h : PC Tryz.prog 51 #[.pointer d1, .string name2, .func (.func 72) #[] #[]] w (fun v3 w4 => ∃ (t5 : Int), v3 = .int .i64 t5 ∧ R (.returned (.int .i64 t5)) w4) (fun ch w =>
      R (.panicked ch) w)) :
    Calls Tryz.prog 32 #[.pointer d1, .string name2] w R :=
  D_calls A_vdisk_Disk_Sync mixed Tryz.func32 rfl (Nat.le_of_ble_eq_true (by kernel_rfl)) (by kernel_rfl) (Eq.mp (by kernel_rfl) h)
/-- quayside/manifest.Write -/
abbrev F_manifest_Write : Nat := 33
def A_manifest_Write : Ann := ⟨[(5, [(19, .int .i64 0)])], [], [], [], []⟩
theorem L_manifest_Write {d1 : Option Addr} {m3a : Option Addr} {m3n : Nat} {m3c : Nat} {w : World} {R : Ending → World → Prop}
    (h : PA w (.cells #[.pointer d1] 26) fun w4 => PA w4 (.cells #[.slice m3a m3n m3c] 58) fun w5 => PA w5 (.cells #[.int .i64 0] 27) fun w6 => (∃ (t7a : Option Addr) (t7n : Nat) (t7c : Nat), w6.cell? ⟨w4.heap.size, 0, none⟩ = some (.slice t7a t7n t7c) ∧
      PIf (decide ((((t7n : Nat) : Int) : Int) > 64)) (PS w6 ⟨w5.heap.size, 0, none⟩ (.int .i64 3) fun w8 => (∃ (r9 : Int), w8.cell? ⟨w5.heap.size, 0, none⟩ = some (.int .i64 r9) ∧
      R (.returned (.int .i64 r9)) w8)) (PA w6 (.cells #[.func (.func 76) #[] #[.pointer (some ⟨w.heap.size, 0, none⟩)], .func (.func 77) #[] #[.pointer (some ⟨w.heap.size, 0, none⟩)], .func (.func 78) #[] #[.pointer (some ⟨w.heap.size, 0, none⟩), .pointer (some ⟨w4.heap.size, 0, none⟩)], .func (.func 80) #[] #[.pointer (some ⟨w.heap.size, 0, none⟩)], .func (.func 81) #[] #[.pointer (some ⟨w.heap.size, 0, none⟩)]] 89) fun w10 =>
      (∃ I11 : Nat → Int → World → Prop, (∃ m12, I11 m12 0 w10) ∧ ∀ (m12 : Nat) (t14 : Int) (B15 : Nat → Value) (w16 : World), I11 m12 t14 w16 → PIf (decide ((t14 : Int) < ((5 : Nat) : Int))) ((∃ b17 o18, ((some ⟨w6.heap.size, 0, none⟩) : Option Addr) = some ⟨b17, o18, none⟩ ∧
      (0 : Int) ≤ t14 ∧ t14 < ((5 : Nat) : Int) ∧ (∃ (t19 : Value), w16.cell? ⟨b17, o18 + Int.toNat t14, none⟩ = some t19 ∧ (∃ g22 fi23 ca24, (t19 : Value) = .func (.func g22) fi23 ca24 ∧
      enters Tryz.prog g22 = true ∧ PC Tryz.prog g22 (fi23 ++ #[] ++ ca24) w16 (fun v20 w21 => ∃ (t25 : Int), v20 = .int .i64 t25 ∧ PS w21 ⟨w5.heap.size, 0, none⟩ (.int .i64 t25) fun w26 =>
      (∃ (t27 : Int), w26.cell? ⟨w5.heap.size, 0, none⟩ = some (.int .i64 t27) ∧ PIf ((t27 : Int) != 0) ((∃ (t28 : Int), w26.cell? ⟨w5.heap.size, 0, none⟩ = some (.int .i64 t28) ∧
      PS w26 ⟨w5.heap.size, 0, none⟩ (.int .i64 t28) fun w29 => Lv Tryz.prog (fun w30 => (∃ (r31 : Int), w30.cell? ⟨w5.heap.size, 0, none⟩ = some (.int .i64 r31) ∧
      R (.returned (.int .i64 r31)) w30)) (fun ch w => R (.panicked ch) w) ([{ target := .fn (.func 74) #[.pointer (some ⟨w5.heap.size, 0, none⟩), .pointer (some ⟨w.heap.size, 0, none⟩)], args := #[] }] : List Deferred) .returning w29)) ((([{ target := .fn (.func 74) #[.pointer (some ⟨w5.heap.size, 0, none⟩), .pointer (some ⟨w.heap.size, 0, none⟩)], args := #[] }] : List Deferred) = ([{ target := .fn (.func 74) #[.pointer (some ⟨w5.heap.size, 0, none⟩), .pointer (some ⟨w.heap.size, 0, none⟩)], args := #[] }] : List Deferred) ∧
      ∃ m13, m13 < m12 ∧ I11 m13 (IntKind.wrap .i64 (t14 + 1)) w26)))) (fun ch wpp => Lv Tryz.prog (fun w32 => (∃ (r33 : Int), w32.cell? ⟨w5.heap.size, 0, none⟩ = some (.int .i64 r33) ∧
      R (.returned (.int .i64 r33)) w32)) (fun ch w => R (.panicked ch) w) ([{ target := .fn (.func 74) #[.pointer (some ⟨w5.heap.size, 0, none⟩), .pointer (some ⟨w.heap.size, 0, none⟩)], args := #[] }] : List Deferred) (.panicking ch) wpp))))) ((∃ (t34 : Int), w16.cell? ⟨w5.heap.size, 0, none⟩ = some (.int .i64 t34) ∧
      PS w16 ⟨w5.heap.size, 0, none⟩ (.int .i64 t34) fun w35 => Lv Tryz.prog (fun w36 => (∃ (r37 : Int), w36.cell? ⟨w5.heap.size, 0, none⟩ = some (.int .i64 r37) ∧
      R (.returned (.int .i64 r37)) w36)) (fun ch w => R (.panicked ch) w) ([{ target := .fn (.func 74) #[.pointer (some ⟨w5.heap.size, 0, none⟩), .pointer (some ⟨w.heap.size, 0, none⟩)], args := #[] }] : List Deferred) .returning w35)))))) :
    Calls Tryz.prog 33 #[.pointer d1, .agg #[.slice m3a m3n m3c]] w R :=
  D_calls A_manifest_Write mixed Tryz.func33 rfl (Nat.le_of_ble_eq_true (by kernel_rfl)) (by kernel_rfl) (Eq.mp (by kernel_rfl) h)
/-- quayside/manifest.Read -/
abbrev F_manifest_Read : Nat := 34
def A_manifest_Read : Ann := ⟨[(10, [(43, .int .i64 0)])], [], [11], [11], []⟩
theorem L_manifest_Read {d1 : Option Addr} {w : World} {R : Ending → World → Prop}
    (h : PA w (.cells #[.slice none 0 0] 58) fun w2 => PC Tryz.prog 36 #[.pointer d1, .string (⟨#[109, 97, 110, 105, 102, 101, 115, 116]⟩ : ByteArray)] w2 (fun v3 w4 =>
      ∃ (t5a : Option Addr) (t5n : Nat) (t5c : Nat), ∃ (t6 : Int), v3 = .tuple #[.slice t5a t5n t5c, .int .i64 t6] ∧ PIf ((t6 : Int) != 0) (PS w4 ⟨w.heap.size, 0, none⟩ (.slice none 0 0) fun w7 =>
      (∃ (r8a : Option Addr) (r8n : Nat) (r8c : Nat), w7.cell? ⟨w.heap.size, 0, none⟩ = some (.slice r8a r8n r8c) ∧ R (.returned (.tuple #[.agg #[.slice r8a r8n r8c], .bool false])) w7)) (PC Tryz.prog 59 #[.slice t5a t5n t5c] w4 (fun v9 w10 =>
      ∃ (t11 : Int), ∃ (t12a : Option Addr) (t12n : Nat) (t12c : Nat), ∃ (t13 : Int), ∃ (t14 : Int), v9 = .tuple #[.agg #[.int .i64 t11, .slice t12a t12n t12c], .int .i64 t13, .int .i64 t14] ∧
      PA w10 (.cells #[.int .i64 0, .slice none 0 0] 98) fun w15 => PS w15 ⟨w10.heap.size, 0, none⟩ (.int .i64 t11) fun w16 => PS w16 ⟨w10.heap.size, 0 + 1, none⟩ (.slice t12a t12n t12c) fun w17 =>
      PIf ((t14 : Int) != 0) (PS w17 ⟨w.heap.size, 0, none⟩ (.slice none 0 0) fun w18 => (∃ (r19a : Option Addr) (r19n : Nat) (r19c : Nat), w18.cell? ⟨w.heap.size, 0, none⟩ = some (.slice r19a r19n r19c) ∧
      R (.returned (.tuple #[.agg #[.slice r19a r19n r19c], .bool false])) w18)) (PIf ((t13 : Int) != ((t5n : Nat) : Int)) (PS w17 ⟨w.heap.size, 0, none⟩ (.slice none 0 0) fun w20 =>
      (∃ (r21a : Option Addr) (r21n : Nat) (r21c : Nat), w20.cell? ⟨w.heap.size, 0, none⟩ = some (.slice r21a r21n r21c) ∧ R (.returned (.tuple #[.agg #[.slice r21a r21n r21c], .bool false])) w20)) ((∃ (t22 : Int), w17.cell? ⟨w10.heap.size, 0, none⟩ = some (.int .i64 t22) ∧
      PIf ((t22 : Int) != 2) (PS w17 ⟨w.heap.size, 0, none⟩ (.slice none 0 0) fun w23 => (∃ (r24a : Option Addr) (r24n : Nat) (r24c : Nat), w23.cell? ⟨w.heap.size, 0, none⟩ = some (.slice r24a r24n r24c) ∧
      R (.returned (.tuple #[.agg #[.slice r24a r24n r24c], .bool false])) w23)) ((∃ (t25a : Option Addr) (t25n : Nat) (t25c : Nat), w17.cell? ⟨w10.heap.size, 0 + 1, none⟩ = some (.slice t25a t25n t25c) ∧
      PC Tryz.prog 83 #[.slice t25a t25n t25c] w17 (fun v26 w27 => ∃ (t28 : Option Addr), v26 = .pointer t28 ∧ PA w27 (.cells #[.slice none 0 0] 58) fun w29 =>
      PC Tryz.prog 84 #[.pointer t28, .int .i64 64] w29 (fun v30 w31 => ∃ (t32 : Int), v30 = .int .i64 t32 ∧ (∃ I33 : Nat → Int → World → Prop, (∃ m34, I33 m34 0 w31) ∧
      ∀ (m34 : Nat) (t36 : Int) (B37 : Nat → Value) (w38 : World), I33 m34 t36 w38 → PIf (decide ((t36 : Int) < t32)) ((∀ w40, Drew w38 w40 → ∃ S41 : Nat → Prop, (¬ S41 w27.heap.size ∧
      (∃ (t42a : Option Addr) (t42n : Nat) (t42c : Nat), w40.cell? ⟨w27.heap.size, 0, none⟩ = some (.slice t42a t42n t42c) ∧ PC Tryz.prog 85 #[.pointer t28] w40 (fun v43 w44 =>
      ∃ (t45 : Int), v43 = .int .i64 t45 ∧ (Keep S41 w40 w44 ∧ PA w44 (.cells #[.int .i64 t45] 3) fun w46 => (Keep S41 w44 w46 ∧ PRun Tryz.prog (Builtin.append_ #[45, 45] 45 #[.slice t42a t42n t42c, .slice (some ⟨w44.heap.size, 0, none⟩) 1 1]) w46 (fun v47 w48 =>
      ∃ (t49a : Option Addr) (t49n : Nat) (t49c : Nat), v47 = .slice t49a t49n t49c ∧ PS w48 ⟨w27.heap.size, 0, none⟩ (.slice t49a t49n t49c) fun w50 => (∃ m35, m35 < m34 ∧
      I33 m35 (IntKind.wrap .i64 (t36 + 1)) w50)) (fun pv wpp => ∀ (_ : Base) (_ : Bnd), R (.panicked [{ v := pv, recovered := false }]) wpp)))) (fun ch wpp =>
      ∀ (_ : Base) (_ : Bnd), R (.panicked ch) wpp))))) (PC Tryz.prog 86 #[.pointer t28] w38 (fun v51 w52 => ∃ (t53 : Int), v51 = .int .i64 t53 ∧ PIf ((t53 : Int) != 0) (PS w52 ⟨w.heap.size, 0, none⟩ (.slice none 0 0) fun w54 =>
      (∃ (r55a : Option Addr) (r55n : Nat) (r55c : Nat), w54.cell? ⟨w.heap.size, 0, none⟩ = some (.slice r55a r55n r55c) ∧ R (.returned (.tuple #[.agg #[.slice r55a r55n r55c], .bool false])) w54)) ((∃ (t56a : Option Addr) (t56n : Nat) (t56c : Nat), w52.cell? ⟨w27.heap.size, 0, none⟩ = some (.slice t56a t56n t56c) ∧
      PS w52 ⟨w.heap.size, 0, none⟩ (.slice t56a t56n t56c) fun w57 => (∃ (r58a : Option Addr) (r58n : Nat) (r58c : Nat), w57.cell? ⟨w.heap.size, 0, none⟩ = some (.slice r58a r58n r58c) ∧
      R (.returned (.tuple #[.agg #[.slice r58a r58n r58c], .bool true])) w57)))) (fun ch w => R (.panicked ch) w)))) (fun ch w => R (.panicked ch) w)) (fun ch w =>
      R (.panicked ch) w))))))) (fun ch w => R (.panicked ch) w))) (fun ch w => R (.panicked ch) w)) :
    Calls Tryz.prog 34 #[.pointer d1] w R :=
  D_calls A_manifest_Read mixed Tryz.func34 rfl (Nat.le_of_ble_eq_true (by kernel_rfl)) (by kernel_rfl) (Eq.mp (by kernel_rfl) h)
/-- quayside/quaysidekit.SameInts -/
abbrev F_kit_SameInts : Nat := 35
def A_kit_SameInts : Ann := ⟨[(4, [(5, .int .i64 0)])], [], [], [], []⟩
theorem L_kit_SameInts {a1a : Option Addr} {a1n : Nat} {a1c : Nat} {b2a : Option Addr} {b2n : Nat} {b2c : Nat} {w : World} {R : Ending → World → Prop}
    (h : PIf ((((a1n : Nat) : Int) : Int) != ((b2n : Nat) : Int)) (R (.returned (.bool false)) w) ((∃ I3 : Nat → Int → World → Prop, (∃ m4, I3 m4 0 w) ∧ ∀ (m4 : Nat) (i6 : Int) (B7 : Nat → Value) (w8 : World), I3 m4 i6 w8 → PIf (decide ((i6 : Int) < ((a1n : Nat) : Int))) ((∃ b10 o11, a1a = some ⟨b10, o11, none⟩ ∧
      (0 : Int) ≤ i6 ∧ i6 < ((a1n : Nat) : Int) ∧ (∃ (t12 : Int), w8.cell? ⟨b10, o11 + Int.toNat i6, none⟩ = some (.int .i64 t12) ∧ (∃ b13 o14, b2a = some ⟨b13, o14, none⟩ ∧
      (0 : Int) ≤ i6 ∧ i6 < ((b2n : Nat) : Int) ∧ (∃ (t15 : Int), w8.cell? ⟨b13, o14 + Int.toNat i6, none⟩ = some (.int .i64 t15) ∧ (∀ w9, Drew w8 w9 → PIf ((t12 : Int) != t15) (R (.returned (.bool false)) w9) ((∃ m5, m5 < m4 ∧
      I3 m5 (IntKind.wrap .i64 (i6 + 1)) w9)))))))) (R (.returned (.bool true)) w8)))) :
    Calls Tryz.prog 35 #[.slice a1a a1n a1c, .slice b2a b2n b2c] w R :=
  D_calls A_kit_SameInts mixed Tryz.func35 rfl (Nat.le_of_ble_eq_true (by kernel_rfl)) (by kernel_rfl) (Eq.mp (by kernel_rfl) h)
/-- (*quayside/vdisk.Disk).Read -/
abbrev F_vdisk_Disk_Read : Nat := 36
def A_vdisk_Disk_Read : Ann := ⟨[], [], [], [], []⟩
theorem L_vdisk_Disk_Read {d1 : Option Addr} {name2 : ByteArray} {w : World} {R : Ending → World → Prop}
    (h : (∃ b3 o4, d1 = some ⟨b3, o4, none⟩ ∧ (∃ (t5 : Option Nat), w.cell? ⟨b3, o4 + 1, none⟩ = some (.map t5) ∧ PRun Tryz.prog (Instr.lookup 78 (.map t5) (.string name2) false) w (fun v6 w7 =>
      ∃ (t8 : Option Addr), v6 = .pointer t8 ∧ (∃ b9 o10, d1 = some ⟨b9, o10, none⟩ ∧ (∃ (t11 : Bool), w7.cell? ⟨b9, o10 + 4, none⟩ = some (.bool t11) ∧ PIf t11 (R (.returned (.tuple #[.slice none 0 0, .int .i64 15])) w7) (PRun Tryz.prog (do eqGuard .eql 86 (.tmp 24) (.const (.pointer none)) (.pointer t8) (.pointer none); binOp .eql 86 (.pointer t8) (.pointer none)) w7 (fun v12 w13 =>
      ∃ (t14 : Bool), v12 = .bool t14 ∧ PIf t14 (R (.returned (.tuple #[.slice none 0 0, .int .i64 14])) w13) ((∃ b15 o16, t8 = some ⟨b15, o16, none⟩ ∧ (∃ (t17a : Option Addr) (t17n : Nat) (t17c : Nat), w13.cell? ⟨b15, o16, none⟩ = some (.slice t17a t17n t17c) ∧
      PC Tryz.prog 87 #[.slice t17a t17n t17c] w13 (fun v18 w19 => ∃ (t20a : Option Addr) (t20n : Nat) (t20c : Nat), v18 = .slice t20a t20n t20c ∧ R (.returned (.tuple #[.slice t20a t20n t20c, .int .i64 0])) w19) (fun ch w =>
      R (.panicked ch) w))))) (fun pv w => R (.panicked [{ v := pv, recovered := false }]) w))))) (fun pv w => R (.panicked [{ v := pv, recovered := false }]) w)))) :
    Calls Tryz.prog 36 #[.pointer d1, .string name2] w R :=
  D_calls A_vdisk_Disk_Read mixed Tryz.func36 rfl (Nat.le_of_ble_eq_true (by kernel_rfl)) (by kernel_rfl) (Eq.mp (by kernel_rfl) h)
/-- (*quayside/vdisk.Disk).Fuse -/
abbrev F_vdisk_Disk_Fuse : Nat := 37
def A_vdisk_Disk_Fuse : Ann := ⟨[], [], [], [], []⟩
theorem L_vdisk_Disk_Fuse {d1 : Option Addr} {n2 : Int} {w : World} {R : Ending → World → Prop}
    (h : (∃ b3 o4, d1 = some ⟨b3, o4, none⟩ ∧ PS w ⟨b3, o4 + 2, none⟩ (.bool true) fun w5 => (∃ b6 o7, d1 = some ⟨b6, o7, none⟩ ∧ PS w5 ⟨b6, o7 + 3, none⟩ (.int .i64 (if n2 > 0 then n2 else 0)) fun w8 =>
      R (.returned (.tuple #[])) w8))) :
    Calls Tryz.prog 37 #[.pointer d1, .int .i64 n2] w R :=
  D_calls A_vdisk_Disk_Fuse mixed Tryz.func37 rfl (Nat.le_of_ble_eq_true (by kernel_rfl)) (by kernel_rfl) (Eq.mp (by kernel_rfl) h)
/-- (*quayside/vdisk.Disk).Crash -/
abbrev F_vdisk_Disk_Crash : Nat := 38
def A_vdisk_Disk_Crash : Ann := ⟨[(2, [])], [], [], [], [(4, ⟨[0, 0, 2, 4, 8, 0, 0, 64, 128, 256, 512, 0, 2048, 4096, 8192, 17408, 32800, 65536, 131088, 262145], [1048575, 1048575, 1048573, 1048571, 1048567, 1048575, 1048575, 1048511, 1048447, 1048319, 1048063, 1048575, 1046527, 1044479, 1040383, 1031167, 1015775, 983039, 917487, 786430], [0, 0, 0, 0, 1, 0, 0, 0, 0, 1, 0, 0, 0, 0, 1, 0, 0, 0, 0, 2]⟩)]⟩
theorem L_vdisk_Disk_Crash {d1 : Option Addr} {keep2 : Int} {w : World} {R : Ending → World → Prop}
    (h : (∃ b3 o4, d1 = some ⟨b3, o4, none⟩ ∧ (∃ (t5 : Option Nat), w.cell? ⟨b3, o4 + 1, none⟩ = some (.map t5) ∧ PC Tryz.prog 88 #[.map t5, .func (.func 89) #[] #[]] w (fun v6 w7 =>
      v6 = .tuple #[] ∧ (∃ b8 o9, d1 = some ⟨b8, o9, none⟩ ∧ (∃ (t10 : Option Nat), w7.cell? ⟨b8, o9 + 1, none⟩ = some (.map t10) ∧ PRun Tryz.prog (Instr.range 78 (.map t10)) w7 (fun v11 w12 =>
      (∃ I13 : Nat → World → Prop, (∃ m14, I13 m14  w12) ∧ ∀ (m14 : Nat)  (B16 : Nat → Value) (w17 : World), I13 m14  w17 → PRun Tryz.prog (Instr.next v11 false 0) w17 (fun v18 w19 =>
      (v18 = .tuple #[.bool false] ∧ (∃ b20 o21, d1 = some ⟨b20, o21, none⟩ ∧ PS w19 ⟨b20, o21 + 2, none⟩ (.bool false) fun w22 => (∃ b23 o24, d1 = some ⟨b23, o24, none⟩ ∧
      PS w22 ⟨b23, o24 + 4, none⟩ (.bool false) fun w25 => R (.returned (.tuple #[])) w25))) ∨ (∃ k26 x27, v18 = .tuple #[.bool true, k26, x27] ∧ PRun Tryz.prog (Instr.entry v11) w19 (fun v28 w29 =>
      ∃ (k30 : Value), ∃ (x31 : Option Addr), v28 = .tuple #[k30, .pointer x31] ∧ (∀ w33, Drew w29 w33 → (∃ b34 o35, x31 = some ⟨b34, o35, none⟩ ∧ (∃ (t36 : Int), w33.cell? ⟨b34, o35 + 1, none⟩ = some (.int .i64 t36) ∧
      (∃ b37 o38, x31 = some ⟨b37, o38, none⟩ ∧ (∃ (t39a : Option Addr) (t39n : Nat) (t39c : Nat), w33.cell? ⟨b37, o38, none⟩ = some (.slice t39a t39n t39c) ∧
      (∃ b40 o41, x31 = some ⟨b40, o41, none⟩ ∧ (∃ (t42 : Int), w33.cell? ⟨b40, o41 + 1, none⟩ = some (.int .i64 t42) ∧ PC Tryz.prog 73 #[.pointer x31, .int .i64 (IntKind.wrap .i64 (t36 + (if (if (IntKind.wrap .i64 (((t39n : Nat) : Int) - t42)) < keep2 then (IntKind.wrap .i64 (((t39n : Nat) : Int) - t42)) else keep2) > 0 then (if (IntKind.wrap .i64 (((t39n : Nat) : Int) - t42)) < keep2 then (IntKind.wrap .i64 (((t39n : Nat) : Int) - t42)) else keep2) else 0)))] w33 (fun v43 w44 =>
      v43 = .tuple #[] ∧ (∃ m15, m15 < m14 ∧ I13 m15  w44)) (fun ch wpp => ∀ (_ : Base) (_ : Bnd), R (.panicked ch) wpp))))))))) (fun pv w => R (.panicked [{ v := pv, recovered := false }]) w))) (fun pv w =>
      R (.panicked [{ v := pv, recovered := false }]) w))) (fun pv w => R (.panicked [{ v := pv, recovered := false }]) w)))) (fun ch w => R (.panicked ch) w)))) :
    Calls Tryz.prog 38 #[.pointer d1, .int .i64 keep2] w R :=
  D_calls A_vdisk_Disk_Crash mixed Tryz.func38 rfl (Nat.le_of_ble_eq_true (by kernel_rfl)) (by kernel_rfl) (Eq.mp (by kernel_rfl) h)
/-- quayside/quaysidelaw19.Long -/
abbrev F_law19_Long : Nat := 39
def A_law19_Long : Ann := ⟨[(4, [(3, .int .i64 0)])], [], [], [], []⟩
theorem L_law19_Long {l1a : Option Addr} {l1n : Nat} {l1c : Nat} {w : World} {R : Ending → World → Prop}
    (h : PIf (decide ((((l1n : Nat) : Int) : Int) > 100)) (R (.returned (.bool true)) w) ((∃ I2 : Nat → Int → World → Prop, (∃ m3, I2 m3 0 w) ∧ ∀ (m3 : Nat) (i5 : Int) (B6 : Nat → Value) (w7 : World), I2 m3 i5 w7 → PIf (decide ((i5 : Int) < ((l1n : Nat) : Int))) ((∃ b8 o9, l1a = some ⟨b8, o9, none⟩ ∧
      (0 : Int) ≤ i5 ∧ i5 < ((l1n : Nat) : Int) ∧ (∃ (t10a : Option Addr) (t10n : Nat) (t10c : Nat), w7.cell? ⟨b8, o9 + Int.toNat i5 * 5 + 4, none⟩ = some (.slice t10a t10n t10c) ∧
      PIf (decide ((((t10n : Nat) : Int) : Int) > 4096)) (R (.returned (.bool true)) w7) ((∃ b11 o12, l1a = some ⟨b11, o12, none⟩ ∧ (0 : Int) ≤ i5 ∧ i5 < ((l1n : Nat) : Int) ∧
      (∃ (t13 : ByteArray), w7.cell? ⟨b11, o12 + Int.toNat i5 * 5 + 2, none⟩ = some (.string t13) ∧ PIf (decide ((((ByteArray.size t13 : Nat) : Int) : Int) > 100)) (R (.returned (.bool true)) w7) ((∃ b14 o15, l1a = some ⟨b14, o15, none⟩ ∧
      (0 : Int) ≤ i5 ∧ i5 < ((l1n : Nat) : Int) ∧ (∃ (t16 : ByteArray), w7.cell? ⟨b14, o15 + Int.toNat i5 * 5 + 3, none⟩ = some (.string t16) ∧ PIf (decide ((((ByteArray.size t16 : Nat) : Int) : Int) > 100)) (R (.returned (.bool true)) w7) ((∃ m4, m4 < m3 ∧
      I2 m4 (IntKind.wrap .i64 (i5 + 1)) w7))))))))))) (R (.returned (.bool false)) w7)))) :
    Calls Tryz.prog 39 #[.slice l1a l1n l1c] w R :=
  D_calls A_law19_Long mixed Tryz.func39 rfl (Nat.le_of_ble_eq_true (by kernel_rfl)) (by kernel_rfl) (Eq.mp (by kernel_rfl) h)
/-- quayside/quaysidelaw21.Begin -/
abbrev F_law21_Begin : Nat := 40
def A_law21_Begin : Ann := ⟨[(7, [(10, .int .i64 0)])], [], [], [], []⟩
theorem L_law21_Begin {n1 : Int} {l2a : Option Addr} {l2n : Nat} {l2c : Nat} {w : World} {R : Ending → World → Prop}
    (h : PC Tryz.prog 31 #[.int .i64 n1, .int .i64 1000] w (fun v3 w4 => ∃ (t5 : Int), v3 = .int .i64 t5 ∧ PC Tryz.prog 9 #[.int .i64 (IntKind.wrap .i64 (64 + t5))] w4 (fun v6 w7 =>
      ∃ (t8 : Option Addr), ∃ (t9 : Int), v6 = .tuple #[.pointer t8, .int .i64 t9] ∧ PC Tryz.prog 10 #[.int .i64 (IntKind.wrap .i64 (64 + t5))] w7 (fun v10 w11 =>
      ∃ (t12 : Option Addr), ∃ (t13 : Int), v10 = .tuple #[.pointer t12, .int .i64 t13] ∧ PIf ((t9 : Int) != 0) (R (.returned (.tuple #[.pointer none, .pointer none])) w11) (PRun Tryz.prog (do eqGuard .eql 26 (.tmp 27) (.const (.pointer none)) (.pointer t8) (.pointer none); binOp .eql 26 (.pointer t8) (.pointer none)) w11 (fun v14 w15 =>
      ∃ (t16 : Bool), v14 = .bool t16 ∧ PIf t16 (R (.returned (.tuple #[.pointer none, .pointer none])) w15) ((∃ I17 : Nat → Int → World → Prop, (∃ m18, I17 m18 0 w15) ∧
      ∀ (m18 : Nat) (i20 : Int) (B21 : Nat → Value) (w22 : World), I17 m18 i20 w22 → PIf (decide ((i20 : Int) < ((l2n : Nat) : Int))) ((∃ b23 o24, l2a = some ⟨b23, o24, none⟩ ∧
      (0 : Int) ≤ i20 ∧ i20 < ((l2n : Nat) : Int) ∧ (∃ (t25 : Int), ∃ (t26 : Int), ∃ (t27 : ByteArray), ∃ (t28 : ByteArray), ∃ (t29a : Option Addr) (t29n : Nat) (t29c : Nat), w22.cell? ⟨b23, o24 + Int.toNat i20 * 5, none⟩ = some (.int .i64 t25) ∧
      w22.cell? ⟨b23, o24 + Int.toNat i20 * 5 + 1, none⟩ = some (.int .i64 t26) ∧ w22.cell? ⟨b23, o24 + Int.toNat i20 * 5 + 2, none⟩ = some (.string t27) ∧ w22.cell? ⟨b23, o24 + Int.toNat i20 * 5 + 3, none⟩ = some (.string t28) ∧
      w22.cell? ⟨b23, o24 + Int.toNat i20 * 5 + 4, none⟩ = some (.slice t29a t29n t29c) ∧ PC Tryz.prog 90 #[.pointer t8, .agg #[.int .i64 t25, .int .i64 t26, .string t27, .string t28, .slice t29a t29n t29c]] w22 (fun v30 w31 =>
      ∃ (t32 : Int), v30 = .int .i64 t32 ∧ (∃ b33 o34, l2a = some ⟨b33, o34, none⟩ ∧ (0 : Int) ≤ i20 ∧ i20 < ((l2n : Nat) : Int) ∧ (∃ (t35 : Int), ∃ (t36 : Int), ∃ (t37 : ByteArray), ∃ (t38 : ByteArray), ∃ (t39a : Option Addr) (t39n : Nat) (t39c : Nat), w31.cell? ⟨b33, o34 + Int.toNat i20 * 5, none⟩ = some (.int .i64 t35) ∧
      w31.cell? ⟨b33, o34 + Int.toNat i20 * 5 + 1, none⟩ = some (.int .i64 t36) ∧ w31.cell? ⟨b33, o34 + Int.toNat i20 * 5 + 2, none⟩ = some (.string t37) ∧ w31.cell? ⟨b33, o34 + Int.toNat i20 * 5 + 3, none⟩ = some (.string t38) ∧
      w31.cell? ⟨b33, o34 + Int.toNat i20 * 5 + 4, none⟩ = some (.slice t39a t39n t39c) ∧ PC Tryz.prog 91 #[.pointer t12, .agg #[.int .i64 t35, .int .i64 t36, .string t37, .string t38, .slice t39a t39n t39c]] w31 (fun v40 w41 =>
      ∃ (t42 : Int), v40 = .int .i64 t42 ∧ (∃ m19, m19 < m18 ∧ I17 m19 (IntKind.wrap .i64 (i20 + 1)) w41)) (fun ch w => R (.panicked ch) w)))) (fun ch w => R (.panicked ch) w)))) (R (.returned (.tuple #[.pointer t8, .pointer t12])) w22)))) (fun pv w =>
      R (.panicked [{ v := pv, recovered := false }]) w))) (fun ch w => R (.panicked ch) w)) (fun ch w => R (.panicked ch) w)) (fun ch w => R (.panicked ch) w)) :
    Calls Tryz.prog 40 #[.int .i64 n1, .slice l2a l2n l2c] w R :=
  D_calls A_law21_Begin mixed Tryz.func40 rfl (Nat.le_of_ble_eq_true (by kernel_rfl)) (by kernel_rfl) (Eq.mp (by kernel_rfl) h)
/-- quayside/quaysidelaw21.same -/
abbrev F_law21_same : Nat := 41
def A_law21_same : Ann := ⟨[], [], [], [], []⟩
theorem L_law21_same {d1 : Option Addr} {m2 : Option Addr} {w : World} {R : Ending → World → Prop}
    (h : PC Tryz.prog 34 #[.pointer d1] w (fun v3 w4 => ∃ (t5a : Option Addr) (t5n : Nat) (t5c : Nat), ∃ (t6 : Bool), v3 = .tuple #[.agg #[.slice t5a t5n t5c], .bool t6] ∧
      PA w4 (.cells #[.slice none 0 0] 58) fun w7 => PS w7 ⟨w4.heap.size, 0, none⟩ (.slice t5a t5n t5c) fun w8 => PC Tryz.prog 92 #[.pointer m2] w8 (fun v9 w10 =>
      ∃ (t11a : Option Addr) (t11n : Nat) (t11c : Nat), ∃ (t12 : Bool), v9 = .tuple #[.agg #[.slice t11a t11n t11c], .bool t12] ∧ PA w10 (.cells #[.slice none 0 0] 58) fun w13 =>
      PS w13 ⟨w10.heap.size, 0, none⟩ (.slice t11a t11n t11c) fun w14 => PIf (t6 == t12) ((∃ (t15a : Option Addr) (t15n : Nat) (t15c : Nat), w14.cell? ⟨w4.heap.size, 0, none⟩ = some (.slice t15a t15n t15c) ∧
      (∃ (t16a : Option Addr) (t16n : Nat) (t16c : Nat), w14.cell? ⟨w10.heap.size, 0, none⟩ = some (.slice t16a t16n t16c) ∧ PC Tryz.prog 35 #[.slice t15a t15n t15c, .slice t16a t16n t16c] w14 (fun v17 w18 =>
      ∃ (t19 : Bool), v17 = .bool t19 ∧ PIf t19 (PC Tryz.prog 93 #[.pointer d1, .pointer m2] w18 (fun v20 w21 => ∃ (t22 : Bool), v20 = .bool t22 ∧ (∃ (t23a : Option Addr) (t23n : Nat) (t23c : Nat), w21.cell? ⟨w4.heap.size, 0, none⟩ = some (.slice t23a t23n t23c) ∧
      PC Tryz.prog 65 #[.slice t23a t23n t23c] w21 (fun v24 w25 => v24 = .tuple #[] ∧ R (.returned (.bool t22)) w25) (fun ch w => R (.panicked ch) w))) (fun ch w =>
      R (.panicked ch) w)) ((∃ (t26a : Option Addr) (t26n : Nat) (t26c : Nat), w18.cell? ⟨w4.heap.size, 0, none⟩ = some (.slice t26a t26n t26c) ∧ PC Tryz.prog 65 #[.slice t26a t26n t26c] w18 (fun v27 w28 =>
      v27 = .tuple #[] ∧ R (.returned (.bool false)) w28) (fun ch w => R (.panicked ch) w)))) (fun ch w => R (.panicked ch) w)))) ((∃ (t29a : Option Addr) (t29n : Nat) (t29c : Nat), w14.cell? ⟨w4.heap.size, 0, none⟩ = some (.slice t29a t29n t29c) ∧
      PC Tryz.prog 65 #[.slice t29a t29n t29c] w14 (fun v30 w31 => v30 = .tuple #[] ∧ R (.returned (.bool false)) w31) (fun ch w => R (.panicked ch) w)))) (fun ch w =>
      R (.panicked ch) w)) (fun ch w => R (.panicked ch) w)) :
    Calls Tryz.prog 41 #[.pointer d1, .pointer m2] w R :=
  D_calls A_law21_same mixed Tryz.func41 rfl (Nat.le_of_ble_eq_true (by kernel_rfl)) (by kernel_rfl) (Eq.mp (by kernel_rfl) h)
/-- (*quayside/quaysideref19.Disk).Fuse -/
abbrev F_ref19_Disk_Fuse : Nat := 42
def A_ref19_Disk_Fuse : Ann := ⟨[], [], [], [], []⟩
theorem L_ref19_Disk_Fuse {d1 : Option Addr} {n2 : Int} {w : World} {R : Ending → World → Prop}
    (h : (∃ b3 o4, d1 = some ⟨b3, o4, none⟩ ∧ PS w ⟨b3, o4 + 1, none⟩ (.int .i64 (if n2 > 0 then n2 else 0)) fun w5 => R (.returned (.tuple #[])) w5)) :
    Calls Tryz.prog 42 #[.pointer d1, .int .i64 n2] w R :=
  D_calls A_ref19_Disk_Fuse mixed Tryz.func42 rfl (Nat.le_of_ble_eq_true (by kernel_rfl)) (by kernel_rfl) (Eq.mp (by kernel_rfl) h)
/-- quayside/quaysidekit.CopyInts -/
abbrev F_kit_CopyInts : Nat := 43
def A_kit_CopyInts : Ann := ⟨[(3, [(3, .slice none 0 0), (4, .int .i64 0)])], [], [], [], []⟩
theorem L_kit_CopyInts {l1a : Option Addr} {l1n : Nat} {l1c : Nat} {w : World} {R : Ending → World → Prop}
    (h : (∃ I2 : Nat → Option Addr → Nat → Nat → Int → World → Prop, (∃ m3, I2 m3 none 0 0 0 w) ∧ ∀ (m3 : Nat) (out5a : Option Addr) (out5n : Nat) (out5c : Nat) (i6 : Int) (B7 : Nat → Value) (w8 : World), I2 m3 out5a out5n out5c i6 w8 → PIf (decide ((i6 : Int) < ((l1n : Nat) : Int))) ((∃ b9 o10, l1a = some ⟨b9, o10, none⟩ ∧
      (0 : Int) ≤ i6 ∧ i6 < ((l1n : Nat) : Int) ∧ (∃ (t11 : Int), w8.cell? ⟨b9, o10 + Int.toNat i6, none⟩ = some (.int .i64 t11) ∧ PA w8 (.cells #[.int .i64 t11] 3) fun w12 =>
      PRun Tryz.prog (Builtin.append_ #[45, 45] 45 #[.slice out5a out5n out5c, .slice (some ⟨w8.heap.size, 0, none⟩) 1 1]) w12 (fun v13 w14 => ∃ (t15a : Option Addr) (t15n : Nat) (t15c : Nat), v13 = .slice t15a t15n t15c ∧
      (∃ m4, m4 < m3 ∧ I2 m4 t15a t15n t15c (IntKind.wrap .i64 (i6 + 1)) w14)) (fun pv w => R (.panicked [{ v := pv, recovered := false }]) w)))) (R (.returned (.slice out5a out5n out5c)) w8))) :
    Calls Tryz.prog 43 #[.slice l1a l1n l1c] w R :=
  D_calls A_kit_CopyInts mixed Tryz.func43 rfl (Nat.le_of_ble_eq_true (by kernel_rfl)) (by kernel_rfl) (Eq.mp (by kernel_rfl) h)
/-- quayside/quaysideref21.Write -/
abbrev F_ref21_Write : Nat := 44
def A_ref21_Write : Ann := ⟨[(4, [(5, .int .i64 0)])], [], [], [], []⟩
theorem L_ref21_Write {d1 : Option Addr} {m3a : Option Addr} {m3n : Nat} {m3c : Nat} {w : World} {R : Ending → World → Prop}
    (h : PA w (.cells #[.slice m3a m3n m3c] 58) fun w4 => (∃ (t5a : Option Addr) (t5n : Nat) (t5c : Nat), w4.cell? ⟨w.heap.size, 0, none⟩ = some (.slice t5a t5n t5c) ∧
      PIf (decide ((((t5n : Nat) : Int) : Int) > 64)) (R (.returned (.int .i64 3)) w4) ((∃ I6 : Nat → Int → World → Prop, (∃ m7, I6 m7 0 w4) ∧ ∀ (m7 : Nat) (i9 : Int) (B10 : Nat → Value) (w11 : World), I6 m7 i9 w11 → PIf (decide ((i9 : Int) < 5)) ((∃ (t12a : Option Addr) (t12n : Nat) (t12c : Nat), w11.cell? ⟨w.heap.size, 0, none⟩ = some (.slice t12a t12n t12c) ∧
      PC Tryz.prog 94 #[.pointer d1, .agg #[.slice t12a t12n t12c], .int .i64 i9] w11 (fun v13 w14 => ∃ (t15 : Int), v13 = .int .i64 t15 ∧ PIf ((t15 : Int) != 0) (PC Tryz.prog 95 #[.pointer d1, .string (⟨#[109, 97, 110, 105, 102, 101, 115, 116, 46, 116, 109, 112]⟩ : ByteArray)] w14 (fun v16 w17 =>
      ∃ (t18 : Bool), v16 = .bool t18 ∧ PIf t18 (PC Tryz.prog 96 #[.pointer d1, .string (⟨#[109, 97, 110, 105, 102, 101, 115, 116, 46, 116, 109, 112]⟩ : ByteArray)] w17 (fun v19 w20 =>
      ∃ (t21 : Int), v19 = .int .i64 t21 ∧ R (.returned (.int .i64 t15)) w20) (fun ch w => R (.panicked ch) w)) (R (.returned (.int .i64 t15)) w17)) (fun ch w =>
      R (.panicked ch) w)) ((∃ m8, m8 < m7 ∧ I6 m8 (IntKind.wrap .i64 (i9 + 1)) w14))) (fun ch w => R (.panicked ch) w))) (R (.returned (.int .i64 0)) w11))))) :
    Calls Tryz.prog 44 #[.pointer d1, .agg #[.slice m3a m3n m3c]] w R :=
  D_calls A_ref21_Write mixed Tryz.func44 rfl (Nat.le_of_ble_eq_true (by kernel_rfl)) (by kernel_rfl) (Eq.mp (by kernel_rfl) h)
/-- (*quayside/quaysideref19.Disk).Crash -/
abbrev F_ref19_Disk_Crash : Nat := 45
def A_ref19_Disk_Crash : Ann := ⟨[(2, [(4, .slice none 0 0), (5, .int .i64 0)])], [], [], [], []⟩
theorem L_ref19_Disk_Crash {d1 : Option Addr} {keep2 : Int} {w : World} {R : Ending → World → Prop}
    (h : (∃ I3 : Nat → Option Addr → Nat → Nat → Int → World → Prop, (∃ m4, I3 m4 none 0 0 0 w) ∧ ∀ (m4 : Nat) (out6a : Option Addr) (out6n : Nat) (out6c : Nat) (i7 : Int) (B8 : Nat → Value) (w9 : World), I3 m4 out6a out6n out6c i7 w9 → (∃ b10 o11, d1 = some ⟨b10, o11, none⟩ ∧
      (∃ (t12a : Option Addr) (t12n : Nat) (t12c : Nat), w9.cell? ⟨b10, o11 + 2, none⟩ = some (.slice t12a t12n t12c) ∧ PIf (decide ((i7 : Int) < ((t12n : Nat) : Int))) ((∃ b13 o14, d1 = some ⟨b13, o14, none⟩ ∧
      (∃ (t15a : Option Addr) (t15n : Nat) (t15c : Nat), w9.cell? ⟨b13, o14 + 2, none⟩ = some (.slice t15a t15n t15c) ∧ (∃ b16 o17, t15a = some ⟨b16, o17, none⟩ ∧
      (0 : Int) ≤ i7 ∧ i7 < ((t15n : Nat) : Int) ∧ (∃ (t18 : ByteArray), ∃ (t19a : Option Addr) (t19n : Nat) (t19c : Nat), ∃ (t20 : Int), ∃ (t21 : Bool), w9.cell? ⟨b16, o17 + Int.toNat i7 * 4, none⟩ = some (.string t18) ∧
      w9.cell? ⟨b16, o17 + Int.toNat i7 * 4 + 1, none⟩ = some (.slice t19a t19n t19c) ∧ w9.cell? ⟨b16, o17 + Int.toNat i7 * 4 + 2, none⟩ = some (.int .i64 t20) ∧
      w9.cell? ⟨b16, o17 + Int.toNat i7 * 4 + 3, none⟩ = some (.bool t21) ∧ PA w9 (.cells #[.string (⟨#[]⟩ : ByteArray), .slice none 0 0, .int .i64 0, .bool false] 96) fun w22 =>
      PS w22 ⟨w9.heap.size, 0, none⟩ (.string t18) fun w23 => PS w23 ⟨w9.heap.size, 0 + 1, none⟩ (.slice t19a t19n t19c) fun w24 => PS w24 ⟨w9.heap.size, 0 + 2, none⟩ (.int .i64 t20) fun w25 =>
      PS w25 ⟨w9.heap.size, 0 + 3, none⟩ (.bool t21) fun w26 => (∃ (t27 : Bool), w26.cell? ⟨w9.heap.size, 0 + 3, none⟩ = some (.bool t27) ∧ PIf t27 ((∃ (t28a : Option Addr) (t28n : Nat) (t28c : Nat), w26.cell? ⟨w9.heap.size, 0 + 1, none⟩ = some (.slice t28a t28n t28c) ∧
      (∃ (t29 : Int), w26.cell? ⟨w9.heap.size, 0 + 2, none⟩ = some (.int .i64 t29) ∧ (∃ (t30a : Option Addr) (t30n : Nat) (t30c : Nat), w26.cell? ⟨w9.heap.size, 0 + 1, none⟩ = some (.slice t30a t30n t30c) ∧
      (∃ (t31 : Int), w26.cell? ⟨w9.heap.size, 0 + 2, none⟩ = some (.int .i64 t31) ∧ ((0 : Int) ≤ (IntKind.wrap .i64 (t29 + (if (if (IntKind.wrap .i64 (((t30n : Nat) : Int) - t31)) < keep2 then (IntKind.wrap .i64 (((t30n : Nat) : Int) - t31)) else keep2) > 0 then (if (IntKind.wrap .i64 (((t30n : Nat) : Int) - t31)) < keep2 then (IntKind.wrap .i64 (((t30n : Nat) : Int) - t31)) else keep2) else 0))) ∧
      ((IntKind.wrap .i64 (t29 + (if (if (IntKind.wrap .i64 (((t30n : Nat) : Int) - t31)) < keep2 then (IntKind.wrap .i64 (((t30n : Nat) : Int) - t31)) else keep2) > 0 then (if (IntKind.wrap .i64 (((t30n : Nat) : Int) - t31)) < keep2 then (IntKind.wrap .i64 (((t30n : Nat) : Int) - t31)) else keep2) else 0))) : Int) ≤ ((t28c : Nat) : Int) ∧
      PC Tryz.prog 97 #[.slice t28a (Int.toNat (IntKind.wrap .i64 (t29 + (if (if (IntKind.wrap .i64 (((t30n : Nat) : Int) - t31)) < keep2 then (IntKind.wrap .i64 (((t30n : Nat) : Int) - t31)) else keep2) > 0 then (if (IntKind.wrap .i64 (((t30n : Nat) : Int) - t31)) < keep2 then (IntKind.wrap .i64 (((t30n : Nat) : Int) - t31)) else keep2) else 0)))) t28c] w26 (fun v32 w33 =>
      ∃ (t34a : Option Addr) (t34n : Nat) (t34c : Nat), v32 = .slice t34a t34n t34c ∧ PS w33 ⟨w9.heap.size, 0 + 1, none⟩ (.slice t34a t34n t34c) fun w35 => (∃ (t36a : Option Addr) (t36n : Nat) (t36c : Nat), w35.cell? ⟨w9.heap.size, 0 + 1, none⟩ = some (.slice t36a t36n t36c) ∧
      PS w35 ⟨w9.heap.size, 0 + 2, none⟩ (.int .i64 ((t36n : Nat) : Int)) fun w37 => (∃ (t38 : ByteArray), ∃ (t39a : Option Addr) (t39n : Nat) (t39c : Nat), ∃ (t40 : Int), ∃ (t41 : Bool), w37.cell? ⟨w9.heap.size, 0, none⟩ = some (.string t38) ∧
      w37.cell? ⟨w9.heap.size, 0 + 1, none⟩ = some (.slice t39a t39n t39c) ∧ w37.cell? ⟨w9.heap.size, 0 + 2, none⟩ = some (.int .i64 t40) ∧ w37.cell? ⟨w9.heap.size, 0 + 3, none⟩ = some (.bool t41) ∧
      PA w37 (.cells #[.string t38, .slice t39a t39n t39c, .int .i64 t40, .bool t41] 96) fun w42 => PRun Tryz.prog (Builtin.append_ #[81, 81] 81 #[.slice out6a out6n out6c, .slice (some ⟨w37.heap.size, 0, none⟩) 1 1]) w42 (fun v43 w44 =>
      ∃ (t45a : Option Addr) (t45n : Nat) (t45c : Nat), v43 = .slice t45a t45n t45c ∧ (∃ m5, m5 < m4 ∧ I3 m5 t45a t45n t45c (IntKind.wrap .i64 (i7 + 1)) w44)) (fun pv w =>
      R (.panicked [{ v := pv, recovered := false }]) w)))) (fun ch w => R (.panicked ch) w))))))) ((∃ m5, m5 < m4 ∧ I3 m5 out6a out6n out6c (IntKind.wrap .i64 (i7 + 1)) w26)))))))) ((∃ b46 o47, d1 = some ⟨b46, o47, none⟩ ∧
      PS w9 ⟨b46, o47 + 2, none⟩ (.slice out6a out6n out6c) fun w48 => (∃ b49 o50, d1 = some ⟨b49, o50, none⟩ ∧ PS w48 ⟨b49, o50 + 1, none⟩ (.int .i64 (-1)) fun w51 =>
      (∃ b52 o53, d1 = some ⟨b52, o53, none⟩ ∧ PS w51 ⟨b52, o53 + 3, none⟩ (.bool false) fun w54 => R (.returned (.tuple #[])) w54)))))))) :
    Calls Tryz.prog 45 #[.pointer d1, .int .i64 keep2] w R :=
  D_calls A_ref19_Disk_Crash mixed Tryz.func45 rfl (Nat.le_of_ble_eq_true (by kernel_rfl)) (by kernel_rfl) (Eq.mp (by kernel_rfl) h)
/-- quayside/segment.Number -/
abbrev F_segment_Number : Nat := 46
def A_segment_Number : Ann := ⟨[(6, [(6, .int .i64 0)])], [], [], [], []⟩
theorem L_segment_Number {name1 : ByteArray} {w : World} {R : Ending → World → Prop}
    (h : PC Tryz.prog 98 #[.string name1, .string (⟨#[115, 101, 103, 46]⟩ : ByteArray)] w (fun v2 w3 => ∃ (t4 : ByteArray), ∃ (t5 : Bool), v2 = .tuple #[.string t4, .bool t5] ∧
      PIf (!t5) (R (.returned (.tuple #[.int .i64 0, .bool false])) w3) (PIf (decide ((((ByteArray.size t4 : Nat) : Int) : Int) > 12)) (R (.returned (.tuple #[.int .i64 0, .bool false])) w3) (PRun Tryz.prog (Instr.range 9 (.string t4)) w3 (fun v6 w7 =>
      (∃ I8 : Nat → Int → World → Prop, (∃ m9, I8 m9 0 w7) ∧ ∀ (m9 : Nat) (no11 : Int) (B12 : Nat → Value) (w13 : World), I8 m9 no11 w13 → PRun Tryz.prog (Instr.next v6 true 0) w13 (fun v14 w15 =>
      (v14 = .tuple #[.bool false] ∧ PC Tryz.prog 12 #[.int .i64 no11] w15 (fun v16 w17 => ∃ (t18 : ByteArray), v16 = .string t18 ∧ PIf (!((ByteArray.toList t18) == (ByteArray.toList name1))) (R (.returned (.tuple #[.int .i64 0, .bool false])) w17) (R (.returned (.tuple #[.int .i64 no11, .bool true])) w17)) (fun ch w =>
      R (.panicked ch) w)) ∨ (∃ i19 r20, v14 = .tuple #[.bool true, .int .i64 i19, .int .i32 r20] ∧ PIf (decide ((r20 : Int) < 48)) (R (.returned (.tuple #[.int .i64 0, .bool false])) w15) (PIf (decide ((r20 : Int) > 57)) (R (.returned (.tuple #[.int .i64 0, .bool false])) w15) ((∃ m10, m10 < m9 ∧
      I8 m10 (IntKind.wrap .i64 ((IntKind.wrap .i64 (10 * no11)) + (IntKind.wrap .i64 (IntKind.wrap .i32 (r20 - 48))))) w15))))) (fun pv w => R (.panicked [{ v := pv, recovered := false }]) w))) (fun pv w =>
      R (.panicked [{ v := pv, recovered := false }]) w)))) (fun ch w => R (.panicked ch) w)) :
    Calls Tryz.prog 46 #[.string name1] w R :=
  D_calls A_segment_Number mixed Tryz.func46 rfl (Nat.le_of_ble_eq_true (by kernel_rfl)) (by kernel_rfl) (Eq.mp (by kernel_rfl) h)
/-- (*quayside/vdisk.Disk).write -/
abbrev F_vdisk_Disk_write : Nat := 47
def A_vdisk_Disk_write : Ann := ⟨[], [(4, [])], [], [], []⟩
theorem L_vdisk_Disk_write {d1 : Option Addr} {f2g : FuncId} {f2i : Array Value} {f2c : Array Value} {w : World} {R : Ending → World → Prop}
    (h : (∃ J3 : World → Prop, ((∃ b4 o5, d1 = some ⟨b4, o5, none⟩ ∧ (∃ (t6 : Bool), w.cell? ⟨b4, o5 + 4, none⟩ = some (.bool t6) ∧ PIf t6 ((∃ b7 o8, d1 = some ⟨b7, o8, none⟩ ∧
      PS w ⟨b7, o8 + 4, none⟩ (.bool true) fun w9 => (∃ b10 o11, d1 = some ⟨b10, o11, none⟩ ∧ (∃ (t12 : Bool), w9.cell? ⟨b10, o11 + 4, none⟩ = some (.bool t12) ∧
      PIf t12 (R (.returned (.int .i64 15)) w9) (J3  w9))))) ((∃ b13 o14, d1 = some ⟨b13, o14, none⟩ ∧ (∃ (t15 : Bool), w.cell? ⟨b13, o14 + 2, none⟩ = some (.bool t15) ∧
      PIf t15 ((∃ b16 o17, d1 = some ⟨b16, o17, none⟩ ∧ (∃ (t18 : Int), w.cell? ⟨b16, o17 + 3, none⟩ = some (.int .i64 t18) ∧ (∃ b19 o20, d1 = some ⟨b19, o20, none⟩ ∧
      PS w ⟨b19, o20 + 4, none⟩ (.bool ((t18 : Int) == 0)) fun w21 => (∃ b22 o23, d1 = some ⟨b22, o23, none⟩ ∧ (∃ (t24 : Bool), w21.cell? ⟨b22, o23 + 4, none⟩ = some (.bool t24) ∧
      PIf t24 (R (.returned (.int .i64 15)) w21) (J3  w21))))))) ((∃ b25 o26, d1 = some ⟨b25, o26, none⟩ ∧ PS w ⟨b25, o26 + 4, none⟩ (.bool false) fun w27 =>
      (∃ b28 o29, d1 = some ⟨b28, o29, none⟩ ∧ (∃ (t30 : Bool), w27.cell? ⟨b28, o29 + 4, none⟩ = some (.bool t30) ∧ PIf t30 (R (.returned (.int .i64 15)) w27) (J3  w27))))))))))) ∧
      ∀  (B31 : Nat → Value) (w32 : World), J3  w32 → (∃ b33 o34, d1 = some ⟨b33, o34, none⟩ ∧ (∃ (t35 : Bool), w32.cell? ⟨b33, o34 + 2, none⟩ = some (.bool t35) ∧
      PIf t35 ((∃ b36 o37, d1 = some ⟨b36, o37, none⟩ ∧ (∃ (t38 : Int), w32.cell? ⟨b36, o37 + 3, none⟩ = some (.int .i64 t38) ∧ (∃ b39 o40, d1 = some ⟨b39, o40, none⟩ ∧
      PS w32 ⟨b39, o40 + 3, none⟩ (.int .i64 (IntKind.wrap .i64 (t38 - 1))) fun w41 => (∃ g44 fi45 ca46, (.func (.func f2g) f2i f2c : Value) = .func (.func g44) fi45 ca46 ∧
      enters Tryz.prog g44 = true ∧ PC Tryz.prog g44 (fi45 ++ #[] ++ ca46) w41 (fun v42 w43 => ∃ (t47 : Int), v42 = .int .i64 t47 ∧ R (.returned (.int .i64 t47)) w43) (fun ch w =>
      R (.panicked ch) w)))))) ((∃ g50 fi51 ca52, (.func (.func f2g) f2i f2c : Value) = .func (.func g50) fi51 ca52 ∧ enters Tryz.prog g50 = true ∧ PC Tryz.prog g50 (fi51 ++ #[] ++ ca52) w32 (fun v48 w49 =>
      ∃ (t53 : Int), v48 = .int .i64 t53 ∧ R (.returned (.int .i64 t53)) w49) (fun ch w => R (.panicked ch) w))))))) :
    Calls Tryz.prog 47 #[.pointer d1, .func (.func f2g) f2i f2c] w R :=
  D_calls A_vdisk_Disk_write mixed Tryz.func47 rfl (Nat.le_of_ble_eq_true (by kernel_rfl)) (by kernel_rfl) (Eq.mp (by kernel_rfl) h)
/-- (*quayside/vdisk.Disk).Create$1 -/
abbrev F_vdisk_Disk_Create_1 : Nat := 48
def A_vdisk_Disk_Create_1 : Ann := ⟨[], [], [7], [], []⟩
theorem L_vdisk_Disk_Create_1 {b1 : Nat} {o2 : Nat} {b3 : Nat} {o4 : Nat} {w : World} {R : Ending → World → Prop}
    (h : (∃ (t5 : ByteArray), w.cell? ⟨b1, o2, none⟩ = some (.string t5) ∧ PC Tryz.prog 49 #[.string t5] w (fun v6 w7 => ∃ (t8 : Bool), v6 = .bool t8 ∧ PIf (!t8) (R (.returned (.int .i64 1)) w7) ((∃ (t10 : Option Addr), w7.cell? ⟨b3, o4, none⟩ = some (.pointer t10) ∧
      (∃ b11 o12, t10 = some ⟨b11, o12, none⟩ ∧ (∃ (t13 : Option Nat), w7.cell? ⟨b11, o12 + 1, none⟩ = some (.map t13) ∧ (∃ (t14 : ByteArray), w7.cell? ⟨b1, o2, none⟩ = some (.string t14) ∧
      (∃ (t15 : Option Addr), (∀ m, (Instr.lookup 78 (.map t13) (.string t14) false).run Tryz.prog (w7.drewN m) = .ok (.pointer t15) (w7.drewN m)) ∧ (∃ (t16 : Bool), (∀ m, (do eqGuard .neq 86 (.tmp 13) (.const (.pointer none)) (.pointer t15) (.pointer none); binOp .neq 86 (.pointer t15) (.pointer none)).run Tryz.prog (w7.drewN m) = .ok (.bool t16) (w7.drewN m)) ∧
      (∀ w9, Drew w7 w9 → PIf t16 (R (.returned (.int .i64 16)) w9) ((∃ (t17 : Option Addr), w9.cell? ⟨b3, o4, none⟩ = some (.pointer t17) ∧ (∃ b18 o19, t17 = some ⟨b18, o19, none⟩ ∧
      (∃ (t20 : Option Nat), w9.cell? ⟨b18, o19 + 1, none⟩ = some (.map t20) ∧ PRun Tryz.prog (Builtin.len_ #[78] 3 #[.map t20]) w9 (fun v21 w22 => ∃ (t23 : Int), v21 = .int .i64 t23 ∧
      PIf (decide ((t23 : Int) ≥ 64)) (R (.returned (.int .i64 12)) w22) ((∀ w25, Drew w22 w25 → ∃ S26 : Nat → Prop, (¬ S26 b3 ∧ (∃ (t27 : Option Addr), w25.cell? ⟨b3, o4, none⟩ = some (.pointer t27) ∧
      (∃ b28 o29, t27 = some ⟨b28, o29, none⟩ ∧ (¬ S26 b28 ∧ (∃ (t30 : Option Nat), w25.cell? ⟨b28, o29 + 1, none⟩ = some (.map t30) ∧ (¬ S26 b1 ∧ (∃ (t31 : ByteArray), w25.cell? ⟨b1, o2, none⟩ = some (.string t31) ∧
      PA w25 (.cells #[.slice none 0 0, .int .i64 0, .bool false] 88) fun w32 => (Keep S26 w25 w32 ∧ PRunU Tryz.prog (Instr.mapUpdate 78 (.map t30) (.string t31) (.pointer (some ⟨w25.heap.size, 0, none⟩))) w32 (fun w33 =>
      (Keep S26 w32 w33 ∧ R (.returned (.int .i64 0)) w33)) (fun pv wpp => ∀ (_ : Base) (_ : Bnd), R (.panicked [{ v := pv, recovered := false }]) wpp)))))))))))) (fun pv w =>
      R (.panicked [{ v := pv, recovered := false }]) w)))))))))))))) (fun ch w => R (.panicked ch) w))) :
    Calls Tryz.prog 48 #[.pointer (some ⟨b1, o2, none⟩), .pointer (some ⟨b3, o4, none⟩)] w R :=
  D_calls A_vdisk_Disk_Create_1 mixed Tryz.func48 rfl (Nat.le_of_ble_eq_true (by kernel_rfl)) (by kernel_rfl) (Eq.mp (by kernel_rfl) h)
/-- quayside/vdisk.isName -/
abbrev F_vdisk_isName : Nat := 49
def A_vdisk_isName : Ann := ⟨[], [], [], [], []⟩
theorem L_vdisk_isName {s1 : ByteArray} {w : World} {R : Ending → World → Prop}
    (h : PIf (!((ByteArray.toList s1) == (ByteArray.toList (⟨#[]⟩ : ByteArray)))) (PIf (decide ((((ByteArray.size s1 : Nat) : Int) : Int) ≤ 16)) (PC Tryz.prog 101 #[.string s1, .func (.func 99) #[] #[]] w (fun v2 w3 =>
      ∃ (t4 : Bool), v2 = .bool t4 ∧ R (.returned (.bool (!t4))) w3) (fun ch w => R (.panicked ch) w)) (R (.returned (.bool false)) w)) (R (.returned (.bool false)) w)) :
    Calls Tryz.prog 49 #[.string s1] w R :=
  D_calls A_vdisk_isName mixed Tryz.func49 rfl (Nat.le_of_ble_eq_true (by kernel_rfl)) (by kernel_rfl) (Eq.mp (by kernel_rfl) h)
/-- (*quayside/vdisk.Disk).on -/
abbrev F_vdisk_Disk_on : Nat := 51
def A_vdisk_Disk_on : Ann := ⟨[], [], [], [], []⟩
theorem L_vdisk_Disk_on {d1 : Option Addr} {name2 : ByteArray} {f3g : FuncId} {f3i : Array Value} {f3c : Array Value} {w : World} {R : Ending → World → Prop}
    (h : PA w (.cells #[.pointer d1] 26) fun w4 => PA w4 (.cells #[.string name2] 9) fun w5 => PA w5 (.cells #[.func (.func f3g) f3i f3c] 92) fun w6 => (∃ (t7 : Option Addr), w6.cell? ⟨w.heap.size, 0, none⟩ = some (.pointer t7) ∧
      PC Tryz.prog 47 #[.pointer t7, .func (.func 103) #[] #[.pointer (some ⟨w.heap.size, 0, none⟩), .pointer (some ⟨w4.heap.size, 0, none⟩), .pointer (some ⟨w5.heap.size, 0, none⟩)]] w6 (fun v8 w9 =>
      ∃ (t10 : Int), v8 = .int .i64 t10 ∧ R (.returned (.int .i64 t10)) w9) (fun ch w => R (.panicked ch) w))) :
    Calls Tryz.prog 51 #[.pointer d1, .string name2, .func (.func f3g) f3i f3c] w R :=
  D_calls A_vdisk_Disk_on mixed Tryz.func51 rfl (Nat.le_of_ble_eq_true (by kernel_rfl)) (by kernel_rfl) (Eq.mp (by kernel_rfl) h)
/-- (*quayside/vdisk.Disk).Append$1 -/
abbrev F_vdisk_Disk_Append_1 : Nat := 52
def A_vdisk_Disk_Append_1 : Ann := ⟨[], [], [1], [], [(3, ⟨[0, 0, 2, 4, 8, 0, 48, 127, 255, 383], [1023, 1023, 1021, 1019, 1015, 1023, 975, 1022, 895, 703], [0, 0, 0, 0, 1, 1, 2, 0, 0, 2]⟩)]⟩
theorem L_vdisk_Disk_Append_1 {f1 : Option Addr} {b2 : Nat} {o3 : Nat} {b4 : Nat} {o5 : Nat} {w : World} {R : Ending → World → Prop}
    (h : (∀ w7, Drew w w7 → ∃ S8 : Nat → Prop, (¬ S8 b2 ∧ (∃ (t9a : Option Addr) (t9n : Nat) (t9c : Nat), w7.cell? ⟨b2, o3, none⟩ = some (.slice t9a t9n t9c) ∧
      (∃ (t10 : Option Addr), w7.cell? ⟨b4, o5, none⟩ = some (.pointer t10) ∧ PC Tryz.prog 53 #[.pointer t10] w7 (fun v11 w12 => ∃ (t13 : Int), v11 = .int .i64 t13 ∧
      (Keep S8 w7 w12 ∧ PIf (decide ((((t9n : Nat) : Int) : Int) > t13)) (R (.returned (.int .i64 12)) w12) ((∀ w15, Drew w12 w15 → (∃ b16 o17, f1 = some ⟨b16, o17, none⟩ ∧
      (∃ (t18a : Option Addr) (t18n : Nat) (t18c : Nat), w15.cell? ⟨b16, o17, none⟩ = some (.slice t18a t18n t18c) ∧ (∃ (t19a : Option Addr) (t19n : Nat) (t19c : Nat), w15.cell? ⟨b2, o3, none⟩ = some (.slice t19a t19n t19c) ∧
      PRun Tryz.prog (Builtin.append_ #[22, 22] 22 #[.slice t18a t18n t18c, .slice t19a t19n t19c]) w15 (fun v20 w21 => ∃ (t22a : Option Addr) (t22n : Nat) (t22c : Nat), v20 = .slice t22a t22n t22c ∧
      (∃ b23 o24, f1 = some ⟨b23, o24, none⟩ ∧ PS w21 ⟨b23, o24, none⟩ (.slice t22a t22n t22c) fun w25 => R (.returned (.int .i64 0)) w25)) (fun pv wpp => ∀ (_ : Base) (_ : Bnd), R (.panicked [{ v := pv, recovered := false }]) wpp)))))))) (fun ch wpp =>
      ∀ (_ : Base) (_ : Bnd), R (.panicked ch) wpp)))))) :
    Calls Tryz.prog 52 #[.pointer f1, .pointer (some ⟨b2, o3, none⟩), .pointer (some ⟨b4, o5, none⟩)] w R :=
  D_calls A_vdisk_Disk_Append_1 mixed Tryz.func52 rfl (Nat.le_of_ble_eq_true (by kernel_rfl)) (by kernel_rfl) (Eq.mp (by kernel_rfl) h)
/-- (*quayside/vdisk.Disk).Room -/
abbrev F_vdisk_Disk_Room : Nat := 53
def A_vdisk_Disk_Room : Ann := ⟨[(3, [(3, .int .i64 0)])], [], [], [], []⟩
theorem L_vdisk_Disk_Room {d1 : Option Addr} {w : World} {R : Ending → World → Prop}
    (h : (∃ b2 o3, d1 = some ⟨b2, o3, none⟩ ∧ (∃ (t4 : Int), w.cell? ⟨b2, o3, none⟩ = some (.int .i64 t4) ∧ (∃ b5 o6, d1 = some ⟨b5, o6, none⟩ ∧ (∃ (t7 : Option Nat), w.cell? ⟨b5, o6 + 1, none⟩ = some (.map t7) ∧
      PRun Tryz.prog (Instr.range 78 (.map t7)) w (fun v8 w9 => (∃ I10 : Nat → Int → World → Prop, (∃ m11, I10 m11 t4 w9) ∧ ∀ (m11 : Nat) (n13 : Int) (B14 : Nat → Value) (w15 : World), I10 m11 n13 w15 → PRun Tryz.prog (Instr.next v8 false 0) w15 (fun v16 w17 =>
      (v16 = .tuple #[.bool false] ∧ R (.returned (.int .i64 n13)) w17) ∨ (∃ k18 x19, v16 = .tuple #[.bool true, k18, x19] ∧ PRun Tryz.prog (Instr.entry v8) w17 (fun v20 w21 =>
      ∃ (k22 : Value), ∃ (x23 : Option Addr), v20 = .tuple #[k22, .pointer x23] ∧ (∃ b24 o25, x23 = some ⟨b24, o25, none⟩ ∧ (∃ (t26a : Option Addr) (t26n : Nat) (t26c : Nat), w21.cell? ⟨b24, o25, none⟩ = some (.slice t26a t26n t26c) ∧
      (∃ m12, m12 < m11 ∧ I10 m12 (IntKind.wrap .i64 (n13 - ((t26n : Nat) : Int))) w21)))) (fun pv w => R (.panicked [{ v := pv, recovered := false }]) w))) (fun pv w =>
      R (.panicked [{ v := pv, recovered := false }]) w))) (fun pv w => R (.panicked [{ v := pv, recovered := false }]) w)))))) :
    Calls Tryz.prog 53 #[.pointer d1] w R :=
  D_calls A_vdisk_Disk_Room mixed Tryz.func53 rfl (Nat.le_of_ble_eq_true (by kernel_rfl)) (by kernel_rfl) (Eq.mp (by kernel_rfl) h)
/-- (*quayside/quaysideref19.Disk).dies -/
abbrev F_ref19_Disk_dies : Nat := 54
def A_ref19_Disk_dies : Ann := ⟨[], [], [], [], []⟩
theorem L_ref19_Disk_dies {d1 : Option Addr} {w : World} {R : Ending → World → Prop}
    (h : (∃ b2 o3, d1 = some ⟨b2, o3, none⟩ ∧ (∃ (t4 : Bool), w.cell? ⟨b2, o3 + 3, none⟩ = some (.bool t4) ∧ PIf t4 (R (.returned (.bool true)) w) ((∃ b5 o6, d1 = some ⟨b5, o6, none⟩ ∧
      (∃ (t7 : Int), w.cell? ⟨b5, o6 + 1, none⟩ = some (.int .i64 t7) ∧ PIf ((t7 : Int) == 0) ((∃ b8 o9, d1 = some ⟨b8, o9, none⟩ ∧ PS w ⟨b8, o9 + 3, none⟩ (.bool true) fun w10 =>
      R (.returned (.bool true)) w10)) ((∃ b11 o12, d1 = some ⟨b11, o12, none⟩ ∧ (∃ (t13 : Int), w.cell? ⟨b11, o12 + 1, none⟩ = some (.int .i64 t13) ∧ PIf (decide ((t13 : Int) > 0)) ((∃ b14 o15, d1 = some ⟨b14, o15, none⟩ ∧
      (∃ (t16 : Int), w.cell? ⟨b14, o15 + 1, none⟩ = some (.int .i64 t16) ∧ (∃ b17 o18, d1 = some ⟨b17, o18, none⟩ ∧ PS w ⟨b17, o18 + 1, none⟩ (.int .i64 (IntKind.wrap .i64 (t16 - 1))) fun w19 =>
      R (.returned (.bool false)) w19)))) (R (.returned (.bool false)) w)))))))))) :
    Calls Tryz.prog 54 #[.pointer d1] w R :=
  D_calls A_ref19_Disk_dies mixed Tryz.func54 rfl (Nat.le_of_ble_eq_true (by kernel_rfl)) (by kernel_rfl) (Eq.mp (by kernel_rfl) h)
/-- quayside/quaysideref19.isName -/
abbrev F_ref19_isName : Nat := 55
def A_ref19_isName : Ann := ⟨[(2, [(3, .int .i64 0)])], [], [], [], []⟩
theorem L_ref19_isName {s1 : ByteArray} {w : World} {R : Ending → World → Prop}
    (h : (∃ I2 : Nat → Int → World → Prop, (∃ m3, I2 m3 0 w) ∧ ∀ (m3 : Nat) (i5 : Int) (B6 : Nat → Value) (w7 : World), I2 m3 i5 w7 → PIf (decide ((i5 : Int) < ((ByteArray.size s1 : Nat) : Int))) (((0 : Int) ≤ i5 ∧
      ∃ c8, s1[Int.toNat i5]? = some c8 ∧ PIf ((((c8.toNat : Nat) : Int) : Int) != 46) (PIf (decide ((((c8.toNat : Nat) : Int) : Int) < 48)) (PIf (decide ((((c8.toNat : Nat) : Int) : Int) < 97)) (R (.returned (.bool false)) w7) (PIf (decide ((((c8.toNat : Nat) : Int) : Int) > 122)) (R (.returned (.bool false)) w7) ((∃ m4, m4 < m3 ∧
      I2 m4 (IntKind.wrap .i64 (i5 + 1)) w7)))) (PIf (decide ((((c8.toNat : Nat) : Int) : Int) > 57)) (PIf (decide ((((c8.toNat : Nat) : Int) : Int) < 97)) (R (.returned (.bool false)) w7) (PIf (decide ((((c8.toNat : Nat) : Int) : Int) > 122)) (R (.returned (.bool false)) w7) ((∃ m4, m4 < m3 ∧
      I2 m4 (IntKind.wrap .i64 (i5 + 1)) w7)))) ((∃ m4, m4 < m3 ∧ I2 m4 (IntKind.wrap .i64 (i5 + 1)) w7)))) ((∃ m4, m4 < m3 ∧ I2 m4 (IntKind.wrap .i64 (i5 + 1)) w7)))) (PIf (decide ((((ByteArray.size s1 : Nat) : Int) : Int) ≥ 1)) (R (.returned (.bool (decide ((((ByteArray.size s1 : Nat) : Int) : Int) ≤ 16)))) w7) (R (.returned (.bool false)) w7)))) :
    Calls Tryz.prog 55 #[.string s1] w R :=
  D_calls A_ref19_isName mixed Tryz.func55 rfl (Nat.le_of_ble_eq_true (by kernel_rfl)) (by kernel_rfl) (Eq.mp (by kernel_rfl) h)
/-- (*quayside/quaysideref19.Disk).at -/
abbrev F_ref19_Disk_at : Nat := 56
def A_ref19_Disk_at : Ann := ⟨[(2, [(5, .int .i64 0)])], [], [], [], []⟩
theorem L_ref19_Disk_at {d1 : Option Addr} {name2 : ByteArray} {w : World} {R : Ending → World → Prop}
    (h : (∃ I3 : Nat → Int → World → Prop, (∃ m4, I3 m4 0 w) ∧ ∀ (m4 : Nat) (i6 : Int) (B7 : Nat → Value) (w8 : World), I3 m4 i6 w8 → (∃ b9 o10, d1 = some ⟨b9, o10, none⟩ ∧
      (∃ (t11a : Option Addr) (t11n : Nat) (t11c : Nat), w8.cell? ⟨b9, o10 + 2, none⟩ = some (.slice t11a t11n t11c) ∧ PIf (decide ((i6 : Int) < ((t11n : Nat) : Int))) ((∃ b12 o13, d1 = some ⟨b12, o13, none⟩ ∧
      (∃ (t14a : Option Addr) (t14n : Nat) (t14c : Nat), w8.cell? ⟨b12, o13 + 2, none⟩ = some (.slice t14a t14n t14c) ∧ (∃ b15 o16, t14a = some ⟨b15, o16, none⟩ ∧
      (0 : Int) ≤ i6 ∧ i6 < ((t14n : Nat) : Int) ∧ (∃ (t17 : ByteArray), w8.cell? ⟨b15, o16 + Int.toNat i6 * 4, none⟩ = some (.string t17) ∧ PIf ((ByteArray.toList t17) == (ByteArray.toList name2)) (R (.returned (.int .i64 i6)) w8) ((∃ m5, m5 < m4 ∧
      I3 m5 (IntKind.wrap .i64 (i6 + 1)) w8))))))) (R (.returned (.int .i64 (-1))) w8))))) :
    Calls Tryz.prog 56 #[.pointer d1, .string name2] w R :=
  D_calls A_ref19_Disk_at mixed Tryz.func56 rfl (Nat.le_of_ble_eq_true (by kernel_rfl)) (by kernel_rfl) (Eq.mp (by kernel_rfl) h)
/-- (*quayside/quaysideref19.Disk).lay -/
abbrev F_ref19_Disk_lay : Nat := 57
def A_ref19_Disk_lay : Ann := ⟨[(4, [(4, .slice none 0 0), (5, .bool false), (6, .int .i64 0)])], [(9, [(4, .slice none 0 0), (5, .bool false)])], [], [], []⟩
theorem L_ref19_Disk_lay {d1 : Option Addr} {f3 : ByteArray} {f4a : Option Addr} {f4n : Nat} {f4c : Nat} {f5 : Int} {f6 : Bool} {w : World} {R : Ending → World → Prop}
    (h : PA w (.cells #[.string f3, .slice f4a f4n f4c, .int .i64 f5, .bool f6] 96) fun w7 => (∃ I8 : Nat → Option Addr → Nat → Nat → Bool → Int → World → Prop, (∃ m9, I8 m9 none 0 0 false 0 w7) ∧
      ∀ (m9 : Nat) (out11a : Option Addr) (out11n : Nat) (out11c : Nat) (laid12 : Bool) (i13 : Int) (B14 : Nat → Value) (w15 : World), I8 m9 out11a out11n out11c laid12 i13 w15 → (∃ b16 o17, d1 = some ⟨b16, o17, none⟩ ∧
      (∃ (t18a : Option Addr) (t18n : Nat) (t18c : Nat), w15.cell? ⟨b16, o17 + 2, none⟩ = some (.slice t18a t18n t18c) ∧ PIf (decide ((i13 : Int) < ((t18n : Nat) : Int))) ((∃ J19 : Option Addr → Nat → Nat → Bool → World → Prop, (PIf (!laid12) ((∃ (t21 : ByteArray), w15.cell? ⟨w.heap.size, 0, none⟩ = some (.string t21) ∧
      (∃ b22 o23, d1 = some ⟨b22, o23, none⟩ ∧ (∃ (t24a : Option Addr) (t24n : Nat) (t24c : Nat), w15.cell? ⟨b22, o23 + 2, none⟩ = some (.slice t24a t24n t24c) ∧
      (∃ b25 o26, t24a = some ⟨b25, o26, none⟩ ∧ (0 : Int) ≤ i13 ∧ i13 < ((t24n : Nat) : Int) ∧ (∃ (t27 : ByteArray), w15.cell? ⟨b25, o26 + Int.toNat i13 * 4, none⟩ = some (.string t27) ∧
      (∀ w20, Drew w15 w20 → PIf (Op.bytesLess (ByteArray.toList t21) (ByteArray.toList t27)) ((∃ (t28 : ByteArray), ∃ (t29a : Option Addr) (t29n : Nat) (t29c : Nat), ∃ (t30 : Int), ∃ (t31 : Bool), w20.cell? ⟨w.heap.size, 0, none⟩ = some (.string t28) ∧
      w20.cell? ⟨w.heap.size, 0 + 1, none⟩ = some (.slice t29a t29n t29c) ∧ w20.cell? ⟨w.heap.size, 0 + 2, none⟩ = some (.int .i64 t30) ∧ w20.cell? ⟨w.heap.size, 0 + 3, none⟩ = some (.bool t31) ∧
      PA w20 (.cells #[.string t28, .slice t29a t29n t29c, .int .i64 t30, .bool t31] 96) fun w32 => PRun Tryz.prog (Builtin.append_ #[81, 81] 81 #[.slice out11a out11n out11c, .slice (some ⟨w20.heap.size, 0, none⟩) 1 1]) w32 (fun v33 w34 =>
      ∃ (t35a : Option Addr) (t35n : Nat) (t35c : Nat), v33 = .slice t35a t35n t35c ∧ J19 t35a t35n t35c true w34) (fun pv w => R (.panicked [{ v := pv, recovered := false }]) w))) (J19 out11a out11n out11c laid12 w20)))))))) ((∀ w20, Drew w15 w20 → J19 out11a out11n out11c laid12 w20))) ∧
      ∀ (out36a : Option Addr) (out36n : Nat) (out36c : Nat) (laid37 : Bool) (B38 : Nat → Value) (w39 : World), J19 out36a out36n out36c laid37 w39 → (∃ b41 o42, d1 = some ⟨b41, o42, none⟩ ∧
      (∃ (t43a : Option Addr) (t43n : Nat) (t43c : Nat), w39.cell? ⟨b41, o42 + 2, none⟩ = some (.slice t43a t43n t43c) ∧ (∃ b44 o45, t43a = some ⟨b44, o45, none⟩ ∧
      (0 : Int) ≤ i13 ∧ i13 < ((t43n : Nat) : Int) ∧ (∃ (t46 : ByteArray), w39.cell? ⟨b44, o45 + Int.toNat i13 * 4, none⟩ = some (.string t46) ∧ (∃ (t47 : ByteArray), w39.cell? ⟨w.heap.size, 0, none⟩ = some (.string t47) ∧
      (∀ w40, Drew w39 w40 → PIf (!((ByteArray.toList t46) == (ByteArray.toList t47))) ((∃ b48 o49, d1 = some ⟨b48, o49, none⟩ ∧ (∃ (t50a : Option Addr) (t50n : Nat) (t50c : Nat), w40.cell? ⟨b48, o49 + 2, none⟩ = some (.slice t50a t50n t50c) ∧
      (∃ b51 o52, t50a = some ⟨b51, o52, none⟩ ∧ (0 : Int) ≤ i13 ∧ i13 < ((t50n : Nat) : Int) ∧ (∃ (t53 : ByteArray), ∃ (t54a : Option Addr) (t54n : Nat) (t54c : Nat), ∃ (t55 : Int), ∃ (t56 : Bool), w40.cell? ⟨b51, o52 + Int.toNat i13 * 4, none⟩ = some (.string t53) ∧
      w40.cell? ⟨b51, o52 + Int.toNat i13 * 4 + 1, none⟩ = some (.slice t54a t54n t54c) ∧ w40.cell? ⟨b51, o52 + Int.toNat i13 * 4 + 2, none⟩ = some (.int .i64 t55) ∧
      w40.cell? ⟨b51, o52 + Int.toNat i13 * 4 + 3, none⟩ = some (.bool t56) ∧ PA w40 (.cells #[.string t53, .slice t54a t54n t54c, .int .i64 t55, .bool t56] 96) fun w57 =>
      PRun Tryz.prog (Builtin.append_ #[81, 81] 81 #[.slice out36a out36n out36c, .slice (some ⟨w40.heap.size, 0, none⟩) 1 1]) w57 (fun v58 w59 => ∃ (t60a : Option Addr) (t60n : Nat) (t60c : Nat), v58 = .slice t60a t60n t60c ∧
      (∃ m10, m10 < m9 ∧ I8 m10 t60a t60n t60c laid37 (IntKind.wrap .i64 (i13 + 1)) w59)) (fun pv w => R (.panicked [{ v := pv, recovered := false }]) w)))))) ((∃ m10, m10 < m9 ∧
      I8 m10 out36a out36n out36c laid37 (IntKind.wrap .i64 (i13 + 1)) w40)))))))))) (PIf (!laid12) ((∃ (t61 : ByteArray), ∃ (t62a : Option Addr) (t62n : Nat) (t62c : Nat), ∃ (t63 : Int), ∃ (t64 : Bool), w15.cell? ⟨w.heap.size, 0, none⟩ = some (.string t61) ∧
      w15.cell? ⟨w.heap.size, 0 + 1, none⟩ = some (.slice t62a t62n t62c) ∧ w15.cell? ⟨w.heap.size, 0 + 2, none⟩ = some (.int .i64 t63) ∧ w15.cell? ⟨w.heap.size, 0 + 3, none⟩ = some (.bool t64) ∧
      PA w15 (.cells #[.string t61, .slice t62a t62n t62c, .int .i64 t63, .bool t64] 96) fun w65 => PRun Tryz.prog (Builtin.append_ #[81, 81] 81 #[.slice out11a out11n out11c, .slice (some ⟨w15.heap.size, 0, none⟩) 1 1]) w65 (fun v66 w67 =>
      ∃ (t68a : Option Addr) (t68n : Nat) (t68c : Nat), v66 = .slice t68a t68n t68c ∧ (∃ b69 o70, d1 = some ⟨b69, o70, none⟩ ∧ PS w67 ⟨b69, o70 + 2, none⟩ (.slice t68a t68n t68c) fun w71 =>
      R (.returned (.tuple #[])) w71)) (fun pv w => R (.panicked [{ v := pv, recovered := false }]) w))) ((∃ b72 o73, d1 = some ⟨b72, o73, none⟩ ∧ PS w15 ⟨b72, o73 + 2, none⟩ (.slice out11a out11n out11c) fun w74 =>
      R (.returned (.tuple #[])) w74))))))) :
    Calls Tryz.prog 57 #[.pointer d1, .agg #[.string f3, .slice f4a f4n f4c, .int .i64 f5, .bool f6]] w R :=
  D_calls A_ref19_Disk_lay mixed Tryz.func57 rfl (Nat.le_of_ble_eq_true (by kernel_rfl)) (by kernel_rfl) (Eq.mp (by kernel_rfl) h)
/-- (*quayside/quaysideref19.Disk).Room -/
abbrev F_ref19_Disk_Room : Nat := 58
def A_ref19_Disk_Room : Ann := ⟨[(3, [(3, .int .i64 0), (4, .int .i64 0)])], [], [], [], []⟩
theorem L_ref19_Disk_Room {d1 : Option Addr} {w : World} {R : Ending → World → Prop}
    (h : (∃ b2 o3, d1 = some ⟨b2, o3, none⟩ ∧ (∃ (t4 : Int), w.cell? ⟨b2, o3, none⟩ = some (.int .i64 t4) ∧ (∃ I5 : Nat → Int → Int → World → Prop, (∃ m6, I5 m6 t4 0 w) ∧
      ∀ (m6 : Nat) (n8 : Int) (i9 : Int) (B10 : Nat → Value) (w11 : World), I5 m6 n8 i9 w11 → (∃ b12 o13, d1 = some ⟨b12, o13, none⟩ ∧ (∃ (t14a : Option Addr) (t14n : Nat) (t14c : Nat), w11.cell? ⟨b12, o13 + 2, none⟩ = some (.slice t14a t14n t14c) ∧
      PIf (decide ((i9 : Int) < ((t14n : Nat) : Int))) ((∃ b15 o16, d1 = some ⟨b15, o16, none⟩ ∧ (∃ (t17a : Option Addr) (t17n : Nat) (t17c : Nat), w11.cell? ⟨b15, o16 + 2, none⟩ = some (.slice t17a t17n t17c) ∧
      (∃ b18 o19, t17a = some ⟨b18, o19, none⟩ ∧ (0 : Int) ≤ i9 ∧ i9 < ((t17n : Nat) : Int) ∧ (∃ (t20a : Option Addr) (t20n : Nat) (t20c : Nat), w11.cell? ⟨b18, o19 + Int.toNat i9 * 4 + 1, none⟩ = some (.slice t20a t20n t20c) ∧
      (∃ m7, m7 < m6 ∧ I5 m7 (IntKind.wrap .i64 (n8 - ((t20n : Nat) : Int))) (IntKind.wrap .i64 (i9 + 1)) w11)))))) (R (.returned (.int .i64 n8)) w11))))))) :
    Calls Tryz.prog 58 #[.pointer d1] w R :=
  D_calls A_ref19_Disk_Room mixed Tryz.func58 rfl (Nat.le_of_ble_eq_true (by kernel_rfl)) (by kernel_rfl) (Eq.mp (by kernel_rfl) h)
/-- quayside/frame.Get -/
abbrev F_frame_Get : Nat := 59
def A_frame_Get : Ann := ⟨[], [], [4], [], [(4, ⟨[0, 1, 2, 4, 0, 0, 32, 80, 128, 264, 0, 1024, 2048, 1023, 16383, 32767], [65535, 65534, 65533, 65531, 65535, 65535, 65503, 65455, 65407, 65271, 65535, 64511, 63487, 65023, 61439, 65535], [0, 0, 1, 0, 0, 0, 0, 0, 2, 0, 0, 0, 0, 2, 0, 0]⟩)]⟩
theorem L_frame_Get {b1a : Option Addr} {b1n : Nat} {b1c : Nat} {w : World} {R : Ending → World → Prop}
    (h : PA w (.cells #[.int .i64 0, .slice none 0 0] 98) fun w2 => PC Tryz.prog 104 #[.slice b1a b1n b1c] w2 (fun v3 w4 => ∃ (t5 : Int), ∃ (t6 : Int), v3 = .tuple #[.int .i64 t5, .int .i64 t6] ∧
      PIf ((t6 : Int) != 0) (PS w4 ⟨w.heap.size, 0, none⟩ (.int .i64 0) fun w7 => PS w7 ⟨w.heap.size, 0 + 1, none⟩ (.slice none 0 0) fun w8 => (∃ (r9 : Int), ∃ (r10a : Option Addr) (r10n : Nat) (r10c : Nat), w8.cell? ⟨w.heap.size, 0, none⟩ = some (.int .i64 r9) ∧
      w8.cell? ⟨w.heap.size, 0 + 1, none⟩ = some (.slice r10a r10n r10c) ∧ R (.returned (.tuple #[.agg #[.int .i64 r9, .slice r10a r10n r10c], .int .i64 0, .int .i64 t6])) w8)) ((∀ w12, Drew w4 w12 → ∃ S13 : Nat → Prop, (∃ b14 o15, b1a = some ⟨b14, o15, none⟩ ∧
      (0 : Int) ≤ 0 ∧ 0 < ((b1n : Nat) : Int) ∧ (¬ S13 b14 ∧ (∃ (t16 : Int), w12.cell? ⟨b14, o15 + Int.toNat 0, none⟩ = some (.int .u8 t16) ∧ ((0 : Int) ≤ 4 ∧
      (4 : Int) ≤ (IntKind.wrap .i64 (4 + t5)) ∧ ((IntKind.wrap .i64 (4 + t5)) : Int) ≤ ((b1c : Nat) : Int) ∧ PC Tryz.prog 87 #[.slice (subA b1a (Int.toNat 4) b1c 1) (Int.toNat (IntKind.wrap .i64 (4 + t5)) - Int.toNat 4) (b1c - Int.toNat 4)] w12 (fun v17 w18 =>
      ∃ (t19a : Option Addr) (t19n : Nat) (t19c : Nat), v17 = .slice t19a t19n t19c ∧ (Keep S13 w12 w18 ∧ PS w18 ⟨w.heap.size, 0, none⟩ (.int .i64 (IntKind.wrap .i64 t16)) fun w20 =>
      PS w20 ⟨w.heap.size, 0 + 1, none⟩ (.slice t19a t19n t19c) fun w21 => (Keep S13 w18 w21 ∧ (∃ (r22 : Int), ∃ (r23a : Option Addr) (r23n : Nat) (r23c : Nat), w21.cell? ⟨w.heap.size, 0, none⟩ = some (.int .i64 r22) ∧
      w21.cell? ⟨w.heap.size, 0 + 1, none⟩ = some (.slice r23a r23n r23c) ∧ R (.returned (.tuple #[.agg #[.int .i64 r22, .slice r23a r23n r23c], .int .i64 (IntKind.wrap .i64 ((IntKind.wrap .i64 (4 + t5)) + 5)), .int .i64 0])) w21)))) (fun ch wpp =>
      ∀ (_ : Base) (_ : Bnd), R (.panicked ch) wpp)))))))) (fun ch w => R (.panicked ch) w)) :
    Calls Tryz.prog 59 #[.slice b1a b1n b1c] w R :=
  D_calls A_frame_Get mixed Tryz.func59 rfl (Nat.le_of_ble_eq_true (by kernel_rfl)) (by kernel_rfl) (Eq.mp (by kernel_rfl) h)
/-- quayside/event.Get -/
abbrev F_event_Get : Nat := 60
def A_event_Get : Ann := ⟨[(4, [(20, .int .i64 0)]), (9, [(31, .int .i64 0)]), (13, [(49, .int .i64 0)])], [], [10], [10], []⟩
theorem L_event_Get {b1a : Option Addr} {b1n : Nat} {b1c : Nat} {w : World} {R : Ending → World → Prop}
    (h : PA w (.cells #[.int .i64 0, .int .i64 0, .int .i64 0, .slice none 0 0, .int .i64 0, .int .i64 0, .int .i64 0, .int .i64 0, .int .i64 0, .int .i64 0] 47) fun w2 =>
      PC Tryz.prog 83 #[.slice b1a b1n b1c] w2 (fun v3 w4 => ∃ (t5 : Option Addr), v3 = .pointer t5 ∧ PA w4 (.cells #[.int .i64 0, .int .i64 0, .int .i64 0, .slice none 0 0, .int .i64 0, .int .i64 0, .int .i64 0, .int .i64 0, .int .i64 0, .int .i64 0] 47) fun w6 =>
      PA w6 (.cells #[.pointer (some ⟨w4.heap.size, 0, none⟩), .pointer (some ⟨w4.heap.size, 0 + 1, none⟩), .pointer (some ⟨w4.heap.size, 0 + 2, none⟩)] 131) fun w7 =>
      (∃ I8 : Nat → Int → World → Prop, (∃ m9, I8 m9 0 w7) ∧ ∀ (m9 : Nat) (t11 : Int) (B12 : Nat → Value) (w13 : World), I8 m9 t11 w13 → PIf (decide ((t11 : Int) < ((3 : Nat) : Int))) ((∃ b14 o15, ((some ⟨w6.heap.size, 0, none⟩) : Option Addr) = some ⟨b14, o15, none⟩ ∧
      (0 : Int) ≤ t11 ∧ t11 < ((3 : Nat) : Int) ∧ (∃ (t16 : Option Addr), w13.cell? ⟨b14, o15 + Int.toNat t11, none⟩ = some (.pointer t16) ∧ PC Tryz.prog 85 #[.pointer t5] w13 (fun v17 w18 =>
      ∃ (t19 : Int), v17 = .int .i64 t19 ∧ (∃ b20 o21, t16 = some ⟨b20, o21, none⟩ ∧ PS w18 ⟨b20, o21, none⟩ (.int .i64 t19) fun w22 => (∃ m10, m10 < m9 ∧ I8 m10 (IntKind.wrap .i64 (t11 + 1)) w22))) (fun ch w =>
      R (.panicked ch) w)))) (PC Tryz.prog 84 #[.pointer t5, .int .i64 64] w13 (fun v23 w24 => ∃ (t25 : Int), v23 = .int .i64 t25 ∧ (∃ I26 : Nat → Int → World → Prop, (∃ m27, I26 m27 0 w24) ∧
      ∀ (m27 : Nat) (t29 : Int) (B30 : Nat → Value) (w31 : World), I26 m27 t29 w31 → PIf (decide ((t29 : Int) < t25)) ((∀ w33, Drew w31 w33 → ∃ S34 : Nat → Prop, (¬ S34 w4.heap.size ∧
      (∃ (t35a : Option Addr) (t35n : Nat) (t35c : Nat), w33.cell? ⟨w4.heap.size, 0 + 3, none⟩ = some (.slice t35a t35n t35c) ∧ PC Tryz.prog 85 #[.pointer t5] w33 (fun v36 w37 =>
      ∃ (t38 : Int), v36 = .int .i64 t38 ∧ (Keep S34 w33 w37 ∧ PA w37 (.cells #[.int .i64 t38] 3) fun w39 => (Keep S34 w37 w39 ∧ PRun Tryz.prog (Builtin.append_ #[45, 45] 45 #[.slice t35a t35n t35c, .slice (some ⟨w37.heap.size, 0, none⟩) 1 1]) w39 (fun v40 w41 =>
      ∃ (t42a : Option Addr) (t42n : Nat) (t42c : Nat), v40 = .slice t42a t42n t42c ∧ PS w41 ⟨w4.heap.size, 0 + 3, none⟩ (.slice t42a t42n t42c) fun w43 => (∃ m28, m28 < m27 ∧
      I26 m28 (IntKind.wrap .i64 (t29 + 1)) w43)) (fun pv wpp => ∀ (_ : Base) (_ : Bnd), R (.panicked [{ v := pv, recovered := false }]) wpp)))) (fun ch wpp =>
      ∀ (_ : Base) (_ : Bnd), R (.panicked ch) wpp))))) (PA w31 (.cells #[.pointer (some ⟨w4.heap.size, 0 + 4, none⟩), .pointer (some ⟨w4.heap.size, 0 + 5, none⟩), .pointer (some ⟨w4.heap.size, 0 + 6, none⟩), .pointer (some ⟨w4.heap.size, 0 + 7, none⟩), .pointer (some ⟨w4.heap.size, 0 + 8, none⟩), .pointer (some ⟨w4.heap.size, 0 + 9, none⟩)] 131) fun w44 =>
      (∃ I45 : Nat → Int → World → Prop, (∃ m46, I45 m46 0 w44) ∧ ∀ (m46 : Nat) (t48 : Int) (B49 : Nat → Value) (w50 : World), I45 m46 t48 w50 → PIf (decide ((t48 : Int) < ((6 : Nat) : Int))) ((∃ b51 o52, ((some ⟨w31.heap.size, 0, none⟩) : Option Addr) = some ⟨b51, o52, none⟩ ∧
      (0 : Int) ≤ t48 ∧ t48 < ((6 : Nat) : Int) ∧ (∃ (t53 : Option Addr), w50.cell? ⟨b51, o52 + Int.toNat t48, none⟩ = some (.pointer t53) ∧ PC Tryz.prog 85 #[.pointer t5] w50 (fun v54 w55 =>
      ∃ (t56 : Int), v54 = .int .i64 t56 ∧ (∃ b57 o58, t53 = some ⟨b57, o58, none⟩ ∧ PS w55 ⟨b57, o58, none⟩ (.int .i64 t56) fun w59 => (∃ m47, m47 < m46 ∧ I45 m47 (IntKind.wrap .i64 (t48 + 1)) w59))) (fun ch w =>
      R (.panicked ch) w)))) (PC Tryz.prog 86 #[.pointer t5] w50 (fun v60 w61 => ∃ (t62 : Int), v60 = .int .i64 t62 ∧ PIf ((t62 : Int) != 0) (PS w61 ⟨w.heap.size, 0, none⟩ (.int .i64 0) fun w63 =>
      PS w63 ⟨w.heap.size, 0 + 1, none⟩ (.int .i64 0) fun w64 => PS w64 ⟨w.heap.size, 0 + 2, none⟩ (.int .i64 0) fun w65 => PS w65 ⟨w.heap.size, 0 + 3, none⟩ (.slice none 0 0) fun w66 =>
      PS w66 ⟨w.heap.size, 0 + 4, none⟩ (.int .i64 0) fun w67 => PS w67 ⟨w.heap.size, 0 + 5, none⟩ (.int .i64 0) fun w68 => PS w68 ⟨w.heap.size, 0 + 6, none⟩ (.int .i64 0) fun w69 =>
      PS w69 ⟨w.heap.size, 0 + 7, none⟩ (.int .i64 0) fun w70 => PS w70 ⟨w.heap.size, 0 + 8, none⟩ (.int .i64 0) fun w71 => PS w71 ⟨w.heap.size, 0 + 9, none⟩ (.int .i64 0) fun w72 =>
      (∃ (r73 : Int), ∃ (r74 : Int), ∃ (r75 : Int), ∃ (r76a : Option Addr) (r76n : Nat) (r76c : Nat), ∃ (r77 : Int), ∃ (r78 : Int), ∃ (r79 : Int), ∃ (r80 : Int), ∃ (r81 : Int), ∃ (r82 : Int), w72.cell? ⟨w.heap.size, 0, none⟩ = some (.int .i64 r73) ∧
      w72.cell? ⟨w.heap.size, 0 + 1, none⟩ = some (.int .i64 r74) ∧ w72.cell? ⟨w.heap.size, 0 + 2, none⟩ = some (.int .i64 r75) ∧ w72.cell? ⟨w.heap.size, 0 + 3, none⟩ = some (.slice r76a r76n r76c) ∧
      w72.cell? ⟨w.heap.size, 0 + 4, none⟩ = some (.int .i64 r77) ∧ w72.cell? ⟨w.heap.size, 0 + 5, none⟩ = some (.int .i64 r78) ∧ w72.cell? ⟨w.heap.size, 0 + 6, none⟩ = some (.int .i64 r79) ∧
      w72.cell? ⟨w.heap.size, 0 + 7, none⟩ = some (.int .i64 r80) ∧ w72.cell? ⟨w.heap.size, 0 + 8, none⟩ = some (.int .i64 r81) ∧ w72.cell? ⟨w.heap.size, 0 + 9, none⟩ = some (.int .i64 r82) ∧
      R (.returned (.tuple #[.agg #[.int .i64 r73, .int .i64 r74, .int .i64 r75, .slice r76a r76n r76c, .int .i64 r77, .int .i64 r78, .int .i64 r79, .int .i64 r80, .int .i64 r81, .int .i64 r82], .int .i64 t62])) w72)) ((∃ (t83 : Int), ∃ (t84 : Int), ∃ (t85 : Int), ∃ (t86a : Option Addr) (t86n : Nat) (t86c : Nat), ∃ (t87 : Int), ∃ (t88 : Int), ∃ (t89 : Int), ∃ (t90 : Int), ∃ (t91 : Int), ∃ (t92 : Int), w61.cell? ⟨w4.heap.size, 0, none⟩ = some (.int .i64 t83) ∧
      w61.cell? ⟨w4.heap.size, 0 + 1, none⟩ = some (.int .i64 t84) ∧ w61.cell? ⟨w4.heap.size, 0 + 2, none⟩ = some (.int .i64 t85) ∧ w61.cell? ⟨w4.heap.size, 0 + 3, none⟩ = some (.slice t86a t86n t86c) ∧
      w61.cell? ⟨w4.heap.size, 0 + 4, none⟩ = some (.int .i64 t87) ∧ w61.cell? ⟨w4.heap.size, 0 + 5, none⟩ = some (.int .i64 t88) ∧ w61.cell? ⟨w4.heap.size, 0 + 6, none⟩ = some (.int .i64 t89) ∧
      w61.cell? ⟨w4.heap.size, 0 + 7, none⟩ = some (.int .i64 t90) ∧ w61.cell? ⟨w4.heap.size, 0 + 8, none⟩ = some (.int .i64 t91) ∧ w61.cell? ⟨w4.heap.size, 0 + 9, none⟩ = some (.int .i64 t92) ∧
      PS w61 ⟨w.heap.size, 0, none⟩ (.int .i64 t83) fun w93 => PS w93 ⟨w.heap.size, 0 + 1, none⟩ (.int .i64 t84) fun w94 => PS w94 ⟨w.heap.size, 0 + 2, none⟩ (.int .i64 t85) fun w95 =>
      PS w95 ⟨w.heap.size, 0 + 3, none⟩ (.slice t86a t86n t86c) fun w96 => PS w96 ⟨w.heap.size, 0 + 4, none⟩ (.int .i64 t87) fun w97 => PS w97 ⟨w.heap.size, 0 + 5, none⟩ (.int .i64 t88) fun w98 =>
      PS w98 ⟨w.heap.size, 0 + 6, none⟩ (.int .i64 t89) fun w99 => PS w99 ⟨w.heap.size, 0 + 7, none⟩ (.int .i64 t90) fun w100 => PS w100 ⟨w.heap.size, 0 + 8, none⟩ (.int .i64 t91) fun w101 =>
      PS w101 ⟨w.heap.size, 0 + 9, none⟩ (.int .i64 t92) fun w102 => (∃ (r103 : Int), ∃ (r104 : Int), ∃ (r105 : Int), ∃ (r106a : Option Addr) (r106n : Nat) (r106c : Nat), ∃ (r107 : Int), ∃ (r108 : Int), ∃ (r109 : Int), ∃ (r110 : Int), ∃ (r111 : Int), ∃ (r112 : Int), w102.cell? ⟨w.heap.size, 0, none⟩ = some (.int .i64 r103) ∧
      w102.cell? ⟨w.heap.size, 0 + 1, none⟩ = some (.int .i64 r104) ∧ w102.cell? ⟨w.heap.size, 0 + 2, none⟩ = some (.int .i64 r105) ∧ w102.cell? ⟨w.heap.size, 0 + 3, none⟩ = some (.slice r106a r106n r106c) ∧
      w102.cell? ⟨w.heap.size, 0 + 4, none⟩ = some (.int .i64 r107) ∧ w102.cell? ⟨w.heap.size, 0 + 5, none⟩ = some (.int .i64 r108) ∧ w102.cell? ⟨w.heap.size, 0 + 6, none⟩ = some (.int .i64 r109) ∧
      w102.cell? ⟨w.heap.size, 0 + 7, none⟩ = some (.int .i64 r110) ∧ w102.cell? ⟨w.heap.size, 0 + 8, none⟩ = some (.int .i64 r111) ∧ w102.cell? ⟨w.heap.size, 0 + 9, none⟩ = some (.int .i64 r112) ∧
      R (.returned (.tuple #[.agg #[.int .i64 r103, .int .i64 r104, .int .i64 r105, .slice r106a r106n r106c, .int .i64 r107, .int .i64 r108, .int .i64 r109, .int .i64 r110, .int .i64 r111, .int .i64 r112], .int .i64 0])) w102)))) (fun ch w =>
      R (.panicked ch) w)))))) (fun ch w => R (.panicked ch) w)))) (fun ch w => R (.panicked ch) w)) :
    Calls Tryz.prog 60 #[.slice b1a b1n b1c] w R :=
  D_calls A_event_Get mixed Tryz.func60 rfl (Nat.le_of_ble_eq_true (by kernel_rfl)) (by kernel_rfl) (Eq.mp (by kernel_rfl) h)
/-- (*quayside/quaysideref19.Disk).Read -/
abbrev F_ref19_Disk_Read : Nat := 61
def A_ref19_Disk_Read : Ann := ⟨[], [], [], [], []⟩
theorem L_ref19_Disk_Read {d1 : Option Addr} {name2 : ByteArray} {w : World} {R : Ending → World → Prop}
    (h : (∃ b3 o4, d1 = some ⟨b3, o4, none⟩ ∧ (∃ (t5 : Bool), w.cell? ⟨b3, o4 + 3, none⟩ = some (.bool t5) ∧ PIf t5 (R (.returned (.tuple #[.slice none 0 0, .int .i64 15])) w) (PC Tryz.prog 56 #[.pointer d1, .string name2] w (fun v6 w7 =>
      ∃ (t8 : Int), v6 = .int .i64 t8 ∧ PIf (decide ((t8 : Int) < 0)) (R (.returned (.tuple #[.slice none 0 0, .int .i64 14])) w7) ((∃ b9 o10, d1 = some ⟨b9, o10, none⟩ ∧
      (∃ (t11a : Option Addr) (t11n : Nat) (t11c : Nat), w7.cell? ⟨b9, o10 + 2, none⟩ = some (.slice t11a t11n t11c) ∧ (∃ b12 o13, t11a = some ⟨b12, o13, none⟩ ∧
      (0 : Int) ≤ t8 ∧ t8 < ((t11n : Nat) : Int) ∧ (∃ (t14a : Option Addr) (t14n : Nat) (t14c : Nat), w7.cell? ⟨b12, o13 + Int.toNat t8 * 4 + 1, none⟩ = some (.slice t14a t14n t14c) ∧
      PC Tryz.prog 97 #[.slice t14a t14n t14c] w7 (fun v15 w16 => ∃ (t17a : Option Addr) (t17n : Nat) (t17c : Nat), v15 = .slice t17a t17n t17c ∧ R (.returned (.tuple #[.slice t17a t17n t17c, .int .i64 0])) w16) (fun ch w =>
      R (.panicked ch) w))))))) (fun ch w => R (.panicked ch) w))))) :
    Calls Tryz.prog 61 #[.pointer d1, .string name2] w R :=
  D_calls A_ref19_Disk_Read mixed Tryz.func61 rfl (Nat.le_of_ble_eq_true (by kernel_rfl)) (by kernel_rfl) (Eq.mp (by kernel_rfl) h)
end Go.Proofs.YtpmakiecgphijaaGreatDoor
