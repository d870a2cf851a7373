import Derived.Test.YtpmakiecgphijaaDoorLift
import Derived.Test.YtpmakiecgphijaaDoorRows
import Derived.KernelRfl
namespace Go.Proofs.YtpmakiecgphijaaDoor
open Go.Lift
set_option maxRecDepth 100000
set_option linter.unusedVariables false
theorem mixed : Tryd.prog.follows .mixedOrders = true := by kernel_rfl
/-- quayside/quaysidelaw20.SegmentNames -/
abbrev F_law20_SegmentNames : Nat := 3
def A_law20_SegmentNames : Ann := ⟨[], [], [], [], []⟩
theorem L_law20_SegmentNames {no1 : Int} {name2 : ByteArray} {w : World} {R : Ending → World → Prop}
    (h : PIf (decide ((((ByteArray.size name2 : Nat) : Int) : Int) > 1000)) (PC Tryd.prog 8 #[] w (fun v3 w4 => ∃ (t5 : Bool), v3 = .bool t5 ∧ R (.returned (.bool t5)) w4) (fun ch w =>
      R (.panicked ch) w)) (PC Tryd.prog 9 #[.string name2] w (fun v6 w7 => ∃ (t8 : Int), ∃ (t9 : Bool), v6 = .tuple #[.int .i64 t8, .bool t9] ∧ PC Tryd.prog 10 #[.string name2] w7 (fun v10 w11 =>
      ∃ (t12 : Int), ∃ (t13 : Bool), v10 = .tuple #[.int .i64 t12, .bool t13] ∧ PC Tryd.prog 11 #[.int .i64 no1] w11 (fun v14 w15 => ∃ (t16 : ByteArray), v14 = .string t16 ∧
      PC Tryd.prog 12 #[.int .i64 no1] w15 (fun v17 w18 => ∃ (t19 : ByteArray), v17 = .string t19 ∧ PIf ((ByteArray.toList t16) == (ByteArray.toList t19)) (PIf ((t8 : Int) == t12) (PIf (t9 == t13) (PC Tryd.prog 8 #[] w18 (fun v20 w21 =>
      ∃ (t22 : Bool), v20 = .bool t22 ∧ R (.returned (.bool t22)) w21) (fun ch w => R (.panicked ch) w)) (R (.returned (.bool false)) w18)) (R (.returned (.bool false)) w18)) (R (.returned (.bool false)) w18)) (fun ch w =>
      R (.panicked ch) w)) (fun ch w => R (.panicked ch) w)) (fun ch w => R (.panicked ch) w)) (fun ch w => R (.panicked ch) w))) :
    Calls Tryd.prog 3 #[.int .i64 no1, .string name2] w R :=
  D_calls A_law20_SegmentNames mixed Tryd.func3 rfl (Nat.le_of_ble_eq_true (by kernel_rfl)) (by kernel_rfl) (Eq.mp (by kernel_rfl) h)
/-- quayside/quaysidelaw20.SegmentTorn -/
abbrev F_law20_SegmentTorn : Nat := 4
def A_law20_SegmentTorn : Ann := ⟨[(10, [(9, .slice none 0 0), (10, .slice none 0 0), (11, .int .i64 0)]), (22, [(14, .int .i64 0), (15, .int .i64 0)])], [(25, [(14, .int .i64 0), (15, .int .i64 0)])], [], [], []⟩
theorem L_law20_SegmentTorn {l1a : Option Addr} {l1n : Nat} {l1c : Nat} {cut2 : Int} {no3 : Int} {w : World} {R : Ending → World → Prop}
    (h : PC Tryd.prog 13 #[.slice l1a l1n l1c] w (fun v4 w5 => ∃ (t6 : Bool), v4 = .bool t6 ∧ PIf t6 (PC Tryd.prog 8 #[] w5 (fun v7 w8 => ∃ (t9 : Bool), v7 = .bool t9 ∧
      R (.returned (.bool t9)) w8) (fun ch w => R (.panicked ch) w)) (PIf (decide ((((l1n : Nat) : Int) : Int) > 60)) (PC Tryd.prog 8 #[] w5 (fun v10 w11 =>
      ∃ (t12 : Bool), v10 = .bool t12 ∧ R (.returned (.bool t12)) w11) (fun ch w => R (.panicked ch) w)) (PC Tryd.prog 14 #[.int .i64 no3, .int .i64 1000] w5 (fun v13 w14 =>
      ∃ (t15 : Int), v13 = .int .i64 t15 ∧ PC Tryd.prog 15 #[.int .i64 65536] w14 (fun v16 w17 => ∃ (t18 : Option Addr), ∃ (t19 : Int), v16 = .tuple #[.pointer t18, .int .i64 t19] ∧
      PIf ((t19 : Int) != 0) (R (.returned (.bool false)) w17) (PRun Tryd.prog (do eqGuard .eql 30 (.tmp 35) (.const (.pointer none)) (.pointer t18) (.pointer none); binOp .eql 30 (.pointer t18) (.pointer none)) w17 (fun v20 w21 =>
      ∃ (t22 : Bool), v20 = .bool t22 ∧ PIf t22 (R (.returned (.bool false)) w21) (PC Tryd.prog 11 #[.int .i64 t15] w21 (fun v23 w24 => ∃ (t25 : ByteArray), v23 = .string t25 ∧
      PC Tryd.prog 16 #[.pointer t18, .string t25] w24 (fun v26 w27 => ∃ (t28 : Int), v26 = .int .i64 t28 ∧ PIf ((t28 : Int) != 0) (R (.returned (.bool false)) w27) ((∃ I29 : Nat → Option Addr → Nat → Nat → Option Addr → Nat → Nat → Int → World → Prop, (∃ m30, I29 m30 none 0 0 none 0 0 0 w27) ∧
      ∀ (m30 : Nat) (all32a : Option Addr) (all32n : Nat) (all32c : Nat) (ends33a : Option Addr) (ends33n : Nat) (ends33c : Nat) (i34 : Int) (B35 : Nat → Value) (w36 : World), I29 m30 all32a all32n all32c ends33a ends33n ends33c i34 w36 → PIf (decide ((i34 : Int) < ((l1n : Nat) : Int))) ((∃ b37 o38, l1a = some ⟨b37, o38, none⟩ ∧
      (0 : Int) ≤ i34 ∧ i34 < ((l1n : Nat) : Int) ∧ (∃ (t39 : Int), ∃ (t40 : Int), ∃ (t41 : Int), ∃ (t42a : Option Addr) (t42n : Nat) (t42c : Nat), ∃ (t43 : Int), ∃ (t44 : Int), ∃ (t45 : Int), ∃ (t46 : Int), ∃ (t47 : Int), ∃ (t48 : Int), w36.cell? ⟨b37, o38 + Int.toNat i34 * 10, none⟩ = some (.int .i64 t39) ∧
      w36.cell? ⟨b37, o38 + Int.toNat i34 * 10 + 1, none⟩ = some (.int .i64 t40) ∧ w36.cell? ⟨b37, o38 + Int.toNat i34 * 10 + 2, none⟩ = some (.int .i64 t41) ∧
      w36.cell? ⟨b37, o38 + Int.toNat i34 * 10 + 3, none⟩ = some (.slice t42a t42n t42c) ∧ w36.cell? ⟨b37, o38 + Int.toNat i34 * 10 + 4, none⟩ = some (.int .i64 t43) ∧
      w36.cell? ⟨b37, o38 + Int.toNat i34 * 10 + 5, none⟩ = some (.int .i64 t44) ∧ w36.cell? ⟨b37, o38 + Int.toNat i34 * 10 + 6, none⟩ = some (.int .i64 t45) ∧
      w36.cell? ⟨b37, o38 + Int.toNat i34 * 10 + 7, none⟩ = some (.int .i64 t46) ∧ w36.cell? ⟨b37, o38 + Int.toNat i34 * 10 + 8, none⟩ = some (.int .i64 t47) ∧
      w36.cell? ⟨b37, o38 + Int.toNat i34 * 10 + 9, none⟩ = some (.int .i64 t48) ∧ PC Tryd.prog 17 #[.agg #[.int .i64 t39, .int .i64 t40, .int .i64 t41, .slice t42a t42n t42c, .int .i64 t43, .int .i64 t44, .int .i64 t45, .int .i64 t46, .int .i64 t47, .int .i64 t48]] w36 (fun v49 w50 =>
      ∃ (t51a : Option Addr) (t51n : Nat) (t51c : Nat), ∃ (t52 : Int), v49 = .tuple #[.slice t51a t51n t51c, .int .i64 t52] ∧ PIf ((t52 : Int) != 0) ((∃ b53 o54, l1a = some ⟨b53, o54, none⟩ ∧
      (0 : Int) ≤ i34 ∧ i34 < ((l1n : Nat) : Int) ∧ (∃ (t55a : Option Addr) (t55n : Nat) (t55c : Nat), w50.cell? ⟨b53, o54 + Int.toNat i34 * 10 + 3, none⟩ = some (.slice t55a t55n t55c) ∧
      PIf (decide ((((t55n : Nat) : Int) : Int) > 64)) (PC Tryd.prog 8 #[] w50 (fun v56 w57 => ∃ (t58 : Bool), v56 = .bool t58 ∧ R (.returned (.bool t58)) w57) (fun ch w =>
      R (.panicked ch) w)) (R (.returned (.bool false)) w50)))) (PRun Tryd.prog (Builtin.append_ #[35, 35] 35 #[.slice all32a all32n all32c, .slice t51a t51n t51c]) w50 (fun v59 w60 =>
      ∃ (t61a : Option Addr) (t61n : Nat) (t61c : Nat), v59 = .slice t61a t61n t61c ∧ PA w60 (.cells #[.int .i64 ((t61n : Nat) : Int)] 3) fun w62 => PRun Tryd.prog (Builtin.append_ #[36, 36] 36 #[.slice ends33a ends33n ends33c, .slice (some ⟨w60.heap.size, 0, none⟩) 1 1]) w62 (fun v63 w64 =>
      ∃ (t65a : Option Addr) (t65n : Nat) (t65c : Nat), v63 = .slice t65a t65n t65c ∧ (∃ m31, m31 < m30 ∧ I29 m31 t61a t61n t61c t65a t65n t65c (IntKind.wrap .i64 (i34 + 1)) w64)) (fun pv w =>
      R (.panicked [{ v := pv, recovered := false }]) w)) (fun pv w => R (.panicked [{ v := pv, recovered := false }]) w))) (fun ch w => R (.panicked ch) w)))) (PIf (decide ((((all32n : Nat) : Int) : Int) > 32768)) (PC Tryd.prog 8 #[] w36 (fun v66 w67 =>
      ∃ (t68 : Bool), v66 = .bool t68 ∧ R (.returned (.bool t68)) w67) (fun ch w => R (.panicked ch) w)) (PC Tryd.prog 14 #[.int .i64 cut2, .int .i64 (IntKind.wrap .i64 (((all32n : Nat) : Int) + 1))] w36 (fun v69 w70 =>
      ∃ (t71 : Int), v69 = .int .i64 t71 ∧ (∃ J72 : Int → Int → World → Prop, ((∃ I73 : Nat → Int → Int → World → Prop, (∃ m74, I73 m74 0 0 w70) ∧ ∀ (m74 : Nat) (n76 : Int) (at77 : Int) (B78 : Nat → Value) (w79 : World), I73 m74 n76 at77 w79 → PIf (decide ((n76 : Int) < ((ends33n : Nat) : Int))) ((∃ b80 o81, ends33a = some ⟨b80, o81, none⟩ ∧
      (0 : Int) ≤ n76 ∧ n76 < ((ends33n : Nat) : Int) ∧ (∃ (t82 : Int), w79.cell? ⟨b80, o81 + Int.toNat n76, none⟩ = some (.int .i64 t82) ∧ PIf (decide ((t82 : Int) ≤ t71)) ((∃ b83 o84, ends33a = some ⟨b83, o84, none⟩ ∧
      (0 : Int) ≤ n76 ∧ n76 < ((ends33n : Nat) : Int) ∧ (∃ (t85 : Int), w79.cell? ⟨b83, o84 + Int.toNat n76, none⟩ = some (.int .i64 t85) ∧ (∃ m75, m75 < m74 ∧
      I73 m75 (IntKind.wrap .i64 (n76 + 1)) t85 w79)))) (J72 n76 at77 w79)))) (J72 n76 at77 w79))) ∧ ∀ (n86 : Int) (at87 : Int) (B88 : Nat → Value) (w89 : World), J72 n86 at87 w89 → (∀ w91, Drew w89 w91 → ((0 : Int) ≤ t71 ∧
      (t71 : Int) ≤ ((all32c : Nat) : Int) ∧ PC Tryd.prog 11 #[.int .i64 t15] w91 (fun v92 w93 => ∃ (t94 : ByteArray), v92 = .string t94 ∧ PC Tryd.prog 18 #[.pointer t18, .string t94, .slice all32a (Int.toNat t71) all32c] w93 (fun v95 w96 =>
      ∃ (t97 : Int), v95 = .int .i64 t97 ∧ PIf ((t97 : Int) != 0) (R (.returned (.bool false)) w96) (PC Tryd.prog 19 #[.pointer t18, .int .i64 t15] w96 (fun v98 w99 =>
      ∃ (t100a : Option Addr) (t100n : Nat) (t100c : Nat), ∃ (t101 : Int), v98 = .tuple #[.slice t100a t100n t100c, .int .i64 t101] ∧ PIf ((t101 : Int) == at87) (((0 : Int) ≤ n86 ∧
      (n86 : Int) ≤ ((l1c : Nat) : Int) ∧ PC Tryd.prog 20 #[.slice t100a t100n t100c, .slice l1a (Int.toNat n86) l1c] w99 (fun v102 w103 => ∃ (t104 : Bool), v102 = .bool t104 ∧
      PIf t104 (PC Tryd.prog 8 #[] w103 (fun v105 w106 => ∃ (t107 : Bool), v105 = .bool t107 ∧ R (.returned (.bool t107)) w106) (fun ch w => R (.panicked ch) w)) (R (.returned (.bool false)) w103)) (fun ch w =>
      R (.panicked ch) w))) (R (.returned (.bool false)) w99)) (fun ch w => R (.panicked ch) w))) (fun ch wpp => ∀ (_ : Base) (_ : Bnd), R (.panicked ch) wpp)) (fun ch wpp =>
      ∀ (_ : Base) (_ : Bnd), R (.panicked ch) wpp))))) (fun ch w => R (.panicked ch) w)))))) (fun ch w => R (.panicked ch) w)) (fun ch w => R (.panicked ch) w))) (fun pv w =>
      R (.panicked [{ v := pv, recovered := false }]) w))) (fun ch w => R (.panicked ch) w)) (fun ch w => R (.panicked ch) w)))) (fun ch w => R (.panicked ch) w)) :
    Calls Tryd.prog 4 #[.slice l1a l1n l1c, .int .i64 cut2, .int .i64 no3] w R :=
  D_calls A_law20_SegmentTorn mixed Tryd.func4 rfl (Nat.le_of_ble_eq_true (by kernel_rfl)) (by kernel_rfl) (Eq.mp (by kernel_rfl) h)
/-- quayside/quaysidelaw20.SegmentOther -/
abbrev F_law20_SegmentOther : Nat := 5
def A_law20_SegmentOther : Ann := ⟨[(8, [(9, .int .i64 0), (10, .int .i64 0)])], [(29, [(9, .int .i64 0), (20, .slice none 0 0)])], [27], [], []⟩
theorem L_law20_SegmentOther {l1a : Option Addr} {l1n : Nat} {l1c : Nat} {kind2 : Int} {body3a : Option Addr} {body3n : Nat} {body3c : Nat} {w : World} {R : Ending → World → Prop}
    (h : PC Tryd.prog 13 #[.slice l1a l1n l1c] w (fun v4 w5 => ∃ (t6 : Bool), v4 = .bool t6 ∧ PIf t6 (PC Tryd.prog 8 #[] w5 (fun v7 w8 => ∃ (t9 : Bool), v7 = .bool t9 ∧
      R (.returned (.bool t9)) w8) (fun ch w => R (.panicked ch) w)) (PIf (decide ((((l1n : Nat) : Int) : Int) > 30)) (PC Tryd.prog 8 #[] w5 (fun v10 w11 =>
      ∃ (t12 : Bool), v10 = .bool t12 ∧ R (.returned (.bool t12)) w11) (fun ch w => R (.panicked ch) w)) (PIf (decide ((((body3n : Nat) : Int) : Int) > 1024)) (PC Tryd.prog 8 #[] w5 (fun v13 w14 =>
      ∃ (t15 : Bool), v13 = .bool t15 ∧ R (.returned (.bool t15)) w14) (fun ch w => R (.panicked ch) w)) (PC Tryd.prog 15 #[.int .i64 65536] w5 (fun v16 w17 =>
      ∃ (t18 : Option Addr), ∃ (t19 : Int), v16 = .tuple #[.pointer t18, .int .i64 t19] ∧ PIf ((t19 : Int) != 0) (R (.returned (.bool false)) w17) (PRun Tryd.prog (do eqGuard .eql 30 (.tmp 41) (.const (.pointer none)) (.pointer t18) (.pointer none); binOp .eql 30 (.pointer t18) (.pointer none)) w17 (fun v20 w21 =>
      ∃ (t22 : Bool), v20 = .bool t22 ∧ PIf t22 (R (.returned (.bool false)) w21) (PC Tryd.prog 16 #[.pointer t18, .string (⟨#[115, 101, 103, 46, 48]⟩ : ByteArray)] w21 (fun v23 w24 =>
      ∃ (t25 : Int), v23 = .int .i64 t25 ∧ PIf ((t25 : Int) != 0) (R (.returned (.bool false)) w24) ((∃ I26 : Nat → Int → Int → World → Prop, (∃ m27, I26 m27 0 0 w24) ∧
      ∀ (m27 : Nat) (n29 : Int) (i30 : Int) (B31 : Nat → Value) (w32 : World), I26 m27 n29 i30 w32 → PIf (decide ((i30 : Int) < ((l1n : Nat) : Int))) ((∃ b33 o34, l1a = some ⟨b33, o34, none⟩ ∧
      (0 : Int) ≤ i30 ∧ i30 < ((l1n : Nat) : Int) ∧ (∃ (t35 : Int), ∃ (t36 : Int), ∃ (t37 : Int), ∃ (t38a : Option Addr) (t38n : Nat) (t38c : Nat), ∃ (t39 : Int), ∃ (t40 : Int), ∃ (t41 : Int), ∃ (t42 : Int), ∃ (t43 : Int), ∃ (t44 : Int), w32.cell? ⟨b33, o34 + Int.toNat i30 * 10, none⟩ = some (.int .i64 t35) ∧
      w32.cell? ⟨b33, o34 + Int.toNat i30 * 10 + 1, none⟩ = some (.int .i64 t36) ∧ w32.cell? ⟨b33, o34 + Int.toNat i30 * 10 + 2, none⟩ = some (.int .i64 t37) ∧
      w32.cell? ⟨b33, o34 + Int.toNat i30 * 10 + 3, none⟩ = some (.slice t38a t38n t38c) ∧ w32.cell? ⟨b33, o34 + Int.toNat i30 * 10 + 4, none⟩ = some (.int .i64 t39) ∧
      w32.cell? ⟨b33, o34 + Int.toNat i30 * 10 + 5, none⟩ = some (.int .i64 t40) ∧ w32.cell? ⟨b33, o34 + Int.toNat i30 * 10 + 6, none⟩ = some (.int .i64 t41) ∧
      w32.cell? ⟨b33, o34 + Int.toNat i30 * 10 + 7, none⟩ = some (.int .i64 t42) ∧ w32.cell? ⟨b33, o34 + Int.toNat i30 * 10 + 8, none⟩ = some (.int .i64 t43) ∧
      w32.cell? ⟨b33, o34 + Int.toNat i30 * 10 + 9, none⟩ = some (.int .i64 t44) ∧ PC Tryd.prog 17 #[.agg #[.int .i64 t35, .int .i64 t36, .int .i64 t37, .slice t38a t38n t38c, .int .i64 t39, .int .i64 t40, .int .i64 t41, .int .i64 t42, .int .i64 t43, .int .i64 t44]] w32 (fun v45 w46 =>
      ∃ (t47a : Option Addr) (t47n : Nat) (t47c : Nat), ∃ (t48 : Int), v45 = .tuple #[.slice t47a t47n t47c, .int .i64 t48] ∧ PIf ((t48 : Int) != 0) (PC Tryd.prog 8 #[] w46 (fun v49 w50 =>
      ∃ (t51 : Bool), v49 = .bool t51 ∧ R (.returned (.bool t51)) w50) (fun ch w => R (.panicked ch) w)) (PIf (decide (((IntKind.wrap .i64 (n29 + ((t47n : Nat) : Int))) : Int) > 32768)) (PC Tryd.prog 8 #[] w46 (fun v52 w53 =>
      ∃ (t54 : Bool), v52 = .bool t54 ∧ R (.returned (.bool t54)) w53) (fun ch w => R (.panicked ch) w)) (PC Tryd.prog 18 #[.pointer t18, .string (⟨#[115, 101, 103, 46, 48]⟩ : ByteArray), .slice t47a t47n t47c] w46 (fun v55 w56 =>
      ∃ (t57 : Int), v55 = .int .i64 t57 ∧ (∃ m28, m28 < m27 ∧ I26 m28 (IntKind.wrap .i64 (n29 + ((t47n : Nat) : Int))) (IntKind.wrap .i64 (i30 + 1)) w56)) (fun ch w =>
      R (.panicked ch) w)))) (fun ch w => R (.panicked ch) w)))) (PC Tryd.prog 21 #[.agg #[.int .i64 kind2, .slice body3a body3n body3c]] w32 (fun v58 w59 =>
      ∃ (t60a : Option Addr) (t60n : Nat) (t60c : Nat), ∃ (t61 : Int), v58 = .tuple #[.slice t60a t60n t60c, .int .i64 t61] ∧ PIf ((t61 : Int) != 0) (PC Tryd.prog 8 #[] w59 (fun v62 w63 =>
      ∃ (t64 : Bool), v62 = .bool t64 ∧ R (.returned (.bool t64)) w63) (fun ch w => R (.panicked ch) w)) (PC Tryd.prog 18 #[.pointer t18, .string (⟨#[115, 101, 103, 46, 48]⟩ : ByteArray), .slice t60a t60n t60c] w59 (fun v65 w66 =>
      ∃ (t67 : Int), v65 = .int .i64 t67 ∧ PC Tryd.prog 22 #[.int .i64 1] w66 (fun v68 w69 => ∃ (t70 : Int), ∃ (t71 : Int), ∃ (t72 : Int), ∃ (t73a : Option Addr) (t73n : Nat) (t73c : Nat), ∃ (t74 : Int), ∃ (t75 : Int), ∃ (t76 : Int), ∃ (t77 : Int), ∃ (t78 : Int), ∃ (t79 : Int), v68 = .agg #[.int .i64 t70, .int .i64 t71, .int .i64 t72, .slice t73a t73n t73c, .int .i64 t74, .int .i64 t75, .int .i64 t76, .int .i64 t77, .int .i64 t78, .int .i64 t79] ∧
      PC Tryd.prog 17 #[.agg #[.int .i64 t70, .int .i64 t71, .int .i64 t72, .slice t73a t73n t73c, .int .i64 t74, .int .i64 t75, .int .i64 t76, .int .i64 t77, .int .i64 t78, .int .i64 t79]] w69 (fun v80 w81 =>
      ∃ (t82a : Option Addr) (t82n : Nat) (t82c : Nat), ∃ (t83 : Int), v80 = .tuple #[.slice t82a t82n t82c, .int .i64 t83] ∧ PIf ((t83 : Int) != 0) (R (.returned (.bool false)) w81) (PC Tryd.prog 18 #[.pointer t18, .string (⟨#[115, 101, 103, 46, 48]⟩ : ByteArray), .slice t82a t82n t82c] w81 (fun v84 w85 =>
      ∃ (t86 : Int), v84 = .int .i64 t86 ∧ PC Tryd.prog 23 #[.slice body3a body3n body3c] w85 (fun v87 w88 => ∃ (t89 : Int), ∃ (t90 : Int), ∃ (t91 : Int), ∃ (t92a : Option Addr) (t92n : Nat) (t92c : Nat), ∃ (t93 : Int), ∃ (t94 : Int), ∃ (t95 : Int), ∃ (t96 : Int), ∃ (t97 : Int), ∃ (t98 : Int), ∃ (t99 : Int), v87 = .tuple #[.agg #[.int .i64 t89, .int .i64 t90, .int .i64 t91, .slice t92a t92n t92c, .int .i64 t93, .int .i64 t94, .int .i64 t95, .int .i64 t96, .int .i64 t97, .int .i64 t98], .int .i64 t99] ∧
      PA w88 (.cells #[.int .i64 0, .int .i64 0, .int .i64 0, .slice none 0 0, .int .i64 0, .int .i64 0, .int .i64 0, .int .i64 0, .int .i64 0, .int .i64 0] 42) fun w100 =>
      PS w100 ⟨w88.heap.size, 0, none⟩ (.int .i64 t89) fun w101 => PS w101 ⟨w88.heap.size, 0 + 1, none⟩ (.int .i64 t90) fun w102 => PS w102 ⟨w88.heap.size, 0 + 2, none⟩ (.int .i64 t91) fun w103 =>
      PS w103 ⟨w88.heap.size, 0 + 3, none⟩ (.slice t92a t92n t92c) fun w104 => PS w104 ⟨w88.heap.size, 0 + 4, none⟩ (.int .i64 t93) fun w105 => PS w105 ⟨w88.heap.size, 0 + 5, none⟩ (.int .i64 t94) fun w106 =>
      PS w106 ⟨w88.heap.size, 0 + 6, none⟩ (.int .i64 t95) fun w107 => PS w107 ⟨w88.heap.size, 0 + 7, none⟩ (.int .i64 t96) fun w108 => PS w108 ⟨w88.heap.size, 0 + 8, none⟩ (.int .i64 t97) fun w109 =>
      PS w109 ⟨w88.heap.size, 0 + 9, none⟩ (.int .i64 t98) fun w110 => PC Tryd.prog 19 #[.pointer t18, .int .i64 0] w110 (fun v111 w112 => ∃ (t113a : Option Addr) (t113n : Nat) (t113c : Nat), ∃ (t114 : Int), v111 = .tuple #[.slice t113a t113n t113c, .int .i64 t114] ∧
      PC Tryd.prog 24 #[.slice l1a l1n l1c] w112 (fun v115 w116 => ∃ (t117a : Option Addr) (t117n : Nat) (t117c : Nat), v115 = .slice t117a t117n t117c ∧ (∃ J118 : Int → Option Addr → Nat → Nat → World → Prop, (PIf ((kind2 : Int) == 1) (PIf ((t99 : Int) == 0) ((∀ w120, Drew w116 w120 → ∃ S121 : Nat → Prop, (¬ S121 w88.heap.size ∧
      (∃ (t122 : Int), ∃ (t123 : Int), ∃ (t124 : Int), ∃ (t125a : Option Addr) (t125n : Nat) (t125c : Nat), ∃ (t126 : Int), ∃ (t127 : Int), ∃ (t128 : Int), ∃ (t129 : Int), ∃ (t130 : Int), ∃ (t131 : Int), w120.cell? ⟨w88.heap.size, 0, none⟩ = some (.int .i64 t122) ∧
      w120.cell? ⟨w88.heap.size, 0 + 1, none⟩ = some (.int .i64 t123) ∧ w120.cell? ⟨w88.heap.size, 0 + 2, none⟩ = some (.int .i64 t124) ∧ w120.cell? ⟨w88.heap.size, 0 + 3, none⟩ = some (.slice t125a t125n t125c) ∧
      w120.cell? ⟨w88.heap.size, 0 + 4, none⟩ = some (.int .i64 t126) ∧ w120.cell? ⟨w88.heap.size, 0 + 5, none⟩ = some (.int .i64 t127) ∧ w120.cell? ⟨w88.heap.size, 0 + 6, none⟩ = some (.int .i64 t128) ∧
      w120.cell? ⟨w88.heap.size, 0 + 7, none⟩ = some (.int .i64 t129) ∧ w120.cell? ⟨w88.heap.size, 0 + 8, none⟩ = some (.int .i64 t130) ∧ w120.cell? ⟨w88.heap.size, 0 + 9, none⟩ = some (.int .i64 t131) ∧
      PC Tryd.prog 22 #[.int .i64 1] w120 (fun v132 w133 => ∃ (t134 : Int), ∃ (t135 : Int), ∃ (t136 : Int), ∃ (t137a : Option Addr) (t137n : Nat) (t137c : Nat), ∃ (t138 : Int), ∃ (t139 : Int), ∃ (t140 : Int), ∃ (t141 : Int), ∃ (t142 : Int), ∃ (t143 : Int), v132 = .agg #[.int .i64 t134, .int .i64 t135, .int .i64 t136, .slice t137a t137n t137c, .int .i64 t138, .int .i64 t139, .int .i64 t140, .int .i64 t141, .int .i64 t142, .int .i64 t143] ∧
      (Keep S121 w120 w133 ∧ PA w133 (.cells #[.int .i64 t122, .int .i64 t123, .int .i64 t124, .slice t125a t125n t125c, .int .i64 t126, .int .i64 t127, .int .i64 t128, .int .i64 t129, .int .i64 t130, .int .i64 t131, .int .i64 t134, .int .i64 t135, .int .i64 t136, .slice t137a t137n t137c, .int .i64 t138, .int .i64 t139, .int .i64 t140, .int .i64 t141, .int .i64 t142, .int .i64 t143] 42) fun w144 =>
      (Keep S121 w133 w144 ∧ PRun Tryd.prog (Builtin.append_ #[27, 27] 27 #[.slice t117a t117n t117c, .slice (some ⟨w133.heap.size, 0, none⟩) 2 2]) w144 (fun v145 w146 =>
      ∃ (t147a : Option Addr) (t147n : Nat) (t147c : Nat), v145 = .slice t147a t147n t147c ∧ (Keep S121 w144 w146 ∧ J118 (IntKind.wrap .i64 ((IntKind.wrap .i64 (n29 + ((t60n : Nat) : Int))) + ((t82n : Nat) : Int))) t147a t147n t147c w146)) (fun pv wpp =>
      ∀ (_ : Base) (_ : Bnd), R (.panicked [{ v := pv, recovered := false }]) wpp)))) (fun ch wpp => ∀ (_ : Base) (_ : Bnd), R (.panicked ch) wpp))))) (J118 n29 t117a t117n t117c w116)) (J118 n29 t117a t117n t117c w116)) ∧
      ∀ (n148 : Int) (want149a : Option Addr) (want149n : Nat) (want149c : Nat) (B150 : Nat → Value) (w151 : World), J118 n148 want149a want149n want149c w151 → PIf ((t114 : Int) == n148) (PC Tryd.prog 20 #[.slice t113a t113n t113c, .slice want149a want149n want149c] w151 (fun v152 w153 =>
      ∃ (t154 : Bool), v152 = .bool t154 ∧ PIf t154 (PC Tryd.prog 8 #[] w153 (fun v155 w156 => ∃ (t157 : Bool), v155 = .bool t157 ∧ R (.returned (.bool t157)) w156) (fun ch w =>
      R (.panicked ch) w)) (R (.returned (.bool false)) w153)) (fun ch w => R (.panicked ch) w)) (R (.returned (.bool false)) w151))) (fun ch w => R (.panicked ch) w)) (fun ch w =>
      R (.panicked ch) w)) (fun ch w => R (.panicked ch) w)) (fun ch w => R (.panicked ch) w))) (fun ch w => R (.panicked ch) w)) (fun ch w => R (.panicked ch) w)) (fun ch w =>
      R (.panicked ch) w))) (fun ch w => R (.panicked ch) w))))) (fun ch w => R (.panicked ch) w))) (fun pv w => R (.panicked [{ v := pv, recovered := false }]) w))) (fun ch w =>
      R (.panicked ch) w))))) (fun ch w => R (.panicked ch) w)) :
    Calls Tryd.prog 5 #[.slice l1a l1n l1c, .int .i64 kind2, .slice body3a body3n body3c] w R :=
  D_calls A_law20_SegmentOther mixed Tryd.func5 rfl (Nat.le_of_ble_eq_true (by kernel_rfl)) (by kernel_rfl) (Eq.mp (by kernel_rfl) h)
/-- quayside/quaysidelaw20.SegmentBack -/
abbrev F_law20_SegmentBack : Nat := 6
def A_law20_SegmentBack : Ann := ⟨[], [(3, [(19, .bool false)])], [], [], []⟩
theorem L_law20_SegmentBack {a1 : Int} {b2 : Int} {w : World} {R : Ending → World → Prop}
    (h : PC Tryd.prog 11 #[.int .i64 a1] w (fun v3 w4 => ∃ (t5 : ByteArray), v3 = .string t5 ∧ (∃ J6 : Bool → World → Prop, (PIf (decide ((a1 : Int) < 0)) (J6 true w4) (J6 (decide ((a1 : Int) ≥ 1000000000000)) w4)) ∧
      ∀ (t7 : Bool) (B8 : Nat → Value) (w9 : World), J6 t7 w9 → PIf t7 (PC Tryd.prog 9 #[.string t5] w9 (fun v10 w11 => ∃ (t12 : Int), ∃ (t13 : Bool), v10 = .tuple #[.int .i64 t12, .bool t13] ∧
      PIf ((ByteArray.toList t5) == (ByteArray.toList (⟨#[]⟩ : ByteArray))) (PIf (!t13) (PC Tryd.prog 8 #[] w11 (fun v14 w15 => ∃ (t16 : Bool), v14 = .bool t16 ∧
      R (.returned (.bool t16)) w15) (fun ch w => R (.panicked ch) w)) (R (.returned (.bool false)) w11)) (R (.returned (.bool false)) w11)) (fun ch w => R (.panicked ch) w)) (PC Tryd.prog 9 #[.string t5] w9 (fun v17 w18 =>
      ∃ (t19 : Int), ∃ (t20 : Bool), v17 = .tuple #[.int .i64 t19, .bool t20] ∧ PC Tryd.prog 15 #[.int .i64 64] w18 (fun v21 w22 => ∃ (t23 : Option Addr), ∃ (t24 : Int), v21 = .tuple #[.pointer t23, .int .i64 t24] ∧
      PIf ((t24 : Int) != 0) (R (.returned (.bool false)) w22) (PRun Tryd.prog (do eqGuard .eql 30 (.tmp 46) (.const (.pointer none)) (.pointer t23) (.pointer none); binOp .eql 30 (.pointer t23) (.pointer none)) w22 (fun v25 w26 =>
      ∃ (t27 : Bool), v25 = .bool t27 ∧ PIf t27 (R (.returned (.bool false)) w26) (PIf ((t19 : Int) == a1) (PIf t20 (PIf ((a1 : Int) == b2) (PIf (decide ((((ByteArray.size t5 : Nat) : Int) : Int) ≤ 16)) (PC Tryd.prog 16 #[.pointer t23, .string t5] w26 (fun v28 w29 =>
      ∃ (t30 : Int), v28 = .int .i64 t30 ∧ PIf ((t30 : Int) == 0) (PC Tryd.prog 8 #[] w29 (fun v31 w32 => ∃ (t33 : Bool), v31 = .bool t33 ∧ R (.returned (.bool t33)) w32) (fun ch w =>
      R (.panicked ch) w)) (R (.returned (.bool false)) w29)) (fun ch w => R (.panicked ch) w)) (R (.returned (.bool false)) w26)) (PC Tryd.prog 11 #[.int .i64 b2] w26 (fun v34 w35 =>
      ∃ (t36 : ByteArray), v34 = .string t36 ∧ PIf (!((ByteArray.toList t36) == (ByteArray.toList t5))) (PIf (decide ((((ByteArray.size t5 : Nat) : Int) : Int) ≤ 16)) (PC Tryd.prog 16 #[.pointer t23, .string t5] w35 (fun v37 w38 =>
      ∃ (t39 : Int), v37 = .int .i64 t39 ∧ PIf ((t39 : Int) == 0) (PC Tryd.prog 8 #[] w38 (fun v40 w41 => ∃ (t42 : Bool), v40 = .bool t42 ∧ R (.returned (.bool t42)) w41) (fun ch w =>
      R (.panicked ch) w)) (R (.returned (.bool false)) w38)) (fun ch w => R (.panicked ch) w)) (R (.returned (.bool false)) w35)) (R (.returned (.bool false)) w35)) (fun ch w =>
      R (.panicked ch) w))) (R (.returned (.bool false)) w26)) (R (.returned (.bool false)) w26))) (fun pv w => R (.panicked [{ v := pv, recovered := false }]) w))) (fun ch w =>
      R (.panicked ch) w)) (fun ch w => R (.panicked ch) w)))) (fun ch w => R (.panicked ch) w)) :
    Calls Tryd.prog 6 #[.int .i64 a1, .int .i64 b2] w R :=
  D_calls A_law20_SegmentBack mixed Tryd.func6 rfl (Nat.le_of_ble_eq_true (by kernel_rfl)) (by kernel_rfl) (Eq.mp (by kernel_rfl) h)
/-- quayside/quaysidelaw21.ManifestAgain -/
abbrev F_law21_ManifestAgain : Nat := 7
def A_law21_ManifestAgain : Ann := ⟨[(5, [(5, .int .i64 0)])], [], [], [], [(12, ⟨[0, 1, 2, 4, 12, 4, 4, 100, 132, 260, 532, 1028, 2052, 5120, 8192, 24576, 40960, 73728, 139264, 262144, 786432, 1310720, 2359296, 4456448], [16777215, 16777214, 16777213, 16777211, 16777203, 16777211, 16777211, 16777115, 16777083, 16776955, 16776683, 16776187, 16775163, 16773119, 16769023, 16752639, 16736255, 16703487, 16646143, 16515071, 15990783, 15466495, 14417919, 12320767], [0, 0, 0, 0, 1, 0, 0, 0, 0, 1, 2, 0, 0, 0, 0, 0, 0, 0, 0, 0, 0, 1, 0, 0]⟩)]⟩
theorem L_law21_ManifestAgain {l1a : Option Addr} {l1n : Nat} {l1c : Nat} {w : World} {R : Ending → World → Prop}
    (h : PC Tryd.prog 15 #[.int .i64 4000] w (fun v2 w3 => ∃ (t4 : Option Addr), ∃ (t5 : Int), v2 = .tuple #[.pointer t4, .int .i64 t5] ∧ PIf ((t5 : Int) != 0) (R (.returned (.bool false)) w3) (PRun Tryd.prog (do eqGuard .eql 30 (.tmp 16) (.const (.pointer none)) (.pointer t4) (.pointer none); binOp .eql 30 (.pointer t4) (.pointer none)) w3 (fun v6 w7 =>
      ∃ (t8 : Bool), v6 = .bool t8 ∧ PIf t8 (R (.returned (.bool false)) w7) ((∃ I9 : Nat → Int → World → Prop, (∃ m10, I9 m10 0 w7) ∧ ∀ (m10 : Nat) (i12 : Int) (B13 : Nat → Value) (w14 : World), I9 m10 i12 w14 → PIf (decide ((i12 : Int) < ((l1n : Nat) : Int))) (PIf (decide ((i12 : Int) < 20)) ((∃ b15 o16, l1a = some ⟨b15, o16, none⟩ ∧
      (0 : Int) ≤ i12 ∧ i12 < ((l1n : Nat) : Int) ∧ (∃ (t17a : Option Addr) (t17n : Nat) (t17c : Nat), w14.cell? ⟨b15, o16 + Int.toNat i12, none⟩ = some (.slice t17a t17n t17c) ∧
      PIf (decide ((((t17n : Nat) : Int) : Int) > 64)) ((∃ m11, m11 < m10 ∧ I9 m11 (IntKind.wrap .i64 (i12 + 1)) w14)) ((∃ b18 o19, l1a = some ⟨b18, o19, none⟩ ∧
      (0 : Int) ≤ i12 ∧ i12 < ((l1n : Nat) : Int) ∧ (∃ (t20a : Option Addr) (t20n : Nat) (t20c : Nat), w14.cell? ⟨b18, o19 + Int.toNat i12, none⟩ = some (.slice t20a t20n t20c) ∧
      PC Tryd.prog 25 #[.pointer t4, .agg #[.slice t20a t20n t20c]] w14 (fun v21 w22 => ∃ (t23 : Int), v21 = .int .i64 t23 ∧ PIf ((t23 : Int) != 0) (R (.returned (.bool false)) w22) (PC Tryd.prog 26 #[.pointer t4] w22 (fun v24 w25 =>
      ∃ (t26a : Option Addr) (t26n : Nat) (t26c : Nat), ∃ (t27 : Bool), v24 = .tuple #[.agg #[.slice t26a t26n t26c], .bool t27] ∧ PA w25 (.cells #[.slice none 0 0] 59) fun w28 =>
      PS w28 ⟨w25.heap.size, 0, none⟩ (.slice t26a t26n t26c) fun w29 => PC Tryd.prog 27 #[.pointer t4] w29 (fun v30 w31 => ∃ (t32a : Option Addr) (t32n : Nat) (t32c : Nat), v30 = .slice t32a t32n t32c ∧
      (∀ w34, Drew w31 w34 → PIf (!t27) (R (.returned (.bool false)) w34) ((∃ (t35a : Option Addr) (t35n : Nat) (t35c : Nat), w34.cell? ⟨w25.heap.size, 0, none⟩ = some (.slice t35a t35n t35c) ∧
      (∃ b36 o37, l1a = some ⟨b36, o37, none⟩ ∧ (0 : Int) ≤ i12 ∧ i12 < ((l1n : Nat) : Int) ∧ (∃ (t38a : Option Addr) (t38n : Nat) (t38c : Nat), w34.cell? ⟨b36, o37 + Int.toNat i12, none⟩ = some (.slice t38a t38n t38c) ∧
      PC Tryd.prog 28 #[.slice t35a t35n t35c, .slice t38a t38n t38c] w34 (fun v39 w40 => ∃ (t41 : Bool), v39 = .bool t41 ∧ PIf (!t41) (R (.returned (.bool false)) w40) (PIf ((((t32n : Nat) : Int) : Int) != 1) (R (.returned (.bool false)) w40) ((∃ b42 o43, t32a = some ⟨b42, o43, none⟩ ∧
      (0 : Int) ≤ 0 ∧ 0 < ((t32n : Nat) : Int) ∧ (∃ (t44 : ByteArray), w40.cell? ⟨b42, o43 + Int.toNat 0, none⟩ = some (.string t44) ∧ PIf (!((ByteArray.toList t44) == (ByteArray.toList (⟨#[109, 97, 110, 105, 102, 101, 115, 116]⟩ : ByteArray)))) (R (.returned (.bool false)) w40) ((∃ m11, m11 < m10 ∧
      I9 m11 (IntKind.wrap .i64 (i12 + 1)) w40))))))) (fun ch wpp => ∀ (_ : Base) (_ : Bnd), R (.panicked ch) wpp))))))) (fun ch w => R (.panicked ch) w)) (fun ch w =>
      R (.panicked ch) w))) (fun ch w => R (.panicked ch) w))))))) (PC Tryd.prog 29 #[] w14 (fun v45 w46 => ∃ (t47 : Bool), v45 = .bool t47 ∧ R (.returned (.bool t47)) w46) (fun ch w =>
      R (.panicked ch) w))) (PC Tryd.prog 29 #[] w14 (fun v48 w49 => ∃ (t50 : Bool), v48 = .bool t50 ∧ R (.returned (.bool t50)) w49) (fun ch w => R (.panicked ch) w))))) (fun pv w =>
      R (.panicked [{ v := pv, recovered := false }]) w))) (fun ch w => R (.panicked ch) w)) :
    Calls Tryd.prog 7 #[.slice l1a l1n l1c] w R :=
  D_calls A_law21_ManifestAgain mixed Tryd.func7 rfl (Nat.le_of_ble_eq_true (by kernel_rfl)) (by kernel_rfl) (Eq.mp (by kernel_rfl) h)
/-- quayside/quaysidelaw20.works -/
abbrev F_law20_works : Nat := 8
def A_law20_works : Ann := ⟨[], [], [], [], []⟩
theorem L_law20_works  {w : World} {R : Ending → World → Prop}
    (h : PC Tryd.prog 15 #[.int .i64 1000] w (fun v1 w2 => ∃ (t3 : Option Addr), ∃ (t4 : Int), v1 = .tuple #[.pointer t3, .int .i64 t4] ∧ PC Tryd.prog 22 #[.int .i64 1] w2 (fun v5 w6 =>
      ∃ (t7 : Int), ∃ (t8 : Int), ∃ (t9 : Int), ∃ (t10a : Option Addr) (t10n : Nat) (t10c : Nat), ∃ (t11 : Int), ∃ (t12 : Int), ∃ (t13 : Int), ∃ (t14 : Int), ∃ (t15 : Int), ∃ (t16 : Int), v5 = .agg #[.int .i64 t7, .int .i64 t8, .int .i64 t9, .slice t10a t10n t10c, .int .i64 t11, .int .i64 t12, .int .i64 t13, .int .i64 t14, .int .i64 t15, .int .i64 t16] ∧
      PC Tryd.prog 17 #[.agg #[.int .i64 t7, .int .i64 t8, .int .i64 t9, .slice t10a t10n t10c, .int .i64 t11, .int .i64 t12, .int .i64 t13, .int .i64 t14, .int .i64 t15, .int .i64 t16]] w6 (fun v17 w18 =>
      ∃ (t19a : Option Addr) (t19n : Nat) (t19c : Nat), ∃ (t20 : Int), v17 = .tuple #[.slice t19a t19n t19c, .int .i64 t20] ∧ PC Tryd.prog 22 #[.int .i64 2] w18 (fun v21 w22 =>
      ∃ (t23 : Int), ∃ (t24 : Int), ∃ (t25 : Int), ∃ (t26a : Option Addr) (t26n : Nat) (t26c : Nat), ∃ (t27 : Int), ∃ (t28 : Int), ∃ (t29 : Int), ∃ (t30 : Int), ∃ (t31 : Int), ∃ (t32 : Int), v21 = .agg #[.int .i64 t23, .int .i64 t24, .int .i64 t25, .slice t26a t26n t26c, .int .i64 t27, .int .i64 t28, .int .i64 t29, .int .i64 t30, .int .i64 t31, .int .i64 t32] ∧
      PC Tryd.prog 17 #[.agg #[.int .i64 t23, .int .i64 t24, .int .i64 t25, .slice t26a t26n t26c, .int .i64 t27, .int .i64 t28, .int .i64 t29, .int .i64 t30, .int .i64 t31, .int .i64 t32]] w22 (fun v33 w34 =>
      ∃ (t35a : Option Addr) (t35n : Nat) (t35c : Nat), ∃ (t36 : Int), v33 = .tuple #[.slice t35a t35n t35c, .int .i64 t36] ∧ PC Tryd.prog 9 #[.string (⟨#[115, 101, 103, 46, 55]⟩ : ByteArray)] w34 (fun v37 w38 =>
      ∃ (t39 : Int), ∃ (t40 : Bool), v37 = .tuple #[.int .i64 t39, .bool t40] ∧ PC Tryd.prog 9 #[.string (⟨#[115, 101, 103, 46, 48, 55]⟩ : ByteArray)] w38 (fun v41 w42 =>
      ∃ (t43 : Int), ∃ (t44 : Bool), v41 = .tuple #[.int .i64 t43, .bool t44] ∧ PIf ((t4 : Int) != 0) (R (.returned (.bool false)) w42) (PIf ((t20 : Int) != 0) (R (.returned (.bool false)) w42) (PIf ((t36 : Int) != 0) (R (.returned (.bool false)) w42) (PRun Tryd.prog (do eqGuard .eql 30 (.tmp 46) (.const (.pointer none)) (.pointer t3) (.pointer none); binOp .eql 30 (.pointer t3) (.pointer none)) w42 (fun v45 w46 =>
      ∃ (t47 : Bool), v45 = .bool t47 ∧ PIf t47 (R (.returned (.bool false)) w46) (PC Tryd.prog 16 #[.pointer t3, .string (⟨#[115, 101, 103, 46, 55]⟩ : ByteArray)] w46 (fun v48 w49 =>
      ∃ (t50 : Int), v48 = .int .i64 t50 ∧ PIf ((t50 : Int) != 0) (R (.returned (.bool false)) w49) (PC Tryd.prog 18 #[.pointer t3, .string (⟨#[115, 101, 103, 46, 55]⟩ : ByteArray), .slice t19a t19n t19c] w49 (fun v51 w52 =>
      ∃ (t53 : Int), v51 = .int .i64 t53 ∧ PC Tryd.prog 18 #[.pointer t3, .string (⟨#[115, 101, 103, 46, 55]⟩ : ByteArray), .slice t35a t35n t35c] w52 (fun v54 w55 =>
      ∃ (t56 : Int), v54 = .int .i64 t56 ∧ ((0 : Int) ≤ (IntKind.wrap .i64 (Int.tdiv ((t19n : Nat) : Int) 2)) ∧ ((IntKind.wrap .i64 (Int.tdiv ((t19n : Nat) : Int) 2)) : Int) ≤ ((t19c : Nat) : Int) ∧
      PC Tryd.prog 18 #[.pointer t3, .string (⟨#[115, 101, 103, 46, 55]⟩ : ByteArray), .slice t19a (Int.toNat (IntKind.wrap .i64 (Int.tdiv ((t19n : Nat) : Int) 2))) t19c] w55 (fun v57 w58 =>
      ∃ (t59 : Int), v57 = .int .i64 t59 ∧ PC Tryd.prog 19 #[.pointer t3, .int .i64 7] w58 (fun v60 w61 => ∃ (t62a : Option Addr) (t62n : Nat) (t62c : Nat), ∃ (t63 : Int), v60 = .tuple #[.slice t62a t62n t62c, .int .i64 t63] ∧
      PC Tryd.prog 11 #[.int .i64 7] w61 (fun v64 w65 => ∃ (t66 : ByteArray), v64 = .string t66 ∧ PIf ((ByteArray.toList t66) == (ByteArray.toList (⟨#[115, 101, 103, 46, 55]⟩ : ByteArray))) (PIf ((t39 : Int) == 7) (PIf t40 (PIf (!t44) (PIf ((t63 : Int) == (IntKind.wrap .i64 (((t19n : Nat) : Int) + ((t35n : Nat) : Int)))) (PC Tryd.prog 22 #[.int .i64 1] w65 (fun v67 w68 =>
      ∃ (t69 : Int), ∃ (t70 : Int), ∃ (t71 : Int), ∃ (t72a : Option Addr) (t72n : Nat) (t72c : Nat), ∃ (t73 : Int), ∃ (t74 : Int), ∃ (t75 : Int), ∃ (t76 : Int), ∃ (t77 : Int), ∃ (t78 : Int), v67 = .agg #[.int .i64 t69, .int .i64 t70, .int .i64 t71, .slice t72a t72n t72c, .int .i64 t73, .int .i64 t74, .int .i64 t75, .int .i64 t76, .int .i64 t77, .int .i64 t78] ∧
      PC Tryd.prog 22 #[.int .i64 2] w68 (fun v79 w80 => ∃ (t81 : Int), ∃ (t82 : Int), ∃ (t83 : Int), ∃ (t84a : Option Addr) (t84n : Nat) (t84c : Nat), ∃ (t85 : Int), ∃ (t86 : Int), ∃ (t87 : Int), ∃ (t88 : Int), ∃ (t89 : Int), ∃ (t90 : Int), v79 = .agg #[.int .i64 t81, .int .i64 t82, .int .i64 t83, .slice t84a t84n t84c, .int .i64 t85, .int .i64 t86, .int .i64 t87, .int .i64 t88, .int .i64 t89, .int .i64 t90] ∧
      PA w80 (.cells #[.int .i64 t69, .int .i64 t70, .int .i64 t71, .slice t72a t72n t72c, .int .i64 t73, .int .i64 t74, .int .i64 t75, .int .i64 t76, .int .i64 t77, .int .i64 t78, .int .i64 t81, .int .i64 t82, .int .i64 t83, .slice t84a t84n t84c, .int .i64 t85, .int .i64 t86, .int .i64 t87, .int .i64 t88, .int .i64 t89, .int .i64 t90] 42) fun w91 =>
      PC Tryd.prog 20 #[.slice t62a t62n t62c, .slice (some ⟨w80.heap.size, 0, none⟩) 2 2] w91 (fun v92 w93 => ∃ (t94 : Bool), v92 = .bool t94 ∧ R (.returned (.bool t94)) w93) (fun ch w =>
      R (.panicked ch) w)) (fun ch w => R (.panicked ch) w)) (fun ch w => R (.panicked ch) w)) (R (.returned (.bool false)) w65)) (R (.returned (.bool false)) w65)) (R (.returned (.bool false)) w65)) (R (.returned (.bool false)) w65)) (R (.returned (.bool false)) w65)) (fun ch w =>
      R (.panicked ch) w)) (fun ch w => R (.panicked ch) w)) (fun ch w => R (.panicked ch) w))) (fun ch w => R (.panicked ch) w)) (fun ch w => R (.panicked ch) w))) (fun ch w =>
      R (.panicked ch) w))) (fun pv w => R (.panicked [{ v := pv, recovered := false }]) w))))) (fun ch w => R (.panicked ch) w)) (fun ch w => R (.panicked ch) w)) (fun ch w =>
      R (.panicked ch) w)) (fun ch w => R (.panicked ch) w)) (fun ch w => R (.panicked ch) w)) (fun ch w => R (.panicked ch) w)) (fun ch w => R (.panicked ch) w)) :
    Calls Tryd.prog 8 #[] w R :=
  D_calls A_law20_works mixed Tryd.func8 rfl (Nat.le_of_ble_eq_true (by kernel_rfl)) (by kernel_rfl) (Eq.mp (by kernel_rfl) h)
/-- quayside/segment.Number -/
abbrev F_segment_Number : Nat := 9
def A_segment_Number : Ann := ⟨[(6, [(6, .int .i64 0)])], [], [], [], []⟩
theorem L_segment_Number {name1 : ByteArray} {w : World} {R : Ending → World → Prop}
    (h : PC Tryd.prog 30 #[.string name1, .string (⟨#[115, 101, 103, 46]⟩ : ByteArray)] w (fun v2 w3 => ∃ (t4 : ByteArray), ∃ (t5 : Bool), v2 = .tuple #[.string t4, .bool t5] ∧
      PIf (!t5) (R (.returned (.tuple #[.int .i64 0, .bool false])) w3) (PIf (decide ((((ByteArray.size t4 : Nat) : Int) : Int) > 12)) (R (.returned (.tuple #[.int .i64 0, .bool false])) w3) (PRun Tryd.prog (Instr.range 9 (.string t4)) w3 (fun v6 w7 =>
      (∃ I8 : Nat → Int → World → Prop, (∃ m9, I8 m9 0 w7) ∧ ∀ (m9 : Nat) (no11 : Int) (B12 : Nat → Value) (w13 : World), I8 m9 no11 w13 → PRun Tryd.prog (Instr.next v6 true 0) w13 (fun v14 w15 =>
      (v14 = .tuple #[.bool false] ∧ PC Tryd.prog 11 #[.int .i64 no11] w15 (fun v16 w17 => ∃ (t18 : ByteArray), v16 = .string t18 ∧ PIf (!((ByteArray.toList t18) == (ByteArray.toList name1))) (R (.returned (.tuple #[.int .i64 0, .bool false])) w17) (R (.returned (.tuple #[.int .i64 no11, .bool true])) w17)) (fun ch w =>
      R (.panicked ch) w)) ∨ (∃ i19 r20, v14 = .tuple #[.bool true, .int .i64 i19, .int .i32 r20] ∧ PIf (decide ((r20 : Int) < 48)) (R (.returned (.tuple #[.int .i64 0, .bool false])) w15) (PIf (decide ((r20 : Int) > 57)) (R (.returned (.tuple #[.int .i64 0, .bool false])) w15) ((∃ m10, m10 < m9 ∧
      I8 m10 (IntKind.wrap .i64 ((IntKind.wrap .i64 (10 * no11)) + (IntKind.wrap .i64 (IntKind.wrap .i32 (r20 - 48))))) w15))))) (fun pv w => R (.panicked [{ v := pv, recovered := false }]) w))) (fun pv w =>
      R (.panicked [{ v := pv, recovered := false }]) w)))) (fun ch w => R (.panicked ch) w)) :
    Calls Tryd.prog 9 #[.string name1] w R :=
  D_calls A_segment_Number mixed Tryd.func9 rfl (Nat.le_of_ble_eq_true (by kernel_rfl)) (by kernel_rfl) (Eq.mp (by kernel_rfl) h)
/-- quayside/quaysideref20.Number -/
abbrev F_ref20_Number : Nat := 10
def A_ref20_Number : Ann := ⟨[(5, [(4, .int .i64 0), (5, .int .i64 0)])], [(3, [])], [], [], []⟩
theorem L_ref20_Number {name1 : ByteArray} {w : World} {R : Ending → World → Prop}
    (h : (∃ J2 : World → Prop, (PIf (decide ((((ByteArray.size name1 : Nat) : Int) : Int) < 5)) (R (.returned (.tuple #[.int .i64 0, .bool false])) w) (PIf (decide ((((ByteArray.size name1 : Nat) : Int) : Int) > 16)) (R (.returned (.tuple #[.int .i64 0, .bool false])) w) (((0 : Int) ≤ 4 ∧
      (4 : Int) ≤ ((ByteArray.size name1 : Nat) : Int) ∧ PIf (!((ByteArray.toList (ByteArray.extract name1 0 (Int.toNat 4))) == (ByteArray.toList (⟨#[115, 101, 103, 46]⟩ : ByteArray)))) (R (.returned (.tuple #[.int .i64 0, .bool false])) w) (((0 : Int) ≤ 4 ∧
      ∃ c3, name1[Int.toNat 4]? = some c3 ∧ PIf ((((c3.toNat : Nat) : Int) : Int) == 48) (PIf (decide ((((ByteArray.size name1 : Nat) : Int) : Int) > 5)) (R (.returned (.tuple #[.int .i64 0, .bool false])) w) (J2  w)) (J2  w))))))) ∧
      ∀  (B4 : Nat → Value) (w5 : World), J2  w5 → (∃ I6 : Nat → Int → Int → World → Prop, (∃ m7, I6 m7 0 4 w5) ∧ ∀ (m7 : Nat) (no9 : Int) (i10 : Int) (B11 : Nat → Value) (w12 : World), I6 m7 no9 i10 w12 → PIf (decide ((i10 : Int) < ((ByteArray.size name1 : Nat) : Int))) (((0 : Int) ≤ i10 ∧
      ∃ c13, name1[Int.toNat i10]? = some c13 ∧ PIf (decide ((((c13.toNat : Nat) : Int) : Int) < 48)) (R (.returned (.tuple #[.int .i64 0, .bool false])) w12) (((0 : Int) ≤ i10 ∧
      ∃ c14, name1[Int.toNat i10]? = some c14 ∧ PIf (decide ((((c14.toNat : Nat) : Int) : Int) > 57)) (R (.returned (.tuple #[.int .i64 0, .bool false])) w12) (((0 : Int) ≤ i10 ∧
      ∃ c15, name1[Int.toNat i10]? = some c15 ∧ (∃ m8, m8 < m7 ∧ I6 m8 (IntKind.wrap .i64 ((IntKind.wrap .i64 ((IntKind.wrap .i64 (10 * no9)) + (IntKind.wrap .i64 ((c15.toNat : Nat) : Int)))) - 48)) (IntKind.wrap .i64 (i10 + 1)) w12))))))) (R (.returned (.tuple #[.int .i64 no9, .bool true])) w12)))) :
    Calls Tryd.prog 10 #[.string name1] w R :=
  D_calls A_ref20_Number mixed Tryd.func10 rfl (Nat.le_of_ble_eq_true (by kernel_rfl)) (by kernel_rfl) (Eq.mp (by kernel_rfl) h)
/-- quayside/segment.Name -/
abbrev F_segment_Name : Nat := 11
def A_segment_Name : Ann := ⟨[], [], [], [], []⟩
theorem L_segment_Name {no1 : Int} {w : World} {R : Ending → World → Prop}
    (h : PIf (decide ((no1 : Int) < 0)) (R (.returned (.string (⟨#[]⟩ : ByteArray))) w) (PIf (decide ((no1 : Int) ≥ 1000000000000)) (R (.returned (.string (⟨#[]⟩ : ByteArray))) w) (PC Tryd.prog 31 #[.int .i64 no1] w (fun v2 w3 =>
      ∃ (t4 : ByteArray), v2 = .string t4 ∧ PRun Tryd.prog (do eqGuard .add 9 (.const (.string (⟨#[115, 101, 103, 46]⟩ : ByteArray))) (.tmp 10) (.string (⟨#[115, 101, 103, 46]⟩ : ByteArray)) (.string t4); binOp .add 9 (.string (⟨#[115, 101, 103, 46]⟩ : ByteArray)) (.string t4)) w3 (fun v5 w6 =>
      ∃ (t7 : ByteArray), v5 = .string t7 ∧ R (.returned (.string t7)) w6) (fun pv w => R (.panicked [{ v := pv, recovered := false }]) w)) (fun ch w => R (.panicked ch) w)))) :
    Calls Tryd.prog 11 #[.int .i64 no1] w R :=
  D_calls A_segment_Name mixed Tryd.func11 rfl (Nat.le_of_ble_eq_true (by kernel_rfl)) (by kernel_rfl) (Eq.mp (by kernel_rfl) h)
/-- quayside/quaysideref20.Name -/
abbrev F_ref20_Name : Nat := 12
def A_ref20_Name : Ann := ⟨[(4, [(0, .int .i64 0), (3, .slice none 0 0)]), (9, [(4, .slice none 0 0), (5, .int .i64 0)])], [], [], [], []⟩
theorem L_ref20_Name {no1 : Int} {w : World} {R : Ending → World → Prop}
    (h : PIf (decide ((no1 : Int) < 0)) (R (.returned (.string (⟨#[]⟩ : ByteArray))) w) (PIf (decide ((no1 : Int) > 999999999999)) (R (.returned (.string (⟨#[]⟩ : ByteArray))) w) ((∃ I2 : Nat → Int → Option Addr → Nat → Nat → World → Prop, (∃ m3, I2 m3 no1 none 0 0 w) ∧
      ∀ (m3 : Nat) (no5 : Int) (digits6a : Option Addr) (digits6n : Nat) (digits6c : Nat) (B7 : Nat → Value) (w8 : World), I2 m3 no5 digits6a digits6n digits6c w8 → PA w8 (.cells #[.int .u8 (IntKind.wrap .u8 (IntKind.wrap .i64 (48 + (Int.tmod no5 10))))] 5) fun w9 =>
      PRun Tryd.prog (Builtin.append_ #[35, 35] 35 #[.slice digits6a digits6n digits6c, .slice (some ⟨w8.heap.size, 0, none⟩) 1 1]) w9 (fun v10 w11 => ∃ (t12a : Option Addr) (t12n : Nat) (t12c : Nat), v10 = .slice t12a t12n t12c ∧
      PIf (((IntKind.wrap .i64 (Int.tdiv no5 10)) : Int) == 0) (PA w11 (.cells #[.int .u8 115, .int .u8 101, .int .u8 103, .int .u8 46] 5) fun w13 => PRun Tryd.prog (convert 35 35 (.slice (some ⟨w11.heap.size, 0, none⟩) 4 4)) w13 (fun v14 w15 =>
      ∃ (t16a : Option Addr) (t16n : Nat) (t16c : Nat), v14 = .slice t16a t16n t16c ∧ (∃ I17 : Nat → Option Addr → Nat → Nat → Int → World → Prop, (∃ m18, I17 m18 t16a t16n t16c (IntKind.wrap .i64 (((t12n : Nat) : Int) - 1)) w15) ∧
      ∀ (m18 : Nat) (out20a : Option Addr) (out20n : Nat) (out20c : Nat) (i21 : Int) (B22 : Nat → Value) (w23 : World), I17 m18 out20a out20n out20c i21 w23 → PIf (decide ((i21 : Int) ≥ 0)) ((∃ b24 o25, t12a = some ⟨b24, o25, none⟩ ∧
      (0 : Int) ≤ i21 ∧ i21 < ((t12n : Nat) : Int) ∧ (∃ (t26 : Int), w23.cell? ⟨b24, o25 + Int.toNat i21, none⟩ = some (.int .u8 t26) ∧ PA w23 (.cells #[.int .u8 t26] 5) fun w27 =>
      PRun Tryd.prog (Builtin.append_ #[35, 35] 35 #[.slice out20a out20n out20c, .slice (some ⟨w23.heap.size, 0, none⟩) 1 1]) w27 (fun v28 w29 => ∃ (t30a : Option Addr) (t30n : Nat) (t30c : Nat), v28 = .slice t30a t30n t30c ∧
      (∃ m19, m19 < m18 ∧ I17 m19 t30a t30n t30c (IntKind.wrap .i64 (i21 - 1)) w29)) (fun pv w => R (.panicked [{ v := pv, recovered := false }]) w)))) (PRun Tryd.prog (convert 35 9 (.slice out20a out20n out20c)) w23 (fun v31 w32 =>
      ∃ (t33 : ByteArray), v31 = .string t33 ∧ R (.returned (.string t33)) w32) (fun pv w => R (.panicked [{ v := pv, recovered := false }]) w)))) (fun pv w =>
      R (.panicked [{ v := pv, recovered := false }]) w)) ((∃ m4, m4 < m3 ∧ I2 m4 (IntKind.wrap .i64 (Int.tdiv no5 10)) t12a t12n t12c w11))) (fun pv w => R (.panicked [{ v := pv, recovered := false }]) w))))) :
    Calls Tryd.prog 12 #[.int .i64 no1] w R :=
  D_calls A_ref20_Name mixed Tryd.func12 rfl (Nat.le_of_ble_eq_true (by kernel_rfl)) (by kernel_rfl) (Eq.mp (by kernel_rfl) h)
/-- quayside/quaysidelaw10.Long -/
abbrev F_law10_Long : Nat := 13
def A_law10_Long : Ann := ⟨[(2, [(3, .int .i64 0)])], [], [], [], []⟩
theorem L_law10_Long {l1a : Option Addr} {l1n : Nat} {l1c : Nat} {w : World} {R : Ending → World → Prop}
    (h : (∃ I2 : Nat → Int → World → Prop, (∃ m3, I2 m3 0 w) ∧ ∀ (m3 : Nat) (i5 : Int) (B6 : Nat → Value) (w7 : World), I2 m3 i5 w7 → PIf (decide ((i5 : Int) < ((l1n : Nat) : Int))) ((∃ b8 o9, l1a = some ⟨b8, o9, none⟩ ∧
      (0 : Int) ≤ i5 ∧ i5 < ((l1n : Nat) : Int) ∧ (∃ (t10a : Option Addr) (t10n : Nat) (t10c : Nat), w7.cell? ⟨b8, o9 + Int.toNat i5 * 10 + 3, none⟩ = some (.slice t10a t10n t10c) ∧
      PIf (decide ((((t10n : Nat) : Int) : Int) > 100)) (R (.returned (.bool true)) w7) ((∃ m4, m4 < m3 ∧ I2 m4 (IntKind.wrap .i64 (i5 + 1)) w7))))) (R (.returned (.bool (decide ((((l1n : Nat) : Int) : Int) > 200)))) w7))) :
    Calls Tryd.prog 13 #[.slice l1a l1n l1c] w R :=
  D_calls A_law10_Long mixed Tryd.func13 rfl (Nat.le_of_ble_eq_true (by kernel_rfl)) (by kernel_rfl) (Eq.mp (by kernel_rfl) h)
/-- quayside/quaysidekit.Pick -/
abbrev F_kit_Pick : Nat := 14
def A_kit_Pick : Ann := ⟨[], [], [], [], []⟩
theorem L_kit_Pick {k1 : Int} {n2 : Int} {w : World} {R : Ending → World → Prop}
    (h : PIf (decide ((n2 : Int) < 1)) (R (.returned (.int .i64 0)) w) (PRun Tryd.prog (do eqGuard .rem 3 (.tmp 7) (.tmp 8) (.int .i64 k1) (.int .i64 n2); binOp .rem 3 (.int .i64 k1) (.int .i64 n2)) w (fun v3 w4 =>
      ∃ (t5 : Int), v3 = .int .i64 t5 ∧ PIf (decide ((t5 : Int) < 0)) (R (.returned (.int .i64 (IntKind.wrap .i64 (t5 + n2)))) w4) (R (.returned (.int .i64 t5)) w4)) (fun pv w =>
      R (.panicked [{ v := pv, recovered := false }]) w))) :
    Calls Tryd.prog 14 #[.int .i64 k1, .int .i64 n2] w R :=
  D_calls A_kit_Pick mixed Tryd.func14 rfl (Nat.le_of_ble_eq_true (by kernel_rfl)) (by kernel_rfl) (Eq.mp (by kernel_rfl) h)
/-- quayside/vdisk.New -/
abbrev F_vdisk_New : Nat := 15
def A_vdisk_New : Ann := ⟨[], [], [], [], []⟩
theorem L_vdisk_New {n1 : Int} {w : World} {R : Ending → World → Prop}
    (h : PIf (decide ((n1 : Int) < 64)) (R (.returned (.tuple #[.pointer none, .int .i64 1])) w) (PIf (decide ((n1 : Int) > 262144)) (R (.returned (.tuple #[.pointer none, .int .i64 1])) w) (PA w (.map #[] 0) fun w2 =>
      PA w2 (.cells #[.int .i64 n1, .map (some w.heap.size), .bool false, .int .i64 0, .bool false] 71) fun w3 => R (.returned (.tuple #[.pointer (some ⟨w2.heap.size, 0, none⟩), .int .i64 0])) w3))) :
    Calls Tryd.prog 15 #[.int .i64 n1] w R :=
  D_calls A_vdisk_New mixed Tryd.func15 rfl (Nat.le_of_ble_eq_true (by kernel_rfl)) (by kernel_rfl) (Eq.mp (by kernel_rfl) h)
/-- (*quayside/vdisk.Disk).Create -/
abbrev F_vdisk_Disk_Create : Nat := 16
def A_vdisk_Disk_Create : Ann := ⟨[], [], [], [], []⟩
theorem L_vdisk_Disk_Create {d1 : Option Addr} {name2 : ByteArray} {w : World} {R : Ending → World → Prop}
    (h : PA w (.cells #[.pointer d1] 30) fun w3 => PA w3 (.cells #[.string name2] 9) fun w4 => (∃ (t5 : Option Addr), w4.cell? ⟨w.heap.size, 0, none⟩ = some (.pointer t5) ∧
      PC Tryd.prog 32 #[.pointer t5, .func (.func 33) #[] #[.pointer (some ⟨w3.heap.size, 0, none⟩), .pointer (some ⟨w.heap.size, 0, none⟩)]] w4 (fun v6 w7 =>
      ∃ (t8 : Int), v6 = .int .i64 t8 ∧ R (.returned (.int .i64 t8)) w7) (fun ch w => R (.panicked ch) w))) :
    Calls Tryd.prog 16 #[.pointer d1, .string name2] w R :=
  D_calls A_vdisk_Disk_Create mixed Tryd.func16 rfl (Nat.le_of_ble_eq_true (by kernel_rfl)) (by kernel_rfl) (Eq.mp (by kernel_rfl) h)
/-- quayside/segment.Frame -/
abbrev F_segment_Frame : Nat := 17
def A_segment_Frame : Ann := ⟨[], [], [], [], []⟩
theorem L_segment_Frame {e2 : Int} {e3 : Int} {e4 : Int} {e5a : Option Addr} {e5n : Nat} {e5c : Nat} {e6 : Int} {e7 : Int} {e8 : Int} {e9 : Int} {e10 : Int} {e11 : Int} {w : World} {R : Ending → World → Prop}
    (h : PA w (.cells #[.int .i64 e2, .int .i64 e3, .int .i64 e4, .slice e5a e5n e5c, .int .i64 e6, .int .i64 e7, .int .i64 e8, .int .i64 e9, .int .i64 e10, .int .i64 e11] 42) fun w12 =>
      (∃ (t13 : Int), ∃ (t14 : Int), ∃ (t15 : Int), ∃ (t16a : Option Addr) (t16n : Nat) (t16c : Nat), ∃ (t17 : Int), ∃ (t18 : Int), ∃ (t19 : Int), ∃ (t20 : Int), ∃ (t21 : Int), ∃ (t22 : Int), w12.cell? ⟨w.heap.size, 0, none⟩ = some (.int .i64 t13) ∧
      w12.cell? ⟨w.heap.size, 0 + 1, none⟩ = some (.int .i64 t14) ∧ w12.cell? ⟨w.heap.size, 0 + 2, none⟩ = some (.int .i64 t15) ∧ w12.cell? ⟨w.heap.size, 0 + 3, none⟩ = some (.slice t16a t16n t16c) ∧
      w12.cell? ⟨w.heap.size, 0 + 4, none⟩ = some (.int .i64 t17) ∧ w12.cell? ⟨w.heap.size, 0 + 5, none⟩ = some (.int .i64 t18) ∧ w12.cell? ⟨w.heap.size, 0 + 6, none⟩ = some (.int .i64 t19) ∧
      w12.cell? ⟨w.heap.size, 0 + 7, none⟩ = some (.int .i64 t20) ∧ w12.cell? ⟨w.heap.size, 0 + 8, none⟩ = some (.int .i64 t21) ∧ w12.cell? ⟨w.heap.size, 0 + 9, none⟩ = some (.int .i64 t22) ∧
      PC Tryd.prog 35 #[.agg #[.int .i64 t13, .int .i64 t14, .int .i64 t15, .slice t16a t16n t16c, .int .i64 t17, .int .i64 t18, .int .i64 t19, .int .i64 t20, .int .i64 t21, .int .i64 t22]] w12 (fun v23 w24 =>
      ∃ (t25a : Option Addr) (t25n : Nat) (t25c : Nat), ∃ (t26 : Int), v23 = .tuple #[.slice t25a t25n t25c, .int .i64 t26] ∧ PIf ((t26 : Int) != 0) (R (.returned (.tuple #[.slice none 0 0, .int .i64 t26])) w24) (PC Tryd.prog 21 #[.agg #[.int .i64 1, .slice t25a t25n t25c]] w24 (fun v27 w28 =>
      ∃ (t29a : Option Addr) (t29n : Nat) (t29c : Nat), ∃ (t30 : Int), v27 = .tuple #[.slice t29a t29n t29c, .int .i64 t30] ∧ R (.returned (.tuple #[.slice t29a t29n t29c, .int .i64 t30])) w28) (fun ch w =>
      R (.panicked ch) w))) (fun ch w => R (.panicked ch) w))) :
    Calls Tryd.prog 17 #[.agg #[.int .i64 e2, .int .i64 e3, .int .i64 e4, .slice e5a e5n e5c, .int .i64 e6, .int .i64 e7, .int .i64 e8, .int .i64 e9, .int .i64 e10, .int .i64 e11]] w R :=
  D_calls A_segment_Frame mixed Tryd.func17 rfl (Nat.le_of_ble_eq_true (by kernel_rfl)) (by kernel_rfl) (Eq.mp (by kernel_rfl) h)
/-- (*quayside/vdisk.Disk).Append -/
abbrev F_vdisk_Disk_Append : Nat := 18
def A_vdisk_Disk_Append : Ann := ⟨[], [], [], [], []⟩
theorem L_vdisk_Disk_Append {d1 : Option Addr} {name2 : ByteArray} {b3a : Option Addr} {b3n : Nat} {b3c : Nat} {w : World} {R : Ending → World → Prop}
    (h : PA w (.cells #[.pointer d1] 30) fun w4 => PA w4 (.cells #[.slice b3a b3n b3c] 35) fun w5 => (∃ (t6 : Option Addr), w5.cell? ⟨w.heap.size, 0, none⟩ = some (.pointer t6) ∧
      PC Tryd.prog 36 #[.pointer t6, .string name2, .func (.func 37) #[] #[.pointer (some ⟨w4.heap.size, 0, none⟩), .pointer (some ⟨w.heap.size, 0, none⟩)]] w5 (fun v7 w8 =>
      ∃ (t9 : Int), v7 = .int .i64 t9 ∧ R (.returned (.int .i64 t9)) w8) (fun ch w => R (.panicked ch) w))) :
    Calls Tryd.prog 18 #[.pointer d1, .string name2, .slice b3a b3n b3c] w R :=
  D_calls A_vdisk_Disk_Append mixed Tryd.func18 rfl (Nat.le_of_ble_eq_true (by kernel_rfl)) (by kernel_rfl) (Eq.mp (by kernel_rfl) h)
/-- quayside/segment.Load -/
abbrev F_segment_Load : Nat := 19
def A_segment_Load : Ann := ⟨[(6, [(8, .slice none 0 0), (9, .int .i64 0)])], [], [], [], []⟩
theorem L_segment_Load {d1 : Option Addr} {no2 : Int} {w : World} {R : Ending → World → Prop}
    (h : PC Tryd.prog 11 #[.int .i64 no2] w (fun v3 w4 => ∃ (t5 : ByteArray), v3 = .string t5 ∧ PC Tryd.prog 39 #[.pointer d1, .string t5] w4 (fun v6 w7 => ∃ (t8a : Option Addr) (t8n : Nat) (t8c : Nat), ∃ (t9 : Int), v6 = .tuple #[.slice t8a t8n t8c, .int .i64 t9] ∧
      PIf ((t9 : Int) != 0) (R (.returned (.tuple #[.slice none 0 0, .int .i64 0])) w7) ((∃ I10 : Nat → Option Addr → Nat → Nat → Int → World → Prop, (∃ m11, I10 m11 none 0 0 0 w7) ∧
      ∀ (m11 : Nat) (out13a : Option Addr) (out13n : Nat) (out13c : Nat) (at14 : Int) (B15 : Nat → Value) (w16 : World), I10 m11 out13a out13n out13c at14 w16 → ((0 : Int) ≤ at14 ∧
      (at14 : Int) ≤ ((t8n : Nat) : Int) ∧ PC Tryd.prog 40 #[.slice (subA t8a (Int.toNat at14) t8c 1) (t8n - Int.toNat at14) (t8c - Int.toNat at14)] w16 (fun v17 w18 =>
      ∃ (t19 : Int), ∃ (t20a : Option Addr) (t20n : Nat) (t20c : Nat), ∃ (t21 : Int), ∃ (t22 : Int), v17 = .tuple #[.agg #[.int .i64 t19, .slice t20a t20n t20c], .int .i64 t21, .int .i64 t22] ∧
      PA w18 (.cells #[.int .i64 0, .slice none 0 0] 50) fun w23 => PS w23 ⟨w18.heap.size, 0, none⟩ (.int .i64 t19) fun w24 => PS w24 ⟨w18.heap.size, 0 + 1, none⟩ (.slice t20a t20n t20c) fun w25 =>
      PIf ((t22 : Int) != 0) (R (.returned (.tuple #[.slice out13a out13n out13c, .int .i64 at14])) w25) ((∃ (t26 : Int), w25.cell? ⟨w18.heap.size, 0, none⟩ = some (.int .i64 t26) ∧
      PIf ((t26 : Int) != 1) (R (.returned (.tuple #[.slice out13a out13n out13c, .int .i64 at14])) w25) ((∃ (t27a : Option Addr) (t27n : Nat) (t27c : Nat), w25.cell? ⟨w18.heap.size, 0 + 1, none⟩ = some (.slice t27a t27n t27c) ∧
      PC Tryd.prog 23 #[.slice t27a t27n t27c] w25 (fun v28 w29 => ∃ (t30 : Int), ∃ (t31 : Int), ∃ (t32 : Int), ∃ (t33a : Option Addr) (t33n : Nat) (t33c : Nat), ∃ (t34 : Int), ∃ (t35 : Int), ∃ (t36 : Int), ∃ (t37 : Int), ∃ (t38 : Int), ∃ (t39 : Int), ∃ (t40 : Int), v28 = .tuple #[.agg #[.int .i64 t30, .int .i64 t31, .int .i64 t32, .slice t33a t33n t33c, .int .i64 t34, .int .i64 t35, .int .i64 t36, .int .i64 t37, .int .i64 t38, .int .i64 t39], .int .i64 t40] ∧
      PA w29 (.cells #[.int .i64 0, .int .i64 0, .int .i64 0, .slice none 0 0, .int .i64 0, .int .i64 0, .int .i64 0, .int .i64 0, .int .i64 0, .int .i64 0] 42) fun w41 =>
      PS w41 ⟨w29.heap.size, 0, none⟩ (.int .i64 t30) fun w42 => PS w42 ⟨w29.heap.size, 0 + 1, none⟩ (.int .i64 t31) fun w43 => PS w43 ⟨w29.heap.size, 0 + 2, none⟩ (.int .i64 t32) fun w44 =>
      PS w44 ⟨w29.heap.size, 0 + 3, none⟩ (.slice t33a t33n t33c) fun w45 => PS w45 ⟨w29.heap.size, 0 + 4, none⟩ (.int .i64 t34) fun w46 => PS w46 ⟨w29.heap.size, 0 + 5, none⟩ (.int .i64 t35) fun w47 =>
      PS w47 ⟨w29.heap.size, 0 + 6, none⟩ (.int .i64 t36) fun w48 => PS w48 ⟨w29.heap.size, 0 + 7, none⟩ (.int .i64 t37) fun w49 => PS w49 ⟨w29.heap.size, 0 + 8, none⟩ (.int .i64 t38) fun w50 =>
      PS w50 ⟨w29.heap.size, 0 + 9, none⟩ (.int .i64 t39) fun w51 => PIf ((t40 : Int) != 0) (R (.returned (.tuple #[.slice out13a out13n out13c, .int .i64 at14])) w51) ((∃ (t52 : Int), ∃ (t53 : Int), ∃ (t54 : Int), ∃ (t55a : Option Addr) (t55n : Nat) (t55c : Nat), ∃ (t56 : Int), ∃ (t57 : Int), ∃ (t58 : Int), ∃ (t59 : Int), ∃ (t60 : Int), ∃ (t61 : Int), w51.cell? ⟨w29.heap.size, 0, none⟩ = some (.int .i64 t52) ∧
      w51.cell? ⟨w29.heap.size, 0 + 1, none⟩ = some (.int .i64 t53) ∧ w51.cell? ⟨w29.heap.size, 0 + 2, none⟩ = some (.int .i64 t54) ∧ w51.cell? ⟨w29.heap.size, 0 + 3, none⟩ = some (.slice t55a t55n t55c) ∧
      w51.cell? ⟨w29.heap.size, 0 + 4, none⟩ = some (.int .i64 t56) ∧ w51.cell? ⟨w29.heap.size, 0 + 5, none⟩ = some (.int .i64 t57) ∧ w51.cell? ⟨w29.heap.size, 0 + 6, none⟩ = some (.int .i64 t58) ∧
      w51.cell? ⟨w29.heap.size, 0 + 7, none⟩ = some (.int .i64 t59) ∧ w51.cell? ⟨w29.heap.size, 0 + 8, none⟩ = some (.int .i64 t60) ∧ w51.cell? ⟨w29.heap.size, 0 + 9, none⟩ = some (.int .i64 t61) ∧
      PA w51 (.cells #[.int .i64 t52, .int .i64 t53, .int .i64 t54, .slice t55a t55n t55c, .int .i64 t56, .int .i64 t57, .int .i64 t58, .int .i64 t59, .int .i64 t60, .int .i64 t61] 42) fun w62 =>
      PRun Tryd.prog (Builtin.append_ #[27, 27] 27 #[.slice out13a out13n out13c, .slice (some ⟨w51.heap.size, 0, none⟩) 1 1]) w62 (fun v63 w64 => ∃ (t65a : Option Addr) (t65n : Nat) (t65c : Nat), v63 = .slice t65a t65n t65c ∧
      (∃ m12, m12 < m11 ∧ I10 m12 t65a t65n t65c (IntKind.wrap .i64 (at14 + t21)) w64)) (fun pv w => R (.panicked [{ v := pv, recovered := false }]) w)))) (fun ch w =>
      R (.panicked ch) w)))))) (fun ch w => R (.panicked ch) w))))) (fun ch w => R (.panicked ch) w)) (fun ch w => R (.panicked ch) w)) :
    Calls Tryd.prog 19 #[.pointer d1, .int .i64 no2] w R :=
  D_calls A_segment_Load mixed Tryd.func19 rfl (Nat.le_of_ble_eq_true (by kernel_rfl)) (by kernel_rfl) (Eq.mp (by kernel_rfl) h)
/-- quayside/quaysidekit.SameEvents -/
abbrev F_kit_SameEvents : Nat := 20
def A_kit_SameEvents : Ann := ⟨[(4, [(5, .int .i64 0)])], [], [], [], [(6, ⟨[0, 0, 3, 4, 0, 0, 48, 64, 136, 256], [1023, 1023, 1020, 1019, 1023, 1023, 975, 959, 887, 767], [0, 0, 0, 1, 0, 0, 0, 1, 2, 0]⟩)]⟩
theorem L_kit_SameEvents {a1a : Option Addr} {a1n : Nat} {a1c : Nat} {b2a : Option Addr} {b2n : Nat} {b2c : Nat} {w : World} {R : Ending → World → Prop}
    (h : PIf ((((a1n : Nat) : Int) : Int) != ((b2n : Nat) : Int)) (R (.returned (.bool false)) w) ((∃ I3 : Nat → Int → World → Prop, (∃ m4, I3 m4 0 w) ∧ ∀ (m4 : Nat) (i6 : Int) (B7 : Nat → Value) (w8 : World), I3 m4 i6 w8 → PIf (decide ((i6 : Int) < ((a1n : Nat) : Int))) ((∀ w10, Drew w8 w10 → (∃ b11 o12, a1a = some ⟨b11, o12, none⟩ ∧
      (0 : Int) ≤ i6 ∧ i6 < ((a1n : Nat) : Int) ∧ (∃ (t13 : Int), ∃ (t14 : Int), ∃ (t15 : Int), ∃ (t16a : Option Addr) (t16n : Nat) (t16c : Nat), ∃ (t17 : Int), ∃ (t18 : Int), ∃ (t19 : Int), ∃ (t20 : Int), ∃ (t21 : Int), ∃ (t22 : Int), w10.cell? ⟨b11, o12 + Int.toNat i6 * 10, none⟩ = some (.int .i64 t13) ∧
      w10.cell? ⟨b11, o12 + Int.toNat i6 * 10 + 1, none⟩ = some (.int .i64 t14) ∧ w10.cell? ⟨b11, o12 + Int.toNat i6 * 10 + 2, none⟩ = some (.int .i64 t15) ∧
      w10.cell? ⟨b11, o12 + Int.toNat i6 * 10 + 3, none⟩ = some (.slice t16a t16n t16c) ∧ w10.cell? ⟨b11, o12 + Int.toNat i6 * 10 + 4, none⟩ = some (.int .i64 t17) ∧
      w10.cell? ⟨b11, o12 + Int.toNat i6 * 10 + 5, none⟩ = some (.int .i64 t18) ∧ w10.cell? ⟨b11, o12 + Int.toNat i6 * 10 + 6, none⟩ = some (.int .i64 t19) ∧
      w10.cell? ⟨b11, o12 + Int.toNat i6 * 10 + 7, none⟩ = some (.int .i64 t20) ∧ w10.cell? ⟨b11, o12 + Int.toNat i6 * 10 + 8, none⟩ = some (.int .i64 t21) ∧
      w10.cell? ⟨b11, o12 + Int.toNat i6 * 10 + 9, none⟩ = some (.int .i64 t22) ∧ (∃ b23 o24, b2a = some ⟨b23, o24, none⟩ ∧ (0 : Int) ≤ i6 ∧ i6 < ((b2n : Nat) : Int) ∧
      (∃ (t25 : Int), ∃ (t26 : Int), ∃ (t27 : Int), ∃ (t28a : Option Addr) (t28n : Nat) (t28c : Nat), ∃ (t29 : Int), ∃ (t30 : Int), ∃ (t31 : Int), ∃ (t32 : Int), ∃ (t33 : Int), ∃ (t34 : Int), w10.cell? ⟨b23, o24 + Int.toNat i6 * 10, none⟩ = some (.int .i64 t25) ∧
      w10.cell? ⟨b23, o24 + Int.toNat i6 * 10 + 1, none⟩ = some (.int .i64 t26) ∧ w10.cell? ⟨b23, o24 + Int.toNat i6 * 10 + 2, none⟩ = some (.int .i64 t27) ∧
      w10.cell? ⟨b23, o24 + Int.toNat i6 * 10 + 3, none⟩ = some (.slice t28a t28n t28c) ∧ w10.cell? ⟨b23, o24 + Int.toNat i6 * 10 + 4, none⟩ = some (.int .i64 t29) ∧
      w10.cell? ⟨b23, o24 + Int.toNat i6 * 10 + 5, none⟩ = some (.int .i64 t30) ∧ w10.cell? ⟨b23, o24 + Int.toNat i6 * 10 + 6, none⟩ = some (.int .i64 t31) ∧
      w10.cell? ⟨b23, o24 + Int.toNat i6 * 10 + 7, none⟩ = some (.int .i64 t32) ∧ w10.cell? ⟨b23, o24 + Int.toNat i6 * 10 + 8, none⟩ = some (.int .i64 t33) ∧
      w10.cell? ⟨b23, o24 + Int.toNat i6 * 10 + 9, none⟩ = some (.int .i64 t34) ∧ PC Tryd.prog 41 #[.agg #[.int .i64 t13, .int .i64 t14, .int .i64 t15, .slice t16a t16n t16c, .int .i64 t17, .int .i64 t18, .int .i64 t19, .int .i64 t20, .int .i64 t21, .int .i64 t22], .agg #[.int .i64 t25, .int .i64 t26, .int .i64 t27, .slice t28a t28n t28c, .int .i64 t29, .int .i64 t30, .int .i64 t31, .int .i64 t32, .int .i64 t33, .int .i64 t34]] w10 (fun v35 w36 =>
      ∃ (t37 : Bool), v35 = .bool t37 ∧ PIf (!t37) (R (.returned (.bool false)) w36) ((∃ m5, m5 < m4 ∧ I3 m5 (IntKind.wrap .i64 (i6 + 1)) w36))) (fun ch wpp =>
      ∀ (_ : Base) (_ : Bnd), R (.panicked ch) wpp))))))) (R (.returned (.bool true)) w8)))) :
    Calls Tryd.prog 20 #[.slice a1a a1n a1c, .slice b2a b2n b2c] w R :=
  D_calls A_kit_SameEvents mixed Tryd.func20 rfl (Nat.le_of_ble_eq_true (by kernel_rfl)) (by kernel_rfl) (Eq.mp (by kernel_rfl) h)
/-- quayside/frame.Put -/
abbrev F_frame_Put : Nat := 21
def A_frame_Put : Ann := ⟨[], [], [], [], []⟩
theorem L_frame_Put {f2 : Int} {f3a : Option Addr} {f3n : Nat} {f3c : Nat} {w : World} {R : Ending → World → Prop}
    (h : PA w (.cells #[.int .i64 f2, .slice f3a f3n f3c] 50) fun w4 => (∃ (t5a : Option Addr) (t5n : Nat) (t5c : Nat), w4.cell? ⟨w.heap.size, 0 + 1, none⟩ = some (.slice t5a t5n t5c) ∧
      (∃ (t6 : Int), w4.cell? ⟨w.heap.size, 0, none⟩ = some (.int .i64 t6) ∧ PIf (decide ((t6 : Int) < 1)) (R (.returned (.tuple #[.slice none 0 0, .int .i64 2])) w4) ((∃ (t7 : Int), w4.cell? ⟨w.heap.size, 0, none⟩ = some (.int .i64 t7) ∧
      PIf (decide ((t7 : Int) > 255)) (R (.returned (.tuple #[.slice none 0 0, .int .i64 2])) w4) (PIf (decide ((((t5n : Nat) : Int) : Int) > 65536)) (R (.returned (.tuple #[.slice none 0 0, .int .i64 5])) w4) ((∃ (t8 : Int), w4.cell? ⟨w.heap.size, 0, none⟩ = some (.int .i64 t8) ∧
      PA w4 (.cells #[.int .u8 (IntKind.wrap .u8 t8), .int .u8 (IntKind.wrap .u8 (iShr .i64 ((t5n : Nat) : Int) 16)), .int .u8 (IntKind.wrap .u8 (iShr .i64 ((t5n : Nat) : Int) 8)), .int .u8 (IntKind.wrap .u8 ((t5n : Nat) : Int))] 5) fun w9 =>
      (∃ (t10a : Option Addr) (t10n : Nat) (t10c : Nat), w9.cell? ⟨w.heap.size, 0 + 1, none⟩ = some (.slice t10a t10n t10c) ∧ PA w9 (.cells #[.slice (some ⟨w4.heap.size, 0, none⟩) 4 4, .slice t10a t10n t10c] 35) fun w11 =>
      PC Tryd.prog 42 #[.slice (some ⟨w9.heap.size, 0, none⟩) 2 2] w11 (fun v12 w13 => ∃ (t14a : Option Addr) (t14n : Nat) (t14c : Nat), v12 = .slice t14a t14n t14c ∧
      PC Tryd.prog 43 #[.slice t14a t14n t14c] w13 (fun v15 w16 => ∃ (t17 : Int), v15 = .int .u32 t17 ∧ PA w16 (.cells #[.int .u8 (IntKind.wrap .u8 (iShr .u32 t17 24)), .int .u8 (IntKind.wrap .u8 (iShr .u32 t17 16)), .int .u8 (IntKind.wrap .u8 (iShr .u32 t17 8)), .int .u8 (IntKind.wrap .u8 t17), .int .u8 10] 5) fun w18 =>
      PRun Tryd.prog (Builtin.append_ #[35, 35] 35 #[.slice t14a t14n t14c, .slice (some ⟨w16.heap.size, 0, none⟩) 5 5]) w18 (fun v19 w20 => ∃ (t21a : Option Addr) (t21n : Nat) (t21c : Nat), v19 = .slice t21a t21n t21c ∧
      R (.returned (.tuple #[.slice t21a t21n t21c, .int .i64 0])) w20) (fun pv w => R (.panicked [{ v := pv, recovered := false }]) w)) (fun ch w => R (.panicked ch) w)) (fun ch w =>
      R (.panicked ch) w)))))))))) :
    Calls Tryd.prog 21 #[.agg #[.int .i64 f2, .slice f3a f3n f3c]] w R :=
  D_calls A_frame_Put mixed Tryd.func21 rfl (Nat.le_of_ble_eq_true (by kernel_rfl)) (by kernel_rfl) (Eq.mp (by kernel_rfl) h)
/-- quayside/quaysidelaw20.some -/
abbrev F_law20_some : Nat := 22
def A_law20_some : Ann := ⟨[], [], [], [], []⟩
theorem L_law20_some {seq1 : Int} {w : World} {R : Ending → World → Prop}
    (h : PA w (.cells #[.int .i64 0, .int .i64 0, .int .i64 0, .slice none 0 0, .int .i64 0, .int .i64 0, .int .i64 0, .int .i64 0, .int .i64 0, .int .i64 0] 42) fun w2 =>
      PA w2 (.cells #[.int .i64 (IntKind.wrap .i64 (seq1 - 1))] 3) fun w3 => PS w3 ⟨w.heap.size, 0, none⟩ (.int .i64 0) fun w4 => PS w4 ⟨w.heap.size, 0 + 1, none⟩ (.int .i64 seq1) fun w5 =>
      PS w5 ⟨w.heap.size, 0 + 2, none⟩ (.int .i64 seq1) fun w6 => PS w6 ⟨w.heap.size, 0 + 3, none⟩ (.slice (some ⟨w2.heap.size, 0, none⟩) 1 1) fun w7 => PS w7 ⟨w.heap.size, 0 + 4, none⟩ (.int .i64 0) fun w8 =>
      PS w8 ⟨w.heap.size, 0 + 5, none⟩ (.int .i64 0) fun w9 => PS w9 ⟨w.heap.size, 0 + 6, none⟩ (.int .i64 0) fun w10 => PS w10 ⟨w.heap.size, 0 + 7, none⟩ (.int .i64 1) fun w11 =>
      PS w11 ⟨w.heap.size, 0 + 8, none⟩ (.int .i64 3) fun w12 => PS w12 ⟨w.heap.size, 0 + 9, none⟩ (.int .i64 0) fun w13 => (∃ (r14 : Int), ∃ (r15 : Int), ∃ (r16 : Int), ∃ (r17a : Option Addr) (r17n : Nat) (r17c : Nat), ∃ (r18 : Int), ∃ (r19 : Int), ∃ (r20 : Int), ∃ (r21 : Int), ∃ (r22 : Int), ∃ (r23 : Int), w13.cell? ⟨w.heap.size, 0, none⟩ = some (.int .i64 r14) ∧
      w13.cell? ⟨w.heap.size, 0 + 1, none⟩ = some (.int .i64 r15) ∧ w13.cell? ⟨w.heap.size, 0 + 2, none⟩ = some (.int .i64 r16) ∧ w13.cell? ⟨w.heap.size, 0 + 3, none⟩ = some (.slice r17a r17n r17c) ∧
      w13.cell? ⟨w.heap.size, 0 + 4, none⟩ = some (.int .i64 r18) ∧ w13.cell? ⟨w.heap.size, 0 + 5, none⟩ = some (.int .i64 r19) ∧ w13.cell? ⟨w.heap.size, 0 + 6, none⟩ = some (.int .i64 r20) ∧
      w13.cell? ⟨w.heap.size, 0 + 7, none⟩ = some (.int .i64 r21) ∧ w13.cell? ⟨w.heap.size, 0 + 8, none⟩ = some (.int .i64 r22) ∧ w13.cell? ⟨w.heap.size, 0 + 9, none⟩ = some (.int .i64 r23) ∧
      R (.returned (.agg #[.int .i64 r14, .int .i64 r15, .int .i64 r16, .slice r17a r17n r17c, .int .i64 r18, .int .i64 r19, .int .i64 r20, .int .i64 r21, .int .i64 r22, .int .i64 r23])) w13)) :
    Calls Tryd.prog 22 #[.int .i64 seq1] w R :=
  D_calls A_law20_some mixed Tryd.func22 rfl (Nat.le_of_ble_eq_true (by kernel_rfl)) (by kernel_rfl) (Eq.mp (by kernel_rfl) h)
/-- quayside/event.Get -/
abbrev F_event_Get : Nat := 23
def A_event_Get : Ann := ⟨[(4, [(20, .int .i64 0)]), (9, [(31, .int .i64 0)]), (13, [(49, .int .i64 0)])], [], [10], [10], []⟩
theorem L_event_Get {b1a : Option Addr} {b1n : Nat} {b1c : Nat} {w : World} {R : Ending → World → Prop}
    (h : PA w (.cells #[.int .i64 0, .int .i64 0, .int .i64 0, .slice none 0 0, .int .i64 0, .int .i64 0, .int .i64 0, .int .i64 0, .int .i64 0, .int .i64 0] 42) fun w2 =>
      PC Tryd.prog 44 #[.slice b1a b1n b1c] w2 (fun v3 w4 => ∃ (t5 : Option Addr), v3 = .pointer t5 ∧ PA w4 (.cells #[.int .i64 0, .int .i64 0, .int .i64 0, .slice none 0 0, .int .i64 0, .int .i64 0, .int .i64 0, .int .i64 0, .int .i64 0, .int .i64 0] 42) fun w6 =>
      PA w6 (.cells #[.pointer (some ⟨w4.heap.size, 0, none⟩), .pointer (some ⟨w4.heap.size, 0 + 1, none⟩), .pointer (some ⟨w4.heap.size, 0 + 2, none⟩)] 91) fun w7 =>
      (∃ I8 : Nat → Int → World → Prop, (∃ m9, I8 m9 0 w7) ∧ ∀ (m9 : Nat) (t11 : Int) (B12 : Nat → Value) (w13 : World), I8 m9 t11 w13 → PIf (decide ((t11 : Int) < ((3 : Nat) : Int))) ((∃ b14 o15, ((some ⟨w6.heap.size, 0, none⟩) : Option Addr) = some ⟨b14, o15, none⟩ ∧
      (0 : Int) ≤ t11 ∧ t11 < ((3 : Nat) : Int) ∧ (∃ (t16 : Option Addr), w13.cell? ⟨b14, o15 + Int.toNat t11, none⟩ = some (.pointer t16) ∧ PC Tryd.prog 45 #[.pointer t5] w13 (fun v17 w18 =>
      ∃ (t19 : Int), v17 = .int .i64 t19 ∧ (∃ b20 o21, t16 = some ⟨b20, o21, none⟩ ∧ PS w18 ⟨b20, o21, none⟩ (.int .i64 t19) fun w22 => (∃ m10, m10 < m9 ∧ I8 m10 (IntKind.wrap .i64 (t11 + 1)) w22))) (fun ch w =>
      R (.panicked ch) w)))) (PC Tryd.prog 46 #[.pointer t5, .int .i64 64] w13 (fun v23 w24 => ∃ (t25 : Int), v23 = .int .i64 t25 ∧ (∃ I26 : Nat → Int → World → Prop, (∃ m27, I26 m27 0 w24) ∧
      ∀ (m27 : Nat) (t29 : Int) (B30 : Nat → Value) (w31 : World), I26 m27 t29 w31 → PIf (decide ((t29 : Int) < t25)) ((∀ w33, Drew w31 w33 → ∃ S34 : Nat → Prop, (¬ S34 w4.heap.size ∧
      (∃ (t35a : Option Addr) (t35n : Nat) (t35c : Nat), w33.cell? ⟨w4.heap.size, 0 + 3, none⟩ = some (.slice t35a t35n t35c) ∧ PC Tryd.prog 45 #[.pointer t5] w33 (fun v36 w37 =>
      ∃ (t38 : Int), v36 = .int .i64 t38 ∧ (Keep S34 w33 w37 ∧ PA w37 (.cells #[.int .i64 t38] 3) fun w39 => (Keep S34 w37 w39 ∧ PRun Tryd.prog (Builtin.append_ #[36, 36] 36 #[.slice t35a t35n t35c, .slice (some ⟨w37.heap.size, 0, none⟩) 1 1]) w39 (fun v40 w41 =>
      ∃ (t42a : Option Addr) (t42n : Nat) (t42c : Nat), v40 = .slice t42a t42n t42c ∧ PS w41 ⟨w4.heap.size, 0 + 3, none⟩ (.slice t42a t42n t42c) fun w43 => (∃ m28, m28 < m27 ∧
      I26 m28 (IntKind.wrap .i64 (t29 + 1)) w43)) (fun pv wpp => ∀ (_ : Base) (_ : Bnd), R (.panicked [{ v := pv, recovered := false }]) wpp)))) (fun ch wpp =>
      ∀ (_ : Base) (_ : Bnd), R (.panicked ch) wpp))))) (PA w31 (.cells #[.pointer (some ⟨w4.heap.size, 0 + 4, none⟩), .pointer (some ⟨w4.heap.size, 0 + 5, none⟩), .pointer (some ⟨w4.heap.size, 0 + 6, none⟩), .pointer (some ⟨w4.heap.size, 0 + 7, none⟩), .pointer (some ⟨w4.heap.size, 0 + 8, none⟩), .pointer (some ⟨w4.heap.size, 0 + 9, none⟩)] 91) fun w44 =>
      (∃ I45 : Nat → Int → World → Prop, (∃ m46, I45 m46 0 w44) ∧ ∀ (m46 : Nat) (t48 : Int) (B49 : Nat → Value) (w50 : World), I45 m46 t48 w50 → PIf (decide ((t48 : Int) < ((6 : Nat) : Int))) ((∃ b51 o52, ((some ⟨w31.heap.size, 0, none⟩) : Option Addr) = some ⟨b51, o52, none⟩ ∧
      (0 : Int) ≤ t48 ∧ t48 < ((6 : Nat) : Int) ∧ (∃ (t53 : Option Addr), w50.cell? ⟨b51, o52 + Int.toNat t48, none⟩ = some (.pointer t53) ∧ PC Tryd.prog 45 #[.pointer t5] w50 (fun v54 w55 =>
      ∃ (t56 : Int), v54 = .int .i64 t56 ∧ (∃ b57 o58, t53 = some ⟨b57, o58, none⟩ ∧ PS w55 ⟨b57, o58, none⟩ (.int .i64 t56) fun w59 => (∃ m47, m47 < m46 ∧ I45 m47 (IntKind.wrap .i64 (t48 + 1)) w59))) (fun ch w =>
      R (.panicked ch) w)))) (PC Tryd.prog 47 #[.pointer t5] w50 (fun v60 w61 => ∃ (t62 : Int), v60 = .int .i64 t62 ∧ PIf ((t62 : Int) != 0) (PS w61 ⟨w.heap.size, 0, none⟩ (.int .i64 0) fun w63 =>
      PS w63 ⟨w.heap.size, 0 + 1, none⟩ (.int .i64 0) fun w64 => PS w64 ⟨w.heap.size, 0 + 2, none⟩ (.int .i64 0) fun w65 => PS w65 ⟨w.heap.size, 0 + 3, none⟩ (.slice none 0 0) fun w66 =>
      PS w66 ⟨w.heap.size, 0 + 4, none⟩ (.int .i64 0) fun w67 => PS w67 ⟨w.heap.size, 0 + 5, none⟩ (.int .i64 0) fun w68 => PS w68 ⟨w.heap.size, 0 + 6, none⟩ (.int .i64 0) fun w69 =>
      PS w69 ⟨w.heap.size, 0 + 7, none⟩ (.int .i64 0) fun w70 => PS w70 ⟨w.heap.size, 0 + 8, none⟩ (.int .i64 0) fun w71 => PS w71 ⟨w.heap.size, 0 + 9, none⟩ (.int .i64 0) fun w72 =>
      (∃ (r73 : Int), ∃ (r74 : Int), ∃ (r75 : Int), ∃ (r76a : Option Addr) (r76n : Nat) (r76c : Nat), ∃ (r77 : Int), ∃ (r78 : Int), ∃ (r79 : Int), ∃ (r80 : Int), ∃ (r81 : Int), ∃ (r82 : Int), w72.cell? ⟨w.heap.size, 0, none⟩ = some (.int .i64 r73) ∧
      w72.cell? ⟨w.heap.size, 0 + 1, none⟩ = some (.int .i64 r74) ∧ w72.cell? ⟨w.heap.size, 0 + 2, none⟩ = some (.int .i64 r75) ∧ w72.cell? ⟨w.heap.size, 0 + 3, none⟩ = some (.slice r76a r76n r76c) ∧
      w72.cell? ⟨w.heap.size, 0 + 4, none⟩ = some (.int .i64 r77) ∧ w72.cell? ⟨w.heap.size, 0 + 5, none⟩ = some (.int .i64 r78) ∧ w72.cell? ⟨w.heap.size, 0 + 6, none⟩ = some (.int .i64 r79) ∧
      w72.cell? ⟨w.heap.size, 0 + 7, none⟩ = some (.int .i64 r80) ∧ w72.cell? ⟨w.heap.size, 0 + 8, none⟩ = some (.int .i64 r81) ∧ w72.cell? ⟨w.heap.size, 0 + 9, none⟩ = some (.int .i64 r82) ∧
      R (.returned (.tuple #[.agg #[.int .i64 r73, .int .i64 r74, .int .i64 r75, .slice r76a r76n r76c, .int .i64 r77, .int .i64 r78, .int .i64 r79, .int .i64 r80, .int .i64 r81, .int .i64 r82], .int .i64 t62])) w72)) ((∃ (t83 : Int), ∃ (t84 : Int), ∃ (t85 : Int), ∃ (t86a : Option Addr) (t86n : Nat) (t86c : Nat), ∃ (t87 : Int), ∃ (t88 : Int), ∃ (t89 : Int), ∃ (t90 : Int), ∃ (t91 : Int), ∃ (t92 : Int), w61.cell? ⟨w4.heap.size, 0, none⟩ = some (.int .i64 t83) ∧
      w61.cell? ⟨w4.heap.size, 0 + 1, none⟩ = some (.int .i64 t84) ∧ w61.cell? ⟨w4.heap.size, 0 + 2, none⟩ = some (.int .i64 t85) ∧ w61.cell? ⟨w4.heap.size, 0 + 3, none⟩ = some (.slice t86a t86n t86c) ∧
      w61.cell? ⟨w4.heap.size, 0 + 4, none⟩ = some (.int .i64 t87) ∧ w61.cell? ⟨w4.heap.size, 0 + 5, none⟩ = some (.int .i64 t88) ∧ w61.cell? ⟨w4.heap.size, 0 + 6, none⟩ = some (.int .i64 t89) ∧
      w61.cell? ⟨w4.heap.size, 0 + 7, none⟩ = some (.int .i64 t90) ∧ w61.cell? ⟨w4.heap.size, 0 + 8, none⟩ = some (.int .i64 t91) ∧ w61.cell? ⟨w4.heap.size, 0 + 9, none⟩ = some (.int .i64 t92) ∧
      PS w61 ⟨w.heap.size, 0, none⟩ (.int .i64 t83) fun w93 => PS w93 ⟨w.heap.size, 0 + 1, none⟩ (.int .i64 t84) fun w94 => PS w94 ⟨w.heap.size, 0 + 2, none⟩ (.int .i64 t85) fun w95 =>
      PS w95 ⟨w.heap.size, 0 + 3, none⟩ (.slice t86a t86n t86c) fun w96 => PS w96 ⟨w.heap.size, 0 + 4, none⟩ (.int .i64 t87) fun w97 => PS w97 ⟨w.heap.size, 0 + 5, none⟩ (.int .i64 t88) fun w98 =>
      PS w98 ⟨w.heap.size, 0 + 6, none⟩ (.int .i64 t89) fun w99 => PS w99 ⟨w.heap.size, 0 + 7, none⟩ (.int .i64 t90) fun w100 => PS w100 ⟨w.heap.size, 0 + 8, none⟩ (.int .i64 t91) fun w101 =>
      PS w101 ⟨w.heap.size, 0 + 9, none⟩ (.int .i64 t92) fun w102 => (∃ (r103 : Int), ∃ (r104 : Int), ∃ (r105 : Int), ∃ (r106a : Option Addr) (r106n : Nat) (r106c : Nat), ∃ (r107 : Int), ∃ (r108 : Int), ∃ (r109 : Int), ∃ (r110 : Int), ∃ (r111 : Int), ∃ (r112 : Int), w102.cell? ⟨w.heap.size, 0, none⟩ = some (.int .i64 r103) ∧
      w102.cell? ⟨w.heap.size, 0 + 1, none⟩ = some (.int .i64 r104) ∧ w102.cell? ⟨w.heap.size, 0 + 2, none⟩ = some (.int .i64 r105) ∧ w102.cell? ⟨w.heap.size, 0 + 3, none⟩ = some (.slice r106a r106n r106c) ∧
      w102.cell? ⟨w.heap.size, 0 + 4, none⟩ = some (.int .i64 r107) ∧ w102.cell? ⟨w.heap.size, 0 + 5, none⟩ = some (.int .i64 r108) ∧ w102.cell? ⟨w.heap.size, 0 + 6, none⟩ = some (.int .i64 r109) ∧
      w102.cell? ⟨w.heap.size, 0 + 7, none⟩ = some (.int .i64 r110) ∧ w102.cell? ⟨w.heap.size, 0 + 8, none⟩ = some (.int .i64 r111) ∧ w102.cell? ⟨w.heap.size, 0 + 9, none⟩ = some (.int .i64 r112) ∧
      R (.returned (.tuple #[.agg #[.int .i64 r103, .int .i64 r104, .int .i64 r105, .slice r106a r106n r106c, .int .i64 r107, .int .i64 r108, .int .i64 r109, .int .i64 r110, .int .i64 r111, .int .i64 r112], .int .i64 0])) w102)))) (fun ch w =>
      R (.panicked ch) w)))))) (fun ch w => R (.panicked ch) w)))) (fun ch w => R (.panicked ch) w)) :
    Calls Tryd.prog 23 #[.slice b1a b1n b1c] w R :=
  D_calls A_event_Get mixed Tryd.func23 rfl (Nat.le_of_ble_eq_true (by kernel_rfl)) (by kernel_rfl) (Eq.mp (by kernel_rfl) h)
/-- quayside/quaysidekit.CopyEvents -/
abbrev F_kit_CopyEvents : Nat := 24
def A_kit_CopyEvents : Ann := ⟨[(3, [(3, .slice none 0 0), (4, .int .i64 0)])], [], [], [], []⟩
theorem L_kit_CopyEvents {l1a : Option Addr} {l1n : Nat} {l1c : Nat} {w : World} {R : Ending → World → Prop}
    (h : (∃ I2 : Nat → Option Addr → Nat → Nat → Int → World → Prop, (∃ m3, I2 m3 none 0 0 0 w) ∧ ∀ (m3 : Nat) (out5a : Option Addr) (out5n : Nat) (out5c : Nat) (i6 : Int) (B7 : Nat → Value) (w8 : World), I2 m3 out5a out5n out5c i6 w8 → PIf (decide ((i6 : Int) < ((l1n : Nat) : Int))) ((∃ b9 o10, l1a = some ⟨b9, o10, none⟩ ∧
      (0 : Int) ≤ i6 ∧ i6 < ((l1n : Nat) : Int) ∧ (∃ (t11 : Int), ∃ (t12 : Int), ∃ (t13 : Int), ∃ (t14a : Option Addr) (t14n : Nat) (t14c : Nat), ∃ (t15 : Int), ∃ (t16 : Int), ∃ (t17 : Int), ∃ (t18 : Int), ∃ (t19 : Int), ∃ (t20 : Int), w8.cell? ⟨b9, o10 + Int.toNat i6 * 10, none⟩ = some (.int .i64 t11) ∧
      w8.cell? ⟨b9, o10 + Int.toNat i6 * 10 + 1, none⟩ = some (.int .i64 t12) ∧ w8.cell? ⟨b9, o10 + Int.toNat i6 * 10 + 2, none⟩ = some (.int .i64 t13) ∧ w8.cell? ⟨b9, o10 + Int.toNat i6 * 10 + 3, none⟩ = some (.slice t14a t14n t14c) ∧
      w8.cell? ⟨b9, o10 + Int.toNat i6 * 10 + 4, none⟩ = some (.int .i64 t15) ∧ w8.cell? ⟨b9, o10 + Int.toNat i6 * 10 + 5, none⟩ = some (.int .i64 t16) ∧ w8.cell? ⟨b9, o10 + Int.toNat i6 * 10 + 6, none⟩ = some (.int .i64 t17) ∧
      w8.cell? ⟨b9, o10 + Int.toNat i6 * 10 + 7, none⟩ = some (.int .i64 t18) ∧ w8.cell? ⟨b9, o10 + Int.toNat i6 * 10 + 8, none⟩ = some (.int .i64 t19) ∧ w8.cell? ⟨b9, o10 + Int.toNat i6 * 10 + 9, none⟩ = some (.int .i64 t20) ∧
      PC Tryd.prog 48 #[.agg #[.int .i64 t11, .int .i64 t12, .int .i64 t13, .slice t14a t14n t14c, .int .i64 t15, .int .i64 t16, .int .i64 t17, .int .i64 t18, .int .i64 t19, .int .i64 t20]] w8 (fun v21 w22 =>
      ∃ (t23 : Int), ∃ (t24 : Int), ∃ (t25 : Int), ∃ (t26a : Option Addr) (t26n : Nat) (t26c : Nat), ∃ (t27 : Int), ∃ (t28 : Int), ∃ (t29 : Int), ∃ (t30 : Int), ∃ (t31 : Int), ∃ (t32 : Int), v21 = .agg #[.int .i64 t23, .int .i64 t24, .int .i64 t25, .slice t26a t26n t26c, .int .i64 t27, .int .i64 t28, .int .i64 t29, .int .i64 t30, .int .i64 t31, .int .i64 t32] ∧
      PA w22 (.cells #[.int .i64 t23, .int .i64 t24, .int .i64 t25, .slice t26a t26n t26c, .int .i64 t27, .int .i64 t28, .int .i64 t29, .int .i64 t30, .int .i64 t31, .int .i64 t32] 42) fun w33 =>
      PRun Tryd.prog (Builtin.append_ #[27, 27] 27 #[.slice out5a out5n out5c, .slice (some ⟨w22.heap.size, 0, none⟩) 1 1]) w33 (fun v34 w35 => ∃ (t36a : Option Addr) (t36n : Nat) (t36c : Nat), v34 = .slice t36a t36n t36c ∧
      (∃ m4, m4 < m3 ∧ I2 m4 t36a t36n t36c (IntKind.wrap .i64 (i6 + 1)) w35)) (fun pv w => R (.panicked [{ v := pv, recovered := false }]) w)) (fun ch w =>
      R (.panicked ch) w)))) (R (.returned (.slice out5a out5n out5c)) w8))) :
    Calls Tryd.prog 24 #[.slice l1a l1n l1c] w R :=
  D_calls A_kit_CopyEvents mixed Tryd.func24 rfl (Nat.le_of_ble_eq_true (by kernel_rfl)) (by kernel_rfl) (Eq.mp (by kernel_rfl) h)
/-- quayside/manifest.Write -/
abbrev F_manifest_Write : Nat := 25
def A_manifest_Write : Ann := ⟨[(5, [(19, .int .i64 0)])], [], [], [], []⟩
theorem L_manifest_Write {d1 : Option Addr} {m3a : Option Addr} {m3n : Nat} {m3c : Nat} {w : World} {R : Ending → World → Prop}
    (h : PA w (.cells #[.pointer d1] 30) fun w4 => PA w4 (.cells #[.slice m3a m3n m3c] 59) fun w5 => PA w5 (.cells #[.int .i64 0] 31) fun w6 => (∃ (t7a : Option Addr) (t7n : Nat) (t7c : Nat), w6.cell? ⟨w4.heap.size, 0, none⟩ = some (.slice t7a t7n t7c) ∧
      PIf (decide ((((t7n : Nat) : Int) : Int) > 64)) (PS w6 ⟨w5.heap.size, 0, none⟩ (.int .i64 3) fun w8 => (∃ (r9 : Int), w8.cell? ⟨w5.heap.size, 0, none⟩ = some (.int .i64 r9) ∧
      R (.returned (.int .i64 r9)) w8)) (PA w6 (.cells #[.func (.func 51) #[] #[.pointer (some ⟨w.heap.size, 0, none⟩)], .func (.func 52) #[] #[.pointer (some ⟨w.heap.size, 0, none⟩)], .func (.func 53) #[] #[.pointer (some ⟨w.heap.size, 0, none⟩), .pointer (some ⟨w4.heap.size, 0, none⟩)], .func (.func 55) #[] #[.pointer (some ⟨w.heap.size, 0, none⟩)], .func (.func 57) #[] #[.pointer (some ⟨w.heap.size, 0, none⟩)]] 77) fun w10 =>
      (∃ I11 : Nat → Int → World → Prop, (∃ m12, I11 m12 0 w10) ∧ ∀ (m12 : Nat) (t14 : Int) (B15 : Nat → Value) (w16 : World), I11 m12 t14 w16 → PIf (decide ((t14 : Int) < ((5 : Nat) : Int))) ((∃ b17 o18, ((some ⟨w6.heap.size, 0, none⟩) : Option Addr) = some ⟨b17, o18, none⟩ ∧
      (0 : Int) ≤ t14 ∧ t14 < ((5 : Nat) : Int) ∧ (∃ (t19 : Value), w16.cell? ⟨b17, o18 + Int.toNat t14, none⟩ = some t19 ∧ (∃ g22 fi23 ca24, (t19 : Value) = .func (.func g22) fi23 ca24 ∧
      enters Tryd.prog g22 = true ∧ PC Tryd.prog g22 (fi23 ++ #[] ++ ca24) w16 (fun v20 w21 => ∃ (t25 : Int), v20 = .int .i64 t25 ∧ PS w21 ⟨w5.heap.size, 0, none⟩ (.int .i64 t25) fun w26 =>
      (∃ (t27 : Int), w26.cell? ⟨w5.heap.size, 0, none⟩ = some (.int .i64 t27) ∧ PIf ((t27 : Int) != 0) ((∃ (t28 : Int), w26.cell? ⟨w5.heap.size, 0, none⟩ = some (.int .i64 t28) ∧
      PS w26 ⟨w5.heap.size, 0, none⟩ (.int .i64 t28) fun w29 => Lv Tryd.prog (fun w30 => (∃ (r31 : Int), w30.cell? ⟨w5.heap.size, 0, none⟩ = some (.int .i64 r31) ∧
      R (.returned (.int .i64 r31)) w30)) (fun ch w => R (.panicked ch) w) ([{ target := .fn (.func 49) #[.pointer (some ⟨w5.heap.size, 0, none⟩), .pointer (some ⟨w.heap.size, 0, none⟩)], args := #[] }] : List Deferred) .returning w29)) ((([{ target := .fn (.func 49) #[.pointer (some ⟨w5.heap.size, 0, none⟩), .pointer (some ⟨w.heap.size, 0, none⟩)], args := #[] }] : List Deferred) = ([{ target := .fn (.func 49) #[.pointer (some ⟨w5.heap.size, 0, none⟩), .pointer (some ⟨w.heap.size, 0, none⟩)], args := #[] }] : List Deferred) ∧
      ∃ m13, m13 < m12 ∧ I11 m13 (IntKind.wrap .i64 (t14 + 1)) w26)))) (fun ch wpp => Lv Tryd.prog (fun w32 => (∃ (r33 : Int), w32.cell? ⟨w5.heap.size, 0, none⟩ = some (.int .i64 r33) ∧
      R (.returned (.int .i64 r33)) w32)) (fun ch w => R (.panicked ch) w) ([{ target := .fn (.func 49) #[.pointer (some ⟨w5.heap.size, 0, none⟩), .pointer (some ⟨w.heap.size, 0, none⟩)], args := #[] }] : List Deferred) (.panicking ch) wpp))))) ((∃ (t34 : Int), w16.cell? ⟨w5.heap.size, 0, none⟩ = some (.int .i64 t34) ∧
      PS w16 ⟨w5.heap.size, 0, none⟩ (.int .i64 t34) fun w35 => Lv Tryd.prog (fun w36 => (∃ (r37 : Int), w36.cell? ⟨w5.heap.size, 0, none⟩ = some (.int .i64 r37) ∧
      R (.returned (.int .i64 r37)) w36)) (fun ch w => R (.panicked ch) w) ([{ target := .fn (.func 49) #[.pointer (some ⟨w5.heap.size, 0, none⟩), .pointer (some ⟨w.heap.size, 0, none⟩)], args := #[] }] : List Deferred) .returning w35)))))) :
    Calls Tryd.prog 25 #[.pointer d1, .agg #[.slice m3a m3n m3c]] w R :=
  D_calls A_manifest_Write mixed Tryd.func25 rfl (Nat.le_of_ble_eq_true (by kernel_rfl)) (by kernel_rfl) (Eq.mp (by kernel_rfl) h)
/-- quayside/manifest.Read -/
abbrev F_manifest_Read : Nat := 26
def A_manifest_Read : Ann := ⟨[(10, [(43, .int .i64 0)])], [], [11], [11], []⟩
theorem L_manifest_Read {d1 : Option Addr} {w : World} {R : Ending → World → Prop}
    (h : PA w (.cells #[.slice none 0 0] 59) fun w2 => PC Tryd.prog 39 #[.pointer d1, .string (⟨#[109, 97, 110, 105, 102, 101, 115, 116]⟩ : ByteArray)] w2 (fun v3 w4 =>
      ∃ (t5a : Option Addr) (t5n : Nat) (t5c : Nat), ∃ (t6 : Int), v3 = .tuple #[.slice t5a t5n t5c, .int .i64 t6] ∧ PIf ((t6 : Int) != 0) (PS w4 ⟨w.heap.size, 0, none⟩ (.slice none 0 0) fun w7 =>
      (∃ (r8a : Option Addr) (r8n : Nat) (r8c : Nat), w7.cell? ⟨w.heap.size, 0, none⟩ = some (.slice r8a r8n r8c) ∧ R (.returned (.tuple #[.agg #[.slice r8a r8n r8c], .bool false])) w7)) (PC Tryd.prog 40 #[.slice t5a t5n t5c] w4 (fun v9 w10 =>
      ∃ (t11 : Int), ∃ (t12a : Option Addr) (t12n : Nat) (t12c : Nat), ∃ (t13 : Int), ∃ (t14 : Int), v9 = .tuple #[.agg #[.int .i64 t11, .slice t12a t12n t12c], .int .i64 t13, .int .i64 t14] ∧
      PA w10 (.cells #[.int .i64 0, .slice none 0 0] 50) fun w15 => PS w15 ⟨w10.heap.size, 0, none⟩ (.int .i64 t11) fun w16 => PS w16 ⟨w10.heap.size, 0 + 1, none⟩ (.slice t12a t12n t12c) fun w17 =>
      PIf ((t14 : Int) != 0) (PS w17 ⟨w.heap.size, 0, none⟩ (.slice none 0 0) fun w18 => (∃ (r19a : Option Addr) (r19n : Nat) (r19c : Nat), w18.cell? ⟨w.heap.size, 0, none⟩ = some (.slice r19a r19n r19c) ∧
      R (.returned (.tuple #[.agg #[.slice r19a r19n r19c], .bool false])) w18)) (PIf ((t13 : Int) != ((t5n : Nat) : Int)) (PS w17 ⟨w.heap.size, 0, none⟩ (.slice none 0 0) fun w20 =>
      (∃ (r21a : Option Addr) (r21n : Nat) (r21c : Nat), w20.cell? ⟨w.heap.size, 0, none⟩ = some (.slice r21a r21n r21c) ∧ R (.returned (.tuple #[.agg #[.slice r21a r21n r21c], .bool false])) w20)) ((∃ (t22 : Int), w17.cell? ⟨w10.heap.size, 0, none⟩ = some (.int .i64 t22) ∧
      PIf ((t22 : Int) != 2) (PS w17 ⟨w.heap.size, 0, none⟩ (.slice none 0 0) fun w23 => (∃ (r24a : Option Addr) (r24n : Nat) (r24c : Nat), w23.cell? ⟨w.heap.size, 0, none⟩ = some (.slice r24a r24n r24c) ∧
      R (.returned (.tuple #[.agg #[.slice r24a r24n r24c], .bool false])) w23)) ((∃ (t25a : Option Addr) (t25n : Nat) (t25c : Nat), w17.cell? ⟨w10.heap.size, 0 + 1, none⟩ = some (.slice t25a t25n t25c) ∧
      PC Tryd.prog 44 #[.slice t25a t25n t25c] w17 (fun v26 w27 => ∃ (t28 : Option Addr), v26 = .pointer t28 ∧ PA w27 (.cells #[.slice none 0 0] 59) fun w29 =>
      PC Tryd.prog 46 #[.pointer t28, .int .i64 64] w29 (fun v30 w31 => ∃ (t32 : Int), v30 = .int .i64 t32 ∧ (∃ I33 : Nat → Int → World → Prop, (∃ m34, I33 m34 0 w31) ∧
      ∀ (m34 : Nat) (t36 : Int) (B37 : Nat → Value) (w38 : World), I33 m34 t36 w38 → PIf (decide ((t36 : Int) < t32)) ((∀ w40, Drew w38 w40 → ∃ S41 : Nat → Prop, (¬ S41 w27.heap.size ∧
      (∃ (t42a : Option Addr) (t42n : Nat) (t42c : Nat), w40.cell? ⟨w27.heap.size, 0, none⟩ = some (.slice t42a t42n t42c) ∧ PC Tryd.prog 45 #[.pointer t28] w40 (fun v43 w44 =>
      ∃ (t45 : Int), v43 = .int .i64 t45 ∧ (Keep S41 w40 w44 ∧ PA w44 (.cells #[.int .i64 t45] 3) fun w46 => (Keep S41 w44 w46 ∧ PRun Tryd.prog (Builtin.append_ #[36, 36] 36 #[.slice t42a t42n t42c, .slice (some ⟨w44.heap.size, 0, none⟩) 1 1]) w46 (fun v47 w48 =>
      ∃ (t49a : Option Addr) (t49n : Nat) (t49c : Nat), v47 = .slice t49a t49n t49c ∧ PS w48 ⟨w27.heap.size, 0, none⟩ (.slice t49a t49n t49c) fun w50 => (∃ m35, m35 < m34 ∧
      I33 m35 (IntKind.wrap .i64 (t36 + 1)) w50)) (fun pv wpp => ∀ (_ : Base) (_ : Bnd), R (.panicked [{ v := pv, recovered := false }]) wpp)))) (fun ch wpp =>
      ∀ (_ : Base) (_ : Bnd), R (.panicked ch) wpp))))) (PC Tryd.prog 47 #[.pointer t28] w38 (fun v51 w52 => ∃ (t53 : Int), v51 = .int .i64 t53 ∧ PIf ((t53 : Int) != 0) (PS w52 ⟨w.heap.size, 0, none⟩ (.slice none 0 0) fun w54 =>
      (∃ (r55a : Option Addr) (r55n : Nat) (r55c : Nat), w54.cell? ⟨w.heap.size, 0, none⟩ = some (.slice r55a r55n r55c) ∧ R (.returned (.tuple #[.agg #[.slice r55a r55n r55c], .bool false])) w54)) ((∃ (t56a : Option Addr) (t56n : Nat) (t56c : Nat), w52.cell? ⟨w27.heap.size, 0, none⟩ = some (.slice t56a t56n t56c) ∧
      PS w52 ⟨w.heap.size, 0, none⟩ (.slice t56a t56n t56c) fun w57 => (∃ (r58a : Option Addr) (r58n : Nat) (r58c : Nat), w57.cell? ⟨w.heap.size, 0, none⟩ = some (.slice r58a r58n r58c) ∧
      R (.returned (.tuple #[.agg #[.slice r58a r58n r58c], .bool true])) w57)))) (fun ch w => R (.panicked ch) w)))) (fun ch w => R (.panicked ch) w)) (fun ch w =>
      R (.panicked ch) w))))))) (fun ch w => R (.panicked ch) w))) (fun ch w => R (.panicked ch) w)) :
    Calls Tryd.prog 26 #[.pointer d1] w R :=
  D_calls A_manifest_Read mixed Tryd.func26 rfl (Nat.le_of_ble_eq_true (by kernel_rfl)) (by kernel_rfl) (Eq.mp (by kernel_rfl) h)
/-- (*quayside/vdisk.Disk).List -/
abbrev F_vdisk_Disk_List : Nat := 27
def A_vdisk_Disk_List : Ann := ⟨[], [], [], [], []⟩
theorem L_vdisk_Disk_List {d1 : Option Addr} {w : World} {R : Ending → World → Prop}
    (h : (∃ b2 o3, d1 = some ⟨b2, o3, none⟩ ∧ (∃ (t4 : Option Nat), w.cell? ⟨b2, o3 + 1, none⟩ = some (.map t4) ∧ PC Tryd.prog 60 #[.map t4] w (fun v5 w6 => ∃ (t7 : Value), v5 = t7 ∧
      PC Tryd.prog 59 #[t7] w6 (fun v8 w9 => ∃ (t10a : Option Addr) (t10n : Nat) (t10c : Nat), v8 = .slice t10a t10n t10c ∧ R (.returned (.slice t10a t10n t10c)) w9) (fun ch w =>
      R (.panicked ch) w)) (fun ch w => R (.panicked ch) w)))) :
    Calls Tryd.prog 27 #[.pointer d1] w R :=
  D_calls A_vdisk_Disk_List mixed Tryd.func27 rfl (Nat.le_of_ble_eq_true (by kernel_rfl)) (by kernel_rfl) (Eq.mp (by kernel_rfl) h)
/-- quayside/quaysidekit.SameInts -/
abbrev F_kit_SameInts : Nat := 28
def A_kit_SameInts : Ann := ⟨[(4, [(5, .int .i64 0)])], [], [], [], []⟩
theorem L_kit_SameInts {a1a : Option Addr} {a1n : Nat} {a1c : Nat} {b2a : Option Addr} {b2n : Nat} {b2c : Nat} {w : World} {R : Ending → World → Prop}
    (h : PIf ((((a1n : Nat) : Int) : Int) != ((b2n : Nat) : Int)) (R (.returned (.bool false)) w) ((∃ I3 : Nat → Int → World → Prop, (∃ m4, I3 m4 0 w) ∧ ∀ (m4 : Nat) (i6 : Int) (B7 : Nat → Value) (w8 : World), I3 m4 i6 w8 → PIf (decide ((i6 : Int) < ((a1n : Nat) : Int))) ((∃ b10 o11, a1a = some ⟨b10, o11, none⟩ ∧
      (0 : Int) ≤ i6 ∧ i6 < ((a1n : Nat) : Int) ∧ (∃ (t12 : Int), w8.cell? ⟨b10, o11 + Int.toNat i6, none⟩ = some (.int .i64 t12) ∧ (∃ b13 o14, b2a = some ⟨b13, o14, none⟩ ∧
      (0 : Int) ≤ i6 ∧ i6 < ((b2n : Nat) : Int) ∧ (∃ (t15 : Int), w8.cell? ⟨b13, o14 + Int.toNat i6, none⟩ = some (.int .i64 t15) ∧ (∀ w9, Drew w8 w9 → PIf ((t12 : Int) != t15) (R (.returned (.bool false)) w9) ((∃ m5, m5 < m4 ∧
      I3 m5 (IntKind.wrap .i64 (i6 + 1)) w9)))))))) (R (.returned (.bool true)) w8)))) :
    Calls Tryd.prog 28 #[.slice a1a a1n a1c, .slice b2a b2n b2c] w R :=
  D_calls A_kit_SameInts mixed Tryd.func28 rfl (Nat.le_of_ble_eq_true (by kernel_rfl)) (by kernel_rfl) (Eq.mp (by kernel_rfl) h)
/-- quayside/quaysidelaw21.known -/
abbrev F_law21_known : Nat := 29
def A_law21_known : Ann := ⟨[], [], [], [], []⟩
theorem L_law21_known  {w : World} {R : Ending → World → Prop}
    (h : PC Tryd.prog 15 #[.int .i64 64] w (fun v1 w2 => ∃ (t3 : Option Addr), ∃ (t4 : Int), v1 = .tuple #[.pointer t3, .int .i64 t4] ∧ PIf ((t4 : Int) != 0) (R (.returned (.bool false)) w2) (PRun Tryd.prog (do eqGuard .eql 30 (.tmp 14) (.const (.pointer none)) (.pointer t3) (.pointer none); binOp .eql 30 (.pointer t3) (.pointer none)) w2 (fun v5 w6 =>
      ∃ (t7 : Bool), v5 = .bool t7 ∧ PIf t7 (R (.returned (.bool false)) w6) (PC Tryd.prog 26 #[.pointer t3] w6 (fun v8 w9 => ∃ (t10a : Option Addr) (t10n : Nat) (t10c : Nat), ∃ (t11 : Bool), v8 = .tuple #[.agg #[.slice t10a t10n t10c], .bool t11] ∧
      PA w9 (.cells #[.slice none 0 0] 59) fun w12 => PS w12 ⟨w9.heap.size, 0, none⟩ (.slice t10a t10n t10c) fun w13 => PIf t11 (R (.returned (.bool false)) w13) (PA w13 (.cells #[.int .i64 1, .int .i64 2] 3) fun w14 =>
      PC Tryd.prog 25 #[.pointer t3, .agg #[.slice (some ⟨w13.heap.size, 0, none⟩) 2 2]] w14 (fun v15 w16 => ∃ (t17 : Int), v15 = .int .i64 t17 ∧ PIf ((t17 : Int) != 0) (R (.returned (.bool false)) w16) (PC Tryd.prog 61 #[.pointer t3, .int .i64 3] w16 (fun v18 w19 =>
      v18 = .tuple #[] ∧ PA w19 (.cells #[.int .i64 3] 3) fun w20 => PC Tryd.prog 25 #[.pointer t3, .agg #[.slice (some ⟨w19.heap.size, 0, none⟩) 1 1]] w20 (fun v21 w22 =>
      ∃ (t23 : Int), v21 = .int .i64 t23 ∧ PIf ((t23 : Int) != 15) (R (.returned (.bool false)) w22) (PC Tryd.prog 62 #[.pointer t3, .int .i64 99] w22 (fun v24 w25 =>
      v24 = .tuple #[] ∧ PC Tryd.prog 26 #[.pointer t3] w25 (fun v26 w27 => ∃ (t28a : Option Addr) (t28n : Nat) (t28c : Nat), ∃ (t29 : Bool), v26 = .tuple #[.agg #[.slice t28a t28n t28c], .bool t29] ∧
      PA w27 (.cells #[.slice none 0 0] 59) fun w30 => PS w30 ⟨w27.heap.size, 0, none⟩ (.slice t28a t28n t28c) fun w31 => PIf t29 ((∃ (t32a : Option Addr) (t32n : Nat) (t32c : Nat), w31.cell? ⟨w27.heap.size, 0, none⟩ = some (.slice t32a t32n t32c) ∧
      PA w31 (.cells #[.int .i64 1, .int .i64 2] 3) fun w33 => PC Tryd.prog 28 #[.slice t32a t32n t32c, .slice (some ⟨w31.heap.size, 0, none⟩) 2 2] w33 (fun v34 w35 =>
      ∃ (t36 : Bool), v34 = .bool t36 ∧ R (.returned (.bool t36)) w35) (fun ch w => R (.panicked ch) w))) (R (.returned (.bool false)) w31)) (fun ch w => R (.panicked ch) w)) (fun ch w =>
      R (.panicked ch) w))) (fun ch w => R (.panicked ch) w)) (fun ch w => R (.panicked ch) w))) (fun ch w => R (.panicked ch) w))) (fun ch w => R (.panicked ch) w))) (fun pv w =>
      R (.panicked [{ v := pv, recovered := false }]) w))) (fun ch w => R (.panicked ch) w)) :
    Calls Tryd.prog 29 #[] w R :=
  D_calls A_law21_known mixed Tryd.func29 rfl (Nat.le_of_ble_eq_true (by kernel_rfl)) (by kernel_rfl) (Eq.mp (by kernel_rfl) h)
/-- strings.CutPrefix -/
abbrev F_strings_CutPrefix : Nat := 30
def A_strings_CutPrefix : Ann := ⟨[], [], [], [], []⟩
theorem L_strings_CutPrefix {s1 : ByteArray} {prefix2 : ByteArray} {w : World} {R : Ending → World → Prop}
    (h : PC Tryd.prog 63 #[.string s1, .string prefix2] w (fun v3 w4 => ∃ (t5 : ByteArray), ∃ (t6 : Bool), v3 = .tuple #[.string t5, .bool t6] ∧ R (.returned (.tuple #[.string t5, .bool t6])) w4) (fun ch w =>
      R (.panicked ch) w)) :
    Calls Tryd.prog 30 #[.string s1, .string prefix2] w R :=
  D_calls A_strings_CutPrefix mixed Tryd.func30 rfl (Nat.le_of_ble_eq_true (by kernel_rfl)) (by kernel_rfl) (Eq.mp (by kernel_rfl) h)
/-- (*quayside/vdisk.Disk).write -/
abbrev F_vdisk_Disk_write : Nat := 32
def A_vdisk_Disk_write : Ann := ⟨[], [(4, [])], [], [], []⟩
theorem L_vdisk_Disk_write {d1 : Option Addr} {f2g : FuncId} {f2i : Array Value} {f2c : Array Value} {w : World} {R : Ending → World → Prop}
    (h : (∃ J3 : World → Prop, ((∃ b4 o5, d1 = some ⟨b4, o5, none⟩ ∧ (∃ (t6 : Bool), w.cell? ⟨b4, o5 + 4, none⟩ = some (.bool t6) ∧ PIf t6 ((∃ b7 o8, d1 = some ⟨b7, o8, none⟩ ∧
      PS w ⟨b7, o8 + 4, none⟩ (.bool true) fun w9 => (∃ b10 o11, d1 = some ⟨b10, o11, none⟩ ∧ (∃ (t12 : Bool), w9.cell? ⟨b10, o11 + 4, none⟩ = some (.bool t12) ∧
      PIf t12 (R (.returned (.int .i64 15)) w9) (J3  w9))))) ((∃ b13 o14, d1 = some ⟨b13, o14, none⟩ ∧ (∃ (t15 : Bool), w.cell? ⟨b13, o14 + 2, none⟩ = some (.bool t15) ∧
      PIf t15 ((∃ b16 o17, d1 = some ⟨b16, o17, none⟩ ∧ (∃ (t18 : Int), w.cell? ⟨b16, o17 + 3, none⟩ = some (.int .i64 t18) ∧ (∃ b19 o20, d1 = some ⟨b19, o20, none⟩ ∧
      PS w ⟨b19, o20 + 4, none⟩ (.bool ((t18 : Int) == 0)) fun w21 => (∃ b22 o23, d1 = some ⟨b22, o23, none⟩ ∧ (∃ (t24 : Bool), w21.cell? ⟨b22, o23 + 4, none⟩ = some (.bool t24) ∧
      PIf t24 (R (.returned (.int .i64 15)) w21) (J3  w21))))))) ((∃ b25 o26, d1 = some ⟨b25, o26, none⟩ ∧ PS w ⟨b25, o26 + 4, none⟩ (.bool false) fun w27 =>
      (∃ b28 o29, d1 = some ⟨b28, o29, none⟩ ∧ (∃ (t30 : Bool), w27.cell? ⟨b28, o29 + 4, none⟩ = some (.bool t30) ∧ PIf t30 (R (.returned (.int .i64 15)) w27) (J3  w27))))))))))) ∧
      ∀  (B31 : Nat → Value) (w32 : World), J3  w32 → (∃ b33 o34, d1 = some ⟨b33, o34, none⟩ ∧ (∃ (t35 : Bool), w32.cell? ⟨b33, o34 + 2, none⟩ = some (.bool t35) ∧
      PIf t35 ((∃ b36 o37, d1 = some ⟨b36, o37, none⟩ ∧ (∃ (t38 : Int), w32.cell? ⟨b36, o37 + 3, none⟩ = some (.int .i64 t38) ∧ (∃ b39 o40, d1 = some ⟨b39, o40, none⟩ ∧
      PS w32 ⟨b39, o40 + 3, none⟩ (.int .i64 (IntKind.wrap .i64 (t38 - 1))) fun w41 => (∃ g44 fi45 ca46, (.func (.func f2g) f2i f2c : Value) = .func (.func g44) fi45 ca46 ∧
      enters Tryd.prog g44 = true ∧ PC Tryd.prog g44 (fi45 ++ #[] ++ ca46) w41 (fun v42 w43 => ∃ (t47 : Int), v42 = .int .i64 t47 ∧ R (.returned (.int .i64 t47)) w43) (fun ch w =>
      R (.panicked ch) w)))))) ((∃ g50 fi51 ca52, (.func (.func f2g) f2i f2c : Value) = .func (.func g50) fi51 ca52 ∧ enters Tryd.prog g50 = true ∧ PC Tryd.prog g50 (fi51 ++ #[] ++ ca52) w32 (fun v48 w49 =>
      ∃ (t53 : Int), v48 = .int .i64 t53 ∧ R (.returned (.int .i64 t53)) w49) (fun ch w => R (.panicked ch) w))))))) :
    Calls Tryd.prog 32 #[.pointer d1, .func (.func f2g) f2i f2c] w R :=
  D_calls A_vdisk_Disk_write mixed Tryd.func32 rfl (Nat.le_of_ble_eq_true (by kernel_rfl)) (by kernel_rfl) (Eq.mp (by kernel_rfl) h)
/-- (*quayside/vdisk.Disk).Create$1 -/
abbrev F_vdisk_Disk_Create_1 : Nat := 33
def A_vdisk_Disk_Create_1 : Ann := ⟨[], [], [7], [], []⟩
theorem L_vdisk_Disk_Create_1 {b1 : Nat} {o2 : Nat} {b3 : Nat} {o4 : Nat} {w : World} {R : Ending → World → Prop}
    (h : (∃ (t5 : ByteArray), w.cell? ⟨b1, o2, none⟩ = some (.string t5) ∧ PC Tryd.prog 34 #[.string t5] w (fun v6 w7 => ∃ (t8 : Bool), v6 = .bool t8 ∧ PIf (!t8) (R (.returned (.int .i64 1)) w7) ((∃ (t10 : Option Addr), w7.cell? ⟨b3, o4, none⟩ = some (.pointer t10) ∧
      (∃ b11 o12, t10 = some ⟨b11, o12, none⟩ ∧ (∃ (t13 : Option Nat), w7.cell? ⟨b11, o12 + 1, none⟩ = some (.map t13) ∧ (∃ (t14 : ByteArray), w7.cell? ⟨b1, o2, none⟩ = some (.string t14) ∧
      (∃ (t15 : Option Addr), (∀ m, (Instr.lookup 69 (.map t13) (.string t14) false).run Tryd.prog (w7.drewN m) = .ok (.pointer t15) (w7.drewN m)) ∧ (∃ (t16 : Bool), (∀ m, (do eqGuard .neq 74 (.tmp 13) (.const (.pointer none)) (.pointer t15) (.pointer none); binOp .neq 74 (.pointer t15) (.pointer none)).run Tryd.prog (w7.drewN m) = .ok (.bool t16) (w7.drewN m)) ∧
      (∀ w9, Drew w7 w9 → PIf t16 (R (.returned (.int .i64 16)) w9) ((∃ (t17 : Option Addr), w9.cell? ⟨b3, o4, none⟩ = some (.pointer t17) ∧ (∃ b18 o19, t17 = some ⟨b18, o19, none⟩ ∧
      (∃ (t20 : Option Nat), w9.cell? ⟨b18, o19 + 1, none⟩ = some (.map t20) ∧ PRun Tryd.prog (Builtin.len_ #[69] 3 #[.map t20]) w9 (fun v21 w22 => ∃ (t23 : Int), v21 = .int .i64 t23 ∧
      PIf (decide ((t23 : Int) ≥ 64)) (R (.returned (.int .i64 12)) w22) ((∀ w25, Drew w22 w25 → ∃ S26 : Nat → Prop, (¬ S26 b3 ∧ (∃ (t27 : Option Addr), w25.cell? ⟨b3, o4, none⟩ = some (.pointer t27) ∧
      (∃ b28 o29, t27 = some ⟨b28, o29, none⟩ ∧ (¬ S26 b28 ∧ (∃ (t30 : Option Nat), w25.cell? ⟨b28, o29 + 1, none⟩ = some (.map t30) ∧ (¬ S26 b1 ∧ (∃ (t31 : ByteArray), w25.cell? ⟨b1, o2, none⟩ = some (.string t31) ∧
      PA w25 (.cells #[.slice none 0 0, .int .i64 0, .bool false] 76) fun w32 => (Keep S26 w25 w32 ∧ PRunU Tryd.prog (Instr.mapUpdate 69 (.map t30) (.string t31) (.pointer (some ⟨w25.heap.size, 0, none⟩))) w32 (fun w33 =>
      (Keep S26 w32 w33 ∧ R (.returned (.int .i64 0)) w33)) (fun pv wpp => ∀ (_ : Base) (_ : Bnd), R (.panicked [{ v := pv, recovered := false }]) wpp)))))))))))) (fun pv w =>
      R (.panicked [{ v := pv, recovered := false }]) w)))))))))))))) (fun ch w => R (.panicked ch) w))) :
    Calls Tryd.prog 33 #[.pointer (some ⟨b1, o2, none⟩), .pointer (some ⟨b3, o4, none⟩)] w R :=
  D_calls A_vdisk_Disk_Create_1 mixed Tryd.func33 rfl (Nat.le_of_ble_eq_true (by kernel_rfl)) (by kernel_rfl) (Eq.mp (by kernel_rfl) h)
/-- quayside/vdisk.isName -/
abbrev F_vdisk_isName : Nat := 34
def A_vdisk_isName : Ann := ⟨[], [], [], [], []⟩
theorem L_vdisk_isName {s1 : ByteArray} {w : World} {R : Ending → World → Prop}
    (h : PIf (!((ByteArray.toList s1) == (ByteArray.toList (⟨#[]⟩ : ByteArray)))) (PIf (decide ((((ByteArray.size s1 : Nat) : Int) : Int) ≤ 16)) (PC Tryd.prog 67 #[.string s1, .func (.func 65) #[] #[]] w (fun v2 w3 =>
      ∃ (t4 : Bool), v2 = .bool t4 ∧ R (.returned (.bool (!t4))) w3) (fun ch w => R (.panicked ch) w)) (R (.returned (.bool false)) w)) (R (.returned (.bool false)) w)) :
    Calls Tryd.prog 34 #[.string s1] w R :=
  D_calls A_vdisk_isName mixed Tryd.func34 rfl (Nat.le_of_ble_eq_true (by kernel_rfl)) (by kernel_rfl) (Eq.mp (by kernel_rfl) h)
/-- quayside/event.Put -/
abbrev F_event_Put : Nat := 35
def A_event_Put : Ann := ⟨[], [], [], [], []⟩
theorem L_event_Put {e2 : Int} {e3 : Int} {e4 : Int} {e5a : Option Addr} {e5n : Nat} {e5c : Nat} {e6 : Int} {e7 : Int} {e8 : Int} {e9 : Int} {e10 : Int} {e11 : Int} {w : World} {R : Ending → World → Prop}
    (h : PA w (.cells #[.int .i64 e2, .int .i64 e3, .int .i64 e4, .slice e5a e5n e5c, .int .i64 e6, .int .i64 e7, .int .i64 e8, .int .i64 e9, .int .i64 e10, .int .i64 e11] 42) fun w12 =>
      (∃ (t13a : Option Addr) (t13n : Nat) (t13c : Nat), w12.cell? ⟨w.heap.size, 0 + 3, none⟩ = some (.slice t13a t13n t13c) ∧ PIf (decide ((((t13n : Nat) : Int) : Int) > 64)) (R (.returned (.tuple #[.slice none 0 0, .int .i64 3])) w12) (PA w12 (.cells #[.slice none 0 0] 35) fun w14 =>
      (∃ (t15 : Int), w14.cell? ⟨w.heap.size, 0, none⟩ = some (.int .i64 t15) ∧ (∃ (t16 : Int), w14.cell? ⟨w.heap.size, 0 + 1, none⟩ = some (.int .i64 t16) ∧
      (∃ (t17 : Int), w14.cell? ⟨w.heap.size, 0 + 2, none⟩ = some (.int .i64 t17) ∧ (∃ (t18a : Option Addr) (t18n : Nat) (t18c : Nat), w14.cell? ⟨w.heap.size, 0 + 3, none⟩ = some (.slice t18a t18n t18c) ∧
      PA w14 (.cells #[.int .i64 t15, .int .i64 t16, .int .i64 t17, .int .i64 ((t18n : Nat) : Int)] 3) fun w19 => (∃ g25 fi26 ca27, (.func (.func 68) #[] #[.pointer (some ⟨w12.heap.size, 0, none⟩)] : Value) = .func (.func g25) fi26 ca27 ∧
      enters Tryd.prog g25 = true ∧ PC Tryd.prog g25 (fi26 ++ #[.slice (some ⟨w14.heap.size, 0, none⟩) 4 4] ++ ca27) w19 (fun v20 w21 => v20 = .tuple #[] ∧ (∃ (t28a : Option Addr) (t28n : Nat) (t28c : Nat), w21.cell? ⟨w.heap.size, 0 + 3, none⟩ = some (.slice t28a t28n t28c) ∧
      (∃ g34 fi35 ca36, (.func (.func 68) #[] #[.pointer (some ⟨w12.heap.size, 0, none⟩)] : Value) = .func (.func g34) fi35 ca36 ∧ enters Tryd.prog g34 = true ∧
      PC Tryd.prog g34 (fi35 ++ #[.slice t28a t28n t28c] ++ ca36) w21 (fun v29 w30 => v29 = .tuple #[] ∧ (∃ (t37 : Int), w30.cell? ⟨w.heap.size, 0 + 4, none⟩ = some (.int .i64 t37) ∧
      (∃ (t38 : Int), w30.cell? ⟨w.heap.size, 0 + 5, none⟩ = some (.int .i64 t38) ∧ (∃ (t39 : Int), w30.cell? ⟨w.heap.size, 0 + 6, none⟩ = some (.int .i64 t39) ∧
      (∃ (t40 : Int), w30.cell? ⟨w.heap.size, 0 + 7, none⟩ = some (.int .i64 t40) ∧ (∃ (t41 : Int), w30.cell? ⟨w.heap.size, 0 + 8, none⟩ = some (.int .i64 t41) ∧
      (∃ (t42 : Int), w30.cell? ⟨w.heap.size, 0 + 9, none⟩ = some (.int .i64 t42) ∧ PA w30 (.cells #[.int .i64 t37, .int .i64 t38, .int .i64 t39, .int .i64 t40, .int .i64 t41, .int .i64 t42] 3) fun w43 =>
      (∃ g49 fi50 ca51, (.func (.func 68) #[] #[.pointer (some ⟨w12.heap.size, 0, none⟩)] : Value) = .func (.func g49) fi50 ca51 ∧ enters Tryd.prog g49 = true ∧
      PC Tryd.prog g49 (fi50 ++ #[.slice (some ⟨w30.heap.size, 0, none⟩) 6 6] ++ ca51) w43 (fun v44 w45 => v44 = .tuple #[] ∧ (∃ (t52a : Option Addr) (t52n : Nat) (t52c : Nat), w45.cell? ⟨w12.heap.size, 0, none⟩ = some (.slice t52a t52n t52c) ∧
      R (.returned (.tuple #[.slice t52a t52n t52c, .int .i64 0])) w45)) (fun ch w => R (.panicked ch) w))))))))) (fun ch w => R (.panicked ch) w)))) (fun ch w =>
      R (.panicked ch) w))))))))) :
    Calls Tryd.prog 35 #[.agg #[.int .i64 e2, .int .i64 e3, .int .i64 e4, .slice e5a e5n e5c, .int .i64 e6, .int .i64 e7, .int .i64 e8, .int .i64 e9, .int .i64 e10, .int .i64 e11]] w R :=
  D_calls A_event_Put mixed Tryd.func35 rfl (Nat.le_of_ble_eq_true (by kernel_rfl)) (by kernel_rfl) (Eq.mp (by kernel_rfl) h)
/-- (*quayside/vdisk.Disk).on -/
abbrev F_vdisk_Disk_on : Nat := 36
def A_vdisk_Disk_on : Ann := ⟨[], [], [], [], []⟩
theorem L_vdisk_Disk_on {d1 : Option Addr} {name2 : ByteArray} {f3g : FuncId} {f3i : Array Value} {f3c : Array Value} {w : World} {R : Ending → World → Prop}
    (h : PA w (.cells #[.pointer d1] 30) fun w4 => PA w4 (.cells #[.string name2] 9) fun w5 => PA w5 (.cells #[.func (.func f3g) f3i f3c] 80) fun w6 => (∃ (t7 : Option Addr), w6.cell? ⟨w.heap.size, 0, none⟩ = some (.pointer t7) ∧
      PC Tryd.prog 32 #[.pointer t7, .func (.func 70) #[] #[.pointer (some ⟨w.heap.size, 0, none⟩), .pointer (some ⟨w4.heap.size, 0, none⟩), .pointer (some ⟨w5.heap.size, 0, none⟩)]] w6 (fun v8 w9 =>
      ∃ (t10 : Int), v8 = .int .i64 t10 ∧ R (.returned (.int .i64 t10)) w9) (fun ch w => R (.panicked ch) w))) :
    Calls Tryd.prog 36 #[.pointer d1, .string name2, .func (.func f3g) f3i f3c] w R :=
  D_calls A_vdisk_Disk_on mixed Tryd.func36 rfl (Nat.le_of_ble_eq_true (by kernel_rfl)) (by kernel_rfl) (Eq.mp (by kernel_rfl) h)
/-- (*quayside/vdisk.Disk).Append$1 -/
abbrev F_vdisk_Disk_Append_1 : Nat := 37
def A_vdisk_Disk_Append_1 : Ann := ⟨[], [], [1], [], [(3, ⟨[0, 0, 2, 4, 8, 0, 48, 127, 255, 383], [1023, 1023, 1021, 1019, 1015, 1023, 975, 1022, 895, 703], [0, 0, 0, 0, 1, 1, 2, 0, 0, 2]⟩)]⟩
theorem L_vdisk_Disk_Append_1 {f1 : Option Addr} {b2 : Nat} {o3 : Nat} {b4 : Nat} {o5 : Nat} {w : World} {R : Ending → World → Prop}
    (h : (∀ w7, Drew w w7 → ∃ S8 : Nat → Prop, (¬ S8 b2 ∧ (∃ (t9a : Option Addr) (t9n : Nat) (t9c : Nat), w7.cell? ⟨b2, o3, none⟩ = some (.slice t9a t9n t9c) ∧
      (∃ (t10 : Option Addr), w7.cell? ⟨b4, o5, none⟩ = some (.pointer t10) ∧ PC Tryd.prog 38 #[.pointer t10] w7 (fun v11 w12 => ∃ (t13 : Int), v11 = .int .i64 t13 ∧
      (Keep S8 w7 w12 ∧ PIf (decide ((((t9n : Nat) : Int) : Int) > t13)) (R (.returned (.int .i64 12)) w12) ((∀ w15, Drew w12 w15 → (∃ b16 o17, f1 = some ⟨b16, o17, none⟩ ∧
      (∃ (t18a : Option Addr) (t18n : Nat) (t18c : Nat), w15.cell? ⟨b16, o17, none⟩ = some (.slice t18a t18n t18c) ∧ (∃ (t19a : Option Addr) (t19n : Nat) (t19c : Nat), w15.cell? ⟨b2, o3, none⟩ = some (.slice t19a t19n t19c) ∧
      PRun Tryd.prog (Builtin.append_ #[35, 35] 35 #[.slice t18a t18n t18c, .slice t19a t19n t19c]) w15 (fun v20 w21 => ∃ (t22a : Option Addr) (t22n : Nat) (t22c : Nat), v20 = .slice t22a t22n t22c ∧
      (∃ b23 o24, f1 = some ⟨b23, o24, none⟩ ∧ PS w21 ⟨b23, o24, none⟩ (.slice t22a t22n t22c) fun w25 => R (.returned (.int .i64 0)) w25)) (fun pv wpp => ∀ (_ : Base) (_ : Bnd), R (.panicked [{ v := pv, recovered := false }]) wpp)))))))) (fun ch wpp =>
      ∀ (_ : Base) (_ : Bnd), R (.panicked ch) wpp)))))) :
    Calls Tryd.prog 37 #[.pointer f1, .pointer (some ⟨b2, o3, none⟩), .pointer (some ⟨b4, o5, none⟩)] w R :=
  D_calls A_vdisk_Disk_Append_1 mixed Tryd.func37 rfl (Nat.le_of_ble_eq_true (by kernel_rfl)) (by kernel_rfl) (Eq.mp (by kernel_rfl) h)
/-- (*quayside/vdisk.Disk).Room -/
abbrev F_vdisk_Disk_Room : Nat := 38
def A_vdisk_Disk_Room : Ann := ⟨[(3, [(3, .int .i64 0)])], [], [], [], []⟩
theorem L_vdisk_Disk_Room {d1 : Option Addr} {w : World} {R : Ending → World → Prop}
    (h : (∃ b2 o3, d1 = some ⟨b2, o3, none⟩ ∧ (∃ (t4 : Int), w.cell? ⟨b2, o3, none⟩ = some (.int .i64 t4) ∧ (∃ b5 o6, d1 = some ⟨b5, o6, none⟩ ∧ (∃ (t7 : Option Nat), w.cell? ⟨b5, o6 + 1, none⟩ = some (.map t7) ∧
      PRun Tryd.prog (Instr.range 69 (.map t7)) w (fun v8 w9 => (∃ I10 : Nat → Int → World → Prop, (∃ m11, I10 m11 t4 w9) ∧ ∀ (m11 : Nat) (n13 : Int) (B14 : Nat → Value) (w15 : World), I10 m11 n13 w15 → PRun Tryd.prog (Instr.next v8 false 0) w15 (fun v16 w17 =>
      (v16 = .tuple #[.bool false] ∧ R (.returned (.int .i64 n13)) w17) ∨ (∃ k18 x19, v16 = .tuple #[.bool true, k18, x19] ∧ PRun Tryd.prog (Instr.entry v8) w17 (fun v20 w21 =>
      ∃ (k22 : Value), ∃ (x23 : Option Addr), v20 = .tuple #[k22, .pointer x23] ∧ (∃ b24 o25, x23 = some ⟨b24, o25, none⟩ ∧ (∃ (t26a : Option Addr) (t26n : Nat) (t26c : Nat), w21.cell? ⟨b24, o25, none⟩ = some (.slice t26a t26n t26c) ∧
      (∃ m12, m12 < m11 ∧ I10 m12 (IntKind.wrap .i64 (n13 - ((t26n : Nat) : Int))) w21)))) (fun pv w => R (.panicked [{ v := pv, recovered := false }]) w))) (fun pv w =>
      R (.panicked [{ v := pv, recovered := false }]) w))) (fun pv w => R (.panicked [{ v := pv, recovered := false }]) w)))))) :
    Calls Tryd.prog 38 #[.pointer d1] w R :=
  D_calls A_vdisk_Disk_Room mixed Tryd.func38 rfl (Nat.le_of_ble_eq_true (by kernel_rfl)) (by kernel_rfl) (Eq.mp (by kernel_rfl) h)
/-- (*quayside/vdisk.Disk).Read -/
abbrev F_vdisk_Disk_Read : Nat := 39
def A_vdisk_Disk_Read : Ann := ⟨[], [], [], [], []⟩
theorem L_vdisk_Disk_Read {d1 : Option Addr} {name2 : ByteArray} {w : World} {R : Ending → World → Prop}
    (h : (∃ b3 o4, d1 = some ⟨b3, o4, none⟩ ∧ (∃ (t5 : Option Nat), w.cell? ⟨b3, o4 + 1, none⟩ = some (.map t5) ∧ PRun Tryd.prog (Instr.lookup 69 (.map t5) (.string name2) false) w (fun v6 w7 =>
      ∃ (t8 : Option Addr), v6 = .pointer t8 ∧ (∃ b9 o10, d1 = some ⟨b9, o10, none⟩ ∧ (∃ (t11 : Bool), w7.cell? ⟨b9, o10 + 4, none⟩ = some (.bool t11) ∧ PIf t11 (R (.returned (.tuple #[.slice none 0 0, .int .i64 15])) w7) (PRun Tryd.prog (do eqGuard .eql 74 (.tmp 24) (.const (.pointer none)) (.pointer t8) (.pointer none); binOp .eql 74 (.pointer t8) (.pointer none)) w7 (fun v12 w13 =>
      ∃ (t14 : Bool), v12 = .bool t14 ∧ PIf t14 (R (.returned (.tuple #[.slice none 0 0, .int .i64 14])) w13) ((∃ b15 o16, t8 = some ⟨b15, o16, none⟩ ∧ (∃ (t17a : Option Addr) (t17n : Nat) (t17c : Nat), w13.cell? ⟨b15, o16, none⟩ = some (.slice t17a t17n t17c) ∧
      PC Tryd.prog 71 #[.slice t17a t17n t17c] w13 (fun v18 w19 => ∃ (t20a : Option Addr) (t20n : Nat) (t20c : Nat), v18 = .slice t20a t20n t20c ∧ R (.returned (.tuple #[.slice t20a t20n t20c, .int .i64 0])) w19) (fun ch w =>
      R (.panicked ch) w))))) (fun pv w => R (.panicked [{ v := pv, recovered := false }]) w))))) (fun pv w => R (.panicked [{ v := pv, recovered := false }]) w)))) :
    Calls Tryd.prog 39 #[.pointer d1, .string name2] w R :=
  D_calls A_vdisk_Disk_Read mixed Tryd.func39 rfl (Nat.le_of_ble_eq_true (by kernel_rfl)) (by kernel_rfl) (Eq.mp (by kernel_rfl) h)
/-- quayside/frame.Get -/
abbrev F_frame_Get : Nat := 40
def A_frame_Get : Ann := ⟨[], [], [4], [], [(4, ⟨[0, 1, 2, 4, 0, 0, 32, 80, 128, 264, 0, 1024, 2048, 1023, 16383, 32767], [65535, 65534, 65533, 65531, 65535, 65535, 65503, 65455, 65407, 65271, 65535, 64511, 63487, 65023, 61439, 65535], [0, 0, 1, 0, 0, 0, 0, 0, 2, 0, 0, 0, 0, 2, 0, 0]⟩)]⟩
theorem L_frame_Get {b1a : Option Addr} {b1n : Nat} {b1c : Nat} {w : World} {R : Ending → World → Prop}
    (h : PA w (.cells #[.int .i64 0, .slice none 0 0] 50) fun w2 => PC Tryd.prog 72 #[.slice b1a b1n b1c] w2 (fun v3 w4 => ∃ (t5 : Int), ∃ (t6 : Int), v3 = .tuple #[.int .i64 t5, .int .i64 t6] ∧
      PIf ((t6 : Int) != 0) (PS w4 ⟨w.heap.size, 0, none⟩ (.int .i64 0) fun w7 => PS w7 ⟨w.heap.size, 0 + 1, none⟩ (.slice none 0 0) fun w8 => (∃ (r9 : Int), ∃ (r10a : Option Addr) (r10n : Nat) (r10c : Nat), w8.cell? ⟨w.heap.size, 0, none⟩ = some (.int .i64 r9) ∧
      w8.cell? ⟨w.heap.size, 0 + 1, none⟩ = some (.slice r10a r10n r10c) ∧ R (.returned (.tuple #[.agg #[.int .i64 r9, .slice r10a r10n r10c], .int .i64 0, .int .i64 t6])) w8)) ((∀ w12, Drew w4 w12 → ∃ S13 : Nat → Prop, (∃ b14 o15, b1a = some ⟨b14, o15, none⟩ ∧
      (0 : Int) ≤ 0 ∧ 0 < ((b1n : Nat) : Int) ∧ (¬ S13 b14 ∧ (∃ (t16 : Int), w12.cell? ⟨b14, o15 + Int.toNat 0, none⟩ = some (.int .u8 t16) ∧ ((0 : Int) ≤ 4 ∧
      (4 : Int) ≤ (IntKind.wrap .i64 (4 + t5)) ∧ ((IntKind.wrap .i64 (4 + t5)) : Int) ≤ ((b1c : Nat) : Int) ∧ PC Tryd.prog 71 #[.slice (subA b1a (Int.toNat 4) b1c 1) (Int.toNat (IntKind.wrap .i64 (4 + t5)) - Int.toNat 4) (b1c - Int.toNat 4)] w12 (fun v17 w18 =>
      ∃ (t19a : Option Addr) (t19n : Nat) (t19c : Nat), v17 = .slice t19a t19n t19c ∧ (Keep S13 w12 w18 ∧ PS w18 ⟨w.heap.size, 0, none⟩ (.int .i64 (IntKind.wrap .i64 t16)) fun w20 =>
      PS w20 ⟨w.heap.size, 0 + 1, none⟩ (.slice t19a t19n t19c) fun w21 => (Keep S13 w18 w21 ∧ (∃ (r22 : Int), ∃ (r23a : Option Addr) (r23n : Nat) (r23c : Nat), w21.cell? ⟨w.heap.size, 0, none⟩ = some (.int .i64 r22) ∧
      w21.cell? ⟨w.heap.size, 0 + 1, none⟩ = some (.slice r23a r23n r23c) ∧ R (.returned (.tuple #[.agg #[.int .i64 r22, .slice r23a r23n r23c], .int .i64 (IntKind.wrap .i64 ((IntKind.wrap .i64 (4 + t5)) + 5)), .int .i64 0])) w21)))) (fun ch wpp =>
      ∀ (_ : Base) (_ : Bnd), R (.panicked ch) wpp)))))))) (fun ch w => R (.panicked ch) w)) :
    Calls Tryd.prog 40 #[.slice b1a b1n b1c] w R :=
  D_calls A_frame_Get mixed Tryd.func40 rfl (Nat.le_of_ble_eq_true (by kernel_rfl)) (by kernel_rfl) (Eq.mp (by kernel_rfl) h)
/-- quayside/quaysidekit.SameEvent -/
abbrev F_kit_SameEvent : Nat := 41
def A_kit_SameEvent : Ann := ⟨[], [], [], [], []⟩
theorem L_kit_SameEvent {a2 : Int} {a3 : Int} {a4 : Int} {a5a : Option Addr} {a5n : Nat} {a5c : Nat} {a6 : Int} {a7 : Int} {a8 : Int} {a9 : Int} {a10 : Int} {a11 : Int} {b13 : Int} {b14 : Int} {b15 : Int} {b16a : Option Addr} {b16n : Nat} {b16c : Nat} {b17 : Int} {b18 : Int} {b19 : Int} {b20 : Int} {b21 : Int} {b22 : Int} {w : World} {R : Ending → World → Prop}
    (h : PA w (.cells #[.int .i64 a2, .int .i64 a3, .int .i64 a4, .slice a5a a5n a5c, .int .i64 a6, .int .i64 a7, .int .i64 a8, .int .i64 a9, .int .i64 a10, .int .i64 a11] 42) fun w23 =>
      PA w23 (.cells #[.int .i64 b13, .int .i64 b14, .int .i64 b15, .slice b16a b16n b16c, .int .i64 b17, .int .i64 b18, .int .i64 b19, .int .i64 b20, .int .i64 b21, .int .i64 b22] 42) fun w24 =>
      (∃ (t25 : Int), ∃ (t26 : Int), w24.cell? ⟨w.heap.size, 0, none⟩ = some (.int .i64 t25) ∧ w24.cell? ⟨w.heap.size, 0 + 1, none⟩ = some (.int .i64 t26) ∧
      (∃ (t27 : Int), ∃ (t28 : Int), w24.cell? ⟨w23.heap.size, 0, none⟩ = some (.int .i64 t27) ∧ w24.cell? ⟨w23.heap.size, 0 + 1, none⟩ = some (.int .i64 t28) ∧
      PRun Tryd.prog (do eqGuard .eql 40 (.tmp 6) (.tmp 8) (.agg #[.int .i64 t25, .int .i64 t26]) (.agg #[.int .i64 t27, .int .i64 t28]); binOp .eql 40 (.agg #[.int .i64 t25, .int .i64 t26]) (.agg #[.int .i64 t27, .int .i64 t28])) w24 (fun v29 w30 =>
      ∃ (t31 : Bool), v29 = .bool t31 ∧ PIf t31 ((∃ (t32 : Int), w30.cell? ⟨w.heap.size, 0 + 2, none⟩ = some (.int .i64 t32) ∧ (∃ (t33 : Int), w30.cell? ⟨w23.heap.size, 0 + 2, none⟩ = some (.int .i64 t33) ∧
      PIf ((t32 : Int) == t33) ((∃ (t34a : Option Addr) (t34n : Nat) (t34c : Nat), w30.cell? ⟨w.heap.size, 0 + 3, none⟩ = some (.slice t34a t34n t34c) ∧ (∃ (t35a : Option Addr) (t35n : Nat) (t35c : Nat), w30.cell? ⟨w23.heap.size, 0 + 3, none⟩ = some (.slice t35a t35n t35c) ∧
      PC Tryd.prog 28 #[.slice t34a t34n t34c, .slice t35a t35n t35c] w30 (fun v36 w37 => ∃ (t38 : Bool), v36 = .bool t38 ∧ PIf t38 ((∃ (t39 : Int), w37.cell? ⟨w.heap.size, 0 + 4, none⟩ = some (.int .i64 t39) ∧
      (∃ (t40 : Int), w37.cell? ⟨w23.heap.size, 0 + 4, none⟩ = some (.int .i64 t40) ∧ PIf ((t39 : Int) == t40) ((∃ (t41 : Int), w37.cell? ⟨w.heap.size, 0 + 5, none⟩ = some (.int .i64 t41) ∧
      (∃ (t42 : Int), w37.cell? ⟨w23.heap.size, 0 + 5, none⟩ = some (.int .i64 t42) ∧ PIf ((t41 : Int) == t42) ((∃ (t43 : Int), w37.cell? ⟨w.heap.size, 0 + 6, none⟩ = some (.int .i64 t43) ∧
      (∃ (t44 : Int), w37.cell? ⟨w23.heap.size, 0 + 6, none⟩ = some (.int .i64 t44) ∧ PIf ((t43 : Int) == t44) ((∃ (t45 : Int), w37.cell? ⟨w.heap.size, 0 + 7, none⟩ = some (.int .i64 t45) ∧
      (∃ (t46 : Int), w37.cell? ⟨w23.heap.size, 0 + 7, none⟩ = some (.int .i64 t46) ∧ PIf ((t45 : Int) == t46) ((∃ (t47 : Int), w37.cell? ⟨w.heap.size, 0 + 8, none⟩ = some (.int .i64 t47) ∧
      (∃ (t48 : Int), w37.cell? ⟨w23.heap.size, 0 + 8, none⟩ = some (.int .i64 t48) ∧ PIf ((t47 : Int) == t48) ((∃ (t49 : Int), w37.cell? ⟨w.heap.size, 0 + 9, none⟩ = some (.int .i64 t49) ∧
      (∃ (t50 : Int), w37.cell? ⟨w23.heap.size, 0 + 9, none⟩ = some (.int .i64 t50) ∧ R (.returned (.bool ((t49 : Int) == t50))) w37))) (R (.returned (.bool false)) w37)))) (R (.returned (.bool false)) w37)))) (R (.returned (.bool false)) w37)))) (R (.returned (.bool false)) w37)))) (R (.returned (.bool false)) w37)))) (R (.returned (.bool false)) w37)) (fun ch w =>
      R (.panicked ch) w)))) (R (.returned (.bool false)) w30)))) (R (.returned (.bool false)) w30)) (fun pv w => R (.panicked [{ v := pv, recovered := false }]) w)))) :
    Calls Tryd.prog 41 #[.agg #[.int .i64 a2, .int .i64 a3, .int .i64 a4, .slice a5a a5n a5c, .int .i64 a6, .int .i64 a7, .int .i64 a8, .int .i64 a9, .int .i64 a10, .int .i64 a11], .agg #[.int .i64 b13, .int .i64 b14, .int .i64 b15, .slice b16a b16n b16c, .int .i64 b17, .int .i64 b18, .int .i64 b19, .int .i64 b20, .int .i64 b21, .int .i64 b22]] w R :=
  D_calls A_kit_SameEvent mixed Tryd.func41 rfl (Nat.le_of_ble_eq_true (by kernel_rfl)) (by kernel_rfl) (Eq.mp (by kernel_rfl) h)
/-- slices.Concat[[]byte,byte] -/
abbrev F_slices_Concat_byte_byte : Nat := 42
def A_slices_Concat_byte_byte : Ann := ⟨[(3, [(3, .int .i64 0), (11, .int .i64 0)]), (11, [(6, .slice none 0 0), (27, .int .i64 0)])], [], [], [], []⟩
theorem L_slices_Concat_byte_byte {slices1a : Option Addr} {slices1n : Nat} {slices1c : Nat} {w : World} {R : Ending → World → Prop}
    (h : (∃ I2 : Nat → Int → Int → World → Prop, (∃ m3, I2 m3 0 0 w) ∧ ∀ (m3 : Nat) (size5 : Int) (t6 : Int) (B7 : Nat → Value) (w8 : World), I2 m3 size5 t6 w8 → PIf (decide ((t6 : Int) < ((slices1n : Nat) : Int))) ((∃ b9 o10, slices1a = some ⟨b9, o10, none⟩ ∧
      (0 : Int) ≤ t6 ∧ t6 < ((slices1n : Nat) : Int) ∧ (∃ (t11a : Option Addr) (t11n : Nat) (t11c : Nat), w8.cell? ⟨b9, o10 + Int.toNat t6, none⟩ = some (.slice t11a t11n t11c) ∧
      PIf (decide (((IntKind.wrap .i64 (size5 + ((t11n : Nat) : Int))) : Int) < 0)) (PRun Tryd.prog (Instr.panic (.iface 9 (.string (⟨#[108, 101, 110, 32, 111, 117, 116, 32, 111, 102, 32, 114, 97, 110, 103, 101]⟩ : ByteArray)))) w8 (fun v12 w13 =>
      (∃ m4, m4 < m3 ∧ I2 m4 (IntKind.wrap .i64 (size5 + ((t11n : Nat) : Int))) (IntKind.wrap .i64 (t6 + 1)) w13)) (fun pv w => R (.panicked [{ v := pv, recovered := false }]) w)) ((∃ m4, m4 < m3 ∧
      I2 m4 (IntKind.wrap .i64 (size5 + ((t11n : Nat) : Int))) (IntKind.wrap .i64 (t6 + 1)) w8))))) (PC Tryd.prog 73 #[.slice none 0 0, .int .i64 size5] w8 (fun v14 w15 =>
      ∃ (t16a : Option Addr) (t16n : Nat) (t16c : Nat), v14 = .slice t16a t16n t16c ∧ (∃ I17 : Nat → Option Addr → Nat → Nat → Int → World → Prop, (∃ m18, I17 m18 t16a t16n t16c 0 w15) ∧
      ∀ (m18 : Nat) (newslice20a : Option Addr) (newslice20n : Nat) (newslice20c : Nat) (t21 : Int) (B22 : Nat → Value) (w23 : World), I17 m18 newslice20a newslice20n newslice20c t21 w23 → PIf (decide ((t21 : Int) < ((slices1n : Nat) : Int))) ((∃ b24 o25, slices1a = some ⟨b24, o25, none⟩ ∧
      (0 : Int) ≤ t21 ∧ t21 < ((slices1n : Nat) : Int) ∧ (∃ (t26a : Option Addr) (t26n : Nat) (t26c : Nat), w23.cell? ⟨b24, o25 + Int.toNat t21, none⟩ = some (.slice t26a t26n t26c) ∧
      PRun Tryd.prog (Builtin.append_ #[35, 35] 35 #[.slice newslice20a newslice20n newslice20c, .slice t26a t26n t26c]) w23 (fun v27 w28 => ∃ (t29a : Option Addr) (t29n : Nat) (t29c : Nat), v27 = .slice t29a t29n t29c ∧
      (∃ m19, m19 < m18 ∧ I17 m19 t29a t29n t29c (IntKind.wrap .i64 (t21 + 1)) w28)) (fun pv w => R (.panicked [{ v := pv, recovered := false }]) w)))) (R (.returned (.slice newslice20a newslice20n newslice20c)) w23))) (fun ch w =>
      R (.panicked ch) w)))) :
    Calls Tryd.prog 42 #[.slice slices1a slices1n slices1c] w R :=
  D_calls A_slices_Concat_byte_byte mixed Tryd.func42 rfl (Nat.le_of_ble_eq_true (by kernel_rfl)) (by kernel_rfl) (Eq.mp (by kernel_rfl) h)
/-- quayside/crc.Sum -/
abbrev F_crc_Sum : Nat := 43
def A_crc_Sum : Ann := ⟨[], [], [], [], []⟩
theorem L_crc_Sum {b1a : Option Addr} {b1n : Nat} {b1c : Nat} {w : World} {R : Ending → World → Prop}
    (h : PC Tryd.prog 74 #[.int .u32 0, .slice b1a b1n b1c] w (fun v2 w3 => ∃ (t4 : Int), v2 = .int .u32 t4 ∧ R (.returned (.int .u32 t4)) w3) (fun ch w => R (.panicked ch) w)) :
    Calls Tryd.prog 43 #[.slice b1a b1n b1c] w R :=
  D_calls A_crc_Sum mixed Tryd.func43 rfl (Nat.le_of_ble_eq_true (by kernel_rfl)) (by kernel_rfl) (Eq.mp (by kernel_rfl) h)
/-- quayside/pack.From -/
abbrev F_pack_From : Nat := 44
def A_pack_From : Ann := ⟨[], [], [], [], []⟩
theorem L_pack_From {b1a : Option Addr} {b1n : Nat} {b1c : Nat} {w : World} {R : Ending → World → Prop}
    (h : PRun Tryd.prog (Builtin.append_ #[35, 35] 35 #[.slice none 0 0, .slice b1a b1n b1c]) w (fun v2 w3 => ∃ (t4a : Option Addr) (t4n : Nat) (t4c : Nat), v2 = .slice t4a t4n t4c ∧
      PA w3 (.cells #[.slice t4a t4n t4c, .int .i64 0, .int .i64 0] 115) fun w5 => R (.returned (.pointer (some ⟨w3.heap.size, 0, none⟩))) w5) (fun pv w => R (.panicked [{ v := pv, recovered := false }]) w)) :
    Calls Tryd.prog 44 #[.slice b1a b1n b1c] w R :=
  D_calls A_pack_From mixed Tryd.func44 rfl (Nat.le_of_ble_eq_true (by kernel_rfl)) (by kernel_rfl) (Eq.mp (by kernel_rfl) h)
/-- (*quayside/pack.Reader).Int -/
abbrev F_pack_Reader_Int : Nat := 45
def A_pack_Reader_Int : Ann := ⟨[], [], [], [], []⟩
theorem L_pack_Reader_Int {r1 : Option Addr} {w : World} {R : Ending → World → Prop}
    (h : PA w (.cells #[.pointer r1] 89) fun w2 => PA w2 (.cells #[.int .i64 0] 3) fun w3 => (∃ (t4 : Option Addr), w3.cell? ⟨w.heap.size, 0, none⟩ = some (.pointer t4) ∧
      PC Tryd.prog 75 #[.pointer t4, .func (.func 76) #[] #[.pointer (some ⟨w.heap.size, 0, none⟩), .pointer (some ⟨w2.heap.size, 0, none⟩)]] w3 (fun v5 w6 =>
      v5 = .tuple #[] ∧ (∃ (t7 : Int), w6.cell? ⟨w2.heap.size, 0, none⟩ = some (.int .i64 t7) ∧ PS w6 ⟨w2.heap.size, 0, none⟩ (.int .i64 t7) fun w8 => (∃ (r9 : Int), w8.cell? ⟨w2.heap.size, 0, none⟩ = some (.int .i64 r9) ∧
      R (.returned (.int .i64 r9)) w8))) (fun ch w => R (.panicked ch) w))) :
    Calls Tryd.prog 45 #[.pointer r1] w R :=
  D_calls A_pack_Reader_Int mixed Tryd.func45 rfl (Nat.le_of_ble_eq_true (by kernel_rfl)) (by kernel_rfl) (Eq.mp (by kernel_rfl) h)
/-- (*quayside/pack.Reader).Count -/
abbrev F_pack_Reader_Count : Nat := 46
def A_pack_Reader_Count : Ann := ⟨[], [], [], [], []⟩
theorem L_pack_Reader_Count {r1 : Option Addr} {most2 : Int} {w : World} {R : Ending → World → Prop}
    (h : PA w (.cells #[.pointer r1] 89) fun w3 => PA w3 (.cells #[.int .i64 most2] 3) fun w4 => PA w4 (.cells #[.int .i64 0] 3) fun w5 => (∃ (t6 : Option Addr), w5.cell? ⟨w.heap.size, 0, none⟩ = some (.pointer t6) ∧
      PC Tryd.prog 75 #[.pointer t6, .func (.func 78) #[] #[.pointer (some ⟨w.heap.size, 0, none⟩), .pointer (some ⟨w3.heap.size, 0, none⟩), .pointer (some ⟨w4.heap.size, 0, none⟩)]] w5 (fun v7 w8 =>
      v7 = .tuple #[] ∧ (∃ (t9 : Int), w8.cell? ⟨w4.heap.size, 0, none⟩ = some (.int .i64 t9) ∧ PS w8 ⟨w4.heap.size, 0, none⟩ (.int .i64 t9) fun w10 => (∃ (r11 : Int), w10.cell? ⟨w4.heap.size, 0, none⟩ = some (.int .i64 r11) ∧
      R (.returned (.int .i64 r11)) w10))) (fun ch w => R (.panicked ch) w))) :
    Calls Tryd.prog 46 #[.pointer r1, .int .i64 most2] w R :=
  D_calls A_pack_Reader_Count mixed Tryd.func46 rfl (Nat.le_of_ble_eq_true (by kernel_rfl)) (by kernel_rfl) (Eq.mp (by kernel_rfl) h)
/-- (*quayside/pack.Reader).Done -/
abbrev F_pack_Reader_Done : Nat := 47
def A_pack_Reader_Done : Ann := ⟨[], [], [], [], []⟩
theorem L_pack_Reader_Done {r1 : Option Addr} {w : World} {R : Ending → World → Prop}
    (h : (∃ b3 o4, r1 = some ⟨b3, o4, none⟩ ∧ (∃ (t5 : Int), w.cell? ⟨b3, o4 + 2, none⟩ = some (.int .i64 t5) ∧ PIf ((t5 : Int) == 0) ((∃ b6 o7, r1 = some ⟨b6, o7, none⟩ ∧
      (∃ (t8 : Int), w.cell? ⟨b6, o7 + 1, none⟩ = some (.int .i64 t8) ∧ (∃ b9 o10, r1 = some ⟨b9, o10, none⟩ ∧ (∃ (t11a : Option Addr) (t11n : Nat) (t11c : Nat), w.cell? ⟨b9, o10, none⟩ = some (.slice t11a t11n t11c) ∧
      (∀ w2, Drew w w2 → PIf (decide ((t8 : Int) < ((t11n : Nat) : Int))) (R (.returned (.int .i64 5)) w2) ((∃ b12 o13, r1 = some ⟨b12, o13, none⟩ ∧ (∃ (t14 : Int), w2.cell? ⟨b12, o13 + 2, none⟩ = some (.int .i64 t14) ∧
      R (.returned (.int .i64 t14)) w2))))))))) ((∀ w2, Drew w w2 → (∃ b15 o16, r1 = some ⟨b15, o16, none⟩ ∧ (∃ (t17 : Int), w2.cell? ⟨b15, o16 + 2, none⟩ = some (.int .i64 t17) ∧
      R (.returned (.int .i64 t17)) w2))))))) :
    Calls Tryd.prog 47 #[.pointer r1] w R :=
  D_calls A_pack_Reader_Done mixed Tryd.func47 rfl (Nat.le_of_ble_eq_true (by kernel_rfl)) (by kernel_rfl) (Eq.mp (by kernel_rfl) h)
/-- quayside/quaysidekit.CopyEvent -/
abbrev F_kit_CopyEvent : Nat := 48
def A_kit_CopyEvent : Ann := ⟨[], [], [], [], []⟩
theorem L_kit_CopyEvent {e2 : Int} {e3 : Int} {e4 : Int} {e5a : Option Addr} {e5n : Nat} {e5c : Nat} {e6 : Int} {e7 : Int} {e8 : Int} {e9 : Int} {e10 : Int} {e11 : Int} {w : World} {R : Ending → World → Prop}
    (h : PA w (.cells #[.int .i64 e2, .int .i64 e3, .int .i64 e4, .slice e5a e5n e5c, .int .i64 e6, .int .i64 e7, .int .i64 e8, .int .i64 e9, .int .i64 e10, .int .i64 e11] 42) fun w12 =>
      PA w12 (.cells #[.int .i64 0, .int .i64 0, .int .i64 0, .slice none 0 0, .int .i64 0, .int .i64 0, .int .i64 0, .int .i64 0, .int .i64 0, .int .i64 0] 42) fun w13 =>
      (∃ (t14a : Option Addr) (t14n : Nat) (t14c : Nat), w13.cell? ⟨w.heap.size, 0 + 3, none⟩ = some (.slice t14a t14n t14c) ∧ PC Tryd.prog 80 #[.slice t14a t14n t14c] w13 (fun v15 w16 =>
      ∃ (t17a : Option Addr) (t17n : Nat) (t17c : Nat), v15 = .slice t17a t17n t17c ∧ PS w16 ⟨w.heap.size, 0 + 3, none⟩ (.slice t17a t17n t17c) fun w18 => (∃ (t19 : Int), ∃ (t20 : Int), ∃ (t21 : Int), ∃ (t22a : Option Addr) (t22n : Nat) (t22c : Nat), ∃ (t23 : Int), ∃ (t24 : Int), ∃ (t25 : Int), ∃ (t26 : Int), ∃ (t27 : Int), ∃ (t28 : Int), w18.cell? ⟨w.heap.size, 0, none⟩ = some (.int .i64 t19) ∧
      w18.cell? ⟨w.heap.size, 0 + 1, none⟩ = some (.int .i64 t20) ∧ w18.cell? ⟨w.heap.size, 0 + 2, none⟩ = some (.int .i64 t21) ∧ w18.cell? ⟨w.heap.size, 0 + 3, none⟩ = some (.slice t22a t22n t22c) ∧
      w18.cell? ⟨w.heap.size, 0 + 4, none⟩ = some (.int .i64 t23) ∧ w18.cell? ⟨w.heap.size, 0 + 5, none⟩ = some (.int .i64 t24) ∧ w18.cell? ⟨w.heap.size, 0 + 6, none⟩ = some (.int .i64 t25) ∧
      w18.cell? ⟨w.heap.size, 0 + 7, none⟩ = some (.int .i64 t26) ∧ w18.cell? ⟨w.heap.size, 0 + 8, none⟩ = some (.int .i64 t27) ∧ w18.cell? ⟨w.heap.size, 0 + 9, none⟩ = some (.int .i64 t28) ∧
      PS w18 ⟨w12.heap.size, 0, none⟩ (.int .i64 t19) fun w29 => PS w29 ⟨w12.heap.size, 0 + 1, none⟩ (.int .i64 t20) fun w30 => PS w30 ⟨w12.heap.size, 0 + 2, none⟩ (.int .i64 t21) fun w31 =>
      PS w31 ⟨w12.heap.size, 0 + 3, none⟩ (.slice t22a t22n t22c) fun w32 => PS w32 ⟨w12.heap.size, 0 + 4, none⟩ (.int .i64 t23) fun w33 => PS w33 ⟨w12.heap.size, 0 + 5, none⟩ (.int .i64 t24) fun w34 =>
      PS w34 ⟨w12.heap.size, 0 + 6, none⟩ (.int .i64 t25) fun w35 => PS w35 ⟨w12.heap.size, 0 + 7, none⟩ (.int .i64 t26) fun w36 => PS w36 ⟨w12.heap.size, 0 + 8, none⟩ (.int .i64 t27) fun w37 =>
      PS w37 ⟨w12.heap.size, 0 + 9, none⟩ (.int .i64 t28) fun w38 => (∃ (r39 : Int), ∃ (r40 : Int), ∃ (r41 : Int), ∃ (r42a : Option Addr) (r42n : Nat) (r42c : Nat), ∃ (r43 : Int), ∃ (r44 : Int), ∃ (r45 : Int), ∃ (r46 : Int), ∃ (r47 : Int), ∃ (r48 : Int), w38.cell? ⟨w12.heap.size, 0, none⟩ = some (.int .i64 r39) ∧
      w38.cell? ⟨w12.heap.size, 0 + 1, none⟩ = some (.int .i64 r40) ∧ w38.cell? ⟨w12.heap.size, 0 + 2, none⟩ = some (.int .i64 r41) ∧ w38.cell? ⟨w12.heap.size, 0 + 3, none⟩ = some (.slice r42a r42n r42c) ∧
      w38.cell? ⟨w12.heap.size, 0 + 4, none⟩ = some (.int .i64 r43) ∧ w38.cell? ⟨w12.heap.size, 0 + 5, none⟩ = some (.int .i64 r44) ∧ w38.cell? ⟨w12.heap.size, 0 + 6, none⟩ = some (.int .i64 r45) ∧
      w38.cell? ⟨w12.heap.size, 0 + 7, none⟩ = some (.int .i64 r46) ∧ w38.cell? ⟨w12.heap.size, 0 + 8, none⟩ = some (.int .i64 r47) ∧ w38.cell? ⟨w12.heap.size, 0 + 9, none⟩ = some (.int .i64 r48) ∧
      R (.returned (.agg #[.int .i64 r39, .int .i64 r40, .int .i64 r41, .slice r42a r42n r42c, .int .i64 r43, .int .i64 r44, .int .i64 r45, .int .i64 r46, .int .i64 r47, .int .i64 r48])) w38))) (fun ch w =>
      R (.panicked ch) w))) :
    Calls Tryd.prog 48 #[.agg #[.int .i64 e2, .int .i64 e3, .int .i64 e4, .slice e5a e5n e5c, .int .i64 e6, .int .i64 e7, .int .i64 e8, .int .i64 e9, .int .i64 e10, .int .i64 e11]] w R :=
  D_calls A_kit_CopyEvent mixed Tryd.func48 rfl (Nat.le_of_ble_eq_true (by kernel_rfl)) (by kernel_rfl) (Eq.mp (by kernel_rfl) h)
/-- quayside/manifest.Write$1 -/
abbrev F_manifest_Write_1 : Nat := 49
def A_manifest_Write_1 : Ann := ⟨[], [], [], [], []⟩
theorem LD_manifest_Write_1 {b1 : Nat} {o2 : Nat} {b3 : Nat} {o4 : Nat} {u : FrameMode} {w : World} {R : Ending → World → Prop}
    (h : (∃ (t5 : Int), w.cell? ⟨b1, o2, none⟩ = some (.int .i64 t5) ∧ PIf ((t5 : Int) != 0) ((∃ (t6 : Option Addr), w.cell? ⟨b3, o4, none⟩ = some (.pointer t6) ∧
      PC Tryd.prog 50 #[.pointer t6] w (fun v7 w8 => ∃ (t9 : Int), v7 = .int .i64 t9 ∧ R (.returned (.tuple #[])) w8) (fun ch w => R (.panicked ch) w))) (R (.returned (.tuple #[])) w))) :
    CallsD Tryd.prog 49 #[.pointer (some ⟨b1, o2, none⟩), .pointer (some ⟨b3, o4, none⟩)] u w fun e u' w' => u' = u ∧ R e w' :=
  D_callsD A_manifest_Write_1 mixed Tryd.func49 rfl (Nat.le_of_ble_eq_true (by kernel_rfl)) (by kernel_rfl) (Eq.mp (by kernel_rfl) h)
/-- quayside/manifest.clean -/
abbrev F_manifest_clean : Nat := 50
def A_manifest_clean : Ann := ⟨[], [], [], [], []⟩
theorem L_manifest_clean {d1 : Option Addr} {w : World} {R : Ending → World → Prop}
    (h : PC Tryd.prog 27 #[.pointer d1] w (fun v2 w3 => ∃ (t4a : Option Addr) (t4n : Nat) (t4c : Nat), v2 = .slice t4a t4n t4c ∧ PC Tryd.prog 81 #[.slice t4a t4n t4c, .string (⟨#[109, 97, 110, 105, 102, 101, 115, 116, 46, 116, 109, 112]⟩ : ByteArray)] w3 (fun v5 w6 =>
      ∃ (t7 : Bool), v5 = .bool t7 ∧ PIf t7 (PC Tryd.prog 82 #[.pointer d1, .string (⟨#[109, 97, 110, 105, 102, 101, 115, 116, 46, 116, 109, 112]⟩ : ByteArray)] w6 (fun v8 w9 =>
      ∃ (t10 : Int), v8 = .int .i64 t10 ∧ R (.returned (.int .i64 t10)) w9) (fun ch w => R (.panicked ch) w)) (R (.returned (.int .i64 0)) w6)) (fun ch w =>
      R (.panicked ch) w)) (fun ch w => R (.panicked ch) w)) :
    Calls Tryd.prog 50 #[.pointer d1] w R :=
  D_calls A_manifest_clean mixed Tryd.func50 rfl (Nat.le_of_ble_eq_true (by kernel_rfl)) (by kernel_rfl) (Eq.mp (by kernel_rfl) h)
/-- quayside/manifest.Write$2 -/
abbrev F_manifest_Write_2 : Nat := 51
def A_manifest_Write_2 : Ann := ⟨[], [], [], [], []⟩
theorem L_manifest_Write_2 {b1 : Nat} {o2 : Nat} {w : World} {R : Ending → World → Prop}
    (h : (∃ (t3 : Option Addr), w.cell? ⟨b1, o2, none⟩ = some (.pointer t3) ∧ PC Tryd.prog 50 #[.pointer t3] w (fun v4 w5 => ∃ (t6 : Int), v4 = .int .i64 t6 ∧ R (.returned (.int .i64 t6)) w5) (fun ch w =>
      R (.panicked ch) w))) :
    Calls Tryd.prog 51 #[.pointer (some ⟨b1, o2, none⟩)] w R :=
  D_calls A_manifest_Write_2 mixed Tryd.func51 rfl (Nat.le_of_ble_eq_true (by kernel_rfl)) (by kernel_rfl) (Eq.mp (by kernel_rfl) h)
/-- quayside/manifest.Write$3 -/
abbrev F_manifest_Write_3 : Nat := 52
def A_manifest_Write_3 : Ann := ⟨[], [], [], [], []⟩
theorem L_manifest_Write_3 {b1 : Nat} {o2 : Nat} {w : World} {R : Ending → World → Prop}
    (h : (∃ (t3 : Option Addr), w.cell? ⟨b1, o2, none⟩ = some (.pointer t3) ∧ PC Tryd.prog 16 #[.pointer t3, .string (⟨#[109, 97, 110, 105, 102, 101, 115, 116, 46, 116, 109, 112]⟩ : ByteArray)] w (fun v4 w5 =>
      ∃ (t6 : Int), v4 = .int .i64 t6 ∧ R (.returned (.int .i64 t6)) w5) (fun ch w => R (.panicked ch) w))) :
    Calls Tryd.prog 52 #[.pointer (some ⟨b1, o2, none⟩)] w R :=
  D_calls A_manifest_Write_3 mixed Tryd.func52 rfl (Nat.le_of_ble_eq_true (by kernel_rfl)) (by kernel_rfl) (Eq.mp (by kernel_rfl) h)
/-- quayside/manifest.Write$4 -/
abbrev F_manifest_Write_4 : Nat := 53
def A_manifest_Write_4 : Ann := ⟨[], [], [1], [], []⟩
theorem L_manifest_Write_4 {b1 : Nat} {o2 : Nat} {b3 : Nat} {o4 : Nat} {w : World} {R : Ending → World → Prop}
    (h : (∀ w6, Drew w w6 → ∃ S7 : Nat → Prop, (¬ S7 b1 ∧ (∃ (t8 : Option Addr), w6.cell? ⟨b1, o2, none⟩ = some (.pointer t8) ∧ (∃ (t9a : Option Addr) (t9n : Nat) (t9c : Nat), w6.cell? ⟨b3, o4, none⟩ = some (.slice t9a t9n t9c) ∧
      PC Tryd.prog 54 #[.agg #[.slice t9a t9n t9c]] w6 (fun v10 w11 => ∃ (t12a : Option Addr) (t12n : Nat) (t12c : Nat), v10 = .slice t12a t12n t12c ∧ (Keep S7 w6 w11 ∧
      PC Tryd.prog 18 #[.pointer t8, .string (⟨#[109, 97, 110, 105, 102, 101, 115, 116, 46, 116, 109, 112]⟩ : ByteArray), .slice t12a t12n t12c] w11 (fun v13 w14 =>
      ∃ (t15 : Int), v13 = .int .i64 t15 ∧ (Keep S7 w11 w14 ∧ R (.returned (.int .i64 t15)) w14)) (fun ch wpp => ∀ (_ : Base) (_ : Bnd), R (.panicked ch) wpp))) (fun ch wpp =>
      ∀ (_ : Base) (_ : Bnd), R (.panicked ch) wpp)))))) :
    Calls Tryd.prog 53 #[.pointer (some ⟨b1, o2, none⟩), .pointer (some ⟨b3, o4, none⟩)] w R :=
  D_calls A_manifest_Write_4 mixed Tryd.func53 rfl (Nat.le_of_ble_eq_true (by kernel_rfl)) (by kernel_rfl) (Eq.mp (by kernel_rfl) h)
/-- quayside/manifest.bytes -/
abbrev F_manifest_bytes : Nat := 54
def A_manifest_bytes : Ann := ⟨[(3, [(3, .slice none 0 0), (15, .int .i64 0)])], [], [], [], []⟩
theorem L_manifest_bytes {m2a : Option Addr} {m2n : Nat} {m2c : Nat} {w : World} {R : Ending → World → Prop}
    (h : PA w (.cells #[.slice m2a m2n m2c] 59) fun w3 => (∃ (t4a : Option Addr) (t4n : Nat) (t4c : Nat), w3.cell? ⟨w.heap.size, 0, none⟩ = some (.slice t4a t4n t4c) ∧
      PC Tryd.prog 69 #[.slice none 0 0, .int .i64 ((t4n : Nat) : Int)] w3 (fun v5 w6 => ∃ (t7a : Option Addr) (t7n : Nat) (t7c : Nat), v5 = .slice t7a t7n t7c ∧
      (∃ (t8a : Option Addr) (t8n : Nat) (t8c : Nat), w6.cell? ⟨w.heap.size, 0, none⟩ = some (.slice t8a t8n t8c) ∧ (∃ I9 : Nat → Option Addr → Nat → Nat → Int → World → Prop, (∃ m10, I9 m10 t7a t7n t7c 0 w6) ∧
      ∀ (m10 : Nat) (b12a : Option Addr) (b12n : Nat) (b12c : Nat) (t13 : Int) (B14 : Nat → Value) (w15 : World), I9 m10 b12a b12n b12c t13 w15 → PIf (decide ((t13 : Int) < ((t8n : Nat) : Int))) ((∃ b16 o17, t8a = some ⟨b16, o17, none⟩ ∧
      (0 : Int) ≤ t13 ∧ t13 < ((t8n : Nat) : Int) ∧ (∃ (t18 : Int), w15.cell? ⟨b16, o17 + Int.toNat t13, none⟩ = some (.int .i64 t18) ∧ PC Tryd.prog 69 #[.slice b12a b12n b12c, .int .i64 t18] w15 (fun v19 w20 =>
      ∃ (t21a : Option Addr) (t21n : Nat) (t21c : Nat), v19 = .slice t21a t21n t21c ∧ (∃ m11, m11 < m10 ∧ I9 m11 t21a t21n t21c (IntKind.wrap .i64 (t13 + 1)) w20)) (fun ch w =>
      R (.panicked ch) w)))) (PC Tryd.prog 21 #[.agg #[.int .i64 2, .slice b12a b12n b12c]] w15 (fun v22 w23 => ∃ (t24a : Option Addr) (t24n : Nat) (t24c : Nat), ∃ (t25 : Int), v22 = .tuple #[.slice t24a t24n t24c, .int .i64 t25] ∧
      R (.returned (.slice t24a t24n t24c)) w23) (fun ch w => R (.panicked ch) w))))) (fun ch w => R (.panicked ch) w))) :
    Calls Tryd.prog 54 #[.agg #[.slice m2a m2n m2c]] w R :=
  D_calls A_manifest_bytes mixed Tryd.func54 rfl (Nat.le_of_ble_eq_true (by kernel_rfl)) (by kernel_rfl) (Eq.mp (by kernel_rfl) h)
/-- quayside/manifest.Write$5 -/
abbrev F_manifest_Write_5 : Nat := 55
def A_manifest_Write_5 : Ann := ⟨[], [], [], [], []⟩
theorem L_manifest_Write_5 {b1 : Nat} {o2 : Nat} {w : World} {R : Ending → World → Prop}
    (h : (∃ (t3 : Option Addr), w.cell? ⟨b1, o2, none⟩ = some (.pointer t3) ∧ PC Tryd.prog 56 #[.pointer t3, .string (⟨#[109, 97, 110, 105, 102, 101, 115, 116, 46, 116, 109, 112]⟩ : ByteArray)] w (fun v4 w5 =>
      ∃ (t6 : Int), v4 = .int .i64 t6 ∧ R (.returned (.int .i64 t6)) w5) (fun ch w => R (.panicked ch) w))) :
    Calls Tryd.prog 55 #[.pointer (some ⟨b1, o2, none⟩)] w R :=
  D_calls A_manifest_Write_5 mixed Tryd.func55 rfl (Nat.le_of_ble_eq_true (by kernel_rfl)) (by kernel_rfl) (Eq.mp (by kernel_rfl) h)
/-- (*quayside/vdisk.Disk).Sync -/
abbrev F_vdisk_Disk_Sync : Nat := 56
def A_vdisk_Disk_Sync : Ann := ⟨[], [], [], [], []⟩
theorem L_vdisk_Disk_Sync {d1 : Option Addr} {name2 : ByteArray} {w : World} {R : Ending → World → Prop}
    (h : PC Tryd.prog 36 #[.pointer d1, .string name2, .func (.func 83) #[] #[]] w (fun v3 w4 => ∃ (t5 : Int), v3 = .int .i64 t5 ∧ R (.returned (.int .i64 t5)) w4) (fun ch w =>
      R (.panicked ch) w)) :
    Calls Tryd.prog 56 #[.pointer d1, .string name2] w R :=
  D_calls A_vdisk_Disk_Sync mixed Tryd.func56 rfl (Nat.le_of_ble_eq_true (by kernel_rfl)) (by kernel_rfl) (Eq.mp (by kernel_rfl) h)
/-- quayside/manifest.Write$6 -/
abbrev F_manifest_Write_6 : Nat := 57
def A_manifest_Write_6 : Ann := ⟨[], [], [], [], []⟩
theorem L_manifest_Write_6 {b1 : Nat} {o2 : Nat} {w : World} {R : Ending → World → Prop}
    (h : (∃ (t3 : Option Addr), w.cell? ⟨b1, o2, none⟩ = some (.pointer t3) ∧ PC Tryd.prog 58 #[.pointer t3, .string (⟨#[109, 97, 110, 105, 102, 101, 115, 116, 46, 116, 109, 112]⟩ : ByteArray), .string (⟨#[109, 97, 110, 105, 102, 101, 115, 116]⟩ : ByteArray)] w (fun v4 w5 =>
      ∃ (t6 : Int), v4 = .int .i64 t6 ∧ R (.returned (.int .i64 t6)) w5) (fun ch w => R (.panicked ch) w))) :
    Calls Tryd.prog 57 #[.pointer (some ⟨b1, o2, none⟩)] w R :=
  D_calls A_manifest_Write_6 mixed Tryd.func57 rfl (Nat.le_of_ble_eq_true (by kernel_rfl)) (by kernel_rfl) (Eq.mp (by kernel_rfl) h)
/-- (*quayside/vdisk.Disk).Rename -/
abbrev F_vdisk_Disk_Rename : Nat := 58
def A_vdisk_Disk_Rename : Ann := ⟨[], [], [], [], []⟩
theorem L_vdisk_Disk_Rename {d1 : Option Addr} {from2 : ByteArray} {to3 : ByteArray} {w : World} {R : Ending → World → Prop}
    (h : PA w (.cells #[.pointer d1] 30) fun w4 => PA w4 (.cells #[.string from2] 9) fun w5 => PA w5 (.cells #[.string to3] 9) fun w6 => (∃ (t7 : Option Addr), w6.cell? ⟨w.heap.size, 0, none⟩ = some (.pointer t7) ∧
      (∃ (t8 : ByteArray), w6.cell? ⟨w4.heap.size, 0, none⟩ = some (.string t8) ∧ PC Tryd.prog 36 #[.pointer t7, .string t8, .func (.func 85) #[] #[.pointer (some ⟨w5.heap.size, 0, none⟩), .pointer (some ⟨w.heap.size, 0, none⟩), .pointer (some ⟨w4.heap.size, 0, none⟩)]] w6 (fun v9 w10 =>
      ∃ (t11 : Int), v9 = .int .i64 t11 ∧ R (.returned (.int .i64 t11)) w10) (fun ch w => R (.panicked ch) w)))) :
    Calls Tryd.prog 58 #[.pointer d1, .string from2, .string to3] w R :=
  D_calls A_vdisk_Disk_Rename mixed Tryd.func58 rfl (Nat.le_of_ble_eq_true (by kernel_rfl)) (by kernel_rfl) (Eq.mp (by kernel_rfl) h)
/-- maps.Keys[map[string]*quayside/vdisk.file,string,*quayside/vdisk.file] -/
abbrev F_maps_Keys_map_string_vdisk_file_string_vdisk_file : Nat := 60
def A_maps_Keys_map_string_vdisk_file_string_vdisk_file : Ann := ⟨[], [], [], [], []⟩
theorem L_maps_Keys_map_string_vdisk_file_string_vdisk_file {m1 : Option Nat} {w : World} {R : Ending → World → Prop}
    (h : PA w (.cells #[.map m1] 69) fun w2 => R (.returned (.func (.func 88) #[] #[.pointer (some ⟨w.heap.size, 0, none⟩)])) w2) :
    Calls Tryd.prog 60 #[.map m1] w R :=
  D_calls A_maps_Keys_map_string_vdisk_file_string_vdisk_file mixed Tryd.func60 rfl (Nat.le_of_ble_eq_true (by kernel_rfl)) (by kernel_rfl) (Eq.mp (by kernel_rfl) h)
/-- (*quayside/vdisk.Disk).Fuse -/
abbrev F_vdisk_Disk_Fuse : Nat := 61
def A_vdisk_Disk_Fuse : Ann := ⟨[], [], [], [], []⟩
theorem L_vdisk_Disk_Fuse {d1 : Option Addr} {n2 : Int} {w : World} {R : Ending → World → Prop}
    (h : (∃ b3 o4, d1 = some ⟨b3, o4, none⟩ ∧ PS w ⟨b3, o4 + 2, none⟩ (.bool true) fun w5 => (∃ b6 o7, d1 = some ⟨b6, o7, none⟩ ∧ PS w5 ⟨b6, o7 + 3, none⟩ (.int .i64 (if n2 > 0 then n2 else 0)) fun w8 =>
      R (.returned (.tuple #[])) w8))) :
    Calls Tryd.prog 61 #[.pointer d1, .int .i64 n2] w R :=
  D_calls A_vdisk_Disk_Fuse mixed Tryd.func61 rfl (Nat.le_of_ble_eq_true (by kernel_rfl)) (by kernel_rfl) (Eq.mp (by kernel_rfl) h)
/-- (*quayside/vdisk.Disk).Crash -/
abbrev F_vdisk_Disk_Crash : Nat := 62
def A_vdisk_Disk_Crash : Ann := ⟨[(2, [])], [], [], [], [(4, ⟨[0, 0, 2, 4, 8, 0, 0, 64, 128, 256, 512, 0, 2048, 4096, 8192, 17408, 32800, 65536, 131088, 262145], [1048575, 1048575, 1048573, 1048571, 1048567, 1048575, 1048575, 1048511, 1048447, 1048319, 1048063, 1048575, 1046527, 1044479, 1040383, 1031167, 1015775, 983039, 917487, 786430], [0, 0, 0, 0, 1, 0, 0, 0, 0, 1, 0, 0, 0, 0, 1, 0, 0, 0, 0, 2]⟩)]⟩
theorem L_vdisk_Disk_Crash {d1 : Option Addr} {keep2 : Int} {w : World} {R : Ending → World → Prop}
    (h : (∃ b3 o4, d1 = some ⟨b3, o4, none⟩ ∧ (∃ (t5 : Option Nat), w.cell? ⟨b3, o4 + 1, none⟩ = some (.map t5) ∧ PC Tryd.prog 89 #[.map t5, .func (.func 90) #[] #[]] w (fun v6 w7 =>
      v6 = .tuple #[] ∧ (∃ b8 o9, d1 = some ⟨b8, o9, none⟩ ∧ (∃ (t10 : Option Nat), w7.cell? ⟨b8, o9 + 1, none⟩ = some (.map t10) ∧ PRun Tryd.prog (Instr.range 69 (.map t10)) w7 (fun v11 w12 =>
      (∃ I13 : Nat → World → Prop, (∃ m14, I13 m14  w12) ∧ ∀ (m14 : Nat)  (B16 : Nat → Value) (w17 : World), I13 m14  w17 → PRun Tryd.prog (Instr.next v11 false 0) w17 (fun v18 w19 =>
      (v18 = .tuple #[.bool false] ∧ (∃ b20 o21, d1 = some ⟨b20, o21, none⟩ ∧ PS w19 ⟨b20, o21 + 2, none⟩ (.bool false) fun w22 => (∃ b23 o24, d1 = some ⟨b23, o24, none⟩ ∧
      PS w22 ⟨b23, o24 + 4, none⟩ (.bool false) fun w25 => R (.returned (.tuple #[])) w25))) ∨ (∃ k26 x27, v18 = .tuple #[.bool true, k26, x27] ∧ PRun Tryd.prog (Instr.entry v11) w19 (fun v28 w29 =>
      ∃ (k30 : Value), ∃ (x31 : Option Addr), v28 = .tuple #[k30, .pointer x31] ∧ (∀ w33, Drew w29 w33 → (∃ b34 o35, x31 = some ⟨b34, o35, none⟩ ∧ (∃ (t36 : Int), w33.cell? ⟨b34, o35 + 1, none⟩ = some (.int .i64 t36) ∧
      (∃ b37 o38, x31 = some ⟨b37, o38, none⟩ ∧ (∃ (t39a : Option Addr) (t39n : Nat) (t39c : Nat), w33.cell? ⟨b37, o38, none⟩ = some (.slice t39a t39n t39c) ∧
      (∃ b40 o41, x31 = some ⟨b40, o41, none⟩ ∧ (∃ (t42 : Int), w33.cell? ⟨b40, o41 + 1, none⟩ = some (.int .i64 t42) ∧ PC Tryd.prog 84 #[.pointer x31, .int .i64 (IntKind.wrap .i64 (t36 + (if (if (IntKind.wrap .i64 (((t39n : Nat) : Int) - t42)) < keep2 then (IntKind.wrap .i64 (((t39n : Nat) : Int) - t42)) else keep2) > 0 then (if (IntKind.wrap .i64 (((t39n : Nat) : Int) - t42)) < keep2 then (IntKind.wrap .i64 (((t39n : Nat) : Int) - t42)) else keep2) else 0)))] w33 (fun v43 w44 =>
      v43 = .tuple #[] ∧ (∃ m15, m15 < m14 ∧ I13 m15  w44)) (fun ch wpp => ∀ (_ : Base) (_ : Bnd), R (.panicked ch) wpp))))))))) (fun pv w => R (.panicked [{ v := pv, recovered := false }]) w))) (fun pv w =>
      R (.panicked [{ v := pv, recovered := false }]) w))) (fun pv w => R (.panicked [{ v := pv, recovered := false }]) w)))) (fun ch w => R (.panicked ch) w)))) :
    Calls Tryd.prog 62 #[.pointer d1, .int .i64 keep2] w R :=
  D_calls A_vdisk_Disk_Crash mixed Tryd.func62 rfl (Nat.le_of_ble_eq_true (by kernel_rfl)) (by kernel_rfl) (Eq.mp (by kernel_rfl) h)
/-- internal/stringslite.CutPrefix -/
abbrev F_internal_stringslite_CutPrefix : Nat := 63
def A_internal_stringslite_CutPrefix : Ann := ⟨[], [], [], [], []⟩
theorem L_internal_stringslite_CutPrefix {s1 : ByteArray} {prefix2 : ByteArray} {w : World} {R : Ending → World → Prop}
    (h : PC Tryd.prog 91 #[.string s1, .string prefix2] w (fun v3 w4 => ∃ (t5 : Bool), v3 = .bool t5 ∧ PIf (!t5) (R (.returned (.tuple #[.string s1, .bool false])) w4) (((0 : Int) ≤ ((ByteArray.size prefix2 : Nat) : Int) ∧
      (((ByteArray.size prefix2 : Nat) : Int) : Int) ≤ ((ByteArray.size s1 : Nat) : Int) ∧ R (.returned (.tuple #[.string (ByteArray.extract s1 (Int.toNat ((ByteArray.size prefix2 : Nat) : Int)) (ByteArray.size s1)), .bool true])) w4))) (fun ch w =>
      R (.panicked ch) w)) :
    Calls Tryd.prog 63 #[.string s1, .string prefix2] w R :=
  D_calls A_internal_stringslite_CutPrefix mixed Tryd.func63 rfl (Nat.le_of_ble_eq_true (by kernel_rfl)) (by kernel_rfl) (Eq.mp (by kernel_rfl) h)
/-- quayside/vdisk.isName$1 -/
abbrev F_vdisk_isName_1 : Nat := 65
def A_vdisk_isName_1 : Ann := ⟨[], [], [], [], []⟩
theorem L_vdisk_isName_1 {r1 : Int} {w : World} {R : Ending → World → Prop}
    (h : PC Tryd.prog 66 #[.string (⟨#[97, 98, 99, 100, 101, 102, 103, 104, 105, 106, 107, 108, 109, 110, 111, 112, 113, 114, 115, 116, 117, 118, 119, 120, 121, 122, 48, 49, 50, 51, 52, 53, 54, 55, 56, 57, 46]⟩ : ByteArray), .int .i32 r1] w (fun v2 w3 =>
      ∃ (t4 : Bool), v2 = .bool t4 ∧ R (.returned (.bool (!t4))) w3) (fun ch w => R (.panicked ch) w)) :
    Calls Tryd.prog 65 #[.int .i32 r1] w R :=
  D_calls A_vdisk_isName_1 mixed Tryd.func65 rfl (Nat.le_of_ble_eq_true (by kernel_rfl)) (by kernel_rfl) (Eq.mp (by kernel_rfl) h)
/-- strings.ContainsRune -/
abbrev F_strings_ContainsRune : Nat := 66
def A_strings_ContainsRune : Ann := ⟨[], [], [], [], []⟩
theorem L_strings_ContainsRune {s1 : ByteArray} {r2 : Int} {w : World} {R : Ending → World → Prop}
    (h : PC Tryd.prog 93 #[.string s1, .int .i32 r2] w (fun v3 w4 => ∃ (t5 : Int), v3 = .int .i64 t5 ∧ R (.returned (.bool (decide ((t5 : Int) ≥ 0)))) w4) (fun ch w =>
      R (.panicked ch) w)) :
    Calls Tryd.prog 66 #[.string s1, .int .i32 r2] w R :=
  D_calls A_strings_ContainsRune mixed Tryd.func66 rfl (Nat.le_of_ble_eq_true (by kernel_rfl)) (by kernel_rfl) (Eq.mp (by kernel_rfl) h)
/-- strings.ContainsFunc -/
abbrev F_strings_ContainsFunc : Nat := 67
def A_strings_ContainsFunc : Ann := ⟨[], [], [], [], []⟩
theorem L_strings_ContainsFunc {s1 : ByteArray} {f2g : FuncId} {f2i : Array Value} {f2c : Array Value} {w : World} {R : Ending → World → Prop}
    (h : PC Tryd.prog 94 #[.string s1, .func (.func f2g) f2i f2c] w (fun v3 w4 => ∃ (t5 : Int), v3 = .int .i64 t5 ∧ R (.returned (.bool (decide ((t5 : Int) ≥ 0)))) w4) (fun ch w =>
      R (.panicked ch) w)) :
    Calls Tryd.prog 67 #[.string s1, .func (.func f2g) f2i f2c] w R :=
  D_calls A_strings_ContainsFunc mixed Tryd.func67 rfl (Nat.le_of_ble_eq_true (by kernel_rfl)) (by kernel_rfl) (Eq.mp (by kernel_rfl) h)
/-- quayside/event.Put$1 -/
abbrev F_event_Put_1 : Nat := 68
def A_event_Put_1 : Ann := ⟨[(1, [(7, .int .i64 0)])], [], [], [], []⟩
theorem L_event_Put_1 {l1a : Option Addr} {l1n : Nat} {l1c : Nat} {b2 : Nat} {o3 : Nat} {w : World} {R : Ending → World → Prop}
    (h : (∃ I4 : Nat → Int → World → Prop, (∃ m5, I4 m5 0 w) ∧ ∀ (m5 : Nat) (t7 : Int) (B8 : Nat → Value) (w9 : World), I4 m5 t7 w9 → PIf (decide ((t7 : Int) < ((l1n : Nat) : Int))) ((∃ b10 o11, l1a = some ⟨b10, o11, none⟩ ∧
      (0 : Int) ≤ t7 ∧ t7 < ((l1n : Nat) : Int) ∧ (∃ (t12 : Int), w9.cell? ⟨b10, o11 + Int.toNat t7, none⟩ = some (.int .i64 t12) ∧ (∃ (t13a : Option Addr) (t13n : Nat) (t13c : Nat), w9.cell? ⟨b2, o3, none⟩ = some (.slice t13a t13n t13c) ∧
      PC Tryd.prog 69 #[.slice t13a t13n t13c, .int .i64 t12] w9 (fun v14 w15 => ∃ (t16a : Option Addr) (t16n : Nat) (t16c : Nat), v14 = .slice t16a t16n t16c ∧
      PS w15 ⟨b2, o3, none⟩ (.slice t16a t16n t16c) fun w17 => (∃ m6, m6 < m5 ∧ I4 m6 (IntKind.wrap .i64 (t7 + 1)) w17)) (fun ch w => R (.panicked ch) w))))) (R (.returned (.tuple #[])) w9))) :
    Calls Tryd.prog 68 #[.slice l1a l1n l1c, .pointer (some ⟨b2, o3, none⟩)] w R :=
  D_calls A_event_Put_1 mixed Tryd.func68 rfl (Nat.le_of_ble_eq_true (by kernel_rfl)) (by kernel_rfl) (Eq.mp (by kernel_rfl) h)
/-- quayside/pack.Int -/
abbrev F_pack_Int : Nat := 69
def A_pack_Int : Ann := ⟨[(7, [(8, .slice none 0 0), (9, .int .i64 0)])], [], [], [], []⟩
theorem L_pack_Int {b1a : Option Addr} {b1n : Nat} {b1c : Nat} {n2 : Int} {w : World} {R : Ending → World → Prop}
    (h : PC Tryd.prog 95 #[.int .i64 n2] w (fun v3 w4 => ∃ (t5 : Int), ∃ (t6 : Int), v3 = .tuple #[.int .u64 t5, .int .u8 t6] ∧ PC Tryd.prog 96 #[.int .u64 t5] w4 (fun v7 w8 =>
      ∃ (t9 : Int), v7 = .int .i64 t9 ∧ PRun Tryd.prog (Instr.makeSlice 35 (.int .i64 ((b1n : Nat) : Int)) (.int .i64 (IntKind.wrap .i64 ((IntKind.wrap .i64 (((b1n : Nat) : Int) + 1)) + (IntKind.wrap .i64 (Int.tdiv (IntKind.wrap .i64 (t9 + 7)) 8)))))) w8 (fun v10 w11 =>
      ∃ (t12a : Option Addr) (t12n : Nat) (t12c : Nat), v10 = .slice t12a t12n t12c ∧ PRun Tryd.prog (Builtin.copy_ #[35, 35] 3 #[.slice t12a t12n t12c, .slice b1a b1n b1c]) w11 (fun v13 w14 =>
      ∃ (t15 : Int), v13 = .int .i64 t15 ∧ PA w14 (.cells #[.int .u8 (iOr .u8 t6 (IntKind.wrap .u8 (IntKind.wrap .i64 (Int.tdiv (IntKind.wrap .i64 (t9 + 7)) 8))))] 5) fun w16 =>
      PRun Tryd.prog (Builtin.append_ #[35, 35] 35 #[.slice t12a t12n t12c, .slice (some ⟨w14.heap.size, 0, none⟩) 1 1]) w16 (fun v17 w18 => ∃ (t19a : Option Addr) (t19n : Nat) (t19c : Nat), v17 = .slice t19a t19n t19c ∧
      (∃ I20 : Nat → Option Addr → Nat → Nat → Int → World → Prop, (∃ m21, I20 m21 t19a t19n t19c (IntKind.wrap .i64 ((IntKind.wrap .i64 (Int.tdiv (IntKind.wrap .i64 (t9 + 7)) 8)) - 1)) w18) ∧
      ∀ (m21 : Nat) (out23a : Option Addr) (out23n : Nat) (out23c : Nat) (i24 : Int) (B25 : Nat → Value) (w26 : World), I20 m21 out23a out23n out23c i24 w26 → PIf (decide ((i24 : Int) ≥ 0)) (PRun Tryd.prog (do eqGuard .shr 126 (.tmp 44) (.tmp 46) (.int .u64 t5) (.int .i64 (IntKind.wrap .i64 (8 * i24))); binOp .shr 126 (.int .u64 t5) (.int .i64 (IntKind.wrap .i64 (8 * i24)))) w26 (fun v27 w28 =>
      ∃ (t29 : Int), v27 = .int .u64 t29 ∧ PA w28 (.cells #[.int .u8 (IntKind.wrap .u8 t29)] 5) fun w30 => PRun Tryd.prog (Builtin.append_ #[35, 35] 35 #[.slice out23a out23n out23c, .slice (some ⟨w28.heap.size, 0, none⟩) 1 1]) w30 (fun v31 w32 =>
      ∃ (t33a : Option Addr) (t33n : Nat) (t33c : Nat), v31 = .slice t33a t33n t33c ∧ (∃ m22, m22 < m21 ∧ I20 m22 t33a t33n t33c (IntKind.wrap .i64 (i24 - 1)) w32)) (fun pv w =>
      R (.panicked [{ v := pv, recovered := false }]) w)) (fun pv w => R (.panicked [{ v := pv, recovered := false }]) w)) (R (.returned (.slice out23a out23n out23c)) w26))) (fun pv w =>
      R (.panicked [{ v := pv, recovered := false }]) w)) (fun pv w => R (.panicked [{ v := pv, recovered := false }]) w)) (fun pv w => R (.panicked [{ v := pv, recovered := false }]) w)) (fun ch w =>
      R (.panicked ch) w)) (fun ch w => R (.panicked ch) w)) :
    Calls Tryd.prog 69 #[.slice b1a b1n b1c, .int .i64 n2] w R :=
  D_calls A_pack_Int mixed Tryd.func69 rfl (Nat.le_of_ble_eq_true (by kernel_rfl)) (by kernel_rfl) (Eq.mp (by kernel_rfl) h)
/-- (*quayside/vdisk.Disk).on$1 -/
abbrev F_vdisk_Disk_on_1 : Nat := 70
def A_vdisk_Disk_on_1 : Ann := ⟨[], [], [], [], []⟩
theorem L_vdisk_Disk_on_1 {b1 : Nat} {o2 : Nat} {b3 : Nat} {o4 : Nat} {b5 : Nat} {o6 : Nat} {w : World} {R : Ending → World → Prop}
    (h : (∃ (t8 : Option Addr), w.cell? ⟨b1, o2, none⟩ = some (.pointer t8) ∧ (∃ b9 o10, t8 = some ⟨b9, o10, none⟩ ∧ (∃ (t11 : Option Nat), w.cell? ⟨b9, o10 + 1, none⟩ = some (.map t11) ∧
      (∃ (t12 : ByteArray), w.cell? ⟨b3, o4, none⟩ = some (.string t12) ∧ (∃ (t13 : Option Addr), (∀ m, (Instr.lookup 69 (.map t11) (.string t12) false).run Tryd.prog (w.drewN m) = .ok (.pointer t13) (w.drewN m)) ∧
      (∀ w7, Drew w w7 → PRun Tryd.prog (do eqGuard .neq 74 (.tmp 11) (.const (.pointer none)) (.pointer t13) (.pointer none); binOp .neq 74 (.pointer t13) (.pointer none)) w7 (fun v14 w15 =>
      ∃ (t16 : Bool), v14 = .bool t16 ∧ PIf t16 ((∃ (t17 : Value), w15.cell? ⟨b5, o6, none⟩ = some t17 ∧ (∃ g20 fi21 ca22, (t17 : Value) = .func (.func g20) fi21 ca22 ∧
      enters Tryd.prog g20 = true ∧ PC Tryd.prog g20 (fi21 ++ #[.pointer t13] ++ ca22) w15 (fun v18 w19 => ∃ (t23 : Int), v18 = .int .i64 t23 ∧ R (.returned (.int .i64 t23)) w19) (fun ch w =>
      R (.panicked ch) w)))) (R (.returned (.int .i64 14)) w15)) (fun pv w => R (.panicked [{ v := pv, recovered := false }]) w)))))))) :
    Calls Tryd.prog 70 #[.pointer (some ⟨b1, o2, none⟩), .pointer (some ⟨b3, o4, none⟩), .pointer (some ⟨b5, o6, none⟩)] w R :=
  D_calls A_vdisk_Disk_on_1 mixed Tryd.func70 rfl (Nat.le_of_ble_eq_true (by kernel_rfl)) (by kernel_rfl) (Eq.mp (by kernel_rfl) h)
/-- slices.Clone[[]byte,byte] -/
abbrev F_slices_Clone_byte_byte : Nat := 71
def A_slices_Clone_byte_byte : Ann := ⟨[], [], [], [], []⟩
theorem L_slices_Clone_byte_byte {s1a : Option Addr} {s1n : Nat} {s1c : Nat} {w : World} {R : Ending → World → Prop}
    (h : PRun Tryd.prog (do eqGuard .eql 35 (.tmp 3) (.const (.slice none 0 0)) (.slice s1a s1n s1c) (.slice none 0 0); binOp .eql 35 (.slice s1a s1n s1c) (.slice none 0 0)) w (fun v2 w3 =>
      ∃ (t4 : Bool), v2 = .bool t4 ∧ PIf t4 (R (.returned (.slice none 0 0)) w3) (PA w3 (.cells #[] 5) fun w5 => PRun Tryd.prog (Builtin.append_ #[35, 35] 35 #[.slice (some ⟨w3.heap.size, 0, none⟩) 0 0, .slice s1a s1n s1c]) w5 (fun v6 w7 =>
      ∃ (t8a : Option Addr) (t8n : Nat) (t8c : Nat), v6 = .slice t8a t8n t8c ∧ R (.returned (.slice t8a t8n t8c)) w7) (fun pv w => R (.panicked [{ v := pv, recovered := false }]) w))) (fun pv w =>
      R (.panicked [{ v := pv, recovered := false }]) w)) :
    Calls Tryd.prog 71 #[.slice s1a s1n s1c] w R :=
  D_calls A_slices_Clone_byte_byte mixed Tryd.func71 rfl (Nat.le_of_ble_eq_true (by kernel_rfl)) (by kernel_rfl) (Eq.mp (by kernel_rfl) h)
/-- quayside/frame.wrong -/
abbrev F_frame_wrong : Nat := 72
def A_frame_wrong : Ann := ⟨[], [], [], [], [(11, ⟨[0, 1, 0, 4, 10, 18, 48, 64, 192, 320, 576, 1088], [4095, 4094, 4095, 4091, 4087, 4077, 4063, 4031, 3903, 3775, 3519, 3007], [0, 2, 0, 0, 2, 0, 0, 0, 0, 1, 0, 0]⟩)]⟩
theorem L_frame_wrong {b1a : Option Addr} {b1n : Nat} {b1c : Nat} {w : World} {R : Ending → World → Prop}
    (h : PIf (decide ((((b1n : Nat) : Int) : Int) < 4)) (R (.returned (.tuple #[.int .i64 0, .int .i64 4])) w) (((0 : Int) ≤ 1 ∧ (1 : Int) ≤ 4 ∧ (4 : Int) ≤ ((b1c : Nat) : Int) ∧
      PC Tryd.prog 97 #[.slice (subA b1a (Int.toNat 1) b1c 1) (Int.toNat 4 - Int.toNat 1) (b1c - Int.toNat 1)] w (fun v2 w3 => ∃ (t4 : Int), v2 = .int .u32 t4 ∧
      (∃ b5 o6, b1a = some ⟨b5, o6, none⟩ ∧ (0 : Int) ≤ 0 ∧ 0 < ((b1n : Nat) : Int) ∧ (∃ (t7 : Int), w3.cell? ⟨b5, o6 + Int.toNat 0, none⟩ = some (.int .u8 t7) ∧
      PIf ((t7 : Int) == 0) (R (.returned (.tuple #[.int .i64 0, .int .i64 2])) w3) (PIf (decide (((IntKind.wrap .i64 t4) : Int) > 65536)) (R (.returned (.tuple #[.int .i64 0, .int .i64 5])) w3) (PIf (decide ((((b1n : Nat) : Int) : Int) < (IntKind.wrap .i64 ((IntKind.wrap .i64 (4 + (IntKind.wrap .i64 t4))) + 5)))) (R (.returned (.tuple #[.int .i64 0, .int .i64 4])) w3) (((0 : Int) ≤ (IntKind.wrap .i64 (4 + (IntKind.wrap .i64 t4))) ∧
      ((IntKind.wrap .i64 (4 + (IntKind.wrap .i64 t4))) : Int) ≤ ((b1c : Nat) : Int) ∧ ((0 : Int) ≤ (IntKind.wrap .i64 (4 + (IntKind.wrap .i64 t4))) ∧ ((IntKind.wrap .i64 (4 + (IntKind.wrap .i64 t4))) : Int) ≤ (IntKind.wrap .i64 ((IntKind.wrap .i64 (4 + (IntKind.wrap .i64 t4))) + 5)) ∧
      ((IntKind.wrap .i64 ((IntKind.wrap .i64 (4 + (IntKind.wrap .i64 t4))) + 5)) : Int) ≤ ((b1c : Nat) : Int) ∧ (∀ w8, Drew w3 w8 → (∀ w10, Drew w8 w10 → ((0 : Int) ≤ 4 ∧
      (4 : Int) ≤ (((b1c - Int.toNat (IntKind.wrap .i64 (4 + (IntKind.wrap .i64 t4)))) : Nat) : Int) ∧ PC Tryd.prog 43 #[.slice b1a (Int.toNat (IntKind.wrap .i64 (4 + (IntKind.wrap .i64 t4)))) b1c] w10 (fun v11 w12 =>
      ∃ (t13 : Int), v11 = .int .u32 t13 ∧ PC Tryd.prog 97 #[.slice (subA b1a (Int.toNat (IntKind.wrap .i64 (4 + (IntKind.wrap .i64 t4)))) b1c 1) (Int.toNat 4) (b1c - Int.toNat (IntKind.wrap .i64 (4 + (IntKind.wrap .i64 t4))))] w12 (fun v14 w15 =>
      ∃ (t16 : Int), v14 = .int .u32 t16 ∧ PIf ((t13 : Int) != t16) (R (.returned (.tuple #[.int .i64 0, .int .i64 6])) w15) ((∃ b17 o18, (subA b1a (Int.toNat (IntKind.wrap .i64 (4 + (IntKind.wrap .i64 t4)))) b1c 1) = some ⟨b17, o18, none⟩ ∧
      (0 : Int) ≤ 4 ∧ 4 < ((Int.toNat (IntKind.wrap .i64 ((IntKind.wrap .i64 (4 + (IntKind.wrap .i64 t4))) + 5)) - Int.toNat (IntKind.wrap .i64 (4 + (IntKind.wrap .i64 t4))) : Nat) : Int) ∧
      (∃ (t19 : Int), w15.cell? ⟨b17, o18 + Int.toNat 4, none⟩ = some (.int .u8 t19) ∧ PIf ((t19 : Int) != 10) (R (.returned (.tuple #[.int .i64 0, .int .i64 6])) w15) (R (.returned (.tuple #[.int .i64 (IntKind.wrap .i64 t4), .int .i64 0])) w15))))) (fun ch wpp =>
      ∀ (_ : Base) (_ : Bnd), R (.panicked ch) wpp)) (fun ch wpp => ∀ (_ : Base) (_ : Bnd), R (.panicked ch) wpp)))))))))))) (fun ch w => R (.panicked ch) w)))) :
    Calls Tryd.prog 72 #[.slice b1a b1n b1c] w R :=
  D_calls A_frame_wrong mixed Tryd.func72 rfl (Nat.le_of_ble_eq_true (by kernel_rfl)) (by kernel_rfl) (Eq.mp (by kernel_rfl) h)
/-- slices.Grow[[]byte,byte] -/
abbrev F_slices_Grow_byte_byte : Nat := 73
def A_slices_Grow_byte_byte : Ann := ⟨[], [(3, [])], [], [], []⟩
theorem L_slices_Grow_byte_byte {s1a : Option Addr} {s1n : Nat} {s1c : Nat} {n2 : Int} {w : World} {R : Ending → World → Prop}
    (h : (∃ J3 : World → Prop, (PIf (decide ((n2 : Int) < 0)) (PRun Tryd.prog (Instr.panic (.iface 9 (.string (⟨#[99, 97, 110, 110, 111, 116, 32, 98, 101, 32, 110, 101, 103, 97, 116, 105, 118, 101]⟩ : ByteArray)))) w (fun v4 w5 =>
      J3  w5) (fun pv w => R (.panicked [{ v := pv, recovered := false }]) w)) (J3  w)) ∧ ∀  (B6 : Nat → Value) (w7 : World), J3  w7 → PRun Tryd.prog (Builtin.cap_ #[35] 3 #[.slice s1a s1n s1c]) w7 (fun v8 w9 =>
      ∃ (t10 : Int), v8 = .int .i64 t10 ∧ PIf (decide (((IntKind.wrap .i64 (n2 - (IntKind.wrap .i64 (t10 - ((s1n : Nat) : Int))))) : Int) > 0)) (PRun Tryd.prog (Builtin.cap_ #[35] 3 #[.slice s1a s1n s1c]) w9 (fun v11 w12 =>
      ∃ (t13 : Int), v11 = .int .i64 t13 ∧ ((0 : Int) ≤ t13 ∧ (t13 : Int) ≤ ((s1c : Nat) : Int) ∧ PRun Tryd.prog (Builtin.append_ #[35, 3] 35 #[.slice s1a (Int.toNat t13) s1c, .int .i64 (IntKind.wrap .i64 (n2 - (IntKind.wrap .i64 (t10 - ((s1n : Nat) : Int)))))]) w12 (fun v14 w15 =>
      ∃ (t16a : Option Addr) (t16n : Nat) (t16c : Nat), v14 = .slice t16a t16n t16c ∧ ((0 : Int) ≤ ((s1n : Nat) : Int) ∧ (((s1n : Nat) : Int) : Int) ≤ ((t16c : Nat) : Int) ∧
      R (.returned (.slice t16a (Int.toNat ((s1n : Nat) : Int)) t16c)) w15)) (fun pv w => R (.panicked [{ v := pv, recovered := false }]) w))) (fun pv w => R (.panicked [{ v := pv, recovered := false }]) w)) (R (.returned (.slice s1a s1n s1c)) w9)) (fun pv w =>
      R (.panicked [{ v := pv, recovered := false }]) w))) :
    Calls Tryd.prog 73 #[.slice s1a s1n s1c, .int .i64 n2] w R :=
  D_calls A_slices_Grow_byte_byte mixed Tryd.func73 rfl (Nat.le_of_ble_eq_true (by kernel_rfl)) (by kernel_rfl) (Eq.mp (by kernel_rfl) h)
/-- quayside/crc.More -/
abbrev F_crc_More : Nat := 74
def A_crc_More : Ann := ⟨[(3, [(5, .int .u32 0), (12, .int .i64 0)])], [], [], [], []⟩
theorem L_crc_More {sum1 : Int} {b2a : Option Addr} {b2n : Nat} {b2c : Nat} {w : World} {R : Ending → World → Prop}
    (h : (∃ I3 : Nat → Int → Int → World → Prop, (∃ m4, I3 m4 (iXor .u32 (IntKind.max .u32) sum1) 0 w) ∧ ∀ (m4 : Nat) (r6 : Int) (t7 : Int) (B8 : Nat → Value) (w9 : World), I3 m4 r6 t7 w9 → PIf (decide ((t7 : Int) < ((b2n : Nat) : Int))) ((∃ b10 o11, b2a = some ⟨b10, o11, none⟩ ∧
      (0 : Int) ≤ t7 ∧ t7 < ((b2n : Nat) : Int) ∧ (∃ (t12 : Int), w9.cell? ⟨b10, o11 + Int.toNat t7, none⟩ = some (.int .u8 t12) ∧ (∃ b14 o15, ((some ⟨0, 0, none⟩) : Option Addr) = some ⟨b14, o15, none⟩ ∧
      (0 : Int) ≤ (iAnd .u8 (iXor .u8 t12 (IntKind.wrap .u8 r6)) 15) ∧ (iAnd .u8 (iXor .u8 t12 (IntKind.wrap .u8 r6)) 15) < ((16 : Nat) : Int) ∧ (∃ (t16 : Int), w9.cell? ⟨b14, o15 + Int.toNat (iAnd .u8 (iXor .u8 t12 (IntKind.wrap .u8 r6)) 15), none⟩ = some (.int .u32 t16) ∧
      (∃ b17 o18, ((some ⟨1, 0, none⟩) : Option Addr) = some ⟨b17, o18, none⟩ ∧ (0 : Int) ≤ (iShr .u8 (iXor .u8 t12 (IntKind.wrap .u8 r6)) 4) ∧ (iShr .u8 (iXor .u8 t12 (IntKind.wrap .u8 r6)) 4) < ((16 : Nat) : Int) ∧
      (∃ (t19 : Int), w9.cell? ⟨b17, o18 + Int.toNat (iShr .u8 (iXor .u8 t12 (IntKind.wrap .u8 r6)) 4), none⟩ = some (.int .u32 t19) ∧ (∀ w13, Drew w9 w13 → (∃ m5, m5 < m4 ∧
      I3 m5 (iXor .u32 (iXor .u32 (iShr .u32 r6 8) t16) t19) (IntKind.wrap .i64 (t7 + 1)) w13))))))))) (R (.returned (.int .u32 (iXor .u32 (IntKind.max .u32) r6))) w9))) :
    Calls Tryd.prog 74 #[.int .u32 sum1, .slice b2a b2n b2c] w R :=
  D_calls A_crc_More mixed Tryd.func74 rfl (Nat.le_of_ble_eq_true (by kernel_rfl)) (by kernel_rfl) (Eq.mp (by kernel_rfl) h)
/-- (*quayside/pack.Reader).reading -/
abbrev F_pack_Reader_reading : Nat := 75
def A_pack_Reader_reading : Ann := ⟨[], [], [], [], []⟩
theorem L_pack_Reader_reading {r1 : Option Addr} {do2g : FuncId} {do2i : Array Value} {do2c : Array Value} {w : World} {R : Ending → World → Prop}
    (h : PA w (.cells #[.pointer r1] 89) fun w3 => (∃ (t4 : Option Addr), w3.cell? ⟨w.heap.size, 0, none⟩ = some (.pointer t4) ∧ (∃ b5 o6, t4 = some ⟨b5, o6, none⟩ ∧
      (∃ (t7 : Int), w3.cell? ⟨b5, o6 + 2, none⟩ = some (.int .i64 t7) ∧ PIf ((t7 : Int) != 0) (R (.returned (.tuple #[])) w3) ((∃ (t8 : Option Addr), w3.cell? ⟨w.heap.size, 0, none⟩ = some (.pointer t8) ∧
      (∃ b9 o10, t8 = some ⟨b9, o10, none⟩ ∧ (∃ (t11 : Int), w3.cell? ⟨b9, o10 + 1, none⟩ = some (.int .i64 t11) ∧ PA w3 (.cells #[.int .i64 0] 3) fun w12 =>
      PS w12 ⟨w3.heap.size, 0, none⟩ (.int .i64 t11) fun w13 => (∃ g16 fi17 ca18, (.func (.func do2g) do2i do2c : Value) = .func (.func g16) fi17 ca18 ∧ enters Tryd.prog g16 = true ∧
      PC Tryd.prog g16 (fi17 ++ #[] ++ ca18) w13 (fun v14 w15 => v14 = .tuple #[] ∧ Lv Tryd.prog (fun w19 => R (.returned (.tuple #[])) w19) (fun ch w => R (.panicked ch) w) ([{ target := .fn (.func 98) #[.pointer (some ⟨w3.heap.size, 0, none⟩), .pointer (some ⟨w.heap.size, 0, none⟩)], args := #[] }] : List Deferred) .returning w15) (fun ch wpp =>
      Lv Tryd.prog (fun w20 => R (.returned (.tuple #[])) w20) (fun ch w => R (.panicked ch) w) ([{ target := .fn (.func 98) #[.pointer (some ⟨w3.heap.size, 0, none⟩), .pointer (some ⟨w.heap.size, 0, none⟩)], args := #[] }] : List Deferred) (.panicking ch) wpp)))))))))) :
    Calls Tryd.prog 75 #[.pointer r1, .func (.func do2g) do2i do2c] w R :=
  D_calls A_pack_Reader_reading mixed Tryd.func75 rfl (Nat.le_of_ble_eq_true (by kernel_rfl)) (by kernel_rfl) (Eq.mp (by kernel_rfl) h)
/-- (*quayside/pack.Reader).Int$1 -/
abbrev F_pack_Reader_Int_1 : Nat := 76
def A_pack_Reader_Int_1 : Ann := ⟨[], [], [], [], []⟩
theorem L_pack_Reader_Int_1 {b1 : Nat} {o2 : Nat} {b3 : Nat} {o4 : Nat} {w : World} {R : Ending → World → Prop}
    (h : (∃ (t5 : Option Addr), w.cell? ⟨b1, o2, none⟩ = some (.pointer t5) ∧ PC Tryd.prog 77 #[.pointer t5] w (fun v6 w7 => ∃ (t8 : Int), v6 = .int .i64 t8 ∧ PS w7 ⟨b3, o4, none⟩ (.int .i64 t8) fun w9 =>
      R (.returned (.tuple #[])) w9) (fun ch w => R (.panicked ch) w))) :
    Calls Tryd.prog 76 #[.pointer (some ⟨b1, o2, none⟩), .pointer (some ⟨b3, o4, none⟩)] w R :=
  D_calls A_pack_Reader_Int_1 mixed Tryd.func76 rfl (Nat.le_of_ble_eq_true (by kernel_rfl)) (by kernel_rfl) (Eq.mp (by kernel_rfl) h)
/-- (*quayside/pack.Reader).number -/
abbrev F_pack_Reader_number : Nat := 77
def A_pack_Reader_number : Ann := ⟨[(8, [(6, .int .u64 0), (37, .int .i64 0)])], [(4, []), (6, [])], [], [], []⟩
theorem L_pack_Reader_number {r1 : Option Addr} {w : World} {R : Ending → World → Prop}
    (h : PC Tryd.prog 99 #[.pointer r1, .int .i64 1] w (fun v2 w3 => ∃ (t4a : Option Addr) (t4n : Nat) (t4c : Nat), v2 = .slice t4a t4n t4c ∧ (∃ b5 o6, t4a = some ⟨b5, o6, none⟩ ∧
      (0 : Int) ≤ 0 ∧ 0 < ((t4n : Nat) : Int) ∧ (∃ (t7 : Int), w3.cell? ⟨b5, o6 + Int.toNat 0, none⟩ = some (.int .u8 t7) ∧ (∃ J8 : World → Prop, (PIf (decide (((IntKind.wrap .i64 (iAndNot .u8 t7 16)) : Int) ≤ 8)) (PC Tryd.prog 100 #[.bool ((t7 : Int) != 16), .int .i64 5] w3 (fun v9 w10 =>
      v9 = .tuple #[] ∧ J8  w10) (fun ch w => R (.panicked ch) w)) (PC Tryd.prog 100 #[.bool false, .int .i64 5] w3 (fun v11 w12 => v11 = .tuple #[] ∧ J8  w12) (fun ch w =>
      R (.panicked ch) w))) ∧ ∀  (B13 : Nat → Value) (w14 : World), J8  w14 → PC Tryd.prog 99 #[.pointer r1, .int .i64 (IntKind.wrap .i64 (iAndNot .u8 t7 16))] w14 (fun v15 w16 =>
      ∃ (t17a : Option Addr) (t17n : Nat) (t17c : Nat), v15 = .slice t17a t17n t17c ∧ (∃ J18 : World → Prop, (PIf (((IntKind.wrap .i64 (iAndNot .u8 t7 16)) : Int) == 0) (PC Tryd.prog 100 #[.bool true, .int .i64 5] w16 (fun v19 w20 =>
      v19 = .tuple #[] ∧ J18  w20) (fun ch w => R (.panicked ch) w)) ((∃ b21 o22, t17a = some ⟨b21, o22, none⟩ ∧ (0 : Int) ≤ 0 ∧ 0 < ((t17n : Nat) : Int) ∧ (∃ (t23 : Int), w16.cell? ⟨b21, o22 + Int.toNat 0, none⟩ = some (.int .u8 t23) ∧
      PC Tryd.prog 100 #[.bool ((t23 : Int) != 0), .int .i64 5] w16 (fun v24 w25 => v24 = .tuple #[] ∧ J18  w25) (fun ch w => R (.panicked ch) w))))) ∧ ∀  (B26 : Nat → Value) (w27 : World), J18  w27 → (∃ I28 : Nat → Int → Int → World → Prop, (∃ m29, I28 m29 0 0 w27) ∧
      ∀ (m29 : Nat) (u31 : Int) (t32 : Int) (B33 : Nat → Value) (w34 : World), I28 m29 u31 t32 w34 → PIf (decide ((t32 : Int) < ((t17n : Nat) : Int))) ((∃ b35 o36, t17a = some ⟨b35, o36, none⟩ ∧
      (0 : Int) ≤ t32 ∧ t32 < ((t17n : Nat) : Int) ∧ (∃ (t37 : Int), w34.cell? ⟨b35, o36 + Int.toNat t32, none⟩ = some (.int .u8 t37) ∧ (∃ m30, m30 < m29 ∧ I28 m30 (iOr .u64 (iShl .u64 u31 8) (IntKind.wrap .u64 t37)) (IntKind.wrap .i64 (t32 + 1)) w34)))) (PIf (((iAnd .u8 t7 16) : Int) == 0) (PC Tryd.prog 100 #[.bool (decide ((u31 : Int) < 9223372036854775808)), .int .i64 5] w34 (fun v38 w39 =>
      v38 = .tuple #[] ∧ R (.returned (.int .i64 (IntKind.wrap .i64 u31))) w39) (fun ch w => R (.panicked ch) w)) (PC Tryd.prog 100 #[.bool (decide ((u31 : Int) ≤ 9223372036854775808)), .int .i64 5] w34 (fun v40 w41 =>
      v40 = .tuple #[] ∧ R (.returned (.int .i64 (IntKind.wrap .i64 (IntKind.wrap .u64 (0 - u31))))) w41) (fun ch w => R (.panicked ch) w)))))) (fun ch w =>
      R (.panicked ch) w))))) (fun ch w => R (.panicked ch) w)) :
    Calls Tryd.prog 77 #[.pointer r1] w R :=
  D_calls A_pack_Reader_number mixed Tryd.func77 rfl (Nat.le_of_ble_eq_true (by kernel_rfl)) (by kernel_rfl) (Eq.mp (by kernel_rfl) h)
/-- (*quayside/pack.Reader).Count$1 -/
abbrev F_pack_Reader_Count_1 : Nat := 78
def A_pack_Reader_Count_1 : Ann := ⟨[], [], [], [], []⟩
theorem L_pack_Reader_Count_1 {b1 : Nat} {o2 : Nat} {b3 : Nat} {o4 : Nat} {b5 : Nat} {o6 : Nat} {w : World} {R : Ending → World → Prop}
    (h : (∃ (t7 : Option Addr), w.cell? ⟨b1, o2, none⟩ = some (.pointer t7) ∧ (∃ (t8 : Int), w.cell? ⟨b3, o4, none⟩ = some (.int .i64 t8) ∧ PC Tryd.prog 79 #[.pointer t7, .int .i64 t8] w (fun v9 w10 =>
      ∃ (t11 : Int), v9 = .int .i64 t11 ∧ PS w10 ⟨b5, o6, none⟩ (.int .i64 t11) fun w12 => R (.returned (.tuple #[])) w12) (fun ch w => R (.panicked ch) w)))) :
    Calls Tryd.prog 78 #[.pointer (some ⟨b1, o2, none⟩), .pointer (some ⟨b3, o4, none⟩), .pointer (some ⟨b5, o6, none⟩)] w R :=
  D_calls A_pack_Reader_Count_1 mixed Tryd.func78 rfl (Nat.le_of_ble_eq_true (by kernel_rfl)) (by kernel_rfl) (Eq.mp (by kernel_rfl) h)
/-- (*quayside/pack.Reader).count -/
abbrev F_pack_Reader_count : Nat := 79
def A_pack_Reader_count : Ann := ⟨[], [], [], [], []⟩
theorem L_pack_Reader_count {r1 : Option Addr} {most2 : Int} {w : World} {R : Ending → World → Prop}
    (h : PC Tryd.prog 77 #[.pointer r1] w (fun v3 w4 => ∃ (t5 : Int), v3 = .int .i64 t5 ∧ PIf (decide ((t5 : Int) ≥ 0)) (PC Tryd.prog 100 #[.bool (decide ((t5 : Int) ≤ most2)), .int .i64 3] w4 (fun v6 w7 =>
      v6 = .tuple #[] ∧ R (.returned (.int .i64 t5)) w7) (fun ch w => R (.panicked ch) w)) (PC Tryd.prog 100 #[.bool false, .int .i64 3] w4 (fun v8 w9 => v8 = .tuple #[] ∧
      R (.returned (.int .i64 t5)) w9) (fun ch w => R (.panicked ch) w))) (fun ch w => R (.panicked ch) w)) :
    Calls Tryd.prog 79 #[.pointer r1, .int .i64 most2] w R :=
  D_calls A_pack_Reader_count mixed Tryd.func79 rfl (Nat.le_of_ble_eq_true (by kernel_rfl)) (by kernel_rfl) (Eq.mp (by kernel_rfl) h)
/-- quayside/quaysidekit.CopyInts -/
abbrev F_kit_CopyInts : Nat := 80
def A_kit_CopyInts : Ann := ⟨[(3, [(3, .slice none 0 0), (4, .int .i64 0)])], [], [], [], []⟩
theorem L_kit_CopyInts {l1a : Option Addr} {l1n : Nat} {l1c : Nat} {w : World} {R : Ending → World → Prop}
    (h : (∃ I2 : Nat → Option Addr → Nat → Nat → Int → World → Prop, (∃ m3, I2 m3 none 0 0 0 w) ∧ ∀ (m3 : Nat) (out5a : Option Addr) (out5n : Nat) (out5c : Nat) (i6 : Int) (B7 : Nat → Value) (w8 : World), I2 m3 out5a out5n out5c i6 w8 → PIf (decide ((i6 : Int) < ((l1n : Nat) : Int))) ((∃ b9 o10, l1a = some ⟨b9, o10, none⟩ ∧
      (0 : Int) ≤ i6 ∧ i6 < ((l1n : Nat) : Int) ∧ (∃ (t11 : Int), w8.cell? ⟨b9, o10 + Int.toNat i6, none⟩ = some (.int .i64 t11) ∧ PA w8 (.cells #[.int .i64 t11] 3) fun w12 =>
      PRun Tryd.prog (Builtin.append_ #[36, 36] 36 #[.slice out5a out5n out5c, .slice (some ⟨w8.heap.size, 0, none⟩) 1 1]) w12 (fun v13 w14 => ∃ (t15a : Option Addr) (t15n : Nat) (t15c : Nat), v13 = .slice t15a t15n t15c ∧
      (∃ m4, m4 < m3 ∧ I2 m4 t15a t15n t15c (IntKind.wrap .i64 (i6 + 1)) w14)) (fun pv w => R (.panicked [{ v := pv, recovered := false }]) w)))) (R (.returned (.slice out5a out5n out5c)) w8))) :
    Calls Tryd.prog 80 #[.slice l1a l1n l1c] w R :=
  D_calls A_kit_CopyInts mixed Tryd.func80 rfl (Nat.le_of_ble_eq_true (by kernel_rfl)) (by kernel_rfl) (Eq.mp (by kernel_rfl) h)
/-- slices.Contains[[]string,string] -/
abbrev F_slices_Contains_string_string : Nat := 81
def A_slices_Contains_string_string : Ann := ⟨[], [], [], [], []⟩
theorem L_slices_Contains_string_string {s1a : Option Addr} {s1n : Nat} {s1c : Nat} {v2 : ByteArray} {w : World} {R : Ending → World → Prop}
    (h : PC Tryd.prog 101 #[.slice s1a s1n s1c, .string v2] w (fun v3 w4 => ∃ (t5 : Int), v3 = .int .i64 t5 ∧ R (.returned (.bool (decide ((t5 : Int) ≥ 0)))) w4) (fun ch w =>
      R (.panicked ch) w)) :
    Calls Tryd.prog 81 #[.slice s1a s1n s1c, .string v2] w R :=
  D_calls A_slices_Contains_string_string mixed Tryd.func81 rfl (Nat.le_of_ble_eq_true (by kernel_rfl)) (by kernel_rfl) (Eq.mp (by kernel_rfl) h)
/-- (*quayside/vdisk.Disk).Delete -/
abbrev F_vdisk_Disk_Delete : Nat := 82
def A_vdisk_Disk_Delete : Ann := ⟨[], [], [], [], []⟩
theorem L_vdisk_Disk_Delete {d1 : Option Addr} {name2 : ByteArray} {w : World} {R : Ending → World → Prop}
    (h : PA w (.cells #[.pointer d1] 30) fun w3 => PA w3 (.cells #[.string name2] 9) fun w4 => (∃ (t5 : Option Addr), w4.cell? ⟨w.heap.size, 0, none⟩ = some (.pointer t5) ∧
      (∃ (t6 : ByteArray), w4.cell? ⟨w3.heap.size, 0, none⟩ = some (.string t6) ∧ PC Tryd.prog 36 #[.pointer t5, .string t6, .func (.func 102) #[] #[.pointer (some ⟨w.heap.size, 0, none⟩), .pointer (some ⟨w3.heap.size, 0, none⟩)]] w4 (fun v7 w8 =>
      ∃ (t9 : Int), v7 = .int .i64 t9 ∧ R (.returned (.int .i64 t9)) w8) (fun ch w => R (.panicked ch) w)))) :
    Calls Tryd.prog 82 #[.pointer d1, .string name2] w R :=
  D_calls A_vdisk_Disk_Delete mixed Tryd.func82 rfl (Nat.le_of_ble_eq_true (by kernel_rfl)) (by kernel_rfl) (Eq.mp (by kernel_rfl) h)
/-- (*quayside/vdisk.Disk).Sync$1 -/
abbrev F_vdisk_Disk_Sync_1 : Nat := 83
def A_vdisk_Disk_Sync_1 : Ann := ⟨[], [], [], [], []⟩
theorem L_vdisk_Disk_Sync_1 {f1 : Option Addr} {w : World} {R : Ending → World → Prop}
    (h : (∃ b2 o3, f1 = some ⟨b2, o3, none⟩ ∧ (∃ (t4a : Option Addr) (t4n : Nat) (t4c : Nat), w.cell? ⟨b2, o3, none⟩ = some (.slice t4a t4n t4c) ∧ PC Tryd.prog 84 #[.pointer f1, .int .i64 ((t4n : Nat) : Int)] w (fun v5 w6 =>
      v5 = .tuple #[] ∧ R (.returned (.int .i64 0)) w6) (fun ch w => R (.panicked ch) w)))) :
    Calls Tryd.prog 83 #[.pointer f1] w R :=
  D_calls A_vdisk_Disk_Sync_1 mixed Tryd.func83 rfl (Nat.le_of_ble_eq_true (by kernel_rfl)) (by kernel_rfl) (Eq.mp (by kernel_rfl) h)
/-- (*quayside/vdisk.file).cut -/
abbrev F_vdisk_file_cut : Nat := 84
def A_vdisk_file_cut : Ann := ⟨[], [], [], [], [(0, ⟨[0, 0, 2, 4, 8, 0, 0, 64, 128, 256, 512, 1056, 2048, 4112, 8192, 32767, 65535, 98303], [262143, 262143, 262141, 262139, 262135, 262143, 262143, 262079, 262015, 261887, 261631, 261087, 260095, 258031, 253951, 262142, 229375, 180223], [0, 0, 0, 0, 1, 0, 0, 0, 0, 1, 0, 0, 0, 0, 2, 0, 0, 2]⟩)]⟩
theorem L_vdisk_file_cut {f1 : Option Addr} {n2 : Int} {w : World} {R : Ending → World → Prop}
    (h : (∀ w4, Drew w w4 → (∃ b5 o6, f1 = some ⟨b5, o6, none⟩ ∧ (∃ (t7a : Option Addr) (t7n : Nat) (t7c : Nat), w4.cell? ⟨b5, o6, none⟩ = some (.slice t7a t7n t7c) ∧
      (∃ b8 o9, f1 = some ⟨b8, o9, none⟩ ∧ (∃ (t10a : Option Addr) (t10n : Nat) (t10c : Nat), w4.cell? ⟨b8, o9, none⟩ = some (.slice t10a t10n t10c) ∧ ((0 : Int) ≤ (if (if ((t10n : Nat) : Int) < n2 then ((t10n : Nat) : Int) else n2) > 0 then (if ((t10n : Nat) : Int) < n2 then ((t10n : Nat) : Int) else n2) else 0) ∧
      ((if (if ((t10n : Nat) : Int) < n2 then ((t10n : Nat) : Int) else n2) > 0 then (if ((t10n : Nat) : Int) < n2 then ((t10n : Nat) : Int) else n2) else 0) : Int) ≤ ((t7c : Nat) : Int) ∧
      PC Tryd.prog 71 #[.slice t7a (Int.toNat (if (if ((t10n : Nat) : Int) < n2 then ((t10n : Nat) : Int) else n2) > 0 then (if ((t10n : Nat) : Int) < n2 then ((t10n : Nat) : Int) else n2) else 0)) t7c] w4 (fun v11 w12 =>
      ∃ (t13a : Option Addr) (t13n : Nat) (t13c : Nat), v11 = .slice t13a t13n t13c ∧ (∃ b14 o15, f1 = some ⟨b14, o15, none⟩ ∧ PS w12 ⟨b14, o15, none⟩ (.slice t13a t13n t13c) fun w16 =>
      (∃ b17 o18, f1 = some ⟨b17, o18, none⟩ ∧ (∃ (t19a : Option Addr) (t19n : Nat) (t19c : Nat), w16.cell? ⟨b17, o18, none⟩ = some (.slice t19a t19n t19c) ∧
      (∃ b20 o21, f1 = some ⟨b20, o21, none⟩ ∧ PS w16 ⟨b20, o21 + 1, none⟩ (.int .i64 ((t19n : Nat) : Int)) fun w22 => (∃ b23 o24, f1 = some ⟨b23, o24, none⟩ ∧
      PS w22 ⟨b23, o24 + 2, none⟩ (.bool true) fun w25 => R (.returned (.tuple #[])) w25)))))) (fun ch wpp => ∀ (_ : Base) (_ : Bnd), R (.panicked ch) wpp)))))))) :
    Calls Tryd.prog 84 #[.pointer f1, .int .i64 n2] w R :=
  D_calls A_vdisk_file_cut mixed Tryd.func84 rfl (Nat.le_of_ble_eq_true (by kernel_rfl)) (by kernel_rfl) (Eq.mp (by kernel_rfl) h)
/-- (*quayside/vdisk.Disk).Rename$1 -/
abbrev F_vdisk_Disk_Rename_1 : Nat := 85
def A_vdisk_Disk_Rename_1 : Ann := ⟨[], [], [], [], []⟩
theorem L_vdisk_Disk_Rename_1 {f1 : Option Addr} {b2 : Nat} {o3 : Nat} {b4 : Nat} {o5 : Nat} {b6 : Nat} {o7 : Nat} {w : World} {R : Ending → World → Prop}
    (h : (∃ (t8 : ByteArray), w.cell? ⟨b2, o3, none⟩ = some (.string t8) ∧ PC Tryd.prog 34 #[.string t8] w (fun v9 w10 => ∃ (t11 : Bool), v9 = .bool t11 ∧ PIf (!t11) (R (.returned (.int .i64 1)) w10) ((∀ w13, Drew w10 w13 → (∃ (t14 : Option Addr), w13.cell? ⟨b4, o5, none⟩ = some (.pointer t14) ∧
      (∃ b15 o16, t14 = some ⟨b15, o16, none⟩ ∧ (∃ (t17 : Option Nat), w13.cell? ⟨b15, o16 + 1, none⟩ = some (.map t17) ∧ (∃ (t18 : ByteArray), w13.cell? ⟨b6, o7, none⟩ = some (.string t18) ∧
      PRun Tryd.prog (Builtin.delete_ #[69, 9] 0 #[.map t17, .string t18]) w13 (fun v19 w20 => (∀ w22, Drew w20 w22 → (∃ (t23 : Option Addr), w22.cell? ⟨b4, o5, none⟩ = some (.pointer t23) ∧
      (∃ b24 o25, t23 = some ⟨b24, o25, none⟩ ∧ (∃ (t26 : Option Nat), w22.cell? ⟨b24, o25 + 1, none⟩ = some (.map t26) ∧ (∃ (t27 : ByteArray), w22.cell? ⟨b2, o3, none⟩ = some (.string t27) ∧
      PRunU Tryd.prog (Instr.mapUpdate 69 (.map t26) (.string t27) (.pointer f1)) w22 (fun w28 => (∃ b29 o30, f1 = some ⟨b29, o30, none⟩ ∧ PS w28 ⟨b29, o30 + 2, none⟩ (.bool true) fun w31 =>
      R (.returned (.int .i64 0)) w31)) (fun pv wpp => ∀ (_ : Base) (_ : Bnd), R (.panicked [{ v := pv, recovered := false }]) wpp))))))) (fun pv wpp => ∀ (_ : Base) (_ : Bnd), R (.panicked [{ v := pv, recovered := false }]) wpp)))))))) (fun ch w =>
      R (.panicked ch) w))) :
    Calls Tryd.prog 85 #[.pointer f1, .pointer (some ⟨b2, o3, none⟩), .pointer (some ⟨b4, o5, none⟩), .pointer (some ⟨b6, o7, none⟩)] w R :=
  D_calls A_vdisk_Disk_Rename_1 mixed Tryd.func85 rfl (Nat.le_of_ble_eq_true (by kernel_rfl)) (by kernel_rfl) (Eq.mp (by kernel_rfl) h)
/-- maps.DeleteFunc[map[string]*quayside/vdisk.file,string,*quayside/vdisk.file] -/
abbrev F_maps_DeleteFunc_map_string_vdisk_file_string_vdisk_file : Nat := 89
def A_maps_DeleteFunc_map_string_vdisk_file_string_vdisk_file : Ann := ⟨[(1, [])], [], [], [], []⟩
theorem L_maps_DeleteFunc_map_string_vdisk_file_string_vdisk_file {m1 : Option Nat} {del2g : FuncId} {del2i : Array Value} {del2c : Array Value} {w : World} {R : Ending → World → Prop}
    (h : PRun Tryd.prog (Instr.range 69 (.map m1)) w (fun v3 w4 => (∃ I5 : Nat → World → Prop, (∃ m6, I5 m6  w4) ∧ ∀ (m6 : Nat)  (B8 : Nat → Value) (w9 : World), I5 m6  w9 → PRun Tryd.prog (Instr.next v3 false 0) w9 (fun v10 w11 =>
      (v10 = .tuple #[.bool false] ∧ R (.returned (.tuple #[])) w11) ∨ (∃ k12 x13, v10 = .tuple #[.bool true, k12, x13] ∧ PRun Tryd.prog (Instr.entry v3) w11 (fun v14 w15 =>
      ∃ (k16 : ByteArray), ∃ (x17 : Option Addr), v14 = .tuple #[.string k16, .pointer x17] ∧ (∃ g20 fi21 ca22, (.func (.func del2g) del2i del2c : Value) = .func (.func g20) fi21 ca22 ∧
      enters Tryd.prog g20 = true ∧ PC Tryd.prog g20 (fi21 ++ #[.string k16, .pointer x17] ++ ca22) w15 (fun v18 w19 => ∃ (t23 : Bool), v18 = .bool t23 ∧ PIf t23 (PRun Tryd.prog (Builtin.delete_ #[69, 9] 0 #[.map m1, .string k16]) w19 (fun v24 w25 =>
      (∃ m7, m7 < m6 ∧ I5 m7  w25)) (fun pv w => R (.panicked [{ v := pv, recovered := false }]) w)) ((∃ m7, m7 < m6 ∧ I5 m7  w19))) (fun ch w => R (.panicked ch) w))) (fun pv w =>
      R (.panicked [{ v := pv, recovered := false }]) w))) (fun pv w => R (.panicked [{ v := pv, recovered := false }]) w))) (fun pv w => R (.panicked [{ v := pv, recovered := false }]) w)) :
    Calls Tryd.prog 89 #[.map m1, .func (.func del2g) del2i del2c] w R :=
  D_calls A_maps_DeleteFunc_map_string_vdisk_file_string_vdisk_file mixed Tryd.func89 rfl (Nat.le_of_ble_eq_true (by kernel_rfl)) (by kernel_rfl) (Eq.mp (by kernel_rfl) h)
/-- (*quayside/vdisk.Disk).Crash$1 -/
abbrev F_vdisk_Disk_Crash_1 : Nat := 90
def A_vdisk_Disk_Crash_1 : Ann := ⟨[], [], [], [], []⟩
theorem L_vdisk_Disk_Crash_1 {_1 : ByteArray} {f2 : Option Addr} {w : World} {R : Ending → World → Prop}
    (h : (∃ b3 o4, f2 = some ⟨b3, o4, none⟩ ∧ (∃ (t5 : Bool), w.cell? ⟨b3, o4 + 2, none⟩ = some (.bool t5) ∧ R (.returned (.bool (!t5))) w))) :
    Calls Tryd.prog 90 #[.string _1, .pointer f2] w R :=
  D_calls A_vdisk_Disk_Crash_1 mixed Tryd.func90 rfl (Nat.le_of_ble_eq_true (by kernel_rfl)) (by kernel_rfl) (Eq.mp (by kernel_rfl) h)
/-- internal/stringslite.HasPrefix -/
abbrev F_internal_stringslite_HasPrefix : Nat := 91
def A_internal_stringslite_HasPrefix : Ann := ⟨[], [], [], [], []⟩
theorem L_internal_stringslite_HasPrefix {s1 : ByteArray} {prefix2 : ByteArray} {w : World} {R : Ending → World → Prop}
    (h : PIf (decide ((((ByteArray.size s1 : Nat) : Int) : Int) ≥ ((ByteArray.size prefix2 : Nat) : Int))) (((0 : Int) ≤ ((ByteArray.size prefix2 : Nat) : Int) ∧
      (((ByteArray.size prefix2 : Nat) : Int) : Int) ≤ ((ByteArray.size s1 : Nat) : Int) ∧ R (.returned (.bool ((ByteArray.toList (ByteArray.extract s1 0 (Int.toNat ((ByteArray.size prefix2 : Nat) : Int)))) == (ByteArray.toList prefix2)))) w)) (R (.returned (.bool false)) w)) :
    Calls Tryd.prog 91 #[.string s1, .string prefix2] w R :=
  D_calls A_internal_stringslite_HasPrefix mixed Tryd.func91 rfl (Nat.le_of_ble_eq_true (by kernel_rfl)) (by kernel_rfl) (Eq.mp (by kernel_rfl) h)
/-- strings.IndexRune -/
abbrev F_strings_IndexRune : Nat := 93
def A_strings_IndexRune : Ann := ⟨[(5, [(9, .int .i64 0)]), (12, [(12, .int .i64 0)]), (38, [])], [(11, [(9, .int .i64 0)]), (35, [(160, .bool false)])], [], [], []⟩
theorem L_strings_IndexRune {s1 : ByteArray} {r2 : Int} {w : World} {R : Ending → World → Prop}
    (h : (∃ J3 : Bool → World → Prop, (PIf (decide ((0 : Int) ≤ r2)) (J3 (decide ((r2 : Int) < 128)) w) (J3 false w)) ∧ ∀ (t4 : Bool) (B5 : Nat → Value) (w6 : World), J3 t4 w6 → PIf t4 (PC Tryd.prog 110 #[.string s1, .int .u8 (IntKind.wrap .u8 r2)] w6 (fun v7 w8 =>
      ∃ (t9 : Int), v7 = .int .i64 t9 ∧ R (.returned (.int .i64 t9)) w8) (fun ch w => R (.panicked ch) w)) (PIf ((r2 : Int) == 65533) (PRun Tryd.prog (Instr.range 9 (.string s1)) w6 (fun v10 w11 =>
      (∃ I12 : Nat → World → Prop, (∃ m13, I12 m13  w11) ∧ ∀ (m13 : Nat)  (B15 : Nat → Value) (w16 : World), I12 m13  w16 → PRun Tryd.prog (Instr.next v10 true 0) w16 (fun v17 w18 =>
      (v17 = .tuple #[.bool false] ∧ R (.returned (.int .i64 (-1))) w18) ∨ (∃ i19 r20, v17 = .tuple #[.bool true, .int .i64 i19, .int .i32 r20] ∧ PIf ((r20 : Int) == 65533) (R (.returned (.int .i64 i19)) w18) ((∃ m14, m14 < m13 ∧
      I12 m14  w18)))) (fun pv w => R (.panicked [{ v := pv, recovered := false }]) w))) (fun pv w => R (.panicked [{ v := pv, recovered := false }]) w)) (PC Tryd.prog 111 #[.int .i32 r2] w6 (fun v21 w22 =>
      ∃ (t23 : Bool), v21 = .bool t23 ∧ PIf (!t23) (R (.returned (.int .i64 (-1))) w22) (PRun Tryd.prog (convert 21 9 (.int .i32 r2)) w22 (fun v24 w25 => ∃ (t26 : ByteArray), v24 = .string t26 ∧
      (∃ I27 : Nat → Int → World → Prop, (∃ m28, I27 m28 (IntKind.wrap .i64 (((ByteArray.size t26 : Nat) : Int) - 1)) w25) ∧ ∀ (m28 : Nat) (i30 : Int) (B31 : Nat → Value) (w32 : World), I27 m28 i30 w32 → PIf (decide ((i30 : Int) < ((ByteArray.size s1 : Nat) : Int))) ((∃ J33 : Int → World → Prop, (((0 : Int) ≤ i30 ∧
      ∃ c35, s1[Int.toNat i30]? = some c35 ∧ ((0 : Int) ≤ (IntKind.wrap .i64 (((ByteArray.size t26 : Nat) : Int) - 1)) ∧ ∃ c36, t26[Int.toNat (IntKind.wrap .i64 (((ByteArray.size t26 : Nat) : Int) - 1))]? = some c36 ∧
      (∀ w34, Drew w32 w34 → PIf ((((c35.toNat : Nat) : Int) : Int) != ((c36.toNat : Nat) : Int)) ((∀ w38, Drew w34 w38 → ((0 : Int) ≤ (IntKind.wrap .i64 (i30 + 1)) ∧
      ((IntKind.wrap .i64 (i30 + 1)) : Int) ≤ ((ByteArray.size s1 : Nat) : Int) ∧ ((0 : Int) ≤ (IntKind.wrap .i64 (((ByteArray.size t26 : Nat) : Int) - 1)) ∧
      ∃ c39, t26[Int.toNat (IntKind.wrap .i64 (((ByteArray.size t26 : Nat) : Int) - 1))]? = some c39 ∧ PC Tryd.prog 110 #[.string (ByteArray.extract s1 (Int.toNat (IntKind.wrap .i64 (i30 + 1))) (ByteArray.size s1)), .int .u8 ((c39.toNat : Nat) : Int)] w38 (fun v40 w41 =>
      ∃ (t42 : Int), v40 = .int .i64 t42 ∧ PIf (decide ((t42 : Int) < 0)) (R (.returned (.int .i64 (-1))) w41) (J33 (IntKind.wrap .i64 (i30 + (IntKind.wrap .i64 (t42 + 1)))) w41)) (fun ch wpp =>
      ∀ (_ : Base) (_ : Bnd), R (.panicked ch) wpp))))) (J33 i30 w34))))) ∧ ∀ (i43 : Int) (B44 : Nat → Value) (w45 : World), J33 i43 w45 → (∃ I46 : Nat → Int → World → Prop, (∃ m47, I46 m47 1 w45) ∧
      ∀ (m47 : Nat) (j49 : Int) (B50 : Nat → Value) (w51 : World), I46 m47 j49 w51 → PIf (decide ((j49 : Int) < ((ByteArray.size t26 : Nat) : Int))) (((0 : Int) ≤ (IntKind.wrap .i64 (i43 - j49)) ∧
      ∃ c53, s1[Int.toNat (IntKind.wrap .i64 (i43 - j49))]? = some c53 ∧ ((0 : Int) ≤ (IntKind.wrap .i64 ((IntKind.wrap .i64 (((ByteArray.size t26 : Nat) : Int) - 1)) - j49)) ∧
      ∃ c54, t26[Int.toNat (IntKind.wrap .i64 ((IntKind.wrap .i64 (((ByteArray.size t26 : Nat) : Int) - 1)) - j49))]? = some c54 ∧ (∀ w52, Drew w51 w52 → PIf ((((c53.toNat : Nat) : Int) : Int) != ((c54.toNat : Nat) : Int)) (False) ((∃ m48, m48 < m47 ∧
      I46 m48 (IntKind.wrap .i64 (j49 + 1)) w52)))))) (R (.returned (.int .i64 (IntKind.wrap .i64 (i43 - (IntKind.wrap .i64 (((ByteArray.size t26 : Nat) : Int) - 1)))))) w51)))) (R (.returned (.int .i64 (-1))) w32))) (fun pv w =>
      R (.panicked [{ v := pv, recovered := false }]) w))) (fun ch w => R (.panicked ch) w))))) :
    Calls Tryd.prog 93 #[.string s1, .int .i32 r2] w R :=
  D_calls A_strings_IndexRune mixed Tryd.func93 rfl (Nat.le_of_ble_eq_true (by kernel_rfl)) (by kernel_rfl) (Eq.mp (by kernel_rfl) h)
/-- strings.IndexFunc -/
abbrev F_strings_IndexFunc : Nat := 94
def A_strings_IndexFunc : Ann := ⟨[], [], [], [], []⟩
theorem L_strings_IndexFunc {s1 : ByteArray} {f2g : FuncId} {f2i : Array Value} {f2c : Array Value} {w : World} {R : Ending → World → Prop}
    (h : PC Tryd.prog 114 #[.string s1, .func (.func f2g) f2i f2c, .bool true] w (fun v3 w4 => ∃ (t5 : Int), v3 = .int .i64 t5 ∧ R (.returned (.int .i64 t5)) w4) (fun ch w =>
      R (.panicked ch) w)) :
    Calls Tryd.prog 94 #[.string s1, .func (.func f2g) f2i f2c] w R :=
  D_calls A_strings_IndexFunc mixed Tryd.func94 rfl (Nat.le_of_ble_eq_true (by kernel_rfl)) (by kernel_rfl) (Eq.mp (by kernel_rfl) h)
/-- quayside/pack.size -/
abbrev F_pack_size : Nat := 95
def A_pack_size : Ann := ⟨[], [], [], [], []⟩
theorem L_pack_size {n1 : Int} {w : World} {R : Ending → World → Prop}
    (h : PIf (decide ((n1 : Int) < 0)) (R (.returned (.tuple #[.int .u64 (IntKind.wrap .u64 (0 - (IntKind.wrap .u64 n1))), .int .u8 16])) w) (R (.returned (.tuple #[.int .u64 (IntKind.wrap .u64 n1), .int .u8 0])) w)) :
    Calls Tryd.prog 95 #[.int .i64 n1] w R :=
  D_calls A_pack_size mixed Tryd.func95 rfl (Nat.le_of_ble_eq_true (by kernel_rfl)) (by kernel_rfl) (Eq.mp (by kernel_rfl) h)
/-- quayside/frame.number -/
abbrev F_frame_number : Nat := 97
def A_frame_number : Ann := ⟨[(2, [(2, .int .u32 0), (7, .int .i64 0)])], [], [], [], []⟩
theorem L_frame_number {b1a : Option Addr} {b1n : Nat} {b1c : Nat} {w : World} {R : Ending → World → Prop}
    (h : (∃ I2 : Nat → Int → Int → World → Prop, (∃ m3, I2 m3 0 0 w) ∧ ∀ (m3 : Nat) (n5 : Int) (t6 : Int) (B7 : Nat → Value) (w8 : World), I2 m3 n5 t6 w8 → PIf (decide ((t6 : Int) < ((b1n : Nat) : Int))) ((∃ b9 o10, b1a = some ⟨b9, o10, none⟩ ∧
      (0 : Int) ≤ t6 ∧ t6 < ((b1n : Nat) : Int) ∧ (∃ (t11 : Int), w8.cell? ⟨b9, o10 + Int.toNat t6, none⟩ = some (.int .u8 t11) ∧ (∃ m4, m4 < m3 ∧ I2 m4 (iOr .u32 (iShl .u32 n5 8) (IntKind.wrap .u32 t11)) (IntKind.wrap .i64 (t6 + 1)) w8)))) (R (.returned (.int .u32 n5)) w8))) :
    Calls Tryd.prog 97 #[.slice b1a b1n b1c] w R :=
  D_calls A_frame_number mixed Tryd.func97 rfl (Nat.le_of_ble_eq_true (by kernel_rfl)) (by kernel_rfl) (Eq.mp (by kernel_rfl) h)
/-- (*quayside/pack.Reader).take -/
abbrev F_pack_Reader_take : Nat := 99
def A_pack_Reader_take : Ann := ⟨[], [], [], [], [(1, ⟨[0, 0, 2, 4, 8, 16, 0, 64, 128, 256, 544, 1025, 2048], [8191, 8191, 8189, 8187, 8183, 8175, 8191, 8127, 8063, 7935, 7647, 7166, 6143], [0, 0, 0, 0, 1, 0, 0, 0, 0, 1, 0, 0, 2]⟩)]⟩
theorem L_pack_Reader_take {r1 : Option Addr} {n2 : Int} {w : World} {R : Ending → World → Prop}
    (h : (∀ w4, Drew w w4 → (∃ b5 o6, r1 = some ⟨b5, o6, none⟩ ∧ (∃ (t7a : Option Addr) (t7n : Nat) (t7c : Nat), w4.cell? ⟨b5, o6, none⟩ = some (.slice t7a t7n t7c) ∧
      (∃ b8 o9, r1 = some ⟨b8, o9, none⟩ ∧ (∃ (t10 : Int), w4.cell? ⟨b8, o9 + 1, none⟩ = some (.int .i64 t10) ∧ PC Tryd.prog 100 #[.bool (decide ((n2 : Int) ≤ (IntKind.wrap .i64 (((t7n : Nat) : Int) - t10)))), .int .i64 4] w4 (fun v11 w12 =>
      v11 = .tuple #[] ∧ (∃ b13 o14, r1 = some ⟨b13, o14, none⟩ ∧ (∃ (t15 : Int), w12.cell? ⟨b13, o14 + 1, none⟩ = some (.int .i64 t15) ∧ (∃ b16 o17, r1 = some ⟨b16, o17, none⟩ ∧
      PS w12 ⟨b16, o17 + 1, none⟩ (.int .i64 (IntKind.wrap .i64 (t15 + n2))) fun w18 => (∃ b20 o21, r1 = some ⟨b20, o21, none⟩ ∧ (∃ (t22a : Option Addr) (t22n : Nat) (t22c : Nat), w18.cell? ⟨b20, o21, none⟩ = some (.slice t22a t22n t22c) ∧
      (∃ b23 o24, r1 = some ⟨b23, o24, none⟩ ∧ (∃ (t25 : Int), w18.cell? ⟨b23, o24 + 1, none⟩ = some (.int .i64 t25) ∧ (∃ b26 o27, r1 = some ⟨b26, o27, none⟩ ∧
      (∃ (t28 : Int), w18.cell? ⟨b26, o27 + 1, none⟩ = some (.int .i64 t28) ∧ ((0 : Int) ≤ (IntKind.wrap .i64 (t25 - n2)) ∧ ((IntKind.wrap .i64 (t25 - n2)) : Int) ≤ t28 ∧
      (t28 : Int) ≤ ((t22c : Nat) : Int) ∧ (∀ w19, Drew w18 w19 → R (.returned (.slice (subA t22a (Int.toNat (IntKind.wrap .i64 (t25 - n2))) t22c 1) (Int.toNat t28 - Int.toNat (IntKind.wrap .i64 (t25 - n2))) (t22c - Int.toNat (IntKind.wrap .i64 (t25 - n2))))) w19)))))))))))) (fun ch wpp =>
      ∀ (_ : Base) (_ : Bnd), R (.panicked ch) wpp))))))) :
    Calls Tryd.prog 99 #[.pointer r1, .int .i64 n2] w R :=
  D_calls A_pack_Reader_take mixed Tryd.func99 rfl (Nat.le_of_ble_eq_true (by kernel_rfl)) (by kernel_rfl) (Eq.mp (by kernel_rfl) h)
/-- quayside/pack.must -/
abbrev F_pack_must : Nat := 100
def A_pack_must : Ann := ⟨[], [], [], [], []⟩
theorem L_pack_must {is1 : Bool} {why2 : Int} {w : World} {R : Ending → World → Prop}
    (h : PIf (!is1) (PRun Tryd.prog (Instr.panic (.iface 132 (.int .i64 why2))) w (fun v3 w4 => R (.returned (.tuple #[])) w4) (fun pv w => R (.panicked [{ v := pv, recovered := false }]) w)) (R (.returned (.tuple #[])) w)) :
    Calls Tryd.prog 100 #[.bool is1, .int .i64 why2] w R :=
  D_calls A_pack_must mixed Tryd.func100 rfl (Nat.le_of_ble_eq_true (by kernel_rfl)) (by kernel_rfl) (Eq.mp (by kernel_rfl) h)
/-- slices.Index[[]string,string] -/
abbrev F_slices_Index_string_string : Nat := 101
def A_slices_Index_string_string : Ann := ⟨[(2, [(8, .int .i64 0)])], [], [], [], []⟩
theorem L_slices_Index_string_string {s1a : Option Addr} {s1n : Nat} {s1c : Nat} {v2 : ByteArray} {w : World} {R : Ending → World → Prop}
    (h : (∃ I3 : Nat → Int → World → Prop, (∃ m4, I3 m4 0 w) ∧ ∀ (m4 : Nat) (t6 : Int) (B7 : Nat → Value) (w8 : World), I3 m4 t6 w8 → PIf (decide ((t6 : Int) < ((s1n : Nat) : Int))) ((∃ b9 o10, s1a = some ⟨b9, o10, none⟩ ∧
      (0 : Int) ≤ t6 ∧ t6 < ((s1n : Nat) : Int) ∧ (∃ (t11 : ByteArray), w8.cell? ⟨b9, o10 + Int.toNat t6, none⟩ = some (.string t11) ∧ PIf ((ByteArray.toList v2) == (ByteArray.toList t11)) (R (.returned (.int .i64 t6)) w8) ((∃ m5, m5 < m4 ∧
      I3 m5 (IntKind.wrap .i64 (t6 + 1)) w8))))) (R (.returned (.int .i64 (-1))) w8))) :
    Calls Tryd.prog 101 #[.slice s1a s1n s1c, .string v2] w R :=
  D_calls A_slices_Index_string_string mixed Tryd.func101 rfl (Nat.le_of_ble_eq_true (by kernel_rfl)) (by kernel_rfl) (Eq.mp (by kernel_rfl) h)
/-- (*quayside/vdisk.Disk).Delete$1 -/
abbrev F_vdisk_Disk_Delete_1 : Nat := 102
def A_vdisk_Disk_Delete_1 : Ann := ⟨[], [], [], [], []⟩
theorem L_vdisk_Disk_Delete_1 {t1 : Option Addr} {b2 : Nat} {o3 : Nat} {b4 : Nat} {o5 : Nat} {w : World} {R : Ending → World → Prop}
    (h : (∀ w7, Drew w w7 → (∃ (t8 : Option Addr), w7.cell? ⟨b2, o3, none⟩ = some (.pointer t8) ∧ (∃ b9 o10, t8 = some ⟨b9, o10, none⟩ ∧ (∃ (t11 : Option Nat), w7.cell? ⟨b9, o10 + 1, none⟩ = some (.map t11) ∧
      (∃ (t12 : ByteArray), w7.cell? ⟨b4, o5, none⟩ = some (.string t12) ∧ PRun Tryd.prog (Builtin.delete_ #[69, 9] 0 #[.map t11, .string t12]) w7 (fun v13 w14 =>
      R (.returned (.int .i64 0)) w14) (fun pv wpp => ∀ (_ : Base) (_ : Bnd), R (.panicked [{ v := pv, recovered := false }]) wpp))))))) :
    Calls Tryd.prog 102 #[.pointer t1, .pointer (some ⟨b2, o3, none⟩), .pointer (some ⟨b4, o5, none⟩)] w R :=
  D_calls A_vdisk_Disk_Delete_1 mixed Tryd.func102 rfl (Nat.le_of_ble_eq_true (by kernel_rfl)) (by kernel_rfl) (Eq.mp (by kernel_rfl) h)
/-- unicode/utf8.ValidRune -/
abbrev F_unicode_utf8_ValidRune : Nat := 111
def A_unicode_utf8_ValidRune : Ann := ⟨[], [], [], [], []⟩
theorem L_unicode_utf8_ValidRune {r1 : Int} {w : World} {R : Ending → World → Prop}
    (h : PIf (decide ((0 : Int) ≤ r1)) (PIf (decide ((r1 : Int) < 55296)) (R (.returned (.bool true)) w) (PIf (decide ((57343 : Int) < r1)) (PIf (decide ((r1 : Int) ≤ 1114111)) (R (.returned (.bool true)) w) (R (.returned (.bool false)) w)) (R (.returned (.bool false)) w))) (PIf (decide ((57343 : Int) < r1)) (PIf (decide ((r1 : Int) ≤ 1114111)) (R (.returned (.bool true)) w) (R (.returned (.bool false)) w)) (R (.returned (.bool false)) w))) :
    Calls Tryd.prog 111 #[.int .i32 r1] w R :=
  D_calls A_unicode_utf8_ValidRune mixed Tryd.func111 rfl (Nat.le_of_ble_eq_true (by kernel_rfl)) (by kernel_rfl) (Eq.mp (by kernel_rfl) h)
/-- internal/bytealg.Cutover -/
abbrev F_internal_bytealg_Cutover : Nat := 112
def A_internal_bytealg_Cutover : Ann := ⟨[], [], [], [], []⟩
theorem L_internal_bytealg_Cutover {n1 : Int} {w : World} {R : Ending → World → Prop}
    (h : R (.returned (.int .i64 (IntKind.wrap .i64 (Int.tdiv (IntKind.wrap .i64 (n1 + 16)) 8)))) w) :
    Calls Tryd.prog 112 #[.int .i64 n1] w R :=
  D_calls A_internal_bytealg_Cutover mixed Tryd.func112 rfl (Nat.le_of_ble_eq_true (by kernel_rfl)) (by kernel_rfl) (Eq.mp (by kernel_rfl) h)
/-- strings.indexFunc -/
abbrev F_strings_indexFunc : Nat := 114
def A_strings_indexFunc : Ann := ⟨[(2, [])], [], [], [], []⟩
theorem L_strings_indexFunc {s1 : ByteArray} {f2g : FuncId} {f2i : Array Value} {f2c : Array Value} {truth3 : Bool} {w : World} {R : Ending → World → Prop}
    (h : PRun Tryd.prog (Instr.range 9 (.string s1)) w (fun v4 w5 => (∃ I6 : Nat → World → Prop, (∃ m7, I6 m7  w5) ∧ ∀ (m7 : Nat)  (B9 : Nat → Value) (w10 : World), I6 m7  w10 → PRun Tryd.prog (Instr.next v4 true 0) w10 (fun v11 w12 =>
      (v11 = .tuple #[.bool false] ∧ R (.returned (.int .i64 (-1))) w12) ∨ (∃ i13 r14, v11 = .tuple #[.bool true, .int .i64 i13, .int .i32 r14] ∧ (∃ g17 fi18 ca19, (.func (.func f2g) f2i f2c : Value) = .func (.func g17) fi18 ca19 ∧
      enters Tryd.prog g17 = true ∧ PC Tryd.prog g17 (fi18 ++ #[.int .i32 r14] ++ ca19) w12 (fun v15 w16 => ∃ (t20 : Bool), v15 = .bool t20 ∧ PIf (t20 == truth3) (R (.returned (.int .i64 i13)) w16) ((∃ m8, m8 < m7 ∧
      I6 m8  w16))) (fun ch w => R (.panicked ch) w)))) (fun pv w => R (.panicked [{ v := pv, recovered := false }]) w))) (fun pv w => R (.panicked [{ v := pv, recovered := false }]) w)) :
    Calls Tryd.prog 114 #[.string s1, .func (.func f2g) f2i f2c, .bool truth3] w R :=
  D_calls A_strings_indexFunc mixed Tryd.func114 rfl (Nat.le_of_ble_eq_true (by kernel_rfl)) (by kernel_rfl) (Eq.mp (by kernel_rfl) h)
/-- (*quayside/pack.Reader).reading$1 -/
abbrev F_pack_Reader_reading_1 : Nat := 98
def A_pack_Reader_reading_1 : Ann := ⟨[], [], [], [], []⟩
theorem LR_pack_Reader_reading_1 {b1 : Nat} {o2 : Nat} {b3 : Nat} {o4 : Nat} {rv : Value} {u : FrameMode} (hrv : recVal u = rv) {w : World} {R : Ending → FrameMode → World → Prop}
    (h : PRun Tryd.prog (do eqGuard .eql 20 (.tmp 5) (.const .nilIface) rv .nilIface; binOp .eql 20 rv .nilIface) w (fun v5 w6 => ∃ (t7 : Bool), v5 = .bool t7 ∧
      PIf t7 ((fun e w => R e (recMode u) w) (.returned (.tuple #[])) w6) (PRun Tryd.prog (Instr.typeAssert rv 20 132 true) w6 (fun v8 w9 => ∃ (t11 : Int), ∃ b10, v8 = .tuple #[.int .i64 t11, .bool b10] ∧
      PIf b10 ((∃ (t12 : Option Addr), w9.cell? ⟨b3, o4, none⟩ = some (.pointer t12) ∧ (∃ (t13 : Option Addr), w9.cell? ⟨b3, o4, none⟩ = some (.pointer t13) ∧
      (∃ (t14 : Int), w9.cell? ⟨b1, o2, none⟩ = some (.int .i64 t14) ∧ (∃ b15 o16, t12 = some ⟨b15, o16, none⟩ ∧ PS w9 ⟨b15, o16 + 1, none⟩ (.int .i64 t14) fun w17 =>
      (∃ b18 o19, t13 = some ⟨b18, o19, none⟩ ∧ PS w17 ⟨b18, o19 + 2, none⟩ (.int .i64 t11) fun w20 => (fun e w => R e (recMode u) w) (.returned (.tuple #[])) w20)))))) (PRun Tryd.prog (Instr.panic rv) w9 (fun v21 w22 =>
      (fun e w => R e (recMode u) w) (.returned (.tuple #[])) w22) (fun pv w => (fun e w => R e (recMode u) w) (.panicked [{ v := pv, recovered := false }]) w))) (fun pv w =>
      (fun e w => R e (recMode u) w) (.panicked [{ v := pv, recovered := false }]) w))) (fun pv w => (fun e w => R e (recMode u) w) (.panicked [{ v := pv, recovered := false }]) w)) :
    CallsD Tryd.prog 98 #[.pointer (some ⟨b1, o2, none⟩), .pointer (some ⟨b3, o4, none⟩)] u w R := by
  subst hrv
  exact D_callsR A_pack_Reader_reading_1 mixed Tryd.func98 rfl rfl rfl rfl (by kernel_rfl) (Nat.le_of_ble_eq_true (by kernel_rfl)) (by kernel_rfl) (Eq.mp (by kernel_rfl) h)
end Go.Proofs.YtpmakiecgphijaaDoor
