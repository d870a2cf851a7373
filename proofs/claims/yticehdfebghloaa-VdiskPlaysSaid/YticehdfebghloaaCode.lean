import Derived.Test.YticehdfebghloaaLift
import Derived.Test.YticehdfebghloaaRows
import Derived.KernelRfl
namespace Go.Proofs.Yticehdfebghloaa
open Go.Lift
set_option maxRecDepth 100000
set_option linter.unusedVariables false
theorem mixed : Try.prog.follows .mixedOrders = true := by kernel_rfl
/-- quayside/quaysidelaw19.VdiskPlays -/
abbrev F_law19_VdiskPlays : Nat := 3
def A_law19_VdiskPlays : Ann := ⟨[(10, [(9, .int .i64 0)])], [], [12], [(12, ⟨[0, 0, 0, 6, 8, 17, 0, 0, 0, 384, 512, 1120, 2080, 6144, 8192, 8192, 57344, 73728, 139264], [524287, 524287, 524287, 524281, 524279, 524270, 524287, 524287, 524287, 523903, 523775, 523199, 522207, 520191, 516095, 516095, 466943, 450559, 385023], [0, 0, 0, 0, 1, 2, 0, 0, 0, 0, 1, 2, 0, 0, 0, 0, 2, 0, 0]⟩)]⟩
theorem L_law19_VdiskPlays {n1 : Int} {l2a : Option Addr} {l2n : Nat} {l2c : Nat} {w : World} {R : Ending → World → Prop}
    (h : PC Try.prog 9 #[.slice l2a l2n l2c] w (fun v3 w4 => ∃ (t5 : Bool), v3 = .bool t5 ∧ PIf t5 (PC Try.prog 10 #[] w4 (fun v6 w7 => ∃ (t8 : Bool), v6 = .bool t8 ∧
      R (.returned (.bool t8)) w7) (fun ch w => R (.panicked ch) w)) (PC Try.prog 11 #[.int .i64 n1] w4 (fun v9 w10 => ∃ (t11 : Option Addr), ∃ (t12 : Int), v9 = .tuple #[.pointer t11, .int .i64 t12] ∧
      PC Try.prog 12 #[.int .i64 n1] w10 (fun v13 w14 => ∃ (t15 : Option Addr), ∃ (t16 : Int), v13 = .tuple #[.pointer t15, .int .i64 t16] ∧ PIf ((t12 : Int) != t16) (R (.returned (.bool false)) w14) (PRun Try.prog (do eqGuard .eql 25 (.tmp 27) (.const (.pointer none)) (.pointer t11) (.pointer none); binOp .eql 25 (.pointer t11) (.pointer none)) w14 (fun v17 w18 =>
      ∃ (t19 : Bool), v17 = .bool t19 ∧ PRun Try.prog (do eqGuard .eql 29 (.tmp 29) (.const (.pointer none)) (.pointer t15) (.pointer none); binOp .eql 29 (.pointer t15) (.pointer none)) w18 (fun v20 w21 =>
      ∃ (t22 : Bool), v20 = .bool t22 ∧ PIf (!(t19 == t22)) (R (.returned (.bool false)) w21) (PIf ((t16 : Int) != 0) (PIf ((t16 : Int) != 0) (PC Try.prog 10 #[] w21 (fun v23 w24 =>
      ∃ (t25 : Bool), v23 = .bool t25 ∧ R (.returned (.bool t25)) w24) (fun ch w => R (.panicked ch) w)) (R (.returned (.bool false)) w21)) (PRun Try.prog (do eqGuard .eql 25 (.tmp 36) (.const (.pointer none)) (.pointer t11) (.pointer none); binOp .eql 25 (.pointer t11) (.pointer none)) w21 (fun v26 w27 =>
      ∃ (t28 : Bool), v26 = .bool t28 ∧ PIf t28 (PIf ((t16 : Int) != 0) (PC Try.prog 10 #[] w27 (fun v29 w30 => ∃ (t31 : Bool), v29 = .bool t31 ∧ R (.returned (.bool t31)) w30) (fun ch w =>
      R (.panicked ch) w)) (R (.returned (.bool false)) w27)) ((∃ I32 : Nat → Int → World → Prop, (∃ m33, I32 m33 0 w27) ∧ ∀ (m33 : Nat) (i35 : Int) (B36 : Nat → Value) (w37 : World), I32 m33 i35 w37 → PIf (decide ((i35 : Int) < ((l2n : Nat) : Int))) ((∀ w39, Drew w37 w39 → ∃ S40 : Nat → Prop, (∃ b41 o42, l2a = some ⟨b41, o42, none⟩ ∧
      (0 : Int) ≤ i35 ∧ i35 < ((l2n : Nat) : Int) ∧ (∃ (t43 : Int), ∃ (t44 : Int), ∃ (t45 : ByteArray), ∃ (t46 : ByteArray), ∃ (t47a : Option Addr) (t47n : Nat) (t47c : Nat), w39.cell? ⟨b41, o42 + Int.toNat i35 * 5, none⟩ = some (.int .i64 t43) ∧
      w39.cell? ⟨b41, o42 + Int.toNat i35 * 5 + 1, none⟩ = some (.int .i64 t44) ∧ w39.cell? ⟨b41, o42 + Int.toNat i35 * 5 + 2, none⟩ = some (.string t45) ∧ w39.cell? ⟨b41, o42 + Int.toNat i35 * 5 + 3, none⟩ = some (.string t46) ∧
      w39.cell? ⟨b41, o42 + Int.toNat i35 * 5 + 4, none⟩ = some (.slice t47a t47n t47c) ∧ (∃ b48 o49, l2a = some ⟨b48, o49, none⟩ ∧ (0 : Int) ≤ i35 ∧ i35 < ((l2n : Nat) : Int) ∧
      (¬ S40 b48 ∧ (∃ (t50 : Int), ∃ (t51 : Int), ∃ (t52 : ByteArray), ∃ (t53 : ByteArray), ∃ (t54a : Option Addr) (t54n : Nat) (t54c : Nat), w39.cell? ⟨b48, o49 + Int.toNat i35 * 5, none⟩ = some (.int .i64 t50) ∧
      w39.cell? ⟨b48, o49 + Int.toNat i35 * 5 + 1, none⟩ = some (.int .i64 t51) ∧ w39.cell? ⟨b48, o49 + Int.toNat i35 * 5 + 2, none⟩ = some (.string t52) ∧ w39.cell? ⟨b48, o49 + Int.toNat i35 * 5 + 3, none⟩ = some (.string t53) ∧
      w39.cell? ⟨b48, o49 + Int.toNat i35 * 5 + 4, none⟩ = some (.slice t54a t54n t54c) ∧ PC Try.prog 13 #[.pointer t11, .agg #[.int .i64 t43, .int .i64 t44, .string t45, .string t46, .slice t47a t47n t47c]] w39 (fun v55 w56 =>
      ∃ (t57 : Int), v55 = .int .i64 t57 ∧ (Keep S40 w39 w56 ∧ PC Try.prog 14 #[.pointer t15, .agg #[.int .i64 t50, .int .i64 t51, .string t52, .string t53, .slice t54a t54n t54c]] w56 (fun v58 w59 =>
      ∃ (t60 : Int), v58 = .int .i64 t60 ∧ (Keep S40 w56 w59 ∧ PIf ((t57 : Int) != t60) (R (.returned (.bool false)) w59) (PC Try.prog 15 #[.pointer t11, .pointer t15] w59 (fun v61 w62 =>
      ∃ (t63 : Bool), v61 = .bool t63 ∧ (Keep S40 w59 w62 ∧ PIf (!t63) (R (.returned (.bool false)) w62) ((∃ m34, m34 < m33 ∧ I32 m34 (IntKind.wrap .i64 (i35 + 1)) w62)))) (fun ch w =>
      False)))) (fun ch w => False))) (fun ch w => False)))))))) (PC Try.prog 16 #[.pointer t11, .int .i64 0] w37 (fun v64 w65 => v64 = .tuple #[] ∧ PC Try.prog 17 #[.pointer t15, .int .i64 0] w65 (fun v66 w67 =>
      v66 = .tuple #[] ∧ PC Try.prog 15 #[.pointer t11, .pointer t15] w67 (fun v68 w69 => ∃ (t70 : Bool), v68 = .bool t70 ∧ PIf t70 (PC Try.prog 10 #[] w69 (fun v71 w72 =>
      ∃ (t73 : Bool), v71 = .bool t73 ∧ R (.returned (.bool t73)) w72) (fun ch w => R (.panicked ch) w)) (R (.returned (.bool false)) w69)) (fun ch w => R (.panicked ch) w)) (fun ch w =>
      R (.panicked ch) w)) (fun ch w => R (.panicked ch) w))))) (fun pv w => R (.panicked [{ v := pv, recovered := false }]) w)))) (fun pv w => R (.panicked [{ v := pv, recovered := false }]) w)) (fun pv w =>
      R (.panicked [{ v := pv, recovered := false }]) w))) (fun ch w => R (.panicked ch) w)) (fun ch w => R (.panicked ch) w))) (fun ch w => R (.panicked ch) w)) :
    Calls Try.prog 3 #[.int .i64 n1, .slice l2a l2n l2c] w R :=
  D_calls A_law19_VdiskPlays mixed Try.func3 rfl (Nat.le_of_ble_eq_true (by kernel_rfl)) (by kernel_rfl) (Eq.mp (by kernel_rfl) h)
/-- quayside/quaysidelaw19.VdiskBegins -/
abbrev F_law19_VdiskBegins : Nat := 4
def A_law19_VdiskBegins : Ann := ⟨[(10, [(10, .int .i64 0)]), (37, [(17, .int .i64 0)])], [(21, [(85, .bool false)]), (23, []), (26, []), (31, [])], [40, 44], [(40, ⟨[0, 1, 0, 0, 12, 16, 34, 0, 0, 384, 512, 1088, 2112, 4096, 4096, 28672, 36864, 69632, 131072, 131072, 131072, 1703936, 2228224, 4587520, 8519680, 25296896, 33554432, 100663296, 33554432, 33554432, 838860800, 1107296256, 2315255808, 4328652800, 8623620096, 17179869184, 51539607552, 17179869184, 17179869184, 429496729600, 566935683072, 1185410973696, 17179869184, 4415226380288, 11012296146944, 17609366044672, 35184372224000, 70368744181760], [281474976710655, 281474976710654, 281474976710655, 281474976710655, 281474976710643, 281474976710639, 281474976710621, 281474976710655, 281474976710655, 281474976710271, 281474976710143, 281474976709567, 281474976708607, 281474976706559, 281474976706559, 281474976681983, 281474976673791, 281474976641023, 281474976579583, 281474976579583, 281474976579583, 281474975006719, 281474974482431, 281474972123135, 281474968190975, 281474959802367, 281474943156223, 281474876047359, 281474943156223, 281474943156223, 281474137849855, 281473869414399, 281472661454847, 281470648057855, 281466386644991, 281457796841471, 281423437103103, 281457796841471, 281457796841471, 281045479981055, 280908041027583, 280289565736959, 281457796841471, 277059750330367, 270462680563711, 263865610665983, 246290604486655, 211106232528895], [0, 2, 0, 0, 0, 1, 2, 0, 0, 0, 1, 0, 0, 0, 0, 0, 1, 0, 0, 0, 0, 0, 1, 2, 0, 0, 0, 0, 0, 0, 0, 1, 0, 0, 0, 0, 0, 0, 0, 0, 1, 0, 0, 0, 0, 0, 0, 0]⟩), (44, ⟨[0, 1, 0, 4, 8, 18, 32, 64, 192, 64, 576, 1088, 2368, 4160, 12288, 16384, 49152, 131071], [262143, 262142, 262143, 262139, 262135, 262125, 262111, 262079, 261951, 262079, 261567, 261055, 259775, 257983, 253951, 245759, 212991, 196607], [0, 2, 0, 0, 1, 2, 0, 0, 2, 0, 0, 1, 2, 0, 0, 2, 0, 0]⟩)]⟩
theorem L_law19_VdiskBegins {l1a : Option Addr} {l1n : Nat} {l1c : Nat} {keep2 : Int} {w : World} {R : Ending → World → Prop}
    (h : PC Try.prog 9 #[.slice l1a l1n l1c] w (fun v3 w4 => ∃ (t5 : Bool), v3 = .bool t5 ∧ PIf t5 (PC Try.prog 10 #[] w4 (fun v6 w7 => ∃ (t8 : Bool), v6 = .bool t8 ∧
      R (.returned (.bool t8)) w7) (fun ch w => R (.panicked ch) w)) (PC Try.prog 11 #[.int .i64 1000] w4 (fun v9 w10 => ∃ (t11 : Option Addr), ∃ (t12 : Int), v9 = .tuple #[.pointer t11, .int .i64 t12] ∧
      PIf ((t12 : Int) != 0) (R (.returned (.bool false)) w10) (PRun Try.prog (do eqGuard .eql 25 (.tmp 29) (.const (.pointer none)) (.pointer t11) (.pointer none); binOp .eql 25 (.pointer t11) (.pointer none)) w10 (fun v13 w14 =>
      ∃ (t15 : Bool), v13 = .bool t15 ∧ PIf t15 (R (.returned (.bool false)) w14) (PA w14 (.cells #[.string (⟨#[97]⟩ : ByteArray), .string (⟨#[98]⟩ : ByteArray)] 9) fun w16 =>
      PA w16 (.cells #[.int .i64 0, .int .i64 0] 3) fun w17 => PA w17 (.cells #[.bool false, .bool false] 4) fun w18 => (∃ I19 : Nat → Int → World → Prop, (∃ m20, I19 m20 0 w18) ∧
      ∀ (m20 : Nat) (i22 : Int) (B23 : Nat → Value) (w24 : World), I19 m20 i22 w24 → PIf (decide ((i22 : Int) < ((l1n : Nat) : Int))) ((∃ b25 o26, l1a = some ⟨b25, o26, none⟩ ∧
      (0 : Int) ≤ i22 ∧ i22 < ((l1n : Nat) : Int) ∧ (∃ (t27 : Int), ∃ (t28 : Int), ∃ (t29 : ByteArray), ∃ (t30 : ByteArray), ∃ (t31a : Option Addr) (t31n : Nat) (t31c : Nat), w24.cell? ⟨b25, o26 + Int.toNat i22 * 5, none⟩ = some (.int .i64 t27) ∧
      w24.cell? ⟨b25, o26 + Int.toNat i22 * 5 + 1, none⟩ = some (.int .i64 t28) ∧ w24.cell? ⟨b25, o26 + Int.toNat i22 * 5 + 2, none⟩ = some (.string t29) ∧ w24.cell? ⟨b25, o26 + Int.toNat i22 * 5 + 3, none⟩ = some (.string t30) ∧
      w24.cell? ⟨b25, o26 + Int.toNat i22 * 5 + 4, none⟩ = some (.slice t31a t31n t31c) ∧ PA w24 (.cells #[.int .i64 0, .int .i64 0, .string (⟨#[]⟩ : ByteArray), .string (⟨#[]⟩ : ByteArray), .slice none 0 0] 35) fun w32 =>
      PS w32 ⟨w24.heap.size, 0, none⟩ (.int .i64 t27) fun w33 => PS w33 ⟨w24.heap.size, 0 + 1, none⟩ (.int .i64 t28) fun w34 => PS w34 ⟨w24.heap.size, 0 + 2, none⟩ (.string t29) fun w35 =>
      PS w35 ⟨w24.heap.size, 0 + 3, none⟩ (.string t30) fun w36 => PS w36 ⟨w24.heap.size, 0 + 4, none⟩ (.slice t31a t31n t31c) fun w37 => (∃ (t38 : Int), w37.cell? ⟨w24.heap.size, 0 + 1, none⟩ = some (.int .i64 t38) ∧
      PC Try.prog 18 #[.int .i64 t38, .int .i64 2] w37 (fun v39 w40 => ∃ (t41 : Int), v39 = .int .i64 t41 ∧ (∃ b42 o43, ((some ⟨w14.heap.size, 0, none⟩) : Option Addr) = some ⟨b42, o43, none⟩ ∧
      (0 : Int) ≤ t41 ∧ t41 < ((2 : Nat) : Int) ∧ (∃ (t44 : ByteArray), w40.cell? ⟨b42, o43 + Int.toNat t41, none⟩ = some (.string t44) ∧ PS w40 ⟨w24.heap.size, 0 + 2, none⟩ (.string t44) fun w45 =>
      (∃ b46 o47, ((some ⟨w14.heap.size, 0, none⟩) : Option Addr) = some ⟨b46, o47, none⟩ ∧ (0 : Int) ≤ (IntKind.wrap .i64 (1 - t41)) ∧ (IntKind.wrap .i64 (1 - t41)) < ((2 : Nat) : Int) ∧
      (∃ (t48 : ByteArray), w45.cell? ⟨b46, o47 + Int.toNat (IntKind.wrap .i64 (1 - t41)), none⟩ = some (.string t48) ∧ PS w45 ⟨w24.heap.size, 0 + 3, none⟩ (.string t48) fun w49 =>
      (∃ (t50 : Int), w49.cell? ⟨w24.heap.size, 0, none⟩ = some (.int .i64 t50) ∧ PC Try.prog 18 #[.int .i64 t50, .int .i64 10] w49 (fun v51 w52 => ∃ (t53 : Int), v51 = .int .i64 t53 ∧
      PIf ((t53 : Int) == 8) ((∃ m21, m21 < m20 ∧ I19 m21 (IntKind.wrap .i64 (i22 + 1)) w52)) ((∃ (t54 : Int), ∃ (t55 : Int), ∃ (t56 : ByteArray), ∃ (t57 : ByteArray), ∃ (t58a : Option Addr) (t58n : Nat) (t58c : Nat), w52.cell? ⟨w24.heap.size, 0, none⟩ = some (.int .i64 t54) ∧
      w52.cell? ⟨w24.heap.size, 0 + 1, none⟩ = some (.int .i64 t55) ∧ w52.cell? ⟨w24.heap.size, 0 + 2, none⟩ = some (.string t56) ∧ w52.cell? ⟨w24.heap.size, 0 + 3, none⟩ = some (.string t57) ∧
      w52.cell? ⟨w24.heap.size, 0 + 4, none⟩ = some (.slice t58a t58n t58c) ∧ PC Try.prog 13 #[.pointer t11, .agg #[.int .i64 t54, .int .i64 t55, .string t56, .string t57, .slice t58a t58n t58c]] w52 (fun v59 w60 =>
      ∃ (t61 : Int), v59 = .int .i64 t61 ∧ (∃ (t62 : ByteArray), w60.cell? ⟨w24.heap.size, 0 + 2, none⟩ = some (.string t62) ∧ PC Try.prog 19 #[.pointer t11, .string t62] w60 (fun v63 w64 =>
      ∃ (t65a : Option Addr) (t65n : Nat) (t65c : Nat), v63 = .slice t65a t65n t65c ∧ (∃ J66 : World → Prop, ((∃ J67 : Bool → World → Prop, (PIf ((t53 : Int) == 0) (PIf ((t61 : Int) == 0) (J67 true w64) (PIf ((t53 : Int) == 5) (J67 ((t61 : Int) == 0) w64) (J67 false w64))) (PIf ((t53 : Int) == 5) (J67 ((t61 : Int) == 0) w64) (J67 false w64))) ∧
      ∀ (t68 : Bool) (B69 : Nat → Value) (w70 : World), J67 t68 w70 → PIf t68 ((∃ b71 o72, ((some ⟨w16.heap.size, 0, none⟩) : Option Addr) = some ⟨b71, o72, none⟩ ∧
      (0 : Int) ≤ t41 ∧ t41 < ((2 : Nat) : Int) ∧ PS w70 ⟨b71, o72 + Int.toNat t41, none⟩ (.int .i64 0) fun w73 => (∃ b74 o75, ((some ⟨w17.heap.size, 0, none⟩) : Option Addr) = some ⟨b74, o75, none⟩ ∧
      (0 : Int) ≤ t41 ∧ t41 < ((2 : Nat) : Int) ∧ PS w73 ⟨b74, o75 + Int.toNat t41, none⟩ (.bool false) fun w76 => J66  w76))) (J66  w70))) ∧ ∀  (B77 : Nat → Value) (w78 : World), J66  w78 → (∃ J79 : World → Prop, (PIf ((t53 : Int) == 3) (PIf ((t61 : Int) == 0) ((∃ b80 o81, ((some ⟨w16.heap.size, 0, none⟩) : Option Addr) = some ⟨b80, o81, none⟩ ∧
      (0 : Int) ≤ t41 ∧ t41 < ((2 : Nat) : Int) ∧ PS w78 ⟨b80, o81 + Int.toNat t41, none⟩ (.int .i64 ((t65n : Nat) : Int)) fun w82 => (∃ b83 o84, ((some ⟨w17.heap.size, 0, none⟩) : Option Addr) = some ⟨b83, o84, none⟩ ∧
      (0 : Int) ≤ t41 ∧ t41 < ((2 : Nat) : Int) ∧ PS w82 ⟨b83, o84 + Int.toNat t41, none⟩ (.bool true) fun w85 => J79  w85))) (J79  w78)) (PIf ((t53 : Int) == 6) (PIf ((t61 : Int) == 0) ((∃ b86 o87, ((some ⟨w16.heap.size, 0, none⟩) : Option Addr) = some ⟨b86, o87, none⟩ ∧
      (0 : Int) ≤ t41 ∧ t41 < ((2 : Nat) : Int) ∧ PS w78 ⟨b86, o87 + Int.toNat t41, none⟩ (.int .i64 ((t65n : Nat) : Int)) fun w88 => (∃ b89 o90, ((some ⟨w17.heap.size, 0, none⟩) : Option Addr) = some ⟨b89, o90, none⟩ ∧
      (0 : Int) ≤ t41 ∧ t41 < ((2 : Nat) : Int) ∧ PS w88 ⟨b89, o90 + Int.toNat t41, none⟩ (.bool true) fun w91 => J79  w91))) (J79  w78)) (J79  w78))) ∧ ∀  (B92 : Nat → Value) (w93 : World), J79  w93 → (∃ J94 : World → Prop, (PIf ((t53 : Int) == 4) (PIf ((t61 : Int) == 0) ((∃ b95 o96, ((some ⟨w16.heap.size, 0, none⟩) : Option Addr) = some ⟨b95, o96, none⟩ ∧
      (0 : Int) ≤ t41 ∧ t41 < ((2 : Nat) : Int) ∧ (∃ (t97 : Int), w93.cell? ⟨b95, o96 + Int.toNat t41, none⟩ = some (.int .i64 t97) ∧ (∃ b98 o99, ((some ⟨w16.heap.size, 0, none⟩) : Option Addr) = some ⟨b98, o99, none⟩ ∧
      (0 : Int) ≤ (IntKind.wrap .i64 (1 - t41)) ∧ (IntKind.wrap .i64 (1 - t41)) < ((2 : Nat) : Int) ∧ PS w93 ⟨b98, o99 + Int.toNat (IntKind.wrap .i64 (1 - t41)), none⟩ (.int .i64 t97) fun w100 =>
      (∃ b101 o102, ((some ⟨w17.heap.size, 0, none⟩) : Option Addr) = some ⟨b101, o102, none⟩ ∧ (0 : Int) ≤ (IntKind.wrap .i64 (1 - t41)) ∧ (IntKind.wrap .i64 (1 - t41)) < ((2 : Nat) : Int) ∧
      PS w100 ⟨b101, o102 + Int.toNat (IntKind.wrap .i64 (1 - t41)), none⟩ (.bool true) fun w103 => (∃ b104 o105, ((some ⟨w16.heap.size, 0, none⟩) : Option Addr) = some ⟨b104, o105, none⟩ ∧
      (0 : Int) ≤ t41 ∧ t41 < ((2 : Nat) : Int) ∧ PS w103 ⟨b104, o105 + Int.toNat t41, none⟩ (.int .i64 0) fun w106 => (∃ b107 o108, ((some ⟨w17.heap.size, 0, none⟩) : Option Addr) = some ⟨b107, o108, none⟩ ∧
      (0 : Int) ≤ t41 ∧ t41 < ((2 : Nat) : Int) ∧ PS w106 ⟨b107, o108 + Int.toNat t41, none⟩ (.bool false) fun w109 => J94  w109))))))) (J94  w93)) (J94  w93)) ∧
      ∀  (B110 : Nat → Value) (w111 : World), J94  w111 → PIf ((t53 : Int) == 7) (PC Try.prog 19 #[.pointer t11, .string (⟨#[97]⟩ : ByteArray)] w111 (fun v112 w113 =>
      ∃ (t114a : Option Addr) (t114n : Nat) (t114c : Nat), v112 = .slice t114a t114n t114c ∧ (∃ b115 o116, ((some ⟨w16.heap.size, 0, none⟩) : Option Addr) = some ⟨b115, o116, none⟩ ∧
      (0 : Int) ≤ 0 ∧ 0 < ((2 : Nat) : Int) ∧ PS w113 ⟨b115, o116 + Int.toNat 0, none⟩ (.int .i64 ((t114n : Nat) : Int)) fun w117 => PC Try.prog 19 #[.pointer t11, .string (⟨#[98]⟩ : ByteArray)] w117 (fun v118 w119 =>
      ∃ (t120a : Option Addr) (t120n : Nat) (t120c : Nat), v118 = .slice t120a t120n t120c ∧ (∃ b121 o122, ((some ⟨w16.heap.size, 0, none⟩) : Option Addr) = some ⟨b121, o122, none⟩ ∧
      (0 : Int) ≤ 1 ∧ 1 < ((2 : Nat) : Int) ∧ PS w119 ⟨b121, o122 + Int.toNat 1, none⟩ (.int .i64 ((t120n : Nat) : Int)) fun w123 => (∃ m21, m21 < m20 ∧ I19 m21 (IntKind.wrap .i64 (i22 + 1)) w123))) (fun ch w =>
      R (.panicked ch) w))) (fun ch w => R (.panicked ch) w)) ((∃ m21, m21 < m20 ∧ I19 m21 (IntKind.wrap .i64 (i22 + 1)) w111)))))) (fun ch w => R (.panicked ch) w))) (fun ch w =>
      R (.panicked ch) w)))) (fun ch w => R (.panicked ch) w))))))) (fun ch w => R (.panicked ch) w))))) (PC Try.prog 19 #[.pointer t11, .string (⟨#[97]⟩ : ByteArray)] w24 (fun v124 w125 =>
      ∃ (t126a : Option Addr) (t126n : Nat) (t126c : Nat), v124 = .slice t126a t126n t126c ∧ PC Try.prog 19 #[.pointer t11, .string (⟨#[98]⟩ : ByteArray)] w125 (fun v127 w128 =>
      ∃ (t129a : Option Addr) (t129n : Nat) (t129c : Nat), v127 = .slice t129a t129n t129c ∧ PA w128 (.cells #[.slice t126a t126n t126c, .slice t129a t129n t129c] 33) fun w130 =>
      PC Try.prog 16 #[.pointer t11, .int .i64 keep2] w130 (fun v131 w132 => v131 = .tuple #[] ∧ (∃ I133 : Nat → Int → World → Prop, (∃ m134, I133 m134 0 w132) ∧
      ∀ (m134 : Nat) (k136 : Int) (B137 : Nat → Value) (w138 : World), I133 m134 k136 w138 → PIf (decide ((k136 : Int) < 2)) ((∃ b139 o140, ((some ⟨w14.heap.size, 0, none⟩) : Option Addr) = some ⟨b139, o140, none⟩ ∧
      (0 : Int) ≤ k136 ∧ k136 < ((2 : Nat) : Int) ∧ (∃ (t141 : ByteArray), w138.cell? ⟨b139, o140 + Int.toNat k136, none⟩ = some (.string t141) ∧ PC Try.prog 19 #[.pointer t11, .string t141] w138 (fun v142 w143 =>
      ∃ (t144a : Option Addr) (t144n : Nat) (t144c : Nat), v142 = .slice t144a t144n t144c ∧ (∀ w146, Drew w143 w146 → ∃ S147 : Nat → Prop, (∃ b148 o149, ((some ⟨w14.heap.size, 0, none⟩) : Option Addr) = some ⟨b148, o149, none⟩ ∧
      (0 : Int) ≤ k136 ∧ k136 < ((2 : Nat) : Int) ∧ (¬ S147 b148 ∧ (∃ (t150 : ByteArray), w146.cell? ⟨b148, o149 + Int.toNat k136, none⟩ = some (.string t150) ∧
      (∃ b151 o152, ((some ⟨w17.heap.size, 0, none⟩) : Option Addr) = some ⟨b151, o152, none⟩ ∧ (0 : Int) ≤ k136 ∧ k136 < ((2 : Nat) : Int) ∧ (¬ S147 b151 ∧
      (∃ (t153 : Bool), w146.cell? ⟨b151, o152 + Int.toNat k136, none⟩ = some (.bool t153) ∧ PC Try.prog 21 #[.pointer t11] w146 (fun v154 w155 => ∃ (t156a : Option Addr) (t156n : Nat) (t156c : Nat), v154 = .slice t156a t156n t156c ∧
      (Keep S147 w146 w155 ∧ PC Try.prog 20 #[.slice t156a t156n t156c, .string t150] w155 (fun v157 w158 => ∃ (t159 : Bool), v157 = .bool t159 ∧ (Keep S147 w155 w158 ∧
      PIf (!(t159 == t153)) (R (.returned (.bool false)) w158) ((∃ b160 o161, ((some ⟨w17.heap.size, 0, none⟩) : Option Addr) = some ⟨b160, o161, none⟩ ∧ (0 : Int) ≤ k136 ∧
      k136 < ((2 : Nat) : Int) ∧ (∃ (t162 : Bool), w158.cell? ⟨b160, o161 + Int.toNat k136, none⟩ = some (.bool t162) ∧ PIf t162 ((∃ b163 o164, ((some ⟨w128.heap.size, 0, none⟩) : Option Addr) = some ⟨b163, o164, none⟩ ∧
      (0 : Int) ≤ k136 ∧ k136 < ((2 : Nat) : Int) ∧ (∃ (t165a : Option Addr) (t165n : Nat) (t165c : Nat), w158.cell? ⟨b163, o164 + Int.toNat k136, none⟩ = some (.slice t165a t165n t165c) ∧
      PC Try.prog 22 #[.slice t144a t144n t144c, .slice t165a t165n t165c] w158 (fun v166 w167 => ∃ (t168 : Bool), v166 = .bool t168 ∧ (Keep S147 w158 w167 ∧
      PIf (!t168) (R (.returned (.bool false)) w167) ((∃ b169 o170, ((some ⟨w16.heap.size, 0, none⟩) : Option Addr) = some ⟨b169, o170, none⟩ ∧ (0 : Int) ≤ k136 ∧
      k136 < ((2 : Nat) : Int) ∧ (∃ (t171 : Int), w167.cell? ⟨b169, o170 + Int.toNat k136, none⟩ = some (.int .i64 t171) ∧ PIf (decide ((((t144n : Nat) : Int) : Int) < t171)) (R (.returned (.bool false)) w167) ((∃ b172 o173, ((some ⟨w16.heap.size, 0, none⟩) : Option Addr) = some ⟨b172, o173, none⟩ ∧
      (0 : Int) ≤ k136 ∧ k136 < ((2 : Nat) : Int) ∧ (∃ (t174 : Int), w167.cell? ⟨b172, o173 + Int.toNat k136, none⟩ = some (.int .i64 t174) ∧ PIf (decide (((IntKind.wrap .i64 (((t144n : Nat) : Int) - t174)) : Int) > (if keep2 > 0 then keep2 else 0))) (R (.returned (.bool false)) w167) ((∃ b175 o176, ((some ⟨w128.heap.size, 0, none⟩) : Option Addr) = some ⟨b175, o176, none⟩ ∧
      (0 : Int) ≤ k136 ∧ k136 < ((2 : Nat) : Int) ∧ PS w167 ⟨b175, o176 + Int.toNat k136, none⟩ (.slice t144a t144n t144c) fun w177 => (∃ m135, m135 < m134 ∧
      I133 m135 (IntKind.wrap .i64 (k136 + 1)) w177))))))))))) (fun ch w => False)))) ((∃ b178 o179, ((some ⟨w128.heap.size, 0, none⟩) : Option Addr) = some ⟨b178, o179, none⟩ ∧
      (0 : Int) ≤ k136 ∧ k136 < ((2 : Nat) : Int) ∧ PS w158 ⟨b178, o179 + Int.toNat k136, none⟩ (.slice t144a t144n t144c) fun w180 => (∃ m135, m135 < m134 ∧
      I133 m135 (IntKind.wrap .i64 (k136 + 1)) w180)))))))) (fun ch w => False))) (fun ch w => False))))))))) (fun ch w => R (.panicked ch) w)))) (PC Try.prog 16 #[.pointer t11, .int .i64 0] w138 (fun v181 w182 =>
      v181 = .tuple #[] ∧ (∀ w184, Drew w182 w184 → ∃ S185 : Nat → Prop, (∃ b186 o187, ((some ⟨w128.heap.size, 0, none⟩) : Option Addr) = some ⟨b186, o187, none⟩ ∧
      (0 : Int) ≤ 0 ∧ 0 < ((2 : Nat) : Int) ∧ (¬ S185 b186 ∧ (∃ (t188a : Option Addr) (t188n : Nat) (t188c : Nat), w184.cell? ⟨b186, o187 + Int.toNat 0, none⟩ = some (.slice t188a t188n t188c) ∧
      PC Try.prog 19 #[.pointer t11, .string (⟨#[97]⟩ : ByteArray)] w184 (fun v189 w190 => ∃ (t191a : Option Addr) (t191n : Nat) (t191c : Nat), v189 = .slice t191a t191n t191c ∧
      (Keep S185 w184 w190 ∧ PC Try.prog 23 #[.slice t191a t191n t191c, .slice t188a t188n t188c] w190 (fun v192 w193 => ∃ (t194 : Bool), v192 = .bool t194 ∧
      (Keep S185 w190 w193 ∧ PIf t194 ((∃ b195 o196, ((some ⟨w128.heap.size, 0, none⟩) : Option Addr) = some ⟨b195, o196, none⟩ ∧ (0 : Int) ≤ 1 ∧ 1 < ((2 : Nat) : Int) ∧
      (¬ S185 b195 ∧ (∃ (t197a : Option Addr) (t197n : Nat) (t197c : Nat), w193.cell? ⟨b195, o196 + Int.toNat 1, none⟩ = some (.slice t197a t197n t197c) ∧ PC Try.prog 19 #[.pointer t11, .string (⟨#[98]⟩ : ByteArray)] w193 (fun v198 w199 =>
      ∃ (t200a : Option Addr) (t200n : Nat) (t200c : Nat), v198 = .slice t200a t200n t200c ∧ (Keep S185 w193 w199 ∧ PC Try.prog 23 #[.slice t200a t200n t200c, .slice t197a t197n t197c] w199 (fun v201 w202 =>
      ∃ (t203 : Bool), v201 = .bool t203 ∧ (Keep S185 w199 w202 ∧ PIf t203 (PC Try.prog 10 #[] w202 (fun v204 w205 => ∃ (t206 : Bool), v204 = .bool t206 ∧ (Keep S185 w202 w205 ∧
      R (.returned (.bool t206)) w205)) (fun ch w => False)) (R (.returned (.bool false)) w202))) (fun ch w => False))) (fun ch w => False))))) (R (.returned (.bool false)) w193))) (fun ch w =>
      False))) (fun ch w => False)))))) (fun ch w => R (.panicked ch) w)))) (fun ch w => R (.panicked ch) w)) (fun ch w => R (.panicked ch) w)) (fun ch w =>
      R (.panicked ch) w))))) (fun pv w => R (.panicked [{ v := pv, recovered := false }]) w))) (fun ch w => R (.panicked ch) w))) (fun ch w => R (.panicked ch) w)) :
    Calls Try.prog 4 #[.slice l1a l1n l1c, .int .i64 keep2] w R :=
  D_calls A_law19_VdiskBegins mixed Try.func4 rfl (Nat.le_of_ble_eq_true (by kernel_rfl)) (by kernel_rfl) (Eq.mp (by kernel_rfl) h)
/-- quayside/quaysidelaw19.VdiskFuse -/
abbrev F_law19_VdiskFuse : Nat := 5
def A_law19_VdiskFuse : Ann := ⟨[(11, [(9, .int .i64 0), (10, .int .i64 0)]), (31, [(16, .int .i64 0)])], [], [33], [(33, ⟨[0, 0, 0, 6, 8, 17, 0, 0, 0, 384, 512, 1120, 2080, 4096], [16383, 16383, 16383, 16377, 16375, 16366, 16383, 16383, 16383, 15999, 15871, 15295, 14303, 12287], [0, 0, 0, 0, 1, 2, 0, 0, 0, 0, 1, 2, 2, 0]⟩)]⟩
theorem L_law19_VdiskFuse {l1a : Option Addr} {l1n : Nat} {l1c : Nat} {n2 : Int} {w : World} {R : Ending → World → Prop}
    (h : PC Try.prog 9 #[.slice l1a l1n l1c] w (fun v3 w4 => ∃ (t5 : Bool), v3 = .bool t5 ∧ PIf t5 (PC Try.prog 10 #[] w4 (fun v6 w7 => ∃ (t8 : Bool), v6 = .bool t8 ∧
      R (.returned (.bool t8)) w7) (fun ch w => R (.panicked ch) w)) (PC Try.prog 11 #[.int .i64 1000] w4 (fun v9 w10 => ∃ (t11 : Option Addr), ∃ (t12 : Int), v9 = .tuple #[.pointer t11, .int .i64 t12] ∧
      PC Try.prog 11 #[.int .i64 1000] w10 (fun v13 w14 => ∃ (t15 : Option Addr), ∃ (t16 : Int), v13 = .tuple #[.pointer t15, .int .i64 t16] ∧ PIf ((t12 : Int) != 0) (R (.returned (.bool false)) w14) (PIf ((t16 : Int) != 0) (R (.returned (.bool false)) w14) (PRun Try.prog (do eqGuard .eql 25 (.tmp 35) (.const (.pointer none)) (.pointer t11) (.pointer none); binOp .eql 25 (.pointer t11) (.pointer none)) w14 (fun v17 w18 =>
      ∃ (t19 : Bool), v17 = .bool t19 ∧ PIf t19 (R (.returned (.bool false)) w18) (PRun Try.prog (do eqGuard .eql 25 (.tmp 39) (.const (.pointer none)) (.pointer t15) (.pointer none); binOp .eql 25 (.pointer t15) (.pointer none)) w18 (fun v20 w21 =>
      ∃ (t22 : Bool), v20 = .bool t22 ∧ PIf t22 (R (.returned (.bool false)) w21) (PC Try.prog 18 #[.int .i64 n2, .int .i64 110] w21 (fun v23 w24 => ∃ (t25 : Int), v23 = .int .i64 t25 ∧
      PC Try.prog 24 #[.pointer t11, .int .i64 t25] w24 (fun v26 w27 => v26 = .tuple #[] ∧ (∃ I28 : Nat → Int → Int → World → Prop, (∃ m29, I28 m29 0 0 w27) ∧
      ∀ (m29 : Nat) (writes31 : Int) (i32 : Int) (B33 : Nat → Value) (w34 : World), I28 m29 writes31 i32 w34 → PIf (decide ((i32 : Int) < ((l1n : Nat) : Int))) ((∃ b35 o36, l1a = some ⟨b35, o36, none⟩ ∧
      (0 : Int) ≤ i32 ∧ i32 < ((l1n : Nat) : Int) ∧ (∃ (t37 : Int), w34.cell? ⟨b35, o36 + Int.toNat i32 * 5, none⟩ = some (.int .i64 t37) ∧ PC Try.prog 18 #[.int .i64 t37, .int .i64 10] w34 (fun v38 w39 =>
      ∃ (t40 : Int), v38 = .int .i64 t40 ∧ PIf (decide ((t40 : Int) > 6)) ((∃ m30, m30 < m29 ∧ I28 m30 writes31 (IntKind.wrap .i64 (i32 + 1)) w39)) ((∃ b41 o42, l1a = some ⟨b41, o42, none⟩ ∧
      (0 : Int) ≤ i32 ∧ i32 < ((l1n : Nat) : Int) ∧ (∃ (t43 : Int), ∃ (t44 : Int), ∃ (t45 : ByteArray), ∃ (t46 : ByteArray), ∃ (t47a : Option Addr) (t47n : Nat) (t47c : Nat), w39.cell? ⟨b41, o42 + Int.toNat i32 * 5, none⟩ = some (.int .i64 t43) ∧
      w39.cell? ⟨b41, o42 + Int.toNat i32 * 5 + 1, none⟩ = some (.int .i64 t44) ∧ w39.cell? ⟨b41, o42 + Int.toNat i32 * 5 + 2, none⟩ = some (.string t45) ∧ w39.cell? ⟨b41, o42 + Int.toNat i32 * 5 + 3, none⟩ = some (.string t46) ∧
      w39.cell? ⟨b41, o42 + Int.toNat i32 * 5 + 4, none⟩ = some (.slice t47a t47n t47c) ∧ PC Try.prog 13 #[.pointer t11, .agg #[.int .i64 t43, .int .i64 t44, .string t45, .string t46, .slice t47a t47n t47c]] w39 (fun v48 w49 =>
      ∃ (t50 : Int), v48 = .int .i64 t50 ∧ PIf (decide (((IntKind.wrap .i64 (writes31 + 1)) : Int) ≤ t25)) ((∃ b51 o52, l1a = some ⟨b51, o52, none⟩ ∧ (0 : Int) ≤ i32 ∧
      i32 < ((l1n : Nat) : Int) ∧ (∃ (t53 : Int), ∃ (t54 : Int), ∃ (t55 : ByteArray), ∃ (t56 : ByteArray), ∃ (t57a : Option Addr) (t57n : Nat) (t57c : Nat), w49.cell? ⟨b51, o52 + Int.toNat i32 * 5, none⟩ = some (.int .i64 t53) ∧
      w49.cell? ⟨b51, o52 + Int.toNat i32 * 5 + 1, none⟩ = some (.int .i64 t54) ∧ w49.cell? ⟨b51, o52 + Int.toNat i32 * 5 + 2, none⟩ = some (.string t55) ∧ w49.cell? ⟨b51, o52 + Int.toNat i32 * 5 + 3, none⟩ = some (.string t56) ∧
      w49.cell? ⟨b51, o52 + Int.toNat i32 * 5 + 4, none⟩ = some (.slice t57a t57n t57c) ∧ PC Try.prog 13 #[.pointer t15, .agg #[.int .i64 t53, .int .i64 t54, .string t55, .string t56, .slice t57a t57n t57c]] w49 (fun v58 w59 =>
      ∃ (t60 : Int), v58 = .int .i64 t60 ∧ PIf ((t50 : Int) != t60) (R (.returned (.bool false)) w59) (PC Try.prog 25 #[.pointer t11] w59 (fun v61 w62 => ∃ (t63 : Bool), v61 = .bool t63 ∧
      PIf t63 (R (.returned (.bool false)) w62) ((∃ m30, m30 < m29 ∧ I28 m30 (IntKind.wrap .i64 (writes31 + 1)) (IntKind.wrap .i64 (i32 + 1)) w62))) (fun ch w =>
      R (.panicked ch) w))) (fun ch w => R (.panicked ch) w)))) (PIf ((t50 : Int) != 15) (R (.returned (.bool false)) w49) (PC Try.prog 25 #[.pointer t11] w49 (fun v64 w65 =>
      ∃ (t66 : Bool), v64 = .bool t66 ∧ PIf (!t66) (R (.returned (.bool false)) w65) ((∃ m30, m30 < m29 ∧ I28 m30 (IntKind.wrap .i64 (writes31 + 1)) (IntKind.wrap .i64 (i32 + 1)) w65))) (fun ch w =>
      R (.panicked ch) w)))) (fun ch w => R (.panicked ch) w))))) (fun ch w => R (.panicked ch) w)))) (PC Try.prog 26 #[.pointer t11, .string (⟨#[120]⟩ : ByteArray)] w34 (fun v67 w68 =>
      ∃ (t69a : Option Addr) (t69n : Nat) (t69c : Nat), ∃ (t70 : Int), v67 = .tuple #[.slice t69a t69n t69c, .int .i64 t70] ∧ PC Try.prog 25 #[.pointer t11] w68 (fun v71 w72 =>
      ∃ (t73 : Bool), v71 = .bool t73 ∧ PIf (!(((t70 : Int) == 15) == t73)) (R (.returned (.bool false)) w72) (PC Try.prog 27 #[.pointer t11] w72 (fun v74 w75 =>
      ∃ (t76 : Int), v74 = .int .i64 t76 ∧ PC Try.prog 27 #[.pointer t15] w75 (fun v77 w78 => ∃ (t79 : Int), v77 = .int .i64 t79 ∧ PIf ((t76 : Int) != t79) (R (.returned (.bool false)) w78) (PC Try.prog 21 #[.pointer t11] w78 (fun v80 w81 =>
      ∃ (t82a : Option Addr) (t82n : Nat) (t82c : Nat), v80 = .slice t82a t82n t82c ∧ PC Try.prog 21 #[.pointer t15] w81 (fun v83 w84 => ∃ (t85a : Option Addr) (t85n : Nat) (t85c : Nat), v83 = .slice t85a t85n t85c ∧
      PC Try.prog 28 #[.slice t82a t82n t82c, .slice t85a t85n t85c] w84 (fun v86 w87 => ∃ (t88 : Bool), v86 = .bool t88 ∧ PIf (!t88) (R (.returned (.bool false)) w87) (PC Try.prog 16 #[.pointer t11, .int .i64 5] w87 (fun v89 w90 =>
      v89 = .tuple #[] ∧ PC Try.prog 16 #[.pointer t15, .int .i64 5] w90 (fun v91 w92 => v91 = .tuple #[] ∧ PC Try.prog 21 #[.pointer t15] w92 (fun v93 w94 =>
      ∃ (t95a : Option Addr) (t95n : Nat) (t95c : Nat), v93 = .slice t95a t95n t95c ∧ PC Try.prog 25 #[.pointer t11] w94 (fun v96 w97 => ∃ (t98 : Bool), v96 = .bool t98 ∧
      PIf t98 (R (.returned (.bool false)) w97) (PC Try.prog 21 #[.pointer t11] w97 (fun v99 w100 => ∃ (t101a : Option Addr) (t101n : Nat) (t101c : Nat), v99 = .slice t101a t101n t101c ∧
      PC Try.prog 28 #[.slice t101a t101n t101c, .slice t95a t95n t95c] w100 (fun v102 w103 => ∃ (t104 : Bool), v102 = .bool t104 ∧ PIf (!t104) (R (.returned (.bool false)) w103) ((∃ I105 : Nat → Int → World → Prop, (∃ m106, I105 m106 0 w103) ∧
      ∀ (m106 : Nat) (i108 : Int) (B109 : Nat → Value) (w110 : World), I105 m106 i108 w110 → PIf (decide ((i108 : Int) < ((t95n : Nat) : Int))) ((∀ w112, Drew w110 w112 → ∃ S113 : Nat → Prop, (∃ b114 o115, t95a = some ⟨b114, o115, none⟩ ∧
      (0 : Int) ≤ i108 ∧ i108 < ((t95n : Nat) : Int) ∧ (∃ (t116 : ByteArray), w112.cell? ⟨b114, o115 + Int.toNat i108, none⟩ = some (.string t116) ∧ (∃ b117 o118, t95a = some ⟨b117, o118, none⟩ ∧
      (0 : Int) ≤ i108 ∧ i108 < ((t95n : Nat) : Int) ∧ (¬ S113 b117 ∧ (∃ (t119 : ByteArray), w112.cell? ⟨b117, o118 + Int.toNat i108, none⟩ = some (.string t119) ∧
      PC Try.prog 19 #[.pointer t11, .string t116] w112 (fun v120 w121 => ∃ (t122a : Option Addr) (t122n : Nat) (t122c : Nat), v120 = .slice t122a t122n t122c ∧
      (Keep S113 w112 w121 ∧ PC Try.prog 19 #[.pointer t15, .string t119] w121 (fun v123 w124 => ∃ (t125a : Option Addr) (t125n : Nat) (t125c : Nat), v123 = .slice t125a t125n t125c ∧
      (Keep S113 w121 w124 ∧ PC Try.prog 23 #[.slice t122a t122n t122c, .slice t125a t125n t125c] w124 (fun v126 w127 => ∃ (t128 : Bool), v126 = .bool t128 ∧
      (Keep S113 w124 w127 ∧ PIf (!t128) (R (.returned (.bool false)) w127) ((∃ m107, m107 < m106 ∧ I105 m107 (IntKind.wrap .i64 (i108 + 1)) w127)))) (fun ch w =>
      False))) (fun ch w => False))) (fun ch w => False)))))))) (PC Try.prog 29 #[.pointer t11, .string (⟨#[110, 101, 119]⟩ : ByteArray)] w110 (fun v129 w130 =>
      ∃ (t131 : Int), v129 = .int .i64 t131 ∧ PIf ((t131 : Int) != 15) (PC Try.prog 10 #[] w130 (fun v132 w133 => ∃ (t134 : Bool), v132 = .bool t134 ∧ R (.returned (.bool t134)) w133) (fun ch w =>
      R (.panicked ch) w)) (R (.returned (.bool false)) w130)) (fun ch w => R (.panicked ch) w))))) (fun ch w => R (.panicked ch) w)) (fun ch w => R (.panicked ch) w))) (fun ch w =>
      R (.panicked ch) w)) (fun ch w => R (.panicked ch) w)) (fun ch w => R (.panicked ch) w)) (fun ch w => R (.panicked ch) w))) (fun ch w => R (.panicked ch) w)) (fun ch w =>
      R (.panicked ch) w)) (fun ch w => R (.panicked ch) w))) (fun ch w => R (.panicked ch) w)) (fun ch w => R (.panicked ch) w))) (fun ch w => R (.panicked ch) w)) (fun ch w =>
      R (.panicked ch) w)))) (fun ch w => R (.panicked ch) w)) (fun ch w => R (.panicked ch) w))) (fun pv w => R (.panicked [{ v := pv, recovered := false }]) w))) (fun pv w =>
      R (.panicked [{ v := pv, recovered := false }]) w)))) (fun ch w => R (.panicked ch) w)) (fun ch w => R (.panicked ch) w))) (fun ch w => R (.panicked ch) w)) :
    Calls Try.prog 5 #[.slice l1a l1n l1c, .int .i64 n2] w R :=
  D_calls A_law19_VdiskFuse mixed Try.func5 rfl (Nat.le_of_ble_eq_true (by kernel_rfl)) (by kernel_rfl) (Eq.mp (by kernel_rfl) h)
/-- quayside/quaysidelaw19.VdiskRoom -/
abbrev F_law19_VdiskRoom : Nat := 6
def A_law19_VdiskRoom : Ann := ⟨[(8, [(7, .int .i64 0)]), (18, [(12, .int .i64 0), (13, .int .i64 0)])], [(16, []), (22, [])], [], []⟩
theorem L_law19_VdiskRoom {n1 : Int} {l2a : Option Addr} {l2n : Nat} {l2c : Nat} {w : World} {R : Ending → World → Prop}
    (h : PC Try.prog 9 #[.slice l2a l2n l2c] w (fun v3 w4 => ∃ (t5 : Bool), v3 = .bool t5 ∧ PIf t5 (PC Try.prog 10 #[] w4 (fun v6 w7 => ∃ (t8 : Bool), v6 = .bool t8 ∧
      R (.returned (.bool t8)) w7) (fun ch w => R (.panicked ch) w)) (PC Try.prog 18 #[.int .i64 n1, .int .i64 500] w4 (fun v9 w10 => ∃ (t11 : Int), v9 = .int .i64 t11 ∧
      PC Try.prog 11 #[.int .i64 (IntKind.wrap .i64 (64 + t11))] w10 (fun v12 w13 => ∃ (t14 : Option Addr), ∃ (t15 : Int), v12 = .tuple #[.pointer t14, .int .i64 t15] ∧
      PIf ((t15 : Int) != 0) (R (.returned (.bool false)) w13) (PRun Try.prog (do eqGuard .eql 25 (.tmp 28) (.const (.pointer none)) (.pointer t14) (.pointer none); binOp .eql 25 (.pointer t14) (.pointer none)) w13 (fun v16 w17 =>
      ∃ (t18 : Bool), v16 = .bool t18 ∧ PIf t18 (R (.returned (.bool false)) w17) ((∃ I19 : Nat → Int → World → Prop, (∃ m20, I19 m20 0 w17) ∧ ∀ (m20 : Nat) (i22 : Int) (B23 : Nat → Value) (w24 : World), I19 m20 i22 w24 → PIf (decide ((i22 : Int) < ((l2n : Nat) : Int))) (PC Try.prog 21 #[.pointer t14] w24 (fun v25 w26 =>
      ∃ (t27a : Option Addr) (t27n : Nat) (t27c : Nat), v25 = .slice t27a t27n t27c ∧ PC Try.prog 27 #[.pointer t14] w26 (fun v28 w29 => ∃ (t30 : Int), v28 = .int .i64 t30 ∧
      (∃ b31 o32, l2a = some ⟨b31, o32, none⟩ ∧ (0 : Int) ≤ i22 ∧ i22 < ((l2n : Nat) : Int) ∧ (∃ (t33 : Int), ∃ (t34 : Int), ∃ (t35 : ByteArray), ∃ (t36 : ByteArray), ∃ (t37a : Option Addr) (t37n : Nat) (t37c : Nat), w29.cell? ⟨b31, o32 + Int.toNat i22 * 5, none⟩ = some (.int .i64 t33) ∧
      w29.cell? ⟨b31, o32 + Int.toNat i22 * 5 + 1, none⟩ = some (.int .i64 t34) ∧ w29.cell? ⟨b31, o32 + Int.toNat i22 * 5 + 2, none⟩ = some (.string t35) ∧ w29.cell? ⟨b31, o32 + Int.toNat i22 * 5 + 3, none⟩ = some (.string t36) ∧
      w29.cell? ⟨b31, o32 + Int.toNat i22 * 5 + 4, none⟩ = some (.slice t37a t37n t37c) ∧ PC Try.prog 13 #[.pointer t14, .agg #[.int .i64 t33, .int .i64 t34, .string t35, .string t36, .slice t37a t37n t37c]] w29 (fun v38 w39 =>
      ∃ (t40 : Int), v38 = .int .i64 t40 ∧ PC Try.prog 21 #[.pointer t14] w39 (fun v41 w42 => ∃ (t43a : Option Addr) (t43n : Nat) (t43c : Nat), v41 = .slice t43a t43n t43c ∧
      (∃ J44 : World → Prop, (PIf ((t40 : Int) != 0) (PC Try.prog 28 #[.slice t27a t27n t27c, .slice t43a t43n t43c] w42 (fun v45 w46 => ∃ (t47 : Bool), v45 = .bool t47 ∧
      PIf (!t47) (R (.returned (.bool false)) w46) (PC Try.prog 27 #[.pointer t14] w46 (fun v48 w49 => ∃ (t50 : Int), v48 = .int .i64 t50 ∧ PIf ((t50 : Int) != t30) (R (.returned (.bool false)) w49) (J44  w49)) (fun ch w =>
      R (.panicked ch) w))) (fun ch w => R (.panicked ch) w)) (J44  w42)) ∧ ∀  (B51 : Nat → Value) (w52 : World), J44  w52 → (∃ I53 : Nat → Int → Int → World → Prop, (∃ m54, I53 m54 0 0 w52) ∧
      ∀ (m54 : Nat) (sum56 : Int) (k57 : Int) (B58 : Nat → Value) (w59 : World), I53 m54 sum56 k57 w59 → PIf (decide ((k57 : Int) < ((t43n : Nat) : Int))) ((∃ J60 : World → Prop, ((∃ b62 o63, t43a = some ⟨b62, o63, none⟩ ∧
      (0 : Int) ≤ k57 ∧ k57 < ((t43n : Nat) : Int) ∧ (∃ (t64 : ByteArray), w59.cell? ⟨b62, o63 + Int.toNat k57, none⟩ = some (.string t64) ∧ PIf (decide ((((ByteArray.size t64 : Nat) : Int) : Int) < 1)) ((∀ w61, Drew w59 w61 → R (.returned (.bool false)) w61)) ((∃ b65 o66, t43a = some ⟨b65, o66, none⟩ ∧
      (0 : Int) ≤ k57 ∧ k57 < ((t43n : Nat) : Int) ∧ (∃ (t67 : ByteArray), w59.cell? ⟨b65, o66 + Int.toNat k57, none⟩ = some (.string t67) ∧ PIf (decide ((((ByteArray.size t67 : Nat) : Int) : Int) > 16)) ((∀ w61, Drew w59 w61 → R (.returned (.bool false)) w61)) (PIf (decide ((k57 : Int) > 0)) ((∃ b68 o69, t43a = some ⟨b68, o69, none⟩ ∧
      (0 : Int) ≤ (IntKind.wrap .i64 (k57 - 1)) ∧ (IntKind.wrap .i64 (k57 - 1)) < ((t43n : Nat) : Int) ∧ (∃ (t70 : ByteArray), w59.cell? ⟨b68, o69 + Int.toNat (IntKind.wrap .i64 (k57 - 1)), none⟩ = some (.string t70) ∧
      (∃ b71 o72, t43a = some ⟨b71, o72, none⟩ ∧ (0 : Int) ≤ k57 ∧ k57 < ((t43n : Nat) : Int) ∧ (∃ (t73 : ByteArray), w59.cell? ⟨b71, o72 + Int.toNat k57, none⟩ = some (.string t73) ∧
      (∀ w61, Drew w59 w61 → PIf (!(Op.bytesLess (ByteArray.toList t70) (ByteArray.toList t73))) (R (.returned (.bool false)) w61) (J60  w61))))))) ((∀ w61, Drew w59 w61 → J60  w61))))))))) ∧
      ∀  (B74 : Nat → Value) (w75 : World), J60  w75 → (∃ b76 o77, t43a = some ⟨b76, o77, none⟩ ∧ (0 : Int) ≤ k57 ∧ k57 < ((t43n : Nat) : Int) ∧ (∃ (t78 : ByteArray), w75.cell? ⟨b76, o77 + Int.toNat k57, none⟩ = some (.string t78) ∧
      PC Try.prog 19 #[.pointer t14, .string t78] w75 (fun v79 w80 => ∃ (t81a : Option Addr) (t81n : Nat) (t81c : Nat), v79 = .slice t81a t81n t81c ∧ (∃ m55, m55 < m54 ∧
      I53 m55 (IntKind.wrap .i64 (sum56 + ((t81n : Nat) : Int))) (IntKind.wrap .i64 (k57 + 1)) w80)) (fun ch w => R (.panicked ch) w))))) (PC Try.prog 25 #[.pointer t14] w59 (fun v82 w83 =>
      ∃ (t84 : Bool), v82 = .bool t84 ∧ PIf (!t84) (PC Try.prog 27 #[.pointer t14] w83 (fun v85 w86 => ∃ (t87 : Int), v85 = .int .i64 t87 ∧ PIf ((t87 : Int) != (IntKind.wrap .i64 ((IntKind.wrap .i64 (64 + t11)) - sum56))) (R (.returned (.bool false)) w86) (PC Try.prog 27 #[.pointer t14] w86 (fun v88 w89 =>
      ∃ (t90 : Int), v88 = .int .i64 t90 ∧ PIf (decide ((t90 : Int) < 0)) (R (.returned (.bool false)) w89) (PIf (decide ((((t43n : Nat) : Int) : Int) > 64)) (R (.returned (.bool false)) w89) ((∃ m21, m21 < m20 ∧
      I19 m21 (IntKind.wrap .i64 (i22 + 1)) w89)))) (fun ch w => R (.panicked ch) w))) (fun ch w => R (.panicked ch) w)) (PC Try.prog 27 #[.pointer t14] w83 (fun v91 w92 =>
      ∃ (t93 : Int), v91 = .int .i64 t93 ∧ PIf (decide ((t93 : Int) < 0)) (R (.returned (.bool false)) w92) (PIf (decide ((((t43n : Nat) : Int) : Int) > 64)) (R (.returned (.bool false)) w92) ((∃ m21, m21 < m20 ∧
      I19 m21 (IntKind.wrap .i64 (i22 + 1)) w92)))) (fun ch w => R (.panicked ch) w))) (fun ch w => R (.panicked ch) w))))) (fun ch w => R (.panicked ch) w)) (fun ch w =>
      R (.panicked ch) w)))) (fun ch w => R (.panicked ch) w)) (fun ch w => R (.panicked ch) w)) (PC Try.prog 10 #[] w24 (fun v94 w95 => ∃ (t96 : Bool), v94 = .bool t96 ∧
      R (.returned (.bool t96)) w95) (fun ch w => R (.panicked ch) w))))) (fun pv w => R (.panicked [{ v := pv, recovered := false }]) w))) (fun ch w => R (.panicked ch) w)) (fun ch w =>
      R (.panicked ch) w))) (fun ch w => R (.panicked ch) w)) :
    Calls Try.prog 6 #[.int .i64 n1, .slice l2a l2n l2c] w R :=
  D_calls A_law19_VdiskRoom mixed Try.func6 rfl (Nat.le_of_ble_eq_true (by kernel_rfl)) (by kernel_rfl) (Eq.mp (by kernel_rfl) h)
/-- quayside/quaysidelaw19.VdiskKnown -/
abbrev F_law19_VdiskKnown : Nat := 7
def A_law19_VdiskKnown : Ann := ⟨[(8, [(8, .int .i64 0)]), (15, [(9, .int .i64 0)])], [], [], []⟩
theorem L_law19_VdiskKnown  {w : World} {R : Ending → World → Prop}
    (h : PC Try.prog 11 #[.int .i64 64] w (fun v1 w2 => ∃ (t3 : Option Addr), ∃ (t4 : Int), v1 = .tuple #[.pointer t3, .int .i64 t4] ∧ PC Try.prog 11 #[.int .i64 63] w2 (fun v5 w6 =>
      ∃ (t7 : Option Addr), ∃ (t8 : Int), v5 = .tuple #[.pointer t7, .int .i64 t8] ∧ PC Try.prog 11 #[.int .i64 262145] w6 (fun v9 w10 => ∃ (t11 : Option Addr), ∃ (t12 : Int), v9 = .tuple #[.pointer t11, .int .i64 t12] ∧
      PIf ((t4 : Int) != 0) (R (.returned (.bool false)) w10) (PRun Try.prog (do eqGuard .eql 25 (.tmp 25) (.const (.pointer none)) (.pointer t3) (.pointer none); binOp .eql 25 (.pointer t3) (.pointer none)) w10 (fun v13 w14 =>
      ∃ (t15 : Bool), v13 = .bool t15 ∧ PIf t15 (R (.returned (.bool false)) w14) (PIf ((t8 : Int) != 1) (R (.returned (.bool false)) w14) (PIf ((t12 : Int) != 1) (R (.returned (.bool false)) w14) (PA w14 (.cells #[.string (⟨#[]⟩ : ByteArray), .string (⟨#[65]⟩ : ByteArray), .string (⟨#[97, 32, 98]⟩ : ByteArray), .string (⟨#[97, 47, 98]⟩ : ByteArray), .string (⟨#[97, 98, 99, 100, 101, 102, 103, 104, 105, 106, 107, 108, 109, 110, 111, 112, 113]⟩ : ByteArray), .string (⟨#[255]⟩ : ByteArray), .string (⟨#[0]⟩ : ByteArray), .string (⟨#[45]⟩ : ByteArray)] 9) fun w16 =>
      (∃ I17 : Nat → Int → World → Prop, (∃ m18, I17 m18 0 w16) ∧ ∀ (m18 : Nat) (i20 : Int) (B21 : Nat → Value) (w22 : World), I17 m18 i20 w22 → PIf (decide ((i20 : Int) < ((8 : Nat) : Int))) ((∃ b23 o24, ((some ⟨w14.heap.size, 0, none⟩) : Option Addr) = some ⟨b23, o24, none⟩ ∧
      (0 : Int) ≤ i20 ∧ i20 < ((8 : Nat) : Int) ∧ (∃ (t25 : ByteArray), w22.cell? ⟨b23, o24 + Int.toNat i20, none⟩ = some (.string t25) ∧ PC Try.prog 29 #[.pointer t3, .string t25] w22 (fun v26 w27 =>
      ∃ (t28 : Int), v26 = .int .i64 t28 ∧ PIf ((t28 : Int) != 1) (R (.returned (.bool false)) w27) ((∃ m19, m19 < m18 ∧ I17 m19 (IntKind.wrap .i64 (i20 + 1)) w27))) (fun ch w =>
      R (.panicked ch) w)))) (PC Try.prog 29 #[.pointer t3, .string (⟨#[122]⟩ : ByteArray)] w22 (fun v29 w30 => ∃ (t31 : Int), v29 = .int .i64 t31 ∧ PIf ((t31 : Int) != 0) (R (.returned (.bool false)) w30) (PC Try.prog 30 #[.pointer t3, .string (⟨#[122]⟩ : ByteArray), .string (⟨#[90]⟩ : ByteArray)] w30 (fun v32 w33 =>
      ∃ (t34 : Int), v32 = .int .i64 t34 ∧ PIf ((t34 : Int) != 1) (R (.returned (.bool false)) w33) (PC Try.prog 30 #[.pointer t3, .string (⟨#[121]⟩ : ByteArray), .string (⟨#[90]⟩ : ByteArray)] w33 (fun v35 w36 =>
      ∃ (t37 : Int), v35 = .int .i64 t37 ∧ PIf ((t37 : Int) != 14) (R (.returned (.bool false)) w36) (PC Try.prog 29 #[.pointer t3, .string (⟨#[122]⟩ : ByteArray)] w36 (fun v38 w39 =>
      ∃ (t40 : Int), v38 = .int .i64 t40 ∧ PIf ((t40 : Int) != 16) (R (.returned (.bool false)) w39) (PC Try.prog 31 #[.pointer t3, .string (⟨#[121]⟩ : ByteArray)] w39 (fun v41 w42 =>
      ∃ (t43 : Int), v41 = .int .i64 t43 ∧ PIf ((t43 : Int) != 14) (R (.returned (.bool false)) w42) (PC Try.prog 32 #[.pointer t3, .string (⟨#[121]⟩ : ByteArray)] w42 (fun v44 w45 =>
      ∃ (t46 : Int), v44 = .int .i64 t46 ∧ PIf ((t46 : Int) != 14) (R (.returned (.bool false)) w45) (PC Try.prog 33 #[.pointer t3, .string (⟨#[121]⟩ : ByteArray), .int .i64 0] w45 (fun v47 w48 =>
      ∃ (t49 : Int), v47 = .int .i64 t49 ∧ PIf ((t49 : Int) != 14) (R (.returned (.bool false)) w48) (PC Try.prog 34 #[.pointer t3, .string (⟨#[121]⟩ : ByteArray), .slice none 0 0] w48 (fun v50 w51 =>
      ∃ (t52 : Int), v50 = .int .i64 t52 ∧ PIf ((t52 : Int) != 14) (R (.returned (.bool false)) w51) (PRun Try.prog (Instr.makeSlice 33 (.int .i64 65) (.int .i64 65)) w51 (fun v53 w54 =>
      ∃ (t55a : Option Addr) (t55n : Nat) (t55c : Nat), v53 = .slice t55a t55n t55c ∧ PC Try.prog 34 #[.pointer t3, .string (⟨#[122]⟩ : ByteArray), .slice t55a t55n t55c] w54 (fun v56 w57 =>
      ∃ (t58 : Int), v56 = .int .i64 t58 ∧ PIf ((t58 : Int) != 12) (R (.returned (.bool false)) w57) ((∃ I59 : Nat → Int → World → Prop, (∃ m60, I59 m60 0 w57) ∧
      ∀ (m60 : Nat) (i62 : Int) (B63 : Nat → Value) (w64 : World), I59 m60 i62 w64 → PIf (decide ((i62 : Int) < 63)) (PA w64 (.cells #[.int .u8 (IntKind.wrap .u8 (IntKind.wrap .i64 (48 + (IntKind.wrap .i64 (Int.tdiv i62 10))))), .int .u8 (IntKind.wrap .u8 (IntKind.wrap .i64 (48 + (Int.tmod i62 10))))] 5) fun w65 =>
      PRun Try.prog (convert 33 9 (.slice (some ⟨w64.heap.size, 0, none⟩) 2 2)) w65 (fun v66 w67 => ∃ (t68 : ByteArray), v66 = .string t68 ∧ PC Try.prog 29 #[.pointer t3, .string t68] w67 (fun v69 w70 =>
      ∃ (t71 : Int), v69 = .int .i64 t71 ∧ PIf ((t71 : Int) != 0) (R (.returned (.bool false)) w70) ((∃ m61, m61 < m60 ∧ I59 m61 (IntKind.wrap .i64 (i62 + 1)) w70))) (fun ch w =>
      R (.panicked ch) w)) (fun pv w => R (.panicked [{ v := pv, recovered := false }]) w)) (PC Try.prog 29 #[.pointer t3, .string (⟨#[109, 111, 114, 101]⟩ : ByteArray)] w64 (fun v72 w73 =>
      ∃ (t74 : Int), v72 = .int .i64 t74 ∧ PIf ((t74 : Int) != 12) (R (.returned (.bool false)) w73) (PC Try.prog 30 #[.pointer t3, .string (⟨#[122]⟩ : ByteArray), .string (⟨#[122]⟩ : ByteArray)] w73 (fun v75 w76 =>
      ∃ (t77 : Int), v75 = .int .i64 t77 ∧ PIf ((t77 : Int) != 0) (R (.returned (.bool false)) w76) (PC Try.prog 30 #[.pointer t3, .string (⟨#[122]⟩ : ByteArray), .string (⟨#[48, 48]⟩ : ByteArray)] w76 (fun v78 w79 =>
      ∃ (t80 : Int), v78 = .int .i64 t80 ∧ PIf ((t80 : Int) != 0) (R (.returned (.bool false)) w79) (PC Try.prog 29 #[.pointer t3, .string (⟨#[109, 111, 114, 101]⟩ : ByteArray)] w79 (fun v81 w82 =>
      ∃ (t83 : Int), v81 = .int .i64 t83 ∧ PIf ((t83 : Int) != 0) (R (.returned (.bool false)) w82) (PC Try.prog 21 #[.pointer t3] w82 (fun v84 w85 => ∃ (t86a : Option Addr) (t86n : Nat) (t86c : Nat), v84 = .slice t86a t86n t86c ∧
      PIf ((((t86n : Nat) : Int) : Int) != 64) (R (.returned (.bool false)) w85) (PC Try.prog 16 #[.pointer t3, .int .i64 9223372036854775807] w85 (fun v87 w88 =>
      v87 = .tuple #[] ∧ PC Try.prog 21 #[.pointer t3] w88 (fun v89 w90 => ∃ (t91a : Option Addr) (t91n : Nat) (t91c : Nat), v89 = .slice t91a t91n t91c ∧ PIf ((((t91n : Nat) : Int) : Int) == 1) (PC Try.prog 21 #[.pointer t3] w90 (fun v92 w93 =>
      ∃ (t94a : Option Addr) (t94n : Nat) (t94c : Nat), v92 = .slice t94a t94n t94c ∧ (∃ b95 o96, t94a = some ⟨b95, o96, none⟩ ∧ (0 : Int) ≤ 0 ∧ 0 < ((t94n : Nat) : Int) ∧
      (∃ (t97 : ByteArray), w93.cell? ⟨b95, o96 + Int.toNat 0, none⟩ = some (.string t97) ∧ PIf ((ByteArray.toList t97) == (ByteArray.toList (⟨#[48, 48]⟩ : ByteArray))) (PC Try.prog 10 #[] w93 (fun v98 w99 =>
      ∃ (t100 : Bool), v98 = .bool t100 ∧ R (.returned (.bool t100)) w99) (fun ch w => R (.panicked ch) w)) (R (.returned (.bool false)) w93)))) (fun ch w =>
      R (.panicked ch) w)) (R (.returned (.bool false)) w90)) (fun ch w => R (.panicked ch) w)) (fun ch w => R (.panicked ch) w))) (fun ch w => R (.panicked ch) w))) (fun ch w =>
      R (.panicked ch) w))) (fun ch w => R (.panicked ch) w))) (fun ch w => R (.panicked ch) w))) (fun ch w => R (.panicked ch) w))))) (fun ch w => R (.panicked ch) w)) (fun pv w =>
      R (.panicked [{ v := pv, recovered := false }]) w))) (fun ch w => R (.panicked ch) w))) (fun ch w => R (.panicked ch) w))) (fun ch w => R (.panicked ch) w))) (fun ch w =>
      R (.panicked ch) w))) (fun ch w => R (.panicked ch) w))) (fun ch w => R (.panicked ch) w))) (fun ch w => R (.panicked ch) w))) (fun ch w => R (.panicked ch) w))))))) (fun pv w =>
      R (.panicked [{ v := pv, recovered := false }]) w))) (fun ch w => R (.panicked ch) w)) (fun ch w => R (.panicked ch) w)) (fun ch w => R (.panicked ch) w)) :
    Calls Try.prog 7 #[] w R :=
  D_calls A_law19_VdiskKnown mixed Try.func7 rfl (Nat.le_of_ble_eq_true (by kernel_rfl)) (by kernel_rfl) (Eq.mp (by kernel_rfl) h)
/-- quayside/quaysidelaw19.VdiskApart -/
abbrev F_law19_VdiskApart : Nat := 8
def A_law19_VdiskApart : Ann := ⟨[(7, [(9, .int .i64 0)])], [], [], [(19, ⟨[0, 1, 0, 0, 12, 18, 32, 64, 192, 511], [1023, 1022, 1023, 1023, 1011, 1005, 991, 959, 831, 767], [0, 2, 0, 0, 0, 2, 0, 2, 0, 0]⟩)]⟩
theorem L_law19_VdiskApart {l1a : Option Addr} {l1n : Nat} {l1c : Nat} {b2a : Option Addr} {b2n : Nat} {b2c : Nat} {cut3 : Int} {w : World} {R : Ending → World → Prop}
    (h : PC Try.prog 9 #[.slice l1a l1n l1c] w (fun v4 w5 => ∃ (t6 : Bool), v4 = .bool t6 ∧ PIf t6 (PC Try.prog 10 #[] w5 (fun v7 w8 => ∃ (t9 : Bool), v7 = .bool t9 ∧
      R (.returned (.bool t9)) w8) (fun ch w => R (.panicked ch) w)) (PIf (decide ((((b2n : Nat) : Int) : Int) > 200)) (PC Try.prog 10 #[] w5 (fun v10 w11 =>
      ∃ (t12 : Bool), v10 = .bool t12 ∧ R (.returned (.bool t12)) w11) (fun ch w => R (.panicked ch) w)) (PC Try.prog 11 #[.int .i64 2000] w5 (fun v13 w14 =>
      ∃ (t15 : Option Addr), ∃ (t16 : Int), v13 = .tuple #[.pointer t15, .int .i64 t16] ∧ PIf ((t16 : Int) != 0) (R (.returned (.bool false)) w14) (PRun Try.prog (do eqGuard .eql 25 (.tmp 28) (.const (.pointer none)) (.pointer t15) (.pointer none); binOp .eql 25 (.pointer t15) (.pointer none)) w14 (fun v17 w18 =>
      ∃ (t19 : Bool), v17 = .bool t19 ∧ PIf t19 (R (.returned (.bool false)) w18) (PC Try.prog 29 #[.pointer t15, .string (⟨#[122, 122, 46, 111, 116, 104, 101, 114, 46, 57]⟩ : ByteArray)] w18 (fun v20 w21 =>
      ∃ (t22 : Int), v20 = .int .i64 t22 ∧ PIf ((t22 : Int) != 0) (R (.returned (.bool false)) w21) (PC Try.prog 34 #[.pointer t15, .string (⟨#[122, 122, 46, 111, 116, 104, 101, 114, 46, 57]⟩ : ByteArray), .slice b2a b2n b2c] w21 (fun v23 w24 =>
      ∃ (t25 : Int), v23 = .int .i64 t25 ∧ PIf ((t25 : Int) != 0) (R (.returned (.bool false)) w24) (PC Try.prog 32 #[.pointer t15, .string (⟨#[122, 122, 46, 111, 116, 104, 101, 114, 46, 57]⟩ : ByteArray)] w24 (fun v26 w27 =>
      ∃ (t28 : Int), v26 = .int .i64 t28 ∧ PIf ((t28 : Int) != 0) (R (.returned (.bool false)) w27) ((∃ I29 : Nat → Int → World → Prop, (∃ m30, I29 m30 0 w27) ∧
      ∀ (m30 : Nat) (i32 : Int) (B33 : Nat → Value) (w34 : World), I29 m30 i32 w34 → PIf (decide ((i32 : Int) < ((l1n : Nat) : Int))) ((∃ b35 o36, l1a = some ⟨b35, o36, none⟩ ∧
      (0 : Int) ≤ i32 ∧ i32 < ((l1n : Nat) : Int) ∧ (∃ (t37 : Int), w34.cell? ⟨b35, o36 + Int.toNat i32 * 5, none⟩ = some (.int .i64 t37) ∧ PC Try.prog 18 #[.int .i64 t37, .int .i64 10] w34 (fun v38 w39 =>
      ∃ (t40 : Int), v38 = .int .i64 t40 ∧ PIf ((t40 : Int) == 8) ((∃ m31, m31 < m30 ∧ I29 m31 (IntKind.wrap .i64 (i32 + 1)) w39)) ((∃ b41 o42, l1a = some ⟨b41, o42, none⟩ ∧
      (0 : Int) ≤ i32 ∧ i32 < ((l1n : Nat) : Int) ∧ (∃ (t43 : ByteArray), w39.cell? ⟨b41, o42 + Int.toNat i32 * 5 + 2, none⟩ = some (.string t43) ∧ PIf ((ByteArray.toList t43) == (ByteArray.toList (⟨#[122, 122, 46, 111, 116, 104, 101, 114, 46, 57]⟩ : ByteArray))) ((∃ m31, m31 < m30 ∧
      I29 m31 (IntKind.wrap .i64 (i32 + 1)) w39)) ((∃ b44 o45, l1a = some ⟨b44, o45, none⟩ ∧ (0 : Int) ≤ i32 ∧ i32 < ((l1n : Nat) : Int) ∧ (∃ (t46 : ByteArray), w39.cell? ⟨b44, o45 + Int.toNat i32 * 5 + 3, none⟩ = some (.string t46) ∧
      PIf ((ByteArray.toList t46) == (ByteArray.toList (⟨#[122, 122, 46, 111, 116, 104, 101, 114, 46, 57]⟩ : ByteArray))) ((∃ m31, m31 < m30 ∧ I29 m31 (IntKind.wrap .i64 (i32 + 1)) w39)) ((∃ b47 o48, l1a = some ⟨b47, o48, none⟩ ∧
      (0 : Int) ≤ i32 ∧ i32 < ((l1n : Nat) : Int) ∧ (∃ (t49 : Int), ∃ (t50 : Int), ∃ (t51 : ByteArray), ∃ (t52 : ByteArray), ∃ (t53a : Option Addr) (t53n : Nat) (t53c : Nat), w39.cell? ⟨b47, o48 + Int.toNat i32 * 5, none⟩ = some (.int .i64 t49) ∧
      w39.cell? ⟨b47, o48 + Int.toNat i32 * 5 + 1, none⟩ = some (.int .i64 t50) ∧ w39.cell? ⟨b47, o48 + Int.toNat i32 * 5 + 2, none⟩ = some (.string t51) ∧ w39.cell? ⟨b47, o48 + Int.toNat i32 * 5 + 3, none⟩ = some (.string t52) ∧
      w39.cell? ⟨b47, o48 + Int.toNat i32 * 5 + 4, none⟩ = some (.slice t53a t53n t53c) ∧ PC Try.prog 13 #[.pointer t15, .agg #[.int .i64 t49, .int .i64 t50, .string t51, .string t52, .slice t53a t53n t53c]] w39 (fun v54 w55 =>
      ∃ (t56 : Int), v54 = .int .i64 t56 ∧ PC Try.prog 26 #[.pointer t15, .string (⟨#[122, 122, 46, 111, 116, 104, 101, 114, 46, 57]⟩ : ByteArray)] w55 (fun v57 w58 =>
      ∃ (t59a : Option Addr) (t59n : Nat) (t59c : Nat), ∃ (t60 : Int), v57 = .tuple #[.slice t59a t59n t59c, .int .i64 t60] ∧ PIf ((t60 : Int) != 0) (R (.returned (.bool false)) w58) (PC Try.prog 23 #[.slice t59a t59n t59c, .slice b2a b2n b2c] w58 (fun v61 w62 =>
      ∃ (t63 : Bool), v61 = .bool t63 ∧ PIf (!t63) (R (.returned (.bool false)) w62) ((∃ m31, m31 < m30 ∧ I29 m31 (IntKind.wrap .i64 (i32 + 1)) w62))) (fun ch w =>
      R (.panicked ch) w))) (fun ch w => R (.panicked ch) w)) (fun ch w => R (.panicked ch) w))))))))))) (fun ch w => R (.panicked ch) w)))) (PC Try.prog 21 #[.pointer t15] w34 (fun v64 w65 =>
      ∃ (t66a : Option Addr) (t66n : Nat) (t66c : Nat), v64 = .slice t66a t66n t66c ∧ PC Try.prog 18 #[.int .i64 cut3, .int .i64 (IntKind.wrap .i64 (((b2n : Nat) : Int) + 1))] w65 (fun v67 w68 =>
      ∃ (t69 : Int), v67 = .int .i64 t69 ∧ PC Try.prog 33 #[.pointer t15, .string (⟨#[122, 122, 46, 111, 116, 104, 101, 114, 46, 57]⟩ : ByteArray), .int .i64 t69] w68 (fun v70 w71 =>
      ∃ (t72 : Int), v70 = .int .i64 t72 ∧ PIf ((t72 : Int) != 0) (R (.returned (.bool false)) w71) (PC Try.prog 21 #[.pointer t15] w71 (fun v73 w74 => ∃ (t75a : Option Addr) (t75n : Nat) (t75c : Nat), v73 = .slice t75a t75n t75c ∧
      PC Try.prog 28 #[.slice t75a t75n t75c, .slice t66a t66n t66c] w74 (fun v76 w77 => ∃ (t78 : Bool), v76 = .bool t78 ∧ PIf (!t78) (R (.returned (.bool false)) w77) (PC Try.prog 16 #[.pointer t15, .int .i64 0] w77 (fun v79 w80 =>
      v79 = .tuple #[] ∧ (∀ w82, Drew w80 w82 → ((0 : Int) ≤ t69 ∧ t69 ≤ ((b2c : Nat) : Int) ∧ PC Try.prog 19 #[.pointer t15, .string (⟨#[122, 122, 46, 111, 116, 104, 101, 114, 46, 57]⟩ : ByteArray)] w82 (fun v83 w84 =>
      ∃ (t85a : Option Addr) (t85n : Nat) (t85c : Nat), v83 = .slice t85a t85n t85c ∧ PC Try.prog 23 #[.slice t85a t85n t85c, .slice b2a (Int.toNat t69) b2c] w84 (fun v86 w87 =>
      ∃ (t88 : Bool), v86 = .bool t88 ∧ PIf t88 (PC Try.prog 10 #[] w87 (fun v89 w90 => ∃ (t91 : Bool), v89 = .bool t91 ∧ R (.returned (.bool t91)) w90) (fun ch w =>
      False)) (R (.returned (.bool false)) w87)) (fun ch w => False)) (fun ch w => False)))) (fun ch w => R (.panicked ch) w))) (fun ch w => R (.panicked ch) w)) (fun ch w =>
      R (.panicked ch) w))) (fun ch w => R (.panicked ch) w)) (fun ch w => R (.panicked ch) w)) (fun ch w => R (.panicked ch) w))))) (fun ch w => R (.panicked ch) w))) (fun ch w =>
      R (.panicked ch) w))) (fun ch w => R (.panicked ch) w))) (fun pv w => R (.panicked [{ v := pv, recovered := false }]) w))) (fun ch w => R (.panicked ch) w)))) (fun ch w =>
      R (.panicked ch) w)) :
    Calls Try.prog 8 #[.slice l1a l1n l1c, .slice b2a b2n b2c, .int .i64 cut3] w R :=
  D_calls A_law19_VdiskApart mixed Try.func8 rfl (Nat.le_of_ble_eq_true (by kernel_rfl)) (by kernel_rfl) (Eq.mp (by kernel_rfl) h)
/-- quayside/quaysidelaw19.Long -/
abbrev F_law19_Long : Nat := 9
def A_law19_Long : Ann := ⟨[(4, [(3, .int .i64 0)])], [], [], []⟩
theorem L_law19_Long {l1a : Option Addr} {l1n : Nat} {l1c : Nat} {w : World} {R : Ending → World → Prop}
    (h : PIf (decide ((((l1n : Nat) : Int) : Int) > 100)) (R (.returned (.bool true)) w) ((∃ I2 : Nat → Int → World → Prop, (∃ m3, I2 m3 0 w) ∧ ∀ (m3 : Nat) (i5 : Int) (B6 : Nat → Value) (w7 : World), I2 m3 i5 w7 → PIf (decide ((i5 : Int) < ((l1n : Nat) : Int))) ((∃ b8 o9, l1a = some ⟨b8, o9, none⟩ ∧
      (0 : Int) ≤ i5 ∧ i5 < ((l1n : Nat) : Int) ∧ (∃ (t10a : Option Addr) (t10n : Nat) (t10c : Nat), w7.cell? ⟨b8, o9 + Int.toNat i5 * 5 + 4, none⟩ = some (.slice t10a t10n t10c) ∧
      PIf (decide ((((t10n : Nat) : Int) : Int) > 4096)) (R (.returned (.bool true)) w7) ((∃ b11 o12, l1a = some ⟨b11, o12, none⟩ ∧ (0 : Int) ≤ i5 ∧ i5 < ((l1n : Nat) : Int) ∧
      (∃ (t13 : ByteArray), w7.cell? ⟨b11, o12 + Int.toNat i5 * 5 + 2, none⟩ = some (.string t13) ∧ PIf (decide ((((ByteArray.size t13 : Nat) : Int) : Int) > 100)) (R (.returned (.bool true)) w7) ((∃ b14 o15, l1a = some ⟨b14, o15, none⟩ ∧
      (0 : Int) ≤ i5 ∧ i5 < ((l1n : Nat) : Int) ∧ (∃ (t16 : ByteArray), w7.cell? ⟨b14, o15 + Int.toNat i5 * 5 + 3, none⟩ = some (.string t16) ∧ PIf (decide ((((ByteArray.size t16 : Nat) : Int) : Int) > 100)) (R (.returned (.bool true)) w7) ((∃ m4, m4 < m3 ∧
      I2 m4 (IntKind.wrap .i64 (i5 + 1)) w7))))))))))) (R (.returned (.bool false)) w7)))) :
    Calls Try.prog 9 #[.slice l1a l1n l1c] w R :=
  D_calls A_law19_Long mixed Try.func9 rfl (Nat.le_of_ble_eq_true (by kernel_rfl)) (by kernel_rfl) (Eq.mp (by kernel_rfl) h)
/-- quayside/quaysidelaw19.known -/
abbrev F_law19_known : Nat := 10
def A_law19_known : Ann := ⟨[], [], [], []⟩
theorem L_law19_known  {w : World} {R : Ending → World → Prop}
    (h : PC Try.prog 11 #[.int .i64 64] w (fun v1 w2 => ∃ (t3 : Option Addr), ∃ (t4 : Int), v1 = .tuple #[.pointer t3, .int .i64 t4] ∧ PIf ((t4 : Int) != 0) (R (.returned (.bool false)) w2) (PRun Try.prog (do eqGuard .eql 25 (.tmp 12) (.const (.pointer none)) (.pointer t3) (.pointer none); binOp .eql 25 (.pointer t3) (.pointer none)) w2 (fun v5 w6 =>
      ∃ (t7 : Bool), v5 = .bool t7 ∧ PIf t7 (R (.returned (.bool false)) w6) (PC Try.prog 29 #[.pointer t3, .string (⟨#[97]⟩ : ByteArray)] w6 (fun v8 w9 => ∃ (t10 : Int), v8 = .int .i64 t10 ∧
      PIf ((t10 : Int) != 0) (R (.returned (.bool false)) w9) (PA w9 (.cells #[.int .u8 1, .int .u8 2, .int .u8 3] 5) fun w11 => PC Try.prog 34 #[.pointer t3, .string (⟨#[97]⟩ : ByteArray), .slice (some ⟨w9.heap.size, 0, none⟩) 3 3] w11 (fun v12 w13 =>
      ∃ (t14 : Int), v12 = .int .i64 t14 ∧ PIf ((t14 : Int) != 0) (R (.returned (.bool false)) w13) (PC Try.prog 32 #[.pointer t3, .string (⟨#[97]⟩ : ByteArray)] w13 (fun v15 w16 =>
      ∃ (t17 : Int), v15 = .int .i64 t17 ∧ PIf ((t17 : Int) != 0) (R (.returned (.bool false)) w16) (PA w16 (.cells #[.int .u8 4, .int .u8 5] 5) fun w18 => PC Try.prog 34 #[.pointer t3, .string (⟨#[97]⟩ : ByteArray), .slice (some ⟨w16.heap.size, 0, none⟩) 2 2] w18 (fun v19 w20 =>
      ∃ (t21 : Int), v19 = .int .i64 t21 ∧ PIf ((t21 : Int) != 0) (R (.returned (.bool false)) w20) (PC Try.prog 16 #[.pointer t3, .int .i64 1] w20 (fun v22 w23 =>
      v22 = .tuple #[] ∧ PC Try.prog 26 #[.pointer t3, .string (⟨#[97]⟩ : ByteArray)] w23 (fun v24 w25 => ∃ (t26a : Option Addr) (t26n : Nat) (t26c : Nat), ∃ (t27 : Int), v24 = .tuple #[.slice t26a t26n t26c, .int .i64 t27] ∧
      PC Try.prog 24 #[.pointer t3, .int .i64 0] w25 (fun v28 w29 => v28 = .tuple #[] ∧ PIf ((t27 : Int) == 0) (PA w29 (.cells #[.int .u8 1, .int .u8 2, .int .u8 3, .int .u8 4] 5) fun w30 =>
      PC Try.prog 23 #[.slice t26a t26n t26c, .slice (some ⟨w29.heap.size, 0, none⟩) 4 4] w30 (fun v31 w32 => ∃ (t33 : Bool), v31 = .bool t33 ∧ PIf t33 (PC Try.prog 27 #[.pointer t3] w32 (fun v34 w35 =>
      ∃ (t36 : Int), v34 = .int .i64 t36 ∧ PIf ((t36 : Int) == 60) (PC Try.prog 34 #[.pointer t3, .string (⟨#[97]⟩ : ByteArray), .slice none 0 0] w35 (fun v37 w38 =>
      ∃ (t39 : Int), v37 = .int .i64 t39 ∧ PIf ((t39 : Int) == 15) (PC Try.prog 25 #[.pointer t3] w38 (fun v40 w41 => ∃ (t42 : Bool), v40 = .bool t42 ∧ R (.returned (.bool t42)) w41) (fun ch w =>
      R (.panicked ch) w)) (R (.returned (.bool false)) w38)) (fun ch w => R (.panicked ch) w)) (R (.returned (.bool false)) w35)) (fun ch w => R (.panicked ch) w)) (R (.returned (.bool false)) w32)) (fun ch w =>
      R (.panicked ch) w)) (R (.returned (.bool false)) w29)) (fun ch w => R (.panicked ch) w)) (fun ch w => R (.panicked ch) w)) (fun ch w => R (.panicked ch) w))) (fun ch w =>
      R (.panicked ch) w))) (fun ch w => R (.panicked ch) w))) (fun ch w => R (.panicked ch) w))) (fun ch w => R (.panicked ch) w))) (fun pv w => R (.panicked [{ v := pv, recovered := false }]) w))) (fun ch w =>
      R (.panicked ch) w)) :
    Calls Try.prog 10 #[] w R :=
  D_calls A_law19_known mixed Try.func10 rfl (Nat.le_of_ble_eq_true (by kernel_rfl)) (by kernel_rfl) (Eq.mp (by kernel_rfl) h)
/-- quayside/vdisk.New -/
abbrev F_vdisk_New : Nat := 11
def A_vdisk_New : Ann := ⟨[], [], [], []⟩
theorem L_vdisk_New {n1 : Int} {w : World} {R : Ending → World → Prop}
    (h : PIf (decide ((n1 : Int) < 64)) (R (.returned (.tuple #[.pointer none, .int .i64 1])) w) (PIf (decide ((n1 : Int) > 262144)) (R (.returned (.tuple #[.pointer none, .int .i64 1])) w) (PA w (.map #[] 0) fun w2 =>
      PA w2 (.cells #[.int .i64 n1, .map (some w.heap.size), .bool false, .int .i64 0, .bool false] 61) fun w3 => R (.returned (.tuple #[.pointer (some ⟨w2.heap.size, 0, none⟩), .int .i64 0])) w3))) :
    Calls Try.prog 11 #[.int .i64 n1] w R :=
  D_calls A_vdisk_New mixed Try.func11 rfl (Nat.le_of_ble_eq_true (by kernel_rfl)) (by kernel_rfl) (Eq.mp (by kernel_rfl) h)
/-- quayside/quaysideref19.New -/
abbrev F_ref19_New : Nat := 12
def A_ref19_New : Ann := ⟨[], [], [], []⟩
theorem L_ref19_New {n1 : Int} {w : World} {R : Ending → World → Prop}
    (h : PIf (decide ((n1 : Int) < 64)) (R (.returned (.tuple #[.pointer none, .int .i64 1])) w) (PIf (decide ((n1 : Int) > 262144)) (R (.returned (.tuple #[.pointer none, .int .i64 1])) w) (PA w (.cells #[.int .i64 n1, .int .i64 (-1), .slice none 0 0, .bool false] 64) fun w2 =>
      R (.returned (.tuple #[.pointer (some ⟨w.heap.size, 0, none⟩), .int .i64 0])) w2))) :
    Calls Try.prog 12 #[.int .i64 n1] w R :=
  D_calls A_ref19_New mixed Try.func12 rfl (Nat.le_of_ble_eq_true (by kernel_rfl)) (by kernel_rfl) (Eq.mp (by kernel_rfl) h)
/-- quayside/quaysidelaw19.Does -/
abbrev F_law19_Does : Nat := 13
def A_law19_Does : Ann := ⟨[], [(6, [(18, .bool false)])], [], []⟩
theorem L_law19_Does {d1 : Option Addr} {a3 : Int} {a4 : Int} {a5 : ByteArray} {a6 : ByteArray} {a7a : Option Addr} {a7n : Nat} {a7c : Nat} {w : World} {R : Ending → World → Prop}
    (h : PA w (.cells #[.int .i64 a3, .int .i64 a4, .string a5, .string a6, .slice a7a a7n a7c] 35) fun w8 => (∃ (t9 : Int), w8.cell? ⟨w.heap.size, 0, none⟩ = some (.int .i64 t9) ∧
      PC Try.prog 18 #[.int .i64 t9, .int .i64 10] w8 (fun v10 w11 => ∃ (t12 : Int), v10 = .int .i64 t12 ∧ PIf ((t12 : Int) == 0) ((∃ (t13 : ByteArray), w11.cell? ⟨w.heap.size, 0 + 2, none⟩ = some (.string t13) ∧
      PC Try.prog 29 #[.pointer d1, .string t13] w11 (fun v14 w15 => ∃ (t16 : Int), v14 = .int .i64 t16 ∧ R (.returned (.int .i64 t16)) w15) (fun ch w => R (.panicked ch) w))) ((∃ J17 : Bool → World → Prop, (PIf ((t12 : Int) == 1) (J17 ((t12 : Int) == 1) w11) (J17 ((t12 : Int) == 2) w11)) ∧
      ∀ (t18 : Bool) (B19 : Nat → Value) (w20 : World), J17 t18 w20 → PIf t18 ((∃ (t21a : Option Addr) (t21n : Nat) (t21c : Nat), w20.cell? ⟨w.heap.size, 0 + 4, none⟩ = some (.slice t21a t21n t21c) ∧
      PC Try.prog 35 #[.slice t21a t21n t21c] w20 (fun v22 w23 => ∃ (t24a : Option Addr) (t24n : Nat) (t24c : Nat), v22 = .slice t24a t24n t24c ∧ (∃ (t25 : ByteArray), w23.cell? ⟨w.heap.size, 0 + 2, none⟩ = some (.string t25) ∧
      PC Try.prog 34 #[.pointer d1, .string t25, .slice t24a t24n t24c] w23 (fun v26 w27 => ∃ (t28 : Int), v26 = .int .i64 t28 ∧ PC Try.prog 36 #[.slice t24a t24n t24c] w27 (fun v29 w30 =>
      v29 = .tuple #[] ∧ R (.returned (.int .i64 t28)) w30) (fun ch w => R (.panicked ch) w)) (fun ch w => R (.panicked ch) w))) (fun ch w => R (.panicked ch) w))) (PIf ((t12 : Int) == 3) ((∃ (t31 : ByteArray), w20.cell? ⟨w.heap.size, 0 + 2, none⟩ = some (.string t31) ∧
      PC Try.prog 32 #[.pointer d1, .string t31] w20 (fun v32 w33 => ∃ (t34 : Int), v32 = .int .i64 t34 ∧ R (.returned (.int .i64 t34)) w33) (fun ch w => R (.panicked ch) w))) (PIf ((t12 : Int) == 4) ((∃ (t35 : ByteArray), w20.cell? ⟨w.heap.size, 0 + 2, none⟩ = some (.string t35) ∧
      (∃ (t36 : ByteArray), w20.cell? ⟨w.heap.size, 0 + 3, none⟩ = some (.string t36) ∧ PC Try.prog 30 #[.pointer d1, .string t35, .string t36] w20 (fun v37 w38 =>
      ∃ (t39 : Int), v37 = .int .i64 t39 ∧ R (.returned (.int .i64 t39)) w38) (fun ch w => R (.panicked ch) w)))) (PIf ((t12 : Int) == 5) ((∃ (t40 : ByteArray), w20.cell? ⟨w.heap.size, 0 + 2, none⟩ = some (.string t40) ∧
      PC Try.prog 31 #[.pointer d1, .string t40] w20 (fun v41 w42 => ∃ (t43 : Int), v41 = .int .i64 t43 ∧ R (.returned (.int .i64 t43)) w42) (fun ch w => R (.panicked ch) w))) (PIf ((t12 : Int) == 6) ((∃ (t44 : ByteArray), w20.cell? ⟨w.heap.size, 0 + 2, none⟩ = some (.string t44) ∧
      (∃ (t45 : Int), w20.cell? ⟨w.heap.size, 0 + 1, none⟩ = some (.int .i64 t45) ∧ PC Try.prog 33 #[.pointer d1, .string t44, .int .i64 t45] w20 (fun v46 w47 =>
      ∃ (t48 : Int), v46 = .int .i64 t48 ∧ R (.returned (.int .i64 t48)) w47) (fun ch w => R (.panicked ch) w)))) (PIf ((t12 : Int) == 7) ((∃ (t49 : Int), w20.cell? ⟨w.heap.size, 0 + 1, none⟩ = some (.int .i64 t49) ∧
      PC Try.prog 16 #[.pointer d1, .int .i64 t49] w20 (fun v50 w51 => v50 = .tuple #[] ∧ R (.returned (.int .i64 0)) w51) (fun ch w => R (.panicked ch) w))) (PIf ((t12 : Int) == 8) ((∃ (t52 : Int), w20.cell? ⟨w.heap.size, 0 + 1, none⟩ = some (.int .i64 t52) ∧
      PC Try.prog 24 #[.pointer d1, .int .i64 t52] w20 (fun v53 w54 => v53 = .tuple #[] ∧ R (.returned (.int .i64 0)) w54) (fun ch w => R (.panicked ch) w))) (PIf ((t12 : Int) == 9) ((∃ (t55 : ByteArray), w20.cell? ⟨w.heap.size, 0 + 2, none⟩ = some (.string t55) ∧
      PC Try.prog 26 #[.pointer d1, .string t55] w20 (fun v56 w57 => ∃ (t58a : Option Addr) (t58n : Nat) (t58c : Nat), ∃ (t59 : Int), v56 = .tuple #[.slice t58a t58n t58c, .int .i64 t59] ∧
      R (.returned (.int .i64 t59)) w57) (fun ch w => R (.panicked ch) w))) (R (.returned (.int .i64 0)) w20))))))))))) (fun ch w => R (.panicked ch) w))) :
    Calls Try.prog 13 #[.pointer d1, .agg #[.int .i64 a3, .int .i64 a4, .string a5, .string a6, .slice a7a a7n a7c]] w R :=
  D_calls A_law19_Does mixed Try.func13 rfl (Nat.le_of_ble_eq_true (by kernel_rfl)) (by kernel_rfl) (Eq.mp (by kernel_rfl) h)
/-- quayside/quaysidelaw19.Said -/
abbrev F_law19_Said : Nat := 14
def A_law19_Said : Ann := ⟨[], [(6, [(16, .bool false)])], [], []⟩
theorem L_law19_Said {d1 : Option Addr} {a3 : Int} {a4 : Int} {a5 : ByteArray} {a6 : ByteArray} {a7a : Option Addr} {a7n : Nat} {a7c : Nat} {w : World} {R : Ending → World → Prop}
    (h : PA w (.cells #[.int .i64 a3, .int .i64 a4, .string a5, .string a6, .slice a7a a7n a7c] 35) fun w8 => (∃ (t9 : Int), w8.cell? ⟨w.heap.size, 0, none⟩ = some (.int .i64 t9) ∧
      PC Try.prog 18 #[.int .i64 t9, .int .i64 10] w8 (fun v10 w11 => ∃ (t12 : Int), v10 = .int .i64 t12 ∧ PIf ((t12 : Int) == 0) ((∃ (t13 : ByteArray), w11.cell? ⟨w.heap.size, 0 + 2, none⟩ = some (.string t13) ∧
      PC Try.prog 37 #[.pointer d1, .string t13] w11 (fun v14 w15 => ∃ (t16 : Int), v14 = .int .i64 t16 ∧ R (.returned (.int .i64 t16)) w15) (fun ch w => R (.panicked ch) w))) ((∃ J17 : Bool → World → Prop, (PIf ((t12 : Int) == 1) (J17 ((t12 : Int) == 1) w11) (J17 ((t12 : Int) == 2) w11)) ∧
      ∀ (t18 : Bool) (B19 : Nat → Value) (w20 : World), J17 t18 w20 → PIf t18 ((∃ (t21 : ByteArray), w20.cell? ⟨w.heap.size, 0 + 2, none⟩ = some (.string t21) ∧
      (∃ (t22a : Option Addr) (t22n : Nat) (t22c : Nat), w20.cell? ⟨w.heap.size, 0 + 4, none⟩ = some (.slice t22a t22n t22c) ∧ PC Try.prog 38 #[.pointer d1, .string t21, .slice t22a t22n t22c] w20 (fun v23 w24 =>
      ∃ (t25 : Int), v23 = .int .i64 t25 ∧ R (.returned (.int .i64 t25)) w24) (fun ch w => R (.panicked ch) w)))) (PIf ((t12 : Int) == 3) ((∃ (t26 : ByteArray), w20.cell? ⟨w.heap.size, 0 + 2, none⟩ = some (.string t26) ∧
      PC Try.prog 39 #[.pointer d1, .string t26] w20 (fun v27 w28 => ∃ (t29 : Int), v27 = .int .i64 t29 ∧ R (.returned (.int .i64 t29)) w28) (fun ch w => R (.panicked ch) w))) (PIf ((t12 : Int) == 4) ((∃ (t30 : ByteArray), w20.cell? ⟨w.heap.size, 0 + 2, none⟩ = some (.string t30) ∧
      (∃ (t31 : ByteArray), w20.cell? ⟨w.heap.size, 0 + 3, none⟩ = some (.string t31) ∧ PC Try.prog 40 #[.pointer d1, .string t30, .string t31] w20 (fun v32 w33 =>
      ∃ (t34 : Int), v32 = .int .i64 t34 ∧ R (.returned (.int .i64 t34)) w33) (fun ch w => R (.panicked ch) w)))) (PIf ((t12 : Int) == 5) ((∃ (t35 : ByteArray), w20.cell? ⟨w.heap.size, 0 + 2, none⟩ = some (.string t35) ∧
      PC Try.prog 41 #[.pointer d1, .string t35] w20 (fun v36 w37 => ∃ (t38 : Int), v36 = .int .i64 t38 ∧ R (.returned (.int .i64 t38)) w37) (fun ch w => R (.panicked ch) w))) (PIf ((t12 : Int) == 6) ((∃ (t39 : ByteArray), w20.cell? ⟨w.heap.size, 0 + 2, none⟩ = some (.string t39) ∧
      (∃ (t40 : Int), w20.cell? ⟨w.heap.size, 0 + 1, none⟩ = some (.int .i64 t40) ∧ PC Try.prog 42 #[.pointer d1, .string t39, .int .i64 t40] w20 (fun v41 w42 =>
      ∃ (t43 : Int), v41 = .int .i64 t43 ∧ R (.returned (.int .i64 t43)) w42) (fun ch w => R (.panicked ch) w)))) (PIf ((t12 : Int) == 7) ((∃ (t44 : Int), w20.cell? ⟨w.heap.size, 0 + 1, none⟩ = some (.int .i64 t44) ∧
      PC Try.prog 17 #[.pointer d1, .int .i64 t44] w20 (fun v45 w46 => v45 = .tuple #[] ∧ R (.returned (.int .i64 0)) w46) (fun ch w => R (.panicked ch) w))) (PIf ((t12 : Int) == 8) ((∃ (t47 : Int), w20.cell? ⟨w.heap.size, 0 + 1, none⟩ = some (.int .i64 t47) ∧
      PC Try.prog 43 #[.pointer d1, .int .i64 t47] w20 (fun v48 w49 => v48 = .tuple #[] ∧ R (.returned (.int .i64 0)) w49) (fun ch w => R (.panicked ch) w))) (PIf ((t12 : Int) == 9) ((∃ (t50 : ByteArray), w20.cell? ⟨w.heap.size, 0 + 2, none⟩ = some (.string t50) ∧
      PC Try.prog 44 #[.pointer d1, .string t50] w20 (fun v51 w52 => ∃ (t53a : Option Addr) (t53n : Nat) (t53c : Nat), ∃ (t54 : Int), v51 = .tuple #[.slice t53a t53n t53c, .int .i64 t54] ∧
      R (.returned (.int .i64 t54)) w52) (fun ch w => R (.panicked ch) w))) (R (.returned (.int .i64 0)) w20))))))))))) (fun ch w => R (.panicked ch) w))) :
    Calls Try.prog 14 #[.pointer d1, .agg #[.int .i64 a3, .int .i64 a4, .string a5, .string a6, .slice a7a a7n a7c]] w R :=
  D_calls A_law19_Said mixed Try.func14 rfl (Nat.le_of_ble_eq_true (by kernel_rfl)) (by kernel_rfl) (Eq.mp (by kernel_rfl) h)
/-- quayside/quaysidelaw19.Same -/
abbrev F_law19_Same : Nat := 15
def A_law19_Same : Ann := ⟨[(5, [(6, .int .i64 0)])], [], [], []⟩
theorem L_law19_Same {d1 : Option Addr} {m2 : Option Addr} {w : World} {R : Ending → World → Prop}
    (h : PC Try.prog 21 #[.pointer d1] w (fun v3 w4 => ∃ (t5a : Option Addr) (t5n : Nat) (t5c : Nat), v3 = .slice t5a t5n t5c ∧ PC Try.prog 45 #[.pointer m2] w4 (fun v6 w7 =>
      ∃ (t8a : Option Addr) (t8n : Nat) (t8c : Nat), v6 = .slice t8a t8n t8c ∧ PC Try.prog 28 #[.slice t5a t5n t5c, .slice t8a t8n t8c] w7 (fun v9 w10 => ∃ (t11 : Bool), v9 = .bool t11 ∧
      PIf (!t11) (R (.returned (.bool false)) w10) (PC Try.prog 27 #[.pointer d1] w10 (fun v12 w13 => ∃ (t14 : Int), v12 = .int .i64 t14 ∧ PC Try.prog 46 #[.pointer m2] w13 (fun v15 w16 =>
      ∃ (t17 : Int), v15 = .int .i64 t17 ∧ PIf ((t14 : Int) != t17) (R (.returned (.bool false)) w16) (PC Try.prog 25 #[.pointer d1] w16 (fun v18 w19 => ∃ (t20 : Bool), v18 = .bool t20 ∧
      PC Try.prog 47 #[.pointer m2] w19 (fun v21 w22 => ∃ (t23 : Bool), v21 = .bool t23 ∧ PIf (!(t20 == t23)) (R (.returned (.bool false)) w22) ((∃ I24 : Nat → Int → World → Prop, (∃ m25, I24 m25 0 w22) ∧
      ∀ (m25 : Nat) (i27 : Int) (B28 : Nat → Value) (w29 : World), I24 m25 i27 w29 → PIf (decide ((i27 : Int) < ((t5n : Nat) : Int))) ((∃ b30 o31, t5a = some ⟨b30, o31, none⟩ ∧
      (0 : Int) ≤ i27 ∧ i27 < ((t5n : Nat) : Int) ∧ (∃ (t32 : ByteArray), w29.cell? ⟨b30, o31 + Int.toNat i27, none⟩ = some (.string t32) ∧ PC Try.prog 26 #[.pointer d1, .string t32] w29 (fun v33 w34 =>
      ∃ (t35a : Option Addr) (t35n : Nat) (t35c : Nat), ∃ (t36 : Int), v33 = .tuple #[.slice t35a t35n t35c, .int .i64 t36] ∧ (∃ b37 o38, t5a = some ⟨b37, o38, none⟩ ∧
      (0 : Int) ≤ i27 ∧ i27 < ((t5n : Nat) : Int) ∧ (∃ (t39 : ByteArray), w34.cell? ⟨b37, o38 + Int.toNat i27, none⟩ = some (.string t39) ∧ PC Try.prog 44 #[.pointer m2, .string t39] w34 (fun v40 w41 =>
      ∃ (t42a : Option Addr) (t42n : Nat) (t42c : Nat), ∃ (t43 : Int), v40 = .tuple #[.slice t42a t42n t42c, .int .i64 t43] ∧ PIf ((t36 : Int) != t43) (R (.returned (.bool false)) w41) (PC Try.prog 23 #[.slice t35a t35n t35c, .slice t42a t42n t42c] w41 (fun v44 w45 =>
      ∃ (t46 : Bool), v44 = .bool t46 ∧ PIf (!t46) (R (.returned (.bool false)) w45) (PC Try.prog 36 #[.slice t35a t35n t35c] w45 (fun v47 w48 => v47 = .tuple #[] ∧
      (∃ m26, m26 < m25 ∧ I24 m26 (IntKind.wrap .i64 (i27 + 1)) w48)) (fun ch w => R (.panicked ch) w))) (fun ch w => R (.panicked ch) w))) (fun ch w => R (.panicked ch) w)))) (fun ch w =>
      R (.panicked ch) w)))) (R (.returned (.bool true)) w29)))) (fun ch w => R (.panicked ch) w)) (fun ch w => R (.panicked ch) w))) (fun ch w => R (.panicked ch) w)) (fun ch w =>
      R (.panicked ch) w))) (fun ch w => R (.panicked ch) w)) (fun ch w => R (.panicked ch) w)) (fun ch w => R (.panicked ch) w)) :
    Calls Try.prog 15 #[.pointer d1, .pointer m2] w R :=
  D_calls A_law19_Same mixed Try.func15 rfl (Nat.le_of_ble_eq_true (by kernel_rfl)) (by kernel_rfl) (Eq.mp (by kernel_rfl) h)
/-- (*quayside/vdisk.Disk).Crash -/
abbrev F_vdisk_Disk_Crash : Nat := 16
def A_vdisk_Disk_Crash : Ann := ⟨[(2, [])], [], [], [(4, ⟨[0, 0, 2, 4, 8, 0, 0, 64, 128, 256, 512, 0, 2048, 4096, 8192, 17408, 32800, 65536, 131088, 262145], [1048575, 1048575, 1048573, 1048571, 1048567, 1048575, 1048575, 1048511, 1048447, 1048319, 1048063, 1048575, 1046527, 1044479, 1040383, 1031167, 1015775, 983039, 917487, 786430], [0, 0, 0, 0, 1, 0, 0, 0, 0, 1, 0, 0, 0, 0, 1, 0, 0, 0, 0, 2]⟩)]⟩
theorem L_vdisk_Disk_Crash {d1 : Option Addr} {keep2 : Int} {w : World} {R : Ending → World → Prop}
    (h : (∃ b3 o4, d1 = some ⟨b3, o4, none⟩ ∧ (∃ (t5 : Option Nat), w.cell? ⟨b3, o4 + 1, none⟩ = some (.map t5) ∧ PC Try.prog 48 #[.map t5, .func (.func 49) #[] #[]] w (fun v6 w7 =>
      v6 = .tuple #[] ∧ (∃ b8 o9, d1 = some ⟨b8, o9, none⟩ ∧ (∃ (t10 : Option Nat), w7.cell? ⟨b8, o9 + 1, none⟩ = some (.map t10) ∧ PRun Try.prog (Instr.range 59 (.map t10)) w7 (fun v11 w12 =>
      (∃ I13 : Nat → World → Prop, (∃ m14, I13 m14  w12) ∧ ∀ (m14 : Nat)  (B16 : Nat → Value) (w17 : World), I13 m14  w17 → PRun Try.prog (Instr.next v11 false 0) w17 (fun v18 w19 =>
      (v18 = .tuple #[.bool false] ∧ (∃ b20 o21, d1 = some ⟨b20, o21, none⟩ ∧ PS w19 ⟨b20, o21 + 2, none⟩ (.bool false) fun w22 => (∃ b23 o24, d1 = some ⟨b23, o24, none⟩ ∧
      PS w22 ⟨b23, o24 + 4, none⟩ (.bool false) fun w25 => R (.returned (.tuple #[])) w25))) ∨ (∃ k26 x27, v18 = .tuple #[.bool true, k26, x27] ∧ PRun Try.prog (Instr.entry v11) w19 (fun v28 w29 =>
      ∃ (k30 : Value), ∃ (x31 : Option Addr), v28 = .tuple #[k30, .pointer x31] ∧ (∀ w33, Drew w29 w33 → (∃ b34 o35, x31 = some ⟨b34, o35, none⟩ ∧ (∃ (t36 : Int), w33.cell? ⟨b34, o35 + 1, none⟩ = some (.int .i64 t36) ∧
      (∃ b37 o38, x31 = some ⟨b37, o38, none⟩ ∧ (∃ (t39a : Option Addr) (t39n : Nat) (t39c : Nat), w33.cell? ⟨b37, o38, none⟩ = some (.slice t39a t39n t39c) ∧
      (∃ b40 o41, x31 = some ⟨b40, o41, none⟩ ∧ (∃ (t42 : Int), w33.cell? ⟨b40, o41 + 1, none⟩ = some (.int .i64 t42) ∧ PC Try.prog 50 #[.pointer x31, .int .i64 (IntKind.wrap .i64 (t36 + (if (if (IntKind.wrap .i64 (((t39n : Nat) : Int) - t42)) < keep2 then (IntKind.wrap .i64 (((t39n : Nat) : Int) - t42)) else keep2) > 0 then (if (IntKind.wrap .i64 (((t39n : Nat) : Int) - t42)) < keep2 then (IntKind.wrap .i64 (((t39n : Nat) : Int) - t42)) else keep2) else 0)))] w33 (fun v43 w44 =>
      v43 = .tuple #[] ∧ (∃ m15, m15 < m14 ∧ I13 m15  w44)) (fun ch w => False))))))))) (fun pv w => R (.panicked [{ v := pv, recovered := false }]) w))) (fun pv w =>
      R (.panicked [{ v := pv, recovered := false }]) w))) (fun pv w => R (.panicked [{ v := pv, recovered := false }]) w)))) (fun ch w => R (.panicked ch) w)))) :
    Calls Try.prog 16 #[.pointer d1, .int .i64 keep2] w R :=
  D_calls A_vdisk_Disk_Crash mixed Try.func16 rfl (Nat.le_of_ble_eq_true (by kernel_rfl)) (by kernel_rfl) (Eq.mp (by kernel_rfl) h)
/-- (*quayside/quaysideref19.Disk).Crash -/
abbrev F_ref19_Disk_Crash : Nat := 17
def A_ref19_Disk_Crash : Ann := ⟨[(2, [(4, .slice none 0 0), (5, .int .i64 0)])], [], [], []⟩
theorem L_ref19_Disk_Crash {d1 : Option Addr} {keep2 : Int} {w : World} {R : Ending → World → Prop}
    (h : (∃ I3 : Nat → Option Addr → Nat → Nat → Int → World → Prop, (∃ m4, I3 m4 none 0 0 0 w) ∧ ∀ (m4 : Nat) (out6a : Option Addr) (out6n : Nat) (out6c : Nat) (i7 : Int) (B8 : Nat → Value) (w9 : World), I3 m4 out6a out6n out6c i7 w9 → (∃ b10 o11, d1 = some ⟨b10, o11, none⟩ ∧
      (∃ (t12a : Option Addr) (t12n : Nat) (t12c : Nat), w9.cell? ⟨b10, o11 + 2, none⟩ = some (.slice t12a t12n t12c) ∧ PIf (decide ((i7 : Int) < ((t12n : Nat) : Int))) ((∃ b13 o14, d1 = some ⟨b13, o14, none⟩ ∧
      (∃ (t15a : Option Addr) (t15n : Nat) (t15c : Nat), w9.cell? ⟨b13, o14 + 2, none⟩ = some (.slice t15a t15n t15c) ∧ (∃ b16 o17, t15a = some ⟨b16, o17, none⟩ ∧
      (0 : Int) ≤ i7 ∧ i7 < ((t15n : Nat) : Int) ∧ (∃ (t18 : ByteArray), ∃ (t19a : Option Addr) (t19n : Nat) (t19c : Nat), ∃ (t20 : Int), ∃ (t21 : Bool), w9.cell? ⟨b16, o17 + Int.toNat i7 * 4, none⟩ = some (.string t18) ∧
      w9.cell? ⟨b16, o17 + Int.toNat i7 * 4 + 1, none⟩ = some (.slice t19a t19n t19c) ∧ w9.cell? ⟨b16, o17 + Int.toNat i7 * 4 + 2, none⟩ = some (.int .i64 t20) ∧
      w9.cell? ⟨b16, o17 + Int.toNat i7 * 4 + 3, none⟩ = some (.bool t21) ∧ PA w9 (.cells #[.string (⟨#[]⟩ : ByteArray), .slice none 0 0, .int .i64 0, .bool false] 73) fun w22 =>
      PS w22 ⟨w9.heap.size, 0, none⟩ (.string t18) fun w23 => PS w23 ⟨w9.heap.size, 0 + 1, none⟩ (.slice t19a t19n t19c) fun w24 => PS w24 ⟨w9.heap.size, 0 + 2, none⟩ (.int .i64 t20) fun w25 =>
      PS w25 ⟨w9.heap.size, 0 + 3, none⟩ (.bool t21) fun w26 => (∃ (t27 : Bool), w26.cell? ⟨w9.heap.size, 0 + 3, none⟩ = some (.bool t27) ∧ PIf t27 ((∃ (t28a : Option Addr) (t28n : Nat) (t28c : Nat), w26.cell? ⟨w9.heap.size, 0 + 1, none⟩ = some (.slice t28a t28n t28c) ∧
      (∃ (t29 : Int), w26.cell? ⟨w9.heap.size, 0 + 2, none⟩ = some (.int .i64 t29) ∧ (∃ (t30a : Option Addr) (t30n : Nat) (t30c : Nat), w26.cell? ⟨w9.heap.size, 0 + 1, none⟩ = some (.slice t30a t30n t30c) ∧
      (∃ (t31 : Int), w26.cell? ⟨w9.heap.size, 0 + 2, none⟩ = some (.int .i64 t31) ∧ ((0 : Int) ≤ (IntKind.wrap .i64 (t29 + (if (if (IntKind.wrap .i64 (((t30n : Nat) : Int) - t31)) < keep2 then (IntKind.wrap .i64 (((t30n : Nat) : Int) - t31)) else keep2) > 0 then (if (IntKind.wrap .i64 (((t30n : Nat) : Int) - t31)) < keep2 then (IntKind.wrap .i64 (((t30n : Nat) : Int) - t31)) else keep2) else 0))) ∧
      (IntKind.wrap .i64 (t29 + (if (if (IntKind.wrap .i64 (((t30n : Nat) : Int) - t31)) < keep2 then (IntKind.wrap .i64 (((t30n : Nat) : Int) - t31)) else keep2) > 0 then (if (IntKind.wrap .i64 (((t30n : Nat) : Int) - t31)) < keep2 then (IntKind.wrap .i64 (((t30n : Nat) : Int) - t31)) else keep2) else 0))) ≤ ((t28c : Nat) : Int) ∧
      PC Try.prog 35 #[.slice t28a (Int.toNat (IntKind.wrap .i64 (t29 + (if (if (IntKind.wrap .i64 (((t30n : Nat) : Int) - t31)) < keep2 then (IntKind.wrap .i64 (((t30n : Nat) : Int) - t31)) else keep2) > 0 then (if (IntKind.wrap .i64 (((t30n : Nat) : Int) - t31)) < keep2 then (IntKind.wrap .i64 (((t30n : Nat) : Int) - t31)) else keep2) else 0)))) t28c] w26 (fun v32 w33 =>
      ∃ (t34a : Option Addr) (t34n : Nat) (t34c : Nat), v32 = .slice t34a t34n t34c ∧ PS w33 ⟨w9.heap.size, 0 + 1, none⟩ (.slice t34a t34n t34c) fun w35 => (∃ (t36a : Option Addr) (t36n : Nat) (t36c : Nat), w35.cell? ⟨w9.heap.size, 0 + 1, none⟩ = some (.slice t36a t36n t36c) ∧
      PS w35 ⟨w9.heap.size, 0 + 2, none⟩ (.int .i64 ((t36n : Nat) : Int)) fun w37 => (∃ (t38 : ByteArray), ∃ (t39a : Option Addr) (t39n : Nat) (t39c : Nat), ∃ (t40 : Int), ∃ (t41 : Bool), w37.cell? ⟨w9.heap.size, 0, none⟩ = some (.string t38) ∧
      w37.cell? ⟨w9.heap.size, 0 + 1, none⟩ = some (.slice t39a t39n t39c) ∧ w37.cell? ⟨w9.heap.size, 0 + 2, none⟩ = some (.int .i64 t40) ∧ w37.cell? ⟨w9.heap.size, 0 + 3, none⟩ = some (.bool t41) ∧
      PA w37 (.cells #[.string t38, .slice t39a t39n t39c, .int .i64 t40, .bool t41] 73) fun w42 => PRun Try.prog (Builtin.append_ #[62, 62] 62 #[.slice out6a out6n out6c, .slice (some ⟨w37.heap.size, 0, none⟩) 1 1]) w42 (fun v43 w44 =>
      ∃ (t45a : Option Addr) (t45n : Nat) (t45c : Nat), v43 = .slice t45a t45n t45c ∧ (∃ m5, m5 < m4 ∧ I3 m5 t45a t45n t45c (IntKind.wrap .i64 (i7 + 1)) w44)) (fun pv w =>
      R (.panicked [{ v := pv, recovered := false }]) w)))) (fun ch w => R (.panicked ch) w))))))) ((∃ m5, m5 < m4 ∧ I3 m5 out6a out6n out6c (IntKind.wrap .i64 (i7 + 1)) w26)))))))) ((∃ b46 o47, d1 = some ⟨b46, o47, none⟩ ∧
      PS w9 ⟨b46, o47 + 2, none⟩ (.slice out6a out6n out6c) fun w48 => (∃ b49 o50, d1 = some ⟨b49, o50, none⟩ ∧ PS w48 ⟨b49, o50 + 1, none⟩ (.int .i64 (-1)) fun w51 =>
      (∃ b52 o53, d1 = some ⟨b52, o53, none⟩ ∧ PS w51 ⟨b52, o53 + 3, none⟩ (.bool false) fun w54 => R (.returned (.tuple #[])) w54)))))))) :
    Calls Try.prog 17 #[.pointer d1, .int .i64 keep2] w R :=
  D_calls A_ref19_Disk_Crash mixed Try.func17 rfl (Nat.le_of_ble_eq_true (by kernel_rfl)) (by kernel_rfl) (Eq.mp (by kernel_rfl) h)
/-- quayside/quaysidekit.Pick -/
abbrev F_kit_Pick : Nat := 18
def A_kit_Pick : Ann := ⟨[], [], [], []⟩
theorem L_kit_Pick {k1 : Int} {n2 : Int} {w : World} {R : Ending → World → Prop}
    (h : PIf (decide ((n2 : Int) < 1)) (R (.returned (.int .i64 0)) w) (PRun Try.prog (do eqGuard .rem 3 (.tmp 7) (.tmp 8) (.int .i64 k1) (.int .i64 n2); binOp .rem 3 (.int .i64 k1) (.int .i64 n2)) w (fun v3 w4 =>
      ∃ (t5 : Int), v3 = .int .i64 t5 ∧ PIf (decide ((t5 : Int) < 0)) (R (.returned (.int .i64 (IntKind.wrap .i64 (t5 + n2)))) w4) (R (.returned (.int .i64 t5)) w4)) (fun pv w =>
      R (.panicked [{ v := pv, recovered := false }]) w))) :
    Calls Try.prog 18 #[.int .i64 k1, .int .i64 n2] w R :=
  D_calls A_kit_Pick mixed Try.func18 rfl (Nat.le_of_ble_eq_true (by kernel_rfl)) (by kernel_rfl) (Eq.mp (by kernel_rfl) h)
/-- quayside/quaysidelaw19.file -/
abbrev F_law19_file : Nat := 19
def A_law19_file : Ann := ⟨[], [], [], []⟩
theorem L_law19_file {d1 : Option Addr} {name2 : ByteArray} {w : World} {R : Ending → World → Prop}
    (h : PC Try.prog 26 #[.pointer d1, .string name2] w (fun v3 w4 => ∃ (t5a : Option Addr) (t5n : Nat) (t5c : Nat), ∃ (t6 : Int), v3 = .tuple #[.slice t5a t5n t5c, .int .i64 t6] ∧
      R (.returned (.slice t5a t5n t5c)) w4) (fun ch w => R (.panicked ch) w)) :
    Calls Try.prog 19 #[.pointer d1, .string name2] w R :=
  D_calls A_law19_file mixed Try.func19 rfl (Nat.le_of_ble_eq_true (by kernel_rfl)) (by kernel_rfl) (Eq.mp (by kernel_rfl) h)
/-- quayside/quaysidelaw19.has -/
abbrev F_law19_has : Nat := 20
def A_law19_has : Ann := ⟨[(2, [(5, .int .i64 0)])], [], [], []⟩
theorem L_law19_has {l1a : Option Addr} {l1n : Nat} {l1c : Nat} {s2 : ByteArray} {w : World} {R : Ending → World → Prop}
    (h : (∃ I3 : Nat → Int → World → Prop, (∃ m4, I3 m4 0 w) ∧ ∀ (m4 : Nat) (i6 : Int) (B7 : Nat → Value) (w8 : World), I3 m4 i6 w8 → PIf (decide ((i6 : Int) < ((l1n : Nat) : Int))) ((∃ b9 o10, l1a = some ⟨b9, o10, none⟩ ∧
      (0 : Int) ≤ i6 ∧ i6 < ((l1n : Nat) : Int) ∧ (∃ (t11 : ByteArray), w8.cell? ⟨b9, o10 + Int.toNat i6, none⟩ = some (.string t11) ∧ PIf ((ByteArray.toList t11) == (ByteArray.toList s2)) (R (.returned (.bool true)) w8) ((∃ m5, m5 < m4 ∧
      I3 m5 (IntKind.wrap .i64 (i6 + 1)) w8))))) (R (.returned (.bool false)) w8))) :
    Calls Try.prog 20 #[.slice l1a l1n l1c, .string s2] w R :=
  D_calls A_law19_has mixed Try.func20 rfl (Nat.le_of_ble_eq_true (by kernel_rfl)) (by kernel_rfl) (Eq.mp (by kernel_rfl) h)
/-- (*quayside/vdisk.Disk).List -/
abbrev F_vdisk_Disk_List : Nat := 21
def A_vdisk_Disk_List : Ann := ⟨[], [], [], []⟩
theorem L_vdisk_Disk_List {d1 : Option Addr} {w : World} {R : Ending → World → Prop}
    (h : (∃ b2 o3, d1 = some ⟨b2, o3, none⟩ ∧ (∃ (t4 : Option Nat), w.cell? ⟨b2, o3 + 1, none⟩ = some (.map t4) ∧ PC Try.prog 52 #[.map t4] w (fun v5 w6 => ∃ (t7 : Value), v5 = t7 ∧
      PC Try.prog 51 #[t7] w6 (fun v8 w9 => ∃ (t10a : Option Addr) (t10n : Nat) (t10c : Nat), v8 = .slice t10a t10n t10c ∧ R (.returned (.slice t10a t10n t10c)) w9) (fun ch w =>
      R (.panicked ch) w)) (fun ch w => R (.panicked ch) w)))) :
    Calls Try.prog 21 #[.pointer d1] w R :=
  D_calls A_vdisk_Disk_List mixed Try.func21 rfl (Nat.le_of_ble_eq_true (by kernel_rfl)) (by kernel_rfl) (Eq.mp (by kernel_rfl) h)
/-- quayside/quaysidelaw19.begins -/
abbrev F_law19_begins : Nat := 22
def A_law19_begins : Ann := ⟨[], [], [], []⟩
theorem L_law19_begins {a1a : Option Addr} {a1n : Nat} {a1c : Nat} {b2a : Option Addr} {b2n : Nat} {b2c : Nat} {w : World} {R : Ending → World → Prop}
    (h : PIf (decide ((((a1n : Nat) : Int) : Int) ≤ ((b2n : Nat) : Int))) (((0 : Int) ≤ ((a1n : Nat) : Int) ∧ ((a1n : Nat) : Int) ≤ ((b2c : Nat) : Int) ∧ PC Try.prog 23 #[.slice a1a a1n a1c, .slice b2a (Int.toNat ((a1n : Nat) : Int)) b2c] w (fun v3 w4 =>
      ∃ (t5 : Bool), v3 = .bool t5 ∧ R (.returned (.bool t5)) w4) (fun ch w => R (.panicked ch) w))) (R (.returned (.bool false)) w)) :
    Calls Try.prog 22 #[.slice a1a a1n a1c, .slice b2a b2n b2c] w R :=
  D_calls A_law19_begins mixed Try.func22 rfl (Nat.le_of_ble_eq_true (by kernel_rfl)) (by kernel_rfl) (Eq.mp (by kernel_rfl) h)
/-- quayside/quaysidekit.SameBytes -/
abbrev F_kit_SameBytes : Nat := 23
def A_kit_SameBytes : Ann := ⟨[(4, [(5, .int .i64 0)])], [], [], []⟩
theorem L_kit_SameBytes {a1a : Option Addr} {a1n : Nat} {a1c : Nat} {b2a : Option Addr} {b2n : Nat} {b2c : Nat} {w : World} {R : Ending → World → Prop}
    (h : PIf ((((a1n : Nat) : Int) : Int) != ((b2n : Nat) : Int)) (R (.returned (.bool false)) w) ((∃ I3 : Nat → Int → World → Prop, (∃ m4, I3 m4 0 w) ∧ ∀ (m4 : Nat) (i6 : Int) (B7 : Nat → Value) (w8 : World), I3 m4 i6 w8 → PIf (decide ((i6 : Int) < ((a1n : Nat) : Int))) ((∃ b10 o11, a1a = some ⟨b10, o11, none⟩ ∧
      (0 : Int) ≤ i6 ∧ i6 < ((a1n : Nat) : Int) ∧ (∃ (t12 : Int), w8.cell? ⟨b10, o11 + Int.toNat i6, none⟩ = some (.int .u8 t12) ∧ (∃ b13 o14, b2a = some ⟨b13, o14, none⟩ ∧
      (0 : Int) ≤ i6 ∧ i6 < ((b2n : Nat) : Int) ∧ (∃ (t15 : Int), w8.cell? ⟨b13, o14 + Int.toNat i6, none⟩ = some (.int .u8 t15) ∧ (∀ w9, Drew w8 w9 → PIf ((t12 : Int) != t15) (R (.returned (.bool false)) w9) ((∃ m5, m5 < m4 ∧
      I3 m5 (IntKind.wrap .i64 (i6 + 1)) w9)))))))) (R (.returned (.bool true)) w8)))) :
    Calls Try.prog 23 #[.slice a1a a1n a1c, .slice b2a b2n b2c] w R :=
  D_calls A_kit_SameBytes mixed Try.func23 rfl (Nat.le_of_ble_eq_true (by kernel_rfl)) (by kernel_rfl) (Eq.mp (by kernel_rfl) h)
/-- (*quayside/vdisk.Disk).Fuse -/
abbrev F_vdisk_Disk_Fuse : Nat := 24
def A_vdisk_Disk_Fuse : Ann := ⟨[], [], [], []⟩
theorem L_vdisk_Disk_Fuse {d1 : Option Addr} {n2 : Int} {w : World} {R : Ending → World → Prop}
    (h : (∃ b3 o4, d1 = some ⟨b3, o4, none⟩ ∧ PS w ⟨b3, o4 + 2, none⟩ (.bool true) fun w5 => (∃ b6 o7, d1 = some ⟨b6, o7, none⟩ ∧ PS w5 ⟨b6, o7 + 3, none⟩ (.int .i64 (if n2 > 0 then n2 else 0)) fun w8 =>
      R (.returned (.tuple #[])) w8))) :
    Calls Try.prog 24 #[.pointer d1, .int .i64 n2] w R :=
  D_calls A_vdisk_Disk_Fuse mixed Try.func24 rfl (Nat.le_of_ble_eq_true (by kernel_rfl)) (by kernel_rfl) (Eq.mp (by kernel_rfl) h)
/-- (*quayside/vdisk.Disk).Dead -/
abbrev F_vdisk_Disk_Dead : Nat := 25
def A_vdisk_Disk_Dead : Ann := ⟨[], [], [], []⟩
theorem L_vdisk_Disk_Dead {d1 : Option Addr} {w : World} {R : Ending → World → Prop}
    (h : (∃ b2 o3, d1 = some ⟨b2, o3, none⟩ ∧ (∃ (t4 : Bool), w.cell? ⟨b2, o3 + 4, none⟩ = some (.bool t4) ∧ R (.returned (.bool t4)) w))) :
    Calls Try.prog 25 #[.pointer d1] w R :=
  D_calls A_vdisk_Disk_Dead mixed Try.func25 rfl (Nat.le_of_ble_eq_true (by kernel_rfl)) (by kernel_rfl) (Eq.mp (by kernel_rfl) h)
/-- (*quayside/vdisk.Disk).Read -/
abbrev F_vdisk_Disk_Read : Nat := 26
def A_vdisk_Disk_Read : Ann := ⟨[], [], [], []⟩
theorem L_vdisk_Disk_Read {d1 : Option Addr} {name2 : ByteArray} {w : World} {R : Ending → World → Prop}
    (h : (∃ b3 o4, d1 = some ⟨b3, o4, none⟩ ∧ (∃ (t5 : Option Nat), w.cell? ⟨b3, o4 + 1, none⟩ = some (.map t5) ∧ PRun Try.prog (Instr.lookup 59 (.map t5) (.string name2) false) w (fun v6 w7 =>
      ∃ (t8 : Option Addr), v6 = .pointer t8 ∧ (∃ b9 o10, d1 = some ⟨b9, o10, none⟩ ∧ (∃ (t11 : Bool), w7.cell? ⟨b9, o10 + 4, none⟩ = some (.bool t11) ∧ PIf t11 (R (.returned (.tuple #[.slice none 0 0, .int .i64 15])) w7) (PRun Try.prog (do eqGuard .eql 68 (.tmp 24) (.const (.pointer none)) (.pointer t8) (.pointer none); binOp .eql 68 (.pointer t8) (.pointer none)) w7 (fun v12 w13 =>
      ∃ (t14 : Bool), v12 = .bool t14 ∧ PIf t14 (R (.returned (.tuple #[.slice none 0 0, .int .i64 14])) w13) ((∃ b15 o16, t8 = some ⟨b15, o16, none⟩ ∧ (∃ (t17a : Option Addr) (t17n : Nat) (t17c : Nat), w13.cell? ⟨b15, o16, none⟩ = some (.slice t17a t17n t17c) ∧
      PC Try.prog 53 #[.slice t17a t17n t17c] w13 (fun v18 w19 => ∃ (t20a : Option Addr) (t20n : Nat) (t20c : Nat), v18 = .slice t20a t20n t20c ∧ R (.returned (.tuple #[.slice t20a t20n t20c, .int .i64 0])) w19) (fun ch w =>
      R (.panicked ch) w))))) (fun pv w => R (.panicked [{ v := pv, recovered := false }]) w))))) (fun pv w => R (.panicked [{ v := pv, recovered := false }]) w)))) :
    Calls Try.prog 26 #[.pointer d1, .string name2] w R :=
  D_calls A_vdisk_Disk_Read mixed Try.func26 rfl (Nat.le_of_ble_eq_true (by kernel_rfl)) (by kernel_rfl) (Eq.mp (by kernel_rfl) h)
/-- (*quayside/vdisk.Disk).Room -/
abbrev F_vdisk_Disk_Room : Nat := 27
def A_vdisk_Disk_Room : Ann := ⟨[(3, [(3, .int .i64 0)])], [], [], []⟩
theorem L_vdisk_Disk_Room {d1 : Option Addr} {w : World} {R : Ending → World → Prop}
    (h : (∃ b2 o3, d1 = some ⟨b2, o3, none⟩ ∧ (∃ (t4 : Int), w.cell? ⟨b2, o3, none⟩ = some (.int .i64 t4) ∧ (∃ b5 o6, d1 = some ⟨b5, o6, none⟩ ∧ (∃ (t7 : Option Nat), w.cell? ⟨b5, o6 + 1, none⟩ = some (.map t7) ∧
      PRun Try.prog (Instr.range 59 (.map t7)) w (fun v8 w9 => (∃ I10 : Nat → Int → World → Prop, (∃ m11, I10 m11 t4 w9) ∧ ∀ (m11 : Nat) (n13 : Int) (B14 : Nat → Value) (w15 : World), I10 m11 n13 w15 → PRun Try.prog (Instr.next v8 false 0) w15 (fun v16 w17 =>
      (v16 = .tuple #[.bool false] ∧ R (.returned (.int .i64 n13)) w17) ∨ (∃ k18 x19, v16 = .tuple #[.bool true, k18, x19] ∧ PRun Try.prog (Instr.entry v8) w17 (fun v20 w21 =>
      ∃ (k22 : Value), ∃ (x23 : Option Addr), v20 = .tuple #[k22, .pointer x23] ∧ (∃ b24 o25, x23 = some ⟨b24, o25, none⟩ ∧ (∃ (t26a : Option Addr) (t26n : Nat) (t26c : Nat), w21.cell? ⟨b24, o25, none⟩ = some (.slice t26a t26n t26c) ∧
      (∃ m12, m12 < m11 ∧ I10 m12 (IntKind.wrap .i64 (n13 - ((t26n : Nat) : Int))) w21)))) (fun pv w => R (.panicked [{ v := pv, recovered := false }]) w))) (fun pv w =>
      R (.panicked [{ v := pv, recovered := false }]) w))) (fun pv w => R (.panicked [{ v := pv, recovered := false }]) w)))))) :
    Calls Try.prog 27 #[.pointer d1] w R :=
  D_calls A_vdisk_Disk_Room mixed Try.func27 rfl (Nat.le_of_ble_eq_true (by kernel_rfl)) (by kernel_rfl) (Eq.mp (by kernel_rfl) h)
/-- quayside/quaysidekit.SameTexts -/
abbrev F_kit_SameTexts : Nat := 28
def A_kit_SameTexts : Ann := ⟨[(4, [(5, .int .i64 0)])], [], [], []⟩
theorem L_kit_SameTexts {a1a : Option Addr} {a1n : Nat} {a1c : Nat} {b2a : Option Addr} {b2n : Nat} {b2c : Nat} {w : World} {R : Ending → World → Prop}
    (h : PIf ((((a1n : Nat) : Int) : Int) != ((b2n : Nat) : Int)) (R (.returned (.bool false)) w) ((∃ I3 : Nat → Int → World → Prop, (∃ m4, I3 m4 0 w) ∧ ∀ (m4 : Nat) (i6 : Int) (B7 : Nat → Value) (w8 : World), I3 m4 i6 w8 → PIf (decide ((i6 : Int) < ((a1n : Nat) : Int))) ((∃ b10 o11, a1a = some ⟨b10, o11, none⟩ ∧
      (0 : Int) ≤ i6 ∧ i6 < ((a1n : Nat) : Int) ∧ (∃ (t12 : ByteArray), w8.cell? ⟨b10, o11 + Int.toNat i6, none⟩ = some (.string t12) ∧ (∃ b13 o14, b2a = some ⟨b13, o14, none⟩ ∧
      (0 : Int) ≤ i6 ∧ i6 < ((b2n : Nat) : Int) ∧ (∃ (t15 : ByteArray), w8.cell? ⟨b13, o14 + Int.toNat i6, none⟩ = some (.string t15) ∧ (∀ w9, Drew w8 w9 → PIf (!((ByteArray.toList t12) == (ByteArray.toList t15))) (R (.returned (.bool false)) w9) ((∃ m5, m5 < m4 ∧
      I3 m5 (IntKind.wrap .i64 (i6 + 1)) w9)))))))) (R (.returned (.bool true)) w8)))) :
    Calls Try.prog 28 #[.slice a1a a1n a1c, .slice b2a b2n b2c] w R :=
  D_calls A_kit_SameTexts mixed Try.func28 rfl (Nat.le_of_ble_eq_true (by kernel_rfl)) (by kernel_rfl) (Eq.mp (by kernel_rfl) h)
/-- (*quayside/vdisk.Disk).Create -/
abbrev F_vdisk_Disk_Create : Nat := 29
def A_vdisk_Disk_Create : Ann := ⟨[], [], [], []⟩
theorem L_vdisk_Disk_Create {d1 : Option Addr} {name2 : ByteArray} {w : World} {R : Ending → World → Prop}
    (h : PA w (.cells #[.pointer d1] 25) fun w3 => PA w3 (.cells #[.string name2] 9) fun w4 => (∃ (t5 : Option Addr), w4.cell? ⟨w.heap.size, 0, none⟩ = some (.pointer t5) ∧
      PC Try.prog 54 #[.pointer t5, .func (.func 55) #[] #[.pointer (some ⟨w3.heap.size, 0, none⟩), .pointer (some ⟨w.heap.size, 0, none⟩)]] w4 (fun v6 w7 =>
      ∃ (t8 : Int), v6 = .int .i64 t8 ∧ R (.returned (.int .i64 t8)) w7) (fun ch w => R (.panicked ch) w))) :
    Calls Try.prog 29 #[.pointer d1, .string name2] w R :=
  D_calls A_vdisk_Disk_Create mixed Try.func29 rfl (Nat.le_of_ble_eq_true (by kernel_rfl)) (by kernel_rfl) (Eq.mp (by kernel_rfl) h)
/-- (*quayside/vdisk.Disk).Rename -/
abbrev F_vdisk_Disk_Rename : Nat := 30
def A_vdisk_Disk_Rename : Ann := ⟨[], [], [], []⟩
theorem L_vdisk_Disk_Rename {d1 : Option Addr} {from2 : ByteArray} {to3 : ByteArray} {w : World} {R : Ending → World → Prop}
    (h : PA w (.cells #[.pointer d1] 25) fun w4 => PA w4 (.cells #[.string from2] 9) fun w5 => PA w5 (.cells #[.string to3] 9) fun w6 => (∃ (t7 : Option Addr), w6.cell? ⟨w.heap.size, 0, none⟩ = some (.pointer t7) ∧
      (∃ (t8 : ByteArray), w6.cell? ⟨w4.heap.size, 0, none⟩ = some (.string t8) ∧ PC Try.prog 57 #[.pointer t7, .string t8, .func (.func 58) #[] #[.pointer (some ⟨w5.heap.size, 0, none⟩), .pointer (some ⟨w.heap.size, 0, none⟩), .pointer (some ⟨w4.heap.size, 0, none⟩)]] w6 (fun v9 w10 =>
      ∃ (t11 : Int), v9 = .int .i64 t11 ∧ R (.returned (.int .i64 t11)) w10) (fun ch w => R (.panicked ch) w)))) :
    Calls Try.prog 30 #[.pointer d1, .string from2, .string to3] w R :=
  D_calls A_vdisk_Disk_Rename mixed Try.func30 rfl (Nat.le_of_ble_eq_true (by kernel_rfl)) (by kernel_rfl) (Eq.mp (by kernel_rfl) h)
/-- (*quayside/vdisk.Disk).Delete -/
abbrev F_vdisk_Disk_Delete : Nat := 31
def A_vdisk_Disk_Delete : Ann := ⟨[], [], [], []⟩
theorem L_vdisk_Disk_Delete {d1 : Option Addr} {name2 : ByteArray} {w : World} {R : Ending → World → Prop}
    (h : PA w (.cells #[.pointer d1] 25) fun w3 => PA w3 (.cells #[.string name2] 9) fun w4 => (∃ (t5 : Option Addr), w4.cell? ⟨w.heap.size, 0, none⟩ = some (.pointer t5) ∧
      (∃ (t6 : ByteArray), w4.cell? ⟨w3.heap.size, 0, none⟩ = some (.string t6) ∧ PC Try.prog 57 #[.pointer t5, .string t6, .func (.func 59) #[] #[.pointer (some ⟨w.heap.size, 0, none⟩), .pointer (some ⟨w3.heap.size, 0, none⟩)]] w4 (fun v7 w8 =>
      ∃ (t9 : Int), v7 = .int .i64 t9 ∧ R (.returned (.int .i64 t9)) w8) (fun ch w => R (.panicked ch) w)))) :
    Calls Try.prog 31 #[.pointer d1, .string name2] w R :=
  D_calls A_vdisk_Disk_Delete mixed Try.func31 rfl (Nat.le_of_ble_eq_true (by kernel_rfl)) (by kernel_rfl) (Eq.mp (by kernel_rfl) h)
/-- (*quayside/vdisk.Disk).Sync -/
abbrev F_vdisk_Disk_Sync : Nat := 32
def A_vdisk_Disk_Sync : Ann := ⟨[], [], [], []⟩
theorem L_vdisk_Disk_Sync {d1 : Option Addr} {name2 : ByteArray} {w : World} {R : Ending → World → Prop}
    (h : PC Try.prog 57 #[.pointer d1, .string name2, .func (.func 60) #[] #[]] w (fun v3 w4 => ∃ (t5 : Int), v3 = .int .i64 t5 ∧ R (.returned (.int .i64 t5)) w4) (fun ch w =>
      R (.panicked ch) w)) :
    Calls Try.prog 32 #[.pointer d1, .string name2] w R :=
  D_calls A_vdisk_Disk_Sync mixed Try.func32 rfl (Nat.le_of_ble_eq_true (by kernel_rfl)) (by kernel_rfl) (Eq.mp (by kernel_rfl) h)
/-- (*quayside/vdisk.Disk).Cut -/
abbrev F_vdisk_Disk_Cut : Nat := 33
def A_vdisk_Disk_Cut : Ann := ⟨[], [], [], []⟩
theorem L_vdisk_Disk_Cut {d1 : Option Addr} {name2 : ByteArray} {n3 : Int} {w : World} {R : Ending → World → Prop}
    (h : PA w (.cells #[.int .i64 n3] 3) fun w4 => PC Try.prog 57 #[.pointer d1, .string name2, .func (.func 61) #[] #[.pointer (some ⟨w.heap.size, 0, none⟩)]] w4 (fun v5 w6 =>
      ∃ (t7 : Int), v5 = .int .i64 t7 ∧ R (.returned (.int .i64 t7)) w6) (fun ch w => R (.panicked ch) w)) :
    Calls Try.prog 33 #[.pointer d1, .string name2, .int .i64 n3] w R :=
  D_calls A_vdisk_Disk_Cut mixed Try.func33 rfl (Nat.le_of_ble_eq_true (by kernel_rfl)) (by kernel_rfl) (Eq.mp (by kernel_rfl) h)
/-- (*quayside/vdisk.Disk).Append -/
abbrev F_vdisk_Disk_Append : Nat := 34
def A_vdisk_Disk_Append : Ann := ⟨[], [], [], []⟩
theorem L_vdisk_Disk_Append {d1 : Option Addr} {name2 : ByteArray} {b3a : Option Addr} {b3n : Nat} {b3c : Nat} {w : World} {R : Ending → World → Prop}
    (h : PA w (.cells #[.pointer d1] 25) fun w4 => PA w4 (.cells #[.slice b3a b3n b3c] 33) fun w5 => (∃ (t6 : Option Addr), w5.cell? ⟨w.heap.size, 0, none⟩ = some (.pointer t6) ∧
      PC Try.prog 57 #[.pointer t6, .string name2, .func (.func 62) #[] #[.pointer (some ⟨w4.heap.size, 0, none⟩), .pointer (some ⟨w.heap.size, 0, none⟩)]] w5 (fun v7 w8 =>
      ∃ (t9 : Int), v7 = .int .i64 t9 ∧ R (.returned (.int .i64 t9)) w8) (fun ch w => R (.panicked ch) w))) :
    Calls Try.prog 34 #[.pointer d1, .string name2, .slice b3a b3n b3c] w R :=
  D_calls A_vdisk_Disk_Append mixed Try.func34 rfl (Nat.le_of_ble_eq_true (by kernel_rfl)) (by kernel_rfl) (Eq.mp (by kernel_rfl) h)
/-- quayside/quaysidekit.CopyBytes -/
abbrev F_kit_CopyBytes : Nat := 35
def A_kit_CopyBytes : Ann := ⟨[(3, [(3, .slice none 0 0), (4, .int .i64 0)])], [], [], []⟩
theorem L_kit_CopyBytes {l1a : Option Addr} {l1n : Nat} {l1c : Nat} {w : World} {R : Ending → World → Prop}
    (h : (∃ I2 : Nat → Option Addr → Nat → Nat → Int → World → Prop, (∃ m3, I2 m3 none 0 0 0 w) ∧ ∀ (m3 : Nat) (out5a : Option Addr) (out5n : Nat) (out5c : Nat) (i6 : Int) (B7 : Nat → Value) (w8 : World), I2 m3 out5a out5n out5c i6 w8 → PIf (decide ((i6 : Int) < ((l1n : Nat) : Int))) ((∃ b9 o10, l1a = some ⟨b9, o10, none⟩ ∧
      (0 : Int) ≤ i6 ∧ i6 < ((l1n : Nat) : Int) ∧ (∃ (t11 : Int), w8.cell? ⟨b9, o10 + Int.toNat i6, none⟩ = some (.int .u8 t11) ∧ PA w8 (.cells #[.int .u8 t11] 5) fun w12 =>
      PRun Try.prog (Builtin.append_ #[33, 33] 33 #[.slice out5a out5n out5c, .slice (some ⟨w8.heap.size, 0, none⟩) 1 1]) w12 (fun v13 w14 => ∃ (t15a : Option Addr) (t15n : Nat) (t15c : Nat), v13 = .slice t15a t15n t15c ∧
      (∃ m4, m4 < m3 ∧ I2 m4 t15a t15n t15c (IntKind.wrap .i64 (i6 + 1)) w14)) (fun pv w => R (.panicked [{ v := pv, recovered := false }]) w)))) (R (.returned (.slice out5a out5n out5c)) w8))) :
    Calls Try.prog 35 #[.slice l1a l1n l1c] w R :=
  D_calls A_kit_CopyBytes mixed Try.func35 rfl (Nat.le_of_ble_eq_true (by kernel_rfl)) (by kernel_rfl) (Eq.mp (by kernel_rfl) h)
/-- quayside/quaysidekit.SpoilBytes -/
abbrev F_kit_SpoilBytes : Nat := 36
def A_kit_SpoilBytes : Ann := ⟨[(1, [(2, .int .i64 0)])], [], [], []⟩
theorem L_kit_SpoilBytes {l1a : Option Addr} {l1n : Nat} {l1c : Nat} {w : World} {R : Ending → World → Prop}
    (h : (∃ I2 : Nat → Int → World → Prop, (∃ m3, I2 m3 0 w) ∧ ∀ (m3 : Nat) (i5 : Int) (B6 : Nat → Value) (w7 : World), I2 m3 i5 w7 → PIf (decide ((i5 : Int) < ((l1n : Nat) : Int))) (PC Try.prog 63 #[.int .i64 (IntKind.wrap .i64 (i5 + 7))] w7 (fun v8 w9 =>
      ∃ (t10 : Int), v8 = .int .u8 t10 ∧ (∃ b11 o12, l1a = some ⟨b11, o12, none⟩ ∧ (0 : Int) ≤ i5 ∧ i5 < ((l1n : Nat) : Int) ∧ PS w9 ⟨b11, o12 + Int.toNat i5, none⟩ (.int .u8 t10) fun w13 =>
      (∃ m4, m4 < m3 ∧ I2 m4 (IntKind.wrap .i64 (i5 + 1)) w13))) (fun ch w => R (.panicked ch) w)) (R (.returned (.tuple #[])) w7))) :
    Calls Try.prog 36 #[.slice l1a l1n l1c] w R :=
  D_calls A_kit_SpoilBytes mixed Try.func36 rfl (Nat.le_of_ble_eq_true (by kernel_rfl)) (by kernel_rfl) (Eq.mp (by kernel_rfl) h)
/-- (*quayside/quaysideref19.Disk).Create -/
abbrev F_ref19_Disk_Create : Nat := 37
def A_ref19_Disk_Create : Ann := ⟨[], [], [], []⟩
theorem L_ref19_Disk_Create {d1 : Option Addr} {name2 : ByteArray} {w : World} {R : Ending → World → Prop}
    (h : PC Try.prog 64 #[.pointer d1] w (fun v3 w4 => ∃ (t5 : Bool), v3 = .bool t5 ∧ PIf t5 (R (.returned (.int .i64 15)) w4) (PC Try.prog 65 #[.string name2] w4 (fun v6 w7 =>
      ∃ (t8 : Bool), v6 = .bool t8 ∧ PIf (!t8) (R (.returned (.int .i64 1)) w7) (PC Try.prog 66 #[.pointer d1, .string name2] w7 (fun v9 w10 => ∃ (t11 : Int), v9 = .int .i64 t11 ∧
      PIf (decide ((t11 : Int) ≥ 0)) (R (.returned (.int .i64 16)) w10) ((∃ b12 o13, d1 = some ⟨b12, o13, none⟩ ∧ (∃ (t14a : Option Addr) (t14n : Nat) (t14c : Nat), w10.cell? ⟨b12, o13 + 2, none⟩ = some (.slice t14a t14n t14c) ∧
      PIf (decide ((((t14n : Nat) : Int) : Int) ≥ 64)) (R (.returned (.int .i64 12)) w10) (PC Try.prog 67 #[.pointer d1, .agg #[.string name2, .slice none 0 0, .int .i64 0, .bool false]] w10 (fun v15 w16 =>
      v15 = .tuple #[] ∧ R (.returned (.int .i64 0)) w16) (fun ch w => R (.panicked ch) w)))))) (fun ch w => R (.panicked ch) w))) (fun ch w => R (.panicked ch) w))) (fun ch w =>
      R (.panicked ch) w)) :
    Calls Try.prog 37 #[.pointer d1, .string name2] w R :=
  D_calls A_ref19_Disk_Create mixed Try.func37 rfl (Nat.le_of_ble_eq_true (by kernel_rfl)) (by kernel_rfl) (Eq.mp (by kernel_rfl) h)
/-- (*quayside/quaysideref19.Disk).Append -/
abbrev F_ref19_Disk_Append : Nat := 38
def A_ref19_Disk_Append : Ann := ⟨[], [], [8], [(8, ⟨[0, 1, 2, 4, 0, 0, 32, 64, 128, 0, 768, 1024, 2048, 0, 12288, 32767, 65535, 98303], [262143, 262142, 262141, 262139, 262143, 262143, 262111, 262079, 262015, 262143, 261375, 261119, 260095, 262143, 249855, 262119, 229375, 180223], [0, 0, 0, 1, 0, 0, 0, 0, 1, 0, 0, 0, 1, 0, 2, 0, 0, 2]⟩)]⟩
theorem L_ref19_Disk_Append {d1 : Option Addr} {name2 : ByteArray} {b3a : Option Addr} {b3n : Nat} {b3c : Nat} {w : World} {R : Ending → World → Prop}
    (h : PC Try.prog 64 #[.pointer d1] w (fun v4 w5 => ∃ (t6 : Bool), v4 = .bool t6 ∧ PIf t6 (R (.returned (.int .i64 15)) w5) (PC Try.prog 66 #[.pointer d1, .string name2] w5 (fun v7 w8 =>
      ∃ (t9 : Int), v7 = .int .i64 t9 ∧ PIf (decide ((t9 : Int) < 0)) (R (.returned (.int .i64 14)) w8) (PC Try.prog 46 #[.pointer d1] w8 (fun v10 w11 => ∃ (t12 : Int), v10 = .int .i64 t12 ∧
      PIf (decide ((((b3n : Nat) : Int) : Int) > t12)) (R (.returned (.int .i64 12)) w11) ((∀ w14, Drew w11 w14 → ∃ S15 : Nat → Prop, (∃ b16 o17, d1 = some ⟨b16, o17, none⟩ ∧
      (¬ S15 b16 ∧ (∃ (t18a : Option Addr) (t18n : Nat) (t18c : Nat), w14.cell? ⟨b16, o17 + 2, none⟩ = some (.slice t18a t18n t18c) ∧ (∃ b19 o20, d1 = some ⟨b19, o20, none⟩ ∧
      (∃ (t21a : Option Addr) (t21n : Nat) (t21c : Nat), w14.cell? ⟨b19, o20 + 2, none⟩ = some (.slice t21a t21n t21c) ∧ (∃ b22 o23, t21a = some ⟨b22, o23, none⟩ ∧
      (0 : Int) ≤ t9 ∧ t9 < ((t21n : Nat) : Int) ∧ (∃ (t24a : Option Addr) (t24n : Nat) (t24c : Nat), w14.cell? ⟨b22, o23 + Int.toNat t9 * 4 + 1, none⟩ = some (.slice t24a t24n t24c) ∧
      PRun Try.prog (Builtin.append_ #[33, 33] 33 #[.slice t24a t24n t24c, .slice b3a b3n b3c]) w14 (fun v25 w26 => ∃ (t27a : Option Addr) (t27n : Nat) (t27c : Nat), v25 = .slice t27a t27n t27c ∧
      (Keep S15 w14 w26 ∧ (∃ b28 o29, t18a = some ⟨b28, o29, none⟩ ∧ (0 : Int) ≤ t9 ∧ t9 < ((t18n : Nat) : Int) ∧ PS w26 ⟨b28, o29 + Int.toNat t9 * 4 + 1, none⟩ (.slice t27a t27n t27c) fun w30 =>
      (Keep S15 w26 w30 ∧ R (.returned (.int .i64 0)) w30)))) (fun pv w => False))))))))))) (fun ch w => R (.panicked ch) w))) (fun ch w => R (.panicked ch) w))) (fun ch w =>
      R (.panicked ch) w)) :
    Calls Try.prog 38 #[.pointer d1, .string name2, .slice b3a b3n b3c] w R :=
  D_calls A_ref19_Disk_Append mixed Try.func38 rfl (Nat.le_of_ble_eq_true (by kernel_rfl)) (by kernel_rfl) (Eq.mp (by kernel_rfl) h)
/-- (*quayside/quaysideref19.Disk).Sync -/
abbrev F_ref19_Disk_Sync : Nat := 39
def A_ref19_Disk_Sync : Ann := ⟨[], [], [], [(6, ⟨[0, 1, 2, 4, 0, 0, 32, 64, 128, 0, 768, 1024, 2048, 4096, 16383, 32767, 49151], [131071, 131070, 131069, 131067, 131071, 131071, 131039, 131007, 130943, 131071, 130303, 130047, 129023, 126975, 131047, 114687, 90111], [0, 0, 0, 1, 0, 0, 0, 0, 1, 0, 0, 0, 1, 0, 0, 0, 2]⟩)]⟩
theorem L_ref19_Disk_Sync {d1 : Option Addr} {name2 : ByteArray} {w : World} {R : Ending → World → Prop}
    (h : PC Try.prog 64 #[.pointer d1] w (fun v3 w4 => ∃ (t5 : Bool), v3 = .bool t5 ∧ PIf t5 (R (.returned (.int .i64 15)) w4) (PC Try.prog 66 #[.pointer d1, .string name2] w4 (fun v6 w7 =>
      ∃ (t8 : Int), v6 = .int .i64 t8 ∧ PIf (decide ((t8 : Int) < 0)) (R (.returned (.int .i64 14)) w7) ((∀ w10, Drew w7 w10 → (∃ b11 o12, d1 = some ⟨b11, o12, none⟩ ∧
      (∃ (t13a : Option Addr) (t13n : Nat) (t13c : Nat), w10.cell? ⟨b11, o12 + 2, none⟩ = some (.slice t13a t13n t13c) ∧ (∃ b14 o15, d1 = some ⟨b14, o15, none⟩ ∧
      (∃ (t16a : Option Addr) (t16n : Nat) (t16c : Nat), w10.cell? ⟨b14, o15 + 2, none⟩ = some (.slice t16a t16n t16c) ∧ (∃ b17 o18, t16a = some ⟨b17, o18, none⟩ ∧
      (0 : Int) ≤ t8 ∧ t8 < ((t16n : Nat) : Int) ∧ (∃ (t19a : Option Addr) (t19n : Nat) (t19c : Nat), w10.cell? ⟨b17, o18 + Int.toNat t8 * 4 + 1, none⟩ = some (.slice t19a t19n t19c) ∧
      (∃ b20 o21, t13a = some ⟨b20, o21, none⟩ ∧ (0 : Int) ≤ t8 ∧ t8 < ((t13n : Nat) : Int) ∧ PS w10 ⟨b20, o21 + Int.toNat t8 * 4 + 2, none⟩ (.int .i64 ((t19n : Nat) : Int)) fun w22 =>
      (∃ b23 o24, d1 = some ⟨b23, o24, none⟩ ∧ (∃ (t25a : Option Addr) (t25n : Nat) (t25c : Nat), w22.cell? ⟨b23, o24 + 2, none⟩ = some (.slice t25a t25n t25c) ∧
      (∃ b26 o27, t25a = some ⟨b26, o27, none⟩ ∧ (0 : Int) ≤ t8 ∧ t8 < ((t25n : Nat) : Int) ∧ PS w22 ⟨b26, o27 + Int.toNat t8 * 4 + 3, none⟩ (.bool true) fun w28 =>
      R (.returned (.int .i64 0)) w28))))))))))))) (fun ch w => R (.panicked ch) w))) (fun ch w => R (.panicked ch) w)) :
    Calls Try.prog 39 #[.pointer d1, .string name2] w R :=
  D_calls A_ref19_Disk_Sync mixed Try.func39 rfl (Nat.le_of_ble_eq_true (by kernel_rfl)) (by kernel_rfl) (Eq.mp (by kernel_rfl) h)
/-- (*quayside/quaysideref19.Disk).Rename -/
abbrev F_ref19_Disk_Rename : Nat := 40
def A_ref19_Disk_Rename : Ann := ⟨[], [], [], []⟩
theorem L_ref19_Disk_Rename {d1 : Option Addr} {from2 : ByteArray} {to3 : ByteArray} {w : World} {R : Ending → World → Prop}
    (h : PC Try.prog 64 #[.pointer d1] w (fun v4 w5 => ∃ (t6 : Bool), v4 = .bool t6 ∧ PIf t6 (R (.returned (.int .i64 15)) w5) (PC Try.prog 66 #[.pointer d1, .string from2] w5 (fun v7 w8 =>
      ∃ (t9 : Int), v7 = .int .i64 t9 ∧ PIf (decide ((t9 : Int) < 0)) (R (.returned (.int .i64 14)) w8) (PC Try.prog 65 #[.string to3] w8 (fun v10 w11 => ∃ (t12 : Bool), v10 = .bool t12 ∧
      PIf (!t12) (R (.returned (.int .i64 1)) w11) ((∃ b13 o14, d1 = some ⟨b13, o14, none⟩ ∧ (∃ (t15a : Option Addr) (t15n : Nat) (t15c : Nat), w11.cell? ⟨b13, o14 + 2, none⟩ = some (.slice t15a t15n t15c) ∧
      (∃ b16 o17, t15a = some ⟨b16, o17, none⟩ ∧ (0 : Int) ≤ t9 ∧ t9 < ((t15n : Nat) : Int) ∧ (∃ (t18 : ByteArray), ∃ (t19a : Option Addr) (t19n : Nat) (t19c : Nat), ∃ (t20 : Int), ∃ (t21 : Bool), w11.cell? ⟨b16, o17 + Int.toNat t9 * 4, none⟩ = some (.string t18) ∧
      w11.cell? ⟨b16, o17 + Int.toNat t9 * 4 + 1, none⟩ = some (.slice t19a t19n t19c) ∧ w11.cell? ⟨b16, o17 + Int.toNat t9 * 4 + 2, none⟩ = some (.int .i64 t20) ∧
      w11.cell? ⟨b16, o17 + Int.toNat t9 * 4 + 3, none⟩ = some (.bool t21) ∧ PA w11 (.cells #[.string (⟨#[]⟩ : ByteArray), .slice none 0 0, .int .i64 0, .bool false] 73) fun w22 =>
      PS w22 ⟨w11.heap.size, 0, none⟩ (.string t18) fun w23 => PS w23 ⟨w11.heap.size, 0 + 1, none⟩ (.slice t19a t19n t19c) fun w24 => PS w24 ⟨w11.heap.size, 0 + 2, none⟩ (.int .i64 t20) fun w25 =>
      PS w25 ⟨w11.heap.size, 0 + 3, none⟩ (.bool t21) fun w26 => PC Try.prog 68 #[.pointer d1, .string from2] w26 (fun v27 w28 => v27 = .tuple #[] ∧ PS w28 ⟨w11.heap.size, 0, none⟩ (.string to3) fun w29 =>
      PS w29 ⟨w11.heap.size, 0 + 3, none⟩ (.bool true) fun w30 => (∃ (t31 : ByteArray), ∃ (t32a : Option Addr) (t32n : Nat) (t32c : Nat), ∃ (t33 : Int), ∃ (t34 : Bool), w30.cell? ⟨w11.heap.size, 0, none⟩ = some (.string t31) ∧
      w30.cell? ⟨w11.heap.size, 0 + 1, none⟩ = some (.slice t32a t32n t32c) ∧ w30.cell? ⟨w11.heap.size, 0 + 2, none⟩ = some (.int .i64 t33) ∧ w30.cell? ⟨w11.heap.size, 0 + 3, none⟩ = some (.bool t34) ∧
      PC Try.prog 67 #[.pointer d1, .agg #[.string t31, .slice t32a t32n t32c, .int .i64 t33, .bool t34]] w30 (fun v35 w36 => v35 = .tuple #[] ∧ R (.returned (.int .i64 0)) w36) (fun ch w =>
      R (.panicked ch) w))) (fun ch w => R (.panicked ch) w))))))) (fun ch w => R (.panicked ch) w))) (fun ch w => R (.panicked ch) w))) (fun ch w => R (.panicked ch) w)) :
    Calls Try.prog 40 #[.pointer d1, .string from2, .string to3] w R :=
  D_calls A_ref19_Disk_Rename mixed Try.func40 rfl (Nat.le_of_ble_eq_true (by kernel_rfl)) (by kernel_rfl) (Eq.mp (by kernel_rfl) h)
/-- (*quayside/quaysideref19.Disk).Delete -/
abbrev F_ref19_Disk_Delete : Nat := 41
def A_ref19_Disk_Delete : Ann := ⟨[], [], [], []⟩
theorem L_ref19_Disk_Delete {d1 : Option Addr} {name2 : ByteArray} {w : World} {R : Ending → World → Prop}
    (h : PC Try.prog 64 #[.pointer d1] w (fun v3 w4 => ∃ (t5 : Bool), v3 = .bool t5 ∧ PIf t5 (R (.returned (.int .i64 15)) w4) (PC Try.prog 66 #[.pointer d1, .string name2] w4 (fun v6 w7 =>
      ∃ (t8 : Int), v6 = .int .i64 t8 ∧ PIf (decide ((t8 : Int) < 0)) (R (.returned (.int .i64 14)) w7) (PC Try.prog 68 #[.pointer d1, .string name2] w7 (fun v9 w10 =>
      v9 = .tuple #[] ∧ R (.returned (.int .i64 0)) w10) (fun ch w => R (.panicked ch) w))) (fun ch w => R (.panicked ch) w))) (fun ch w => R (.panicked ch) w)) :
    Calls Try.prog 41 #[.pointer d1, .string name2] w R :=
  D_calls A_ref19_Disk_Delete mixed Try.func41 rfl (Nat.le_of_ble_eq_true (by kernel_rfl)) (by kernel_rfl) (Eq.mp (by kernel_rfl) h)
/-- (*quayside/quaysideref19.Disk).Cut -/
abbrev F_ref19_Disk_Cut : Nat := 42
def A_ref19_Disk_Cut : Ann := ⟨[], [], [6], [(6, ⟨[0, 1, 2, 4, 0, 0, 32, 64, 128, 0, 768, 1024, 2048, 0, 0, 16384, 32768, 65536, 0, 393216, 524288, 1048576, 2097152, 4202496, 8388608, 16781312, 33554432, 134217727, 268435455, 402653183], [1073741823, 1073741822, 1073741821, 1073741819, 1073741823, 1073741823, 1073741791, 1073741759, 1073741695, 1073741823, 1073741055, 1073740799, 1073739775, 1073741823, 1073741823, 1073725439, 1073709055, 1073676287, 1073741823, 1073348607, 1073217535, 1072693247, 1071644671, 1069539327, 1065353215, 1056960511, 1040187391, 1073741799, 939524095, 738197503], [0, 0, 0, 1, 0, 0, 0, 0, 1, 0, 0, 0, 1, 0, 0, 0, 0, 1, 0, 0, 0, 1, 0, 0, 0, 0, 2, 0, 0, 2]⟩), (7, ⟨[0, 1, 2, 4, 0, 0, 32, 64, 128, 0, 768, 1024, 2048, 4096, 16383, 32767, 49151], [131071, 131070, 131069, 131067, 131071, 131071, 131039, 131007, 130943, 131071, 130303, 130047, 129023, 126975, 131047, 114687, 90111], [0, 0, 0, 1, 0, 0, 0, 0, 1, 0, 0, 0, 1, 0, 0, 0, 2]⟩)]⟩
theorem L_ref19_Disk_Cut {d1 : Option Addr} {name2 : ByteArray} {n3 : Int} {w : World} {R : Ending → World → Prop}
    (h : PC Try.prog 64 #[.pointer d1] w (fun v4 w5 => ∃ (t6 : Bool), v4 = .bool t6 ∧ PIf t6 (R (.returned (.int .i64 15)) w5) (PC Try.prog 66 #[.pointer d1, .string name2] w5 (fun v7 w8 =>
      ∃ (t9 : Int), v7 = .int .i64 t9 ∧ PIf (decide ((t9 : Int) < 0)) (R (.returned (.int .i64 14)) w8) ((∀ w11, Drew w8 w11 → ∃ S12 : Nat → Prop, (∃ b13 o14, d1 = some ⟨b13, o14, none⟩ ∧
      (¬ S12 b13 ∧ (∃ (t15a : Option Addr) (t15n : Nat) (t15c : Nat), w11.cell? ⟨b13, o14 + 2, none⟩ = some (.slice t15a t15n t15c) ∧ (∃ b16 o17, d1 = some ⟨b16, o17, none⟩ ∧
      (∃ (t18a : Option Addr) (t18n : Nat) (t18c : Nat), w11.cell? ⟨b16, o17 + 2, none⟩ = some (.slice t18a t18n t18c) ∧ (∃ b19 o20, t18a = some ⟨b19, o20, none⟩ ∧
      (0 : Int) ≤ t9 ∧ t9 < ((t18n : Nat) : Int) ∧ (∃ (t21a : Option Addr) (t21n : Nat) (t21c : Nat), w11.cell? ⟨b19, o20 + Int.toNat t9 * 4 + 1, none⟩ = some (.slice t21a t21n t21c) ∧
      (∃ b22 o23, d1 = some ⟨b22, o23, none⟩ ∧ (∃ (t24a : Option Addr) (t24n : Nat) (t24c : Nat), w11.cell? ⟨b22, o23 + 2, none⟩ = some (.slice t24a t24n t24c) ∧
      (∃ b25 o26, t24a = some ⟨b25, o26, none⟩ ∧ (0 : Int) ≤ t9 ∧ t9 < ((t24n : Nat) : Int) ∧ (∃ (t27a : Option Addr) (t27n : Nat) (t27c : Nat), w11.cell? ⟨b25, o26 + Int.toNat t9 * 4 + 1, none⟩ = some (.slice t27a t27n t27c) ∧
      ((0 : Int) ≤ (if (if ((t27n : Nat) : Int) < n3 then ((t27n : Nat) : Int) else n3) > 0 then (if ((t27n : Nat) : Int) < n3 then ((t27n : Nat) : Int) else n3) else 0) ∧
      (if (if ((t27n : Nat) : Int) < n3 then ((t27n : Nat) : Int) else n3) > 0 then (if ((t27n : Nat) : Int) < n3 then ((t27n : Nat) : Int) else n3) else 0) ≤ ((t21c : Nat) : Int) ∧
      PC Try.prog 35 #[.slice t21a (Int.toNat (if (if ((t27n : Nat) : Int) < n3 then ((t27n : Nat) : Int) else n3) > 0 then (if ((t27n : Nat) : Int) < n3 then ((t27n : Nat) : Int) else n3) else 0)) t21c] w11 (fun v28 w29 =>
      ∃ (t30a : Option Addr) (t30n : Nat) (t30c : Nat), v28 = .slice t30a t30n t30c ∧ (Keep S12 w11 w29 ∧ (∃ b31 o32, t15a = some ⟨b31, o32, none⟩ ∧ (0 : Int) ≤ t9 ∧
      t9 < ((t15n : Nat) : Int) ∧ PS w29 ⟨b31, o32 + Int.toNat t9 * 4 + 1, none⟩ (.slice t30a t30n t30c) fun w33 => (Keep S12 w29 w33 ∧ (∀ w35, Drew w33 w35 → (∃ b36 o37, d1 = some ⟨b36, o37, none⟩ ∧
      (∃ (t38a : Option Addr) (t38n : Nat) (t38c : Nat), w35.cell? ⟨b36, o37 + 2, none⟩ = some (.slice t38a t38n t38c) ∧ (∃ b39 o40, d1 = some ⟨b39, o40, none⟩ ∧
      (∃ (t41a : Option Addr) (t41n : Nat) (t41c : Nat), w35.cell? ⟨b39, o40 + 2, none⟩ = some (.slice t41a t41n t41c) ∧ (∃ b42 o43, t41a = some ⟨b42, o43, none⟩ ∧
      (0 : Int) ≤ t9 ∧ t9 < ((t41n : Nat) : Int) ∧ (∃ (t44a : Option Addr) (t44n : Nat) (t44c : Nat), w35.cell? ⟨b42, o43 + Int.toNat t9 * 4 + 1, none⟩ = some (.slice t44a t44n t44c) ∧
      (∃ b45 o46, t38a = some ⟨b45, o46, none⟩ ∧ (0 : Int) ≤ t9 ∧ t9 < ((t38n : Nat) : Int) ∧ PS w35 ⟨b45, o46 + Int.toNat t9 * 4 + 2, none⟩ (.int .i64 ((t44n : Nat) : Int)) fun w47 =>
      (∃ b48 o49, d1 = some ⟨b48, o49, none⟩ ∧ (∃ (t50a : Option Addr) (t50n : Nat) (t50c : Nat), w47.cell? ⟨b48, o49 + 2, none⟩ = some (.slice t50a t50n t50c) ∧
      (∃ b51 o52, t50a = some ⟨b51, o52, none⟩ ∧ (0 : Int) ≤ t9 ∧ t9 < ((t50n : Nat) : Int) ∧ PS w47 ⟨b51, o52 + Int.toNat t9 * 4 + 3, none⟩ (.bool true) fun w53 =>
      R (.returned (.int .i64 0)) w53))))))))))))))) (fun ch w => False)))))))))))))))) (fun ch w => R (.panicked ch) w))) (fun ch w => R (.panicked ch) w)) :
    Calls Try.prog 42 #[.pointer d1, .string name2, .int .i64 n3] w R :=
  D_calls A_ref19_Disk_Cut mixed Try.func42 rfl (Nat.le_of_ble_eq_true (by kernel_rfl)) (by kernel_rfl) (Eq.mp (by kernel_rfl) h)
/-- (*quayside/quaysideref19.Disk).Fuse -/
abbrev F_ref19_Disk_Fuse : Nat := 43
def A_ref19_Disk_Fuse : Ann := ⟨[], [], [], []⟩
theorem L_ref19_Disk_Fuse {d1 : Option Addr} {n2 : Int} {w : World} {R : Ending → World → Prop}
    (h : (∃ b3 o4, d1 = some ⟨b3, o4, none⟩ ∧ PS w ⟨b3, o4 + 1, none⟩ (.int .i64 (if n2 > 0 then n2 else 0)) fun w5 => R (.returned (.tuple #[])) w5)) :
    Calls Try.prog 43 #[.pointer d1, .int .i64 n2] w R :=
  D_calls A_ref19_Disk_Fuse mixed Try.func43 rfl (Nat.le_of_ble_eq_true (by kernel_rfl)) (by kernel_rfl) (Eq.mp (by kernel_rfl) h)
/-- (*quayside/quaysideref19.Disk).Read -/
abbrev F_ref19_Disk_Read : Nat := 44
def A_ref19_Disk_Read : Ann := ⟨[], [], [], []⟩
theorem L_ref19_Disk_Read {d1 : Option Addr} {name2 : ByteArray} {w : World} {R : Ending → World → Prop}
    (h : (∃ b3 o4, d1 = some ⟨b3, o4, none⟩ ∧ (∃ (t5 : Bool), w.cell? ⟨b3, o4 + 3, none⟩ = some (.bool t5) ∧ PIf t5 (R (.returned (.tuple #[.slice none 0 0, .int .i64 15])) w) (PC Try.prog 66 #[.pointer d1, .string name2] w (fun v6 w7 =>
      ∃ (t8 : Int), v6 = .int .i64 t8 ∧ PIf (decide ((t8 : Int) < 0)) (R (.returned (.tuple #[.slice none 0 0, .int .i64 14])) w7) ((∃ b9 o10, d1 = some ⟨b9, o10, none⟩ ∧
      (∃ (t11a : Option Addr) (t11n : Nat) (t11c : Nat), w7.cell? ⟨b9, o10 + 2, none⟩ = some (.slice t11a t11n t11c) ∧ (∃ b12 o13, t11a = some ⟨b12, o13, none⟩ ∧
      (0 : Int) ≤ t8 ∧ t8 < ((t11n : Nat) : Int) ∧ (∃ (t14a : Option Addr) (t14n : Nat) (t14c : Nat), w7.cell? ⟨b12, o13 + Int.toNat t8 * 4 + 1, none⟩ = some (.slice t14a t14n t14c) ∧
      PC Try.prog 35 #[.slice t14a t14n t14c] w7 (fun v15 w16 => ∃ (t17a : Option Addr) (t17n : Nat) (t17c : Nat), v15 = .slice t17a t17n t17c ∧ R (.returned (.tuple #[.slice t17a t17n t17c, .int .i64 0])) w16) (fun ch w =>
      R (.panicked ch) w))))))) (fun ch w => R (.panicked ch) w))))) :
    Calls Try.prog 44 #[.pointer d1, .string name2] w R :=
  D_calls A_ref19_Disk_Read mixed Try.func44 rfl (Nat.le_of_ble_eq_true (by kernel_rfl)) (by kernel_rfl) (Eq.mp (by kernel_rfl) h)
/-- (*quayside/quaysideref19.Disk).List -/
abbrev F_ref19_Disk_List : Nat := 45
def A_ref19_Disk_List : Ann := ⟨[(3, [(3, .slice none 0 0), (4, .int .i64 0)])], [], [], []⟩
theorem L_ref19_Disk_List {d1 : Option Addr} {w : World} {R : Ending → World → Prop}
    (h : (∃ I2 : Nat → Option Addr → Nat → Nat → Int → World → Prop, (∃ m3, I2 m3 none 0 0 0 w) ∧ ∀ (m3 : Nat) (out5a : Option Addr) (out5n : Nat) (out5c : Nat) (i6 : Int) (B7 : Nat → Value) (w8 : World), I2 m3 out5a out5n out5c i6 w8 → (∃ b9 o10, d1 = some ⟨b9, o10, none⟩ ∧
      (∃ (t11a : Option Addr) (t11n : Nat) (t11c : Nat), w8.cell? ⟨b9, o10 + 2, none⟩ = some (.slice t11a t11n t11c) ∧ PIf (decide ((i6 : Int) < ((t11n : Nat) : Int))) ((∃ b12 o13, d1 = some ⟨b12, o13, none⟩ ∧
      (∃ (t14a : Option Addr) (t14n : Nat) (t14c : Nat), w8.cell? ⟨b12, o13 + 2, none⟩ = some (.slice t14a t14n t14c) ∧ (∃ b15 o16, t14a = some ⟨b15, o16, none⟩ ∧
      (0 : Int) ≤ i6 ∧ i6 < ((t14n : Nat) : Int) ∧ (∃ (t17 : ByteArray), w8.cell? ⟨b15, o16 + Int.toNat i6 * 4, none⟩ = some (.string t17) ∧ PA w8 (.cells #[.string t17] 9) fun w18 =>
      PRun Try.prog (Builtin.append_ #[40, 40] 40 #[.slice out5a out5n out5c, .slice (some ⟨w8.heap.size, 0, none⟩) 1 1]) w18 (fun v19 w20 => ∃ (t21a : Option Addr) (t21n : Nat) (t21c : Nat), v19 = .slice t21a t21n t21c ∧
      (∃ m4, m4 < m3 ∧ I2 m4 t21a t21n t21c (IntKind.wrap .i64 (i6 + 1)) w20)) (fun pv w => R (.panicked [{ v := pv, recovered := false }]) w)))))) (R (.returned (.slice out5a out5n out5c)) w8))))) :
    Calls Try.prog 45 #[.pointer d1] w R :=
  D_calls A_ref19_Disk_List mixed Try.func45 rfl (Nat.le_of_ble_eq_true (by kernel_rfl)) (by kernel_rfl) (Eq.mp (by kernel_rfl) h)
/-- (*quayside/quaysideref19.Disk).Room -/
abbrev F_ref19_Disk_Room : Nat := 46
def A_ref19_Disk_Room : Ann := ⟨[(3, [(3, .int .i64 0), (4, .int .i64 0)])], [], [], []⟩
theorem L_ref19_Disk_Room {d1 : Option Addr} {w : World} {R : Ending → World → Prop}
    (h : (∃ b2 o3, d1 = some ⟨b2, o3, none⟩ ∧ (∃ (t4 : Int), w.cell? ⟨b2, o3, none⟩ = some (.int .i64 t4) ∧ (∃ I5 : Nat → Int → Int → World → Prop, (∃ m6, I5 m6 t4 0 w) ∧
      ∀ (m6 : Nat) (n8 : Int) (i9 : Int) (B10 : Nat → Value) (w11 : World), I5 m6 n8 i9 w11 → (∃ b12 o13, d1 = some ⟨b12, o13, none⟩ ∧ (∃ (t14a : Option Addr) (t14n : Nat) (t14c : Nat), w11.cell? ⟨b12, o13 + 2, none⟩ = some (.slice t14a t14n t14c) ∧
      PIf (decide ((i9 : Int) < ((t14n : Nat) : Int))) ((∃ b15 o16, d1 = some ⟨b15, o16, none⟩ ∧ (∃ (t17a : Option Addr) (t17n : Nat) (t17c : Nat), w11.cell? ⟨b15, o16 + 2, none⟩ = some (.slice t17a t17n t17c) ∧
      (∃ b18 o19, t17a = some ⟨b18, o19, none⟩ ∧ (0 : Int) ≤ i9 ∧ i9 < ((t17n : Nat) : Int) ∧ (∃ (t20a : Option Addr) (t20n : Nat) (t20c : Nat), w11.cell? ⟨b18, o19 + Int.toNat i9 * 4 + 1, none⟩ = some (.slice t20a t20n t20c) ∧
      (∃ m7, m7 < m6 ∧ I5 m7 (IntKind.wrap .i64 (n8 - ((t20n : Nat) : Int))) (IntKind.wrap .i64 (i9 + 1)) w11)))))) (R (.returned (.int .i64 n8)) w11))))))) :
    Calls Try.prog 46 #[.pointer d1] w R :=
  D_calls A_ref19_Disk_Room mixed Try.func46 rfl (Nat.le_of_ble_eq_true (by kernel_rfl)) (by kernel_rfl) (Eq.mp (by kernel_rfl) h)
/-- (*quayside/quaysideref19.Disk).Dead -/
abbrev F_ref19_Disk_Dead : Nat := 47
def A_ref19_Disk_Dead : Ann := ⟨[], [], [], []⟩
theorem L_ref19_Disk_Dead {d1 : Option Addr} {w : World} {R : Ending → World → Prop}
    (h : (∃ b2 o3, d1 = some ⟨b2, o3, none⟩ ∧ (∃ (t4 : Bool), w.cell? ⟨b2, o3 + 3, none⟩ = some (.bool t4) ∧ R (.returned (.bool t4)) w))) :
    Calls Try.prog 47 #[.pointer d1] w R :=
  D_calls A_ref19_Disk_Dead mixed Try.func47 rfl (Nat.le_of_ble_eq_true (by kernel_rfl)) (by kernel_rfl) (Eq.mp (by kernel_rfl) h)
/-- maps.DeleteFunc[map[string]*quayside/vdisk.file,string,*quayside/vdisk.file] -/
abbrev F_maps_DeleteFunc_map_string_vdisk_file_string_vdisk_file : Nat := 48
def A_maps_DeleteFunc_map_string_vdisk_file_string_vdisk_file : Ann := ⟨[(1, [])], [], [], []⟩
theorem L_maps_DeleteFunc_map_string_vdisk_file_string_vdisk_file {m1 : Option Nat} {del2g : FuncId} {del2i : Array Value} {del2c : Array Value} {w : World} {R : Ending → World → Prop}
    (h : PRun Try.prog (Instr.range 59 (.map m1)) w (fun v3 w4 => (∃ I5 : Nat → World → Prop, (∃ m6, I5 m6  w4) ∧ ∀ (m6 : Nat)  (B8 : Nat → Value) (w9 : World), I5 m6  w9 → PRun Try.prog (Instr.next v3 false 0) w9 (fun v10 w11 =>
      (v10 = .tuple #[.bool false] ∧ R (.returned (.tuple #[])) w11) ∨ (∃ k12 x13, v10 = .tuple #[.bool true, k12, x13] ∧ PRun Try.prog (Instr.entry v3) w11 (fun v14 w15 =>
      ∃ (k16 : ByteArray), ∃ (x17 : Option Addr), v14 = .tuple #[.string k16, .pointer x17] ∧ (∃ g20 fi21 ca22, (.func (.func del2g) del2i del2c : Value) = .func (.func g20) fi21 ca22 ∧
      enters Try.prog g20 = true ∧ PC Try.prog g20 (fi21 ++ #[.string k16, .pointer x17] ++ ca22) w15 (fun v18 w19 => ∃ (t23 : Bool), v18 = .bool t23 ∧ PIf t23 (PRun Try.prog (Builtin.delete_ #[59, 9] 0 #[.map m1, .string k16]) w19 (fun v24 w25 =>
      (∃ m7, m7 < m6 ∧ I5 m7  w25)) (fun pv w => R (.panicked [{ v := pv, recovered := false }]) w)) ((∃ m7, m7 < m6 ∧ I5 m7  w19))) (fun ch w => R (.panicked ch) w))) (fun pv w =>
      R (.panicked [{ v := pv, recovered := false }]) w))) (fun pv w => R (.panicked [{ v := pv, recovered := false }]) w))) (fun pv w => R (.panicked [{ v := pv, recovered := false }]) w)) :
    Calls Try.prog 48 #[.map m1, .func (.func del2g) del2i del2c] w R :=
  D_calls A_maps_DeleteFunc_map_string_vdisk_file_string_vdisk_file mixed Try.func48 rfl (Nat.le_of_ble_eq_true (by kernel_rfl)) (by kernel_rfl) (Eq.mp (by kernel_rfl) h)
/-- (*quayside/vdisk.Disk).Crash$1 -/
abbrev F_vdisk_Disk_Crash_1 : Nat := 49
def A_vdisk_Disk_Crash_1 : Ann := ⟨[], [], [], []⟩
theorem L_vdisk_Disk_Crash_1 {_1 : ByteArray} {f2 : Option Addr} {w : World} {R : Ending → World → Prop}
    (h : (∃ b3 o4, f2 = some ⟨b3, o4, none⟩ ∧ (∃ (t5 : Bool), w.cell? ⟨b3, o4 + 2, none⟩ = some (.bool t5) ∧ R (.returned (.bool (!t5))) w))) :
    Calls Try.prog 49 #[.string _1, .pointer f2] w R :=
  D_calls A_vdisk_Disk_Crash_1 mixed Try.func49 rfl (Nat.le_of_ble_eq_true (by kernel_rfl)) (by kernel_rfl) (Eq.mp (by kernel_rfl) h)
/-- (*quayside/vdisk.file).cut -/
abbrev F_vdisk_file_cut : Nat := 50
def A_vdisk_file_cut : Ann := ⟨[], [], [], [(0, ⟨[0, 0, 2, 4, 8, 0, 0, 64, 128, 256, 512, 1056, 2048, 4112, 8192, 32767, 65535, 98303], [262143, 262143, 262141, 262139, 262135, 262143, 262143, 262079, 262015, 261887, 261631, 261087, 260095, 258031, 253951, 262142, 229375, 180223], [0, 0, 0, 0, 1, 0, 0, 0, 0, 1, 0, 0, 0, 0, 2, 0, 0, 2]⟩)]⟩
theorem L_vdisk_file_cut {f1 : Option Addr} {n2 : Int} {w : World} {R : Ending → World → Prop}
    (h : (∀ w4, Drew w w4 → (∃ b5 o6, f1 = some ⟨b5, o6, none⟩ ∧ (∃ (t7a : Option Addr) (t7n : Nat) (t7c : Nat), w4.cell? ⟨b5, o6, none⟩ = some (.slice t7a t7n t7c) ∧
      (∃ b8 o9, f1 = some ⟨b8, o9, none⟩ ∧ (∃ (t10a : Option Addr) (t10n : Nat) (t10c : Nat), w4.cell? ⟨b8, o9, none⟩ = some (.slice t10a t10n t10c) ∧ ((0 : Int) ≤ (if (if ((t10n : Nat) : Int) < n2 then ((t10n : Nat) : Int) else n2) > 0 then (if ((t10n : Nat) : Int) < n2 then ((t10n : Nat) : Int) else n2) else 0) ∧
      (if (if ((t10n : Nat) : Int) < n2 then ((t10n : Nat) : Int) else n2) > 0 then (if ((t10n : Nat) : Int) < n2 then ((t10n : Nat) : Int) else n2) else 0) ≤ ((t7c : Nat) : Int) ∧
      PC Try.prog 53 #[.slice t7a (Int.toNat (if (if ((t10n : Nat) : Int) < n2 then ((t10n : Nat) : Int) else n2) > 0 then (if ((t10n : Nat) : Int) < n2 then ((t10n : Nat) : Int) else n2) else 0)) t7c] w4 (fun v11 w12 =>
      ∃ (t13a : Option Addr) (t13n : Nat) (t13c : Nat), v11 = .slice t13a t13n t13c ∧ (∃ b14 o15, f1 = some ⟨b14, o15, none⟩ ∧ PS w12 ⟨b14, o15, none⟩ (.slice t13a t13n t13c) fun w16 =>
      (∃ b17 o18, f1 = some ⟨b17, o18, none⟩ ∧ (∃ (t19a : Option Addr) (t19n : Nat) (t19c : Nat), w16.cell? ⟨b17, o18, none⟩ = some (.slice t19a t19n t19c) ∧
      (∃ b20 o21, f1 = some ⟨b20, o21, none⟩ ∧ PS w16 ⟨b20, o21 + 1, none⟩ (.int .i64 ((t19n : Nat) : Int)) fun w22 => (∃ b23 o24, f1 = some ⟨b23, o24, none⟩ ∧
      PS w22 ⟨b23, o24 + 2, none⟩ (.bool true) fun w25 => R (.returned (.tuple #[])) w25)))))) (fun ch w => False)))))))) :
    Calls Try.prog 50 #[.pointer f1, .int .i64 n2] w R :=
  D_calls A_vdisk_file_cut mixed Try.func50 rfl (Nat.le_of_ble_eq_true (by kernel_rfl)) (by kernel_rfl) (Eq.mp (by kernel_rfl) h)
/-- slices.Sorted[string] -/
abbrev F_slices_Sorted_string : Nat := 51
def A_slices_Sorted_string : Ann := ⟨[], [], [], []⟩
theorem L_slices_Sorted_string {seq1g : FuncId} {seq1i : Array Value} {seq1c : Array Value} {w : World} {R : Ending → World → Prop}
    (h : PC Try.prog 69 #[.func (.func seq1g) seq1i seq1c] w (fun v2 w3 => ∃ (t4a : Option Addr) (t4n : Nat) (t4c : Nat), v2 = .slice t4a t4n t4c ∧ PC Try.prog 70 #[.slice t4a t4n t4c] w3 (fun v5 w6 =>
      v5 = .tuple #[] ∧ R (.returned (.slice t4a t4n t4c)) w6) (fun ch w => R (.panicked ch) w)) (fun ch w => R (.panicked ch) w)) :
    Calls Try.prog 51 #[.func (.func seq1g) seq1i seq1c] w R :=
  D_calls A_slices_Sorted_string mixed Try.func51 rfl (Nat.le_of_ble_eq_true (by kernel_rfl)) (by kernel_rfl) (Eq.mp (by kernel_rfl) h)
/-- maps.Keys[map[string]*quayside/vdisk.file,string,*quayside/vdisk.file] -/
abbrev F_maps_Keys_map_string_vdisk_file_string_vdisk_file : Nat := 52
def A_maps_Keys_map_string_vdisk_file_string_vdisk_file : Ann := ⟨[], [], [], []⟩
theorem L_maps_Keys_map_string_vdisk_file_string_vdisk_file {m1 : Option Nat} {w : World} {R : Ending → World → Prop}
    (h : PA w (.cells #[.map m1] 59) fun w2 => R (.returned (.func (.func 71) #[] #[.pointer (some ⟨w.heap.size, 0, none⟩)])) w2) :
    Calls Try.prog 52 #[.map m1] w R :=
  D_calls A_maps_Keys_map_string_vdisk_file_string_vdisk_file mixed Try.func52 rfl (Nat.le_of_ble_eq_true (by kernel_rfl)) (by kernel_rfl) (Eq.mp (by kernel_rfl) h)
/-- slices.Clone[[]byte,byte] -/
abbrev F_slices_Clone_byte_byte : Nat := 53
def A_slices_Clone_byte_byte : Ann := ⟨[], [], [], []⟩
theorem L_slices_Clone_byte_byte {s1a : Option Addr} {s1n : Nat} {s1c : Nat} {w : World} {R : Ending → World → Prop}
    (h : PRun Try.prog (do eqGuard .eql 33 (.tmp 3) (.const (.slice none 0 0)) (.slice s1a s1n s1c) (.slice none 0 0); binOp .eql 33 (.slice s1a s1n s1c) (.slice none 0 0)) w (fun v2 w3 =>
      ∃ (t4 : Bool), v2 = .bool t4 ∧ PIf t4 (R (.returned (.slice none 0 0)) w3) (PA w3 (.cells #[] 5) fun w5 => PRun Try.prog (Builtin.append_ #[33, 33] 33 #[.slice (some ⟨w3.heap.size, 0, none⟩) 0 0, .slice s1a s1n s1c]) w5 (fun v6 w7 =>
      ∃ (t8a : Option Addr) (t8n : Nat) (t8c : Nat), v6 = .slice t8a t8n t8c ∧ R (.returned (.slice t8a t8n t8c)) w7) (fun pv w => R (.panicked [{ v := pv, recovered := false }]) w))) (fun pv w =>
      R (.panicked [{ v := pv, recovered := false }]) w)) :
    Calls Try.prog 53 #[.slice s1a s1n s1c] w R :=
  D_calls A_slices_Clone_byte_byte mixed Try.func53 rfl (Nat.le_of_ble_eq_true (by kernel_rfl)) (by kernel_rfl) (Eq.mp (by kernel_rfl) h)
/-- (*quayside/vdisk.Disk).write -/
abbrev F_vdisk_Disk_write : Nat := 54
def A_vdisk_Disk_write : Ann := ⟨[], [(4, [])], [], []⟩
theorem L_vdisk_Disk_write {d1 : Option Addr} {f2g : FuncId} {f2i : Array Value} {f2c : Array Value} {w : World} {R : Ending → World → Prop}
    (h : (∃ J3 : World → Prop, ((∃ b4 o5, d1 = some ⟨b4, o5, none⟩ ∧ (∃ (t6 : Bool), w.cell? ⟨b4, o5 + 4, none⟩ = some (.bool t6) ∧ PIf t6 ((∃ b7 o8, d1 = some ⟨b7, o8, none⟩ ∧
      PS w ⟨b7, o8 + 4, none⟩ (.bool true) fun w9 => (∃ b10 o11, d1 = some ⟨b10, o11, none⟩ ∧ (∃ (t12 : Bool), w9.cell? ⟨b10, o11 + 4, none⟩ = some (.bool t12) ∧
      PIf t12 (R (.returned (.int .i64 15)) w9) (J3  w9))))) ((∃ b13 o14, d1 = some ⟨b13, o14, none⟩ ∧ (∃ (t15 : Bool), w.cell? ⟨b13, o14 + 2, none⟩ = some (.bool t15) ∧
      PIf t15 ((∃ b16 o17, d1 = some ⟨b16, o17, none⟩ ∧ (∃ (t18 : Int), w.cell? ⟨b16, o17 + 3, none⟩ = some (.int .i64 t18) ∧ (∃ b19 o20, d1 = some ⟨b19, o20, none⟩ ∧
      PS w ⟨b19, o20 + 4, none⟩ (.bool ((t18 : Int) == 0)) fun w21 => (∃ b22 o23, d1 = some ⟨b22, o23, none⟩ ∧ (∃ (t24 : Bool), w21.cell? ⟨b22, o23 + 4, none⟩ = some (.bool t24) ∧
      PIf t24 (R (.returned (.int .i64 15)) w21) (J3  w21))))))) ((∃ b25 o26, d1 = some ⟨b25, o26, none⟩ ∧ PS w ⟨b25, o26 + 4, none⟩ (.bool false) fun w27 =>
      (∃ b28 o29, d1 = some ⟨b28, o29, none⟩ ∧ (∃ (t30 : Bool), w27.cell? ⟨b28, o29 + 4, none⟩ = some (.bool t30) ∧ PIf t30 (R (.returned (.int .i64 15)) w27) (J3  w27))))))))))) ∧
      ∀  (B31 : Nat → Value) (w32 : World), J3  w32 → (∃ b33 o34, d1 = some ⟨b33, o34, none⟩ ∧ (∃ (t35 : Bool), w32.cell? ⟨b33, o34 + 2, none⟩ = some (.bool t35) ∧
      PIf t35 ((∃ b36 o37, d1 = some ⟨b36, o37, none⟩ ∧ (∃ (t38 : Int), w32.cell? ⟨b36, o37 + 3, none⟩ = some (.int .i64 t38) ∧ (∃ b39 o40, d1 = some ⟨b39, o40, none⟩ ∧
      PS w32 ⟨b39, o40 + 3, none⟩ (.int .i64 (IntKind.wrap .i64 (t38 - 1))) fun w41 => (∃ g44 fi45 ca46, (.func (.func f2g) f2i f2c : Value) = .func (.func g44) fi45 ca46 ∧
      enters Try.prog g44 = true ∧ PC Try.prog g44 (fi45 ++ #[] ++ ca46) w41 (fun v42 w43 => ∃ (t47 : Int), v42 = .int .i64 t47 ∧ R (.returned (.int .i64 t47)) w43) (fun ch w =>
      R (.panicked ch) w)))))) ((∃ g50 fi51 ca52, (.func (.func f2g) f2i f2c : Value) = .func (.func g50) fi51 ca52 ∧ enters Try.prog g50 = true ∧ PC Try.prog g50 (fi51 ++ #[] ++ ca52) w32 (fun v48 w49 =>
      ∃ (t53 : Int), v48 = .int .i64 t53 ∧ R (.returned (.int .i64 t53)) w49) (fun ch w => R (.panicked ch) w))))))) :
    Calls Try.prog 54 #[.pointer d1, .func (.func f2g) f2i f2c] w R :=
  D_calls A_vdisk_Disk_write mixed Try.func54 rfl (Nat.le_of_ble_eq_true (by kernel_rfl)) (by kernel_rfl) (Eq.mp (by kernel_rfl) h)
/-- (*quayside/vdisk.Disk).Create$1 -/
abbrev F_vdisk_Disk_Create_1 : Nat := 55
def A_vdisk_Disk_Create_1 : Ann := ⟨[], [], [7], []⟩
theorem L_vdisk_Disk_Create_1 {b1 : Nat} {o2 : Nat} {b3 : Nat} {o4 : Nat} {w : World} {R : Ending → World → Prop}
    (h : (∃ (t5 : ByteArray), w.cell? ⟨b1, o2, none⟩ = some (.string t5) ∧ PC Try.prog 56 #[.string t5] w (fun v6 w7 => ∃ (t8 : Bool), v6 = .bool t8 ∧ PIf (!t8) (R (.returned (.int .i64 1)) w7) ((∃ (t10 : Option Addr), w7.cell? ⟨b3, o4, none⟩ = some (.pointer t10) ∧
      (∃ b11 o12, t10 = some ⟨b11, o12, none⟩ ∧ (∃ (t13 : Option Nat), w7.cell? ⟨b11, o12 + 1, none⟩ = some (.map t13) ∧ (∃ (t14 : ByteArray), w7.cell? ⟨b1, o2, none⟩ = some (.string t14) ∧
      (∃ (t15 : Option Addr), (∀ m, (Instr.lookup 59 (.map t13) (.string t14) false).run Try.prog (w7.drewN m) = .ok (.pointer t15) (w7.drewN m)) ∧ (∃ (t16 : Bool), (∀ m, (do eqGuard .neq 68 (.tmp 13) (.const (.pointer none)) (.pointer t15) (.pointer none); binOp .neq 68 (.pointer t15) (.pointer none)).run Try.prog (w7.drewN m) = .ok (.bool t16) (w7.drewN m)) ∧
      (∀ w9, Drew w7 w9 → PIf t16 (R (.returned (.int .i64 16)) w9) ((∃ (t17 : Option Addr), w9.cell? ⟨b3, o4, none⟩ = some (.pointer t17) ∧ (∃ b18 o19, t17 = some ⟨b18, o19, none⟩ ∧
      (∃ (t20 : Option Nat), w9.cell? ⟨b18, o19 + 1, none⟩ = some (.map t20) ∧ PRun Try.prog (Builtin.len_ #[59] 3 #[.map t20]) w9 (fun v21 w22 => ∃ (t23 : Int), v21 = .int .i64 t23 ∧
      PIf (decide ((t23 : Int) ≥ 64)) (R (.returned (.int .i64 12)) w22) ((∀ w25, Drew w22 w25 → ∃ S26 : Nat → Prop, (¬ S26 b3 ∧ (∃ (t27 : Option Addr), w25.cell? ⟨b3, o4, none⟩ = some (.pointer t27) ∧
      (∃ b28 o29, t27 = some ⟨b28, o29, none⟩ ∧ (¬ S26 b28 ∧ (∃ (t30 : Option Nat), w25.cell? ⟨b28, o29 + 1, none⟩ = some (.map t30) ∧ (¬ S26 b1 ∧ (∃ (t31 : ByteArray), w25.cell? ⟨b1, o2, none⟩ = some (.string t31) ∧
      PA w25 (.cells #[.slice none 0 0, .int .i64 0, .bool false] 70) fun w32 => (Keep S26 w25 w32 ∧ PRunU Try.prog (Instr.mapUpdate 59 (.map t30) (.string t31) (.pointer (some ⟨w25.heap.size, 0, none⟩))) w32 (fun w33 =>
      (Keep S26 w32 w33 ∧ R (.returned (.int .i64 0)) w33)) (fun pv w => False)))))))))))) (fun pv w => R (.panicked [{ v := pv, recovered := false }]) w)))))))))))))) (fun ch w =>
      R (.panicked ch) w))) :
    Calls Try.prog 55 #[.pointer (some ⟨b1, o2, none⟩), .pointer (some ⟨b3, o4, none⟩)] w R :=
  D_calls A_vdisk_Disk_Create_1 mixed Try.func55 rfl (Nat.le_of_ble_eq_true (by kernel_rfl)) (by kernel_rfl) (Eq.mp (by kernel_rfl) h)
/-- quayside/vdisk.isName -/
abbrev F_vdisk_isName : Nat := 56
def A_vdisk_isName : Ann := ⟨[], [], [], []⟩
theorem L_vdisk_isName {s1 : ByteArray} {w : World} {R : Ending → World → Prop}
    (h : PIf (!((ByteArray.toList s1) == (ByteArray.toList (⟨#[]⟩ : ByteArray)))) (PIf (decide ((((ByteArray.size s1 : Nat) : Int) : Int) ≤ 16)) (PC Try.prog 74 #[.string s1, .func (.func 72) #[] #[]] w (fun v2 w3 =>
      ∃ (t4 : Bool), v2 = .bool t4 ∧ R (.returned (.bool (!t4))) w3) (fun ch w => R (.panicked ch) w)) (R (.returned (.bool false)) w)) (R (.returned (.bool false)) w)) :
    Calls Try.prog 56 #[.string s1] w R :=
  D_calls A_vdisk_isName mixed Try.func56 rfl (Nat.le_of_ble_eq_true (by kernel_rfl)) (by kernel_rfl) (Eq.mp (by kernel_rfl) h)
/-- (*quayside/vdisk.Disk).on -/
abbrev F_vdisk_Disk_on : Nat := 57
def A_vdisk_Disk_on : Ann := ⟨[], [], [], []⟩
theorem L_vdisk_Disk_on {d1 : Option Addr} {name2 : ByteArray} {f3g : FuncId} {f3i : Array Value} {f3c : Array Value} {w : World} {R : Ending → World → Prop}
    (h : PA w (.cells #[.pointer d1] 25) fun w4 => PA w4 (.cells #[.string name2] 9) fun w5 => PA w5 (.cells #[.func (.func f3g) f3i f3c] 82) fun w6 => (∃ (t7 : Option Addr), w6.cell? ⟨w.heap.size, 0, none⟩ = some (.pointer t7) ∧
      PC Try.prog 54 #[.pointer t7, .func (.func 75) #[] #[.pointer (some ⟨w.heap.size, 0, none⟩), .pointer (some ⟨w4.heap.size, 0, none⟩), .pointer (some ⟨w5.heap.size, 0, none⟩)]] w6 (fun v8 w9 =>
      ∃ (t10 : Int), v8 = .int .i64 t10 ∧ R (.returned (.int .i64 t10)) w9) (fun ch w => R (.panicked ch) w))) :
    Calls Try.prog 57 #[.pointer d1, .string name2, .func (.func f3g) f3i f3c] w R :=
  D_calls A_vdisk_Disk_on mixed Try.func57 rfl (Nat.le_of_ble_eq_true (by kernel_rfl)) (by kernel_rfl) (Eq.mp (by kernel_rfl) h)
/-- (*quayside/vdisk.Disk).Rename$1 -/
abbrev F_vdisk_Disk_Rename_1 : Nat := 58
def A_vdisk_Disk_Rename_1 : Ann := ⟨[], [], [], []⟩
theorem L_vdisk_Disk_Rename_1 {f1 : Option Addr} {b2 : Nat} {o3 : Nat} {b4 : Nat} {o5 : Nat} {b6 : Nat} {o7 : Nat} {w : World} {R : Ending → World → Prop}
    (h : (∃ (t8 : ByteArray), w.cell? ⟨b2, o3, none⟩ = some (.string t8) ∧ PC Try.prog 56 #[.string t8] w (fun v9 w10 => ∃ (t11 : Bool), v9 = .bool t11 ∧ PIf (!t11) (R (.returned (.int .i64 1)) w10) ((∀ w13, Drew w10 w13 → (∃ (t14 : Option Addr), w13.cell? ⟨b4, o5, none⟩ = some (.pointer t14) ∧
      (∃ b15 o16, t14 = some ⟨b15, o16, none⟩ ∧ (∃ (t17 : Option Nat), w13.cell? ⟨b15, o16 + 1, none⟩ = some (.map t17) ∧ (∃ (t18 : ByteArray), w13.cell? ⟨b6, o7, none⟩ = some (.string t18) ∧
      PRun Try.prog (Builtin.delete_ #[59, 9] 0 #[.map t17, .string t18]) w13 (fun v19 w20 => (∀ w22, Drew w20 w22 → (∃ (t23 : Option Addr), w22.cell? ⟨b4, o5, none⟩ = some (.pointer t23) ∧
      (∃ b24 o25, t23 = some ⟨b24, o25, none⟩ ∧ (∃ (t26 : Option Nat), w22.cell? ⟨b24, o25 + 1, none⟩ = some (.map t26) ∧ (∃ (t27 : ByteArray), w22.cell? ⟨b2, o3, none⟩ = some (.string t27) ∧
      PRunU Try.prog (Instr.mapUpdate 59 (.map t26) (.string t27) (.pointer f1)) w22 (fun w28 => (∃ b29 o30, f1 = some ⟨b29, o30, none⟩ ∧ PS w28 ⟨b29, o30 + 2, none⟩ (.bool true) fun w31 =>
      R (.returned (.int .i64 0)) w31)) (fun pv w => False))))))) (fun pv w => False)))))))) (fun ch w => R (.panicked ch) w))) :
    Calls Try.prog 58 #[.pointer f1, .pointer (some ⟨b2, o3, none⟩), .pointer (some ⟨b4, o5, none⟩), .pointer (some ⟨b6, o7, none⟩)] w R :=
  D_calls A_vdisk_Disk_Rename_1 mixed Try.func58 rfl (Nat.le_of_ble_eq_true (by kernel_rfl)) (by kernel_rfl) (Eq.mp (by kernel_rfl) h)
/-- (*quayside/vdisk.Disk).Delete$1 -/
abbrev F_vdisk_Disk_Delete_1 : Nat := 59
def A_vdisk_Disk_Delete_1 : Ann := ⟨[], [], [], []⟩
theorem L_vdisk_Disk_Delete_1 {t1 : Option Addr} {b2 : Nat} {o3 : Nat} {b4 : Nat} {o5 : Nat} {w : World} {R : Ending → World → Prop}
    (h : (∀ w7, Drew w w7 → (∃ (t8 : Option Addr), w7.cell? ⟨b2, o3, none⟩ = some (.pointer t8) ∧ (∃ b9 o10, t8 = some ⟨b9, o10, none⟩ ∧ (∃ (t11 : Option Nat), w7.cell? ⟨b9, o10 + 1, none⟩ = some (.map t11) ∧
      (∃ (t12 : ByteArray), w7.cell? ⟨b4, o5, none⟩ = some (.string t12) ∧ PRun Try.prog (Builtin.delete_ #[59, 9] 0 #[.map t11, .string t12]) w7 (fun v13 w14 =>
      R (.returned (.int .i64 0)) w14) (fun pv w => False))))))) :
    Calls Try.prog 59 #[.pointer t1, .pointer (some ⟨b2, o3, none⟩), .pointer (some ⟨b4, o5, none⟩)] w R :=
  D_calls A_vdisk_Disk_Delete_1 mixed Try.func59 rfl (Nat.le_of_ble_eq_true (by kernel_rfl)) (by kernel_rfl) (Eq.mp (by kernel_rfl) h)
/-- (*quayside/vdisk.Disk).Sync$1 -/
abbrev F_vdisk_Disk_Sync_1 : Nat := 60
def A_vdisk_Disk_Sync_1 : Ann := ⟨[], [], [], []⟩
theorem L_vdisk_Disk_Sync_1 {f1 : Option Addr} {w : World} {R : Ending → World → Prop}
    (h : (∃ b2 o3, f1 = some ⟨b2, o3, none⟩ ∧ (∃ (t4a : Option Addr) (t4n : Nat) (t4c : Nat), w.cell? ⟨b2, o3, none⟩ = some (.slice t4a t4n t4c) ∧ PC Try.prog 50 #[.pointer f1, .int .i64 ((t4n : Nat) : Int)] w (fun v5 w6 =>
      v5 = .tuple #[] ∧ R (.returned (.int .i64 0)) w6) (fun ch w => R (.panicked ch) w)))) :
    Calls Try.prog 60 #[.pointer f1] w R :=
  D_calls A_vdisk_Disk_Sync_1 mixed Try.func60 rfl (Nat.le_of_ble_eq_true (by kernel_rfl)) (by kernel_rfl) (Eq.mp (by kernel_rfl) h)
/-- (*quayside/vdisk.Disk).Cut$1 -/
abbrev F_vdisk_Disk_Cut_1 : Nat := 61
def A_vdisk_Disk_Cut_1 : Ann := ⟨[], [], [], []⟩
theorem L_vdisk_Disk_Cut_1 {f1 : Option Addr} {b2 : Nat} {o3 : Nat} {w : World} {R : Ending → World → Prop}
    (h : (∃ (t4 : Int), w.cell? ⟨b2, o3, none⟩ = some (.int .i64 t4) ∧ PC Try.prog 50 #[.pointer f1, .int .i64 t4] w (fun v5 w6 => v5 = .tuple #[] ∧ R (.returned (.int .i64 0)) w6) (fun ch w =>
      R (.panicked ch) w))) :
    Calls Try.prog 61 #[.pointer f1, .pointer (some ⟨b2, o3, none⟩)] w R :=
  D_calls A_vdisk_Disk_Cut_1 mixed Try.func61 rfl (Nat.le_of_ble_eq_true (by kernel_rfl)) (by kernel_rfl) (Eq.mp (by kernel_rfl) h)
/-- (*quayside/vdisk.Disk).Append$1 -/
abbrev F_vdisk_Disk_Append_1 : Nat := 62
def A_vdisk_Disk_Append_1 : Ann := ⟨[], [], [1], [(3, ⟨[0, 0, 2, 4, 8, 0, 48, 127, 255, 383], [1023, 1023, 1021, 1019, 1015, 1023, 975, 1022, 895, 703], [0, 0, 0, 0, 1, 1, 2, 0, 0, 2]⟩)]⟩
theorem L_vdisk_Disk_Append_1 {f1 : Option Addr} {b2 : Nat} {o3 : Nat} {b4 : Nat} {o5 : Nat} {w : World} {R : Ending → World → Prop}
    (h : (∀ w7, Drew w w7 → ∃ S8 : Nat → Prop, (¬ S8 b2 ∧ (∃ (t9a : Option Addr) (t9n : Nat) (t9c : Nat), w7.cell? ⟨b2, o3, none⟩ = some (.slice t9a t9n t9c) ∧
      (∃ (t10 : Option Addr), w7.cell? ⟨b4, o5, none⟩ = some (.pointer t10) ∧ PC Try.prog 27 #[.pointer t10] w7 (fun v11 w12 => ∃ (t13 : Int), v11 = .int .i64 t13 ∧
      (Keep S8 w7 w12 ∧ PIf (decide ((((t9n : Nat) : Int) : Int) > t13)) (R (.returned (.int .i64 12)) w12) ((∀ w15, Drew w12 w15 → (∃ b16 o17, f1 = some ⟨b16, o17, none⟩ ∧
      (∃ (t18a : Option Addr) (t18n : Nat) (t18c : Nat), w15.cell? ⟨b16, o17, none⟩ = some (.slice t18a t18n t18c) ∧ (∃ (t19a : Option Addr) (t19n : Nat) (t19c : Nat), w15.cell? ⟨b2, o3, none⟩ = some (.slice t19a t19n t19c) ∧
      PRun Try.prog (Builtin.append_ #[33, 33] 33 #[.slice t18a t18n t18c, .slice t19a t19n t19c]) w15 (fun v20 w21 => ∃ (t22a : Option Addr) (t22n : Nat) (t22c : Nat), v20 = .slice t22a t22n t22c ∧
      (∃ b23 o24, f1 = some ⟨b23, o24, none⟩ ∧ PS w21 ⟨b23, o24, none⟩ (.slice t22a t22n t22c) fun w25 => R (.returned (.int .i64 0)) w25)) (fun pv w => False)))))))) (fun ch w =>
      False)))))) :
    Calls Try.prog 62 #[.pointer f1, .pointer (some ⟨b2, o3, none⟩), .pointer (some ⟨b4, o5, none⟩)] w R :=
  D_calls A_vdisk_Disk_Append_1 mixed Try.func62 rfl (Nat.le_of_ble_eq_true (by kernel_rfl)) (by kernel_rfl) (Eq.mp (by kernel_rfl) h)
/-- quayside/quaysidekit.markBytes -/
abbrev F_kit_markBytes : Nat := 63
def A_kit_markBytes : Ann := ⟨[], [], [], []⟩
theorem L_kit_markBytes {i1 : Int} {w : World} {R : Ending → World → Prop}
    (h : R (.returned (.int .u8 (IntKind.wrap .u8 (IntKind.wrap .i64 (201 + (IntKind.wrap .i64 (7 * i1))))))) w) :
    Calls Try.prog 63 #[.int .i64 i1] w R :=
  D_calls A_kit_markBytes mixed Try.func63 rfl (Nat.le_of_ble_eq_true (by kernel_rfl)) (by kernel_rfl) (Eq.mp (by kernel_rfl) h)
/-- (*quayside/quaysideref19.Disk).dies -/
abbrev F_ref19_Disk_dies : Nat := 64
def A_ref19_Disk_dies : Ann := ⟨[], [], [], []⟩
theorem L_ref19_Disk_dies {d1 : Option Addr} {w : World} {R : Ending → World → Prop}
    (h : (∃ b2 o3, d1 = some ⟨b2, o3, none⟩ ∧ (∃ (t4 : Bool), w.cell? ⟨b2, o3 + 3, none⟩ = some (.bool t4) ∧ PIf t4 (R (.returned (.bool true)) w) ((∃ b5 o6, d1 = some ⟨b5, o6, none⟩ ∧
      (∃ (t7 : Int), w.cell? ⟨b5, o6 + 1, none⟩ = some (.int .i64 t7) ∧ PIf ((t7 : Int) == 0) ((∃ b8 o9, d1 = some ⟨b8, o9, none⟩ ∧ PS w ⟨b8, o9 + 3, none⟩ (.bool true) fun w10 =>
      R (.returned (.bool true)) w10)) ((∃ b11 o12, d1 = some ⟨b11, o12, none⟩ ∧ (∃ (t13 : Int), w.cell? ⟨b11, o12 + 1, none⟩ = some (.int .i64 t13) ∧ PIf (decide ((t13 : Int) > 0)) ((∃ b14 o15, d1 = some ⟨b14, o15, none⟩ ∧
      (∃ (t16 : Int), w.cell? ⟨b14, o15 + 1, none⟩ = some (.int .i64 t16) ∧ (∃ b17 o18, d1 = some ⟨b17, o18, none⟩ ∧ PS w ⟨b17, o18 + 1, none⟩ (.int .i64 (IntKind.wrap .i64 (t16 - 1))) fun w19 =>
      R (.returned (.bool false)) w19)))) (R (.returned (.bool false)) w)))))))))) :
    Calls Try.prog 64 #[.pointer d1] w R :=
  D_calls A_ref19_Disk_dies mixed Try.func64 rfl (Nat.le_of_ble_eq_true (by kernel_rfl)) (by kernel_rfl) (Eq.mp (by kernel_rfl) h)
/-- quayside/quaysideref19.isName -/
abbrev F_ref19_isName : Nat := 65
def A_ref19_isName : Ann := ⟨[(2, [(3, .int .i64 0)])], [], [], []⟩
theorem L_ref19_isName {s1 : ByteArray} {w : World} {R : Ending → World → Prop}
    (h : (∃ I2 : Nat → Int → World → Prop, (∃ m3, I2 m3 0 w) ∧ ∀ (m3 : Nat) (i5 : Int) (B6 : Nat → Value) (w7 : World), I2 m3 i5 w7 → PIf (decide ((i5 : Int) < ((ByteArray.size s1 : Nat) : Int))) (((0 : Int) ≤ i5 ∧
      ∃ c8, s1[Int.toNat i5]? = some c8 ∧ PIf ((((c8.toNat : Nat) : Int) : Int) != 46) (PIf (decide ((((c8.toNat : Nat) : Int) : Int) < 48)) (PIf (decide ((((c8.toNat : Nat) : Int) : Int) < 97)) (R (.returned (.bool false)) w7) (PIf (decide ((((c8.toNat : Nat) : Int) : Int) > 122)) (R (.returned (.bool false)) w7) ((∃ m4, m4 < m3 ∧
      I2 m4 (IntKind.wrap .i64 (i5 + 1)) w7)))) (PIf (decide ((((c8.toNat : Nat) : Int) : Int) > 57)) (PIf (decide ((((c8.toNat : Nat) : Int) : Int) < 97)) (R (.returned (.bool false)) w7) (PIf (decide ((((c8.toNat : Nat) : Int) : Int) > 122)) (R (.returned (.bool false)) w7) ((∃ m4, m4 < m3 ∧
      I2 m4 (IntKind.wrap .i64 (i5 + 1)) w7)))) ((∃ m4, m4 < m3 ∧ I2 m4 (IntKind.wrap .i64 (i5 + 1)) w7)))) ((∃ m4, m4 < m3 ∧ I2 m4 (IntKind.wrap .i64 (i5 + 1)) w7)))) (PIf (decide ((((ByteArray.size s1 : Nat) : Int) : Int) ≥ 1)) (R (.returned (.bool (decide ((((ByteArray.size s1 : Nat) : Int) : Int) ≤ 16)))) w7) (R (.returned (.bool false)) w7)))) :
    Calls Try.prog 65 #[.string s1] w R :=
  D_calls A_ref19_isName mixed Try.func65 rfl (Nat.le_of_ble_eq_true (by kernel_rfl)) (by kernel_rfl) (Eq.mp (by kernel_rfl) h)
/-- (*quayside/quaysideref19.Disk).at -/
abbrev F_ref19_Disk_at : Nat := 66
def A_ref19_Disk_at : Ann := ⟨[(2, [(5, .int .i64 0)])], [], [], []⟩
theorem L_ref19_Disk_at {d1 : Option Addr} {name2 : ByteArray} {w : World} {R : Ending → World → Prop}
    (h : (∃ I3 : Nat → Int → World → Prop, (∃ m4, I3 m4 0 w) ∧ ∀ (m4 : Nat) (i6 : Int) (B7 : Nat → Value) (w8 : World), I3 m4 i6 w8 → (∃ b9 o10, d1 = some ⟨b9, o10, none⟩ ∧
      (∃ (t11a : Option Addr) (t11n : Nat) (t11c : Nat), w8.cell? ⟨b9, o10 + 2, none⟩ = some (.slice t11a t11n t11c) ∧ PIf (decide ((i6 : Int) < ((t11n : Nat) : Int))) ((∃ b12 o13, d1 = some ⟨b12, o13, none⟩ ∧
      (∃ (t14a : Option Addr) (t14n : Nat) (t14c : Nat), w8.cell? ⟨b12, o13 + 2, none⟩ = some (.slice t14a t14n t14c) ∧ (∃ b15 o16, t14a = some ⟨b15, o16, none⟩ ∧
      (0 : Int) ≤ i6 ∧ i6 < ((t14n : Nat) : Int) ∧ (∃ (t17 : ByteArray), w8.cell? ⟨b15, o16 + Int.toNat i6 * 4, none⟩ = some (.string t17) ∧ PIf ((ByteArray.toList t17) == (ByteArray.toList name2)) (R (.returned (.int .i64 i6)) w8) ((∃ m5, m5 < m4 ∧
      I3 m5 (IntKind.wrap .i64 (i6 + 1)) w8))))))) (R (.returned (.int .i64 (-1))) w8))))) :
    Calls Try.prog 66 #[.pointer d1, .string name2] w R :=
  D_calls A_ref19_Disk_at mixed Try.func66 rfl (Nat.le_of_ble_eq_true (by kernel_rfl)) (by kernel_rfl) (Eq.mp (by kernel_rfl) h)
/-- (*quayside/quaysideref19.Disk).lay -/
abbrev F_ref19_Disk_lay : Nat := 67
def A_ref19_Disk_lay : Ann := ⟨[(4, [(4, .slice none 0 0), (5, .bool false), (6, .int .i64 0)])], [(9, [(4, .slice none 0 0), (5, .bool false)])], [], []⟩
theorem L_ref19_Disk_lay {d1 : Option Addr} {f3 : ByteArray} {f4a : Option Addr} {f4n : Nat} {f4c : Nat} {f5 : Int} {f6 : Bool} {w : World} {R : Ending → World → Prop}
    (h : PA w (.cells #[.string f3, .slice f4a f4n f4c, .int .i64 f5, .bool f6] 73) fun w7 => (∃ I8 : Nat → Option Addr → Nat → Nat → Bool → Int → World → Prop, (∃ m9, I8 m9 none 0 0 false 0 w7) ∧
      ∀ (m9 : Nat) (out11a : Option Addr) (out11n : Nat) (out11c : Nat) (laid12 : Bool) (i13 : Int) (B14 : Nat → Value) (w15 : World), I8 m9 out11a out11n out11c laid12 i13 w15 → (∃ b16 o17, d1 = some ⟨b16, o17, none⟩ ∧
      (∃ (t18a : Option Addr) (t18n : Nat) (t18c : Nat), w15.cell? ⟨b16, o17 + 2, none⟩ = some (.slice t18a t18n t18c) ∧ PIf (decide ((i13 : Int) < ((t18n : Nat) : Int))) ((∃ J19 : Option Addr → Nat → Nat → Bool → World → Prop, (PIf (!laid12) ((∃ (t21 : ByteArray), w15.cell? ⟨w.heap.size, 0, none⟩ = some (.string t21) ∧
      (∃ b22 o23, d1 = some ⟨b22, o23, none⟩ ∧ (∃ (t24a : Option Addr) (t24n : Nat) (t24c : Nat), w15.cell? ⟨b22, o23 + 2, none⟩ = some (.slice t24a t24n t24c) ∧
      (∃ b25 o26, t24a = some ⟨b25, o26, none⟩ ∧ (0 : Int) ≤ i13 ∧ i13 < ((t24n : Nat) : Int) ∧ (∃ (t27 : ByteArray), w15.cell? ⟨b25, o26 + Int.toNat i13 * 4, none⟩ = some (.string t27) ∧
      (∀ w20, Drew w15 w20 → PIf (Op.bytesLess (ByteArray.toList t21) (ByteArray.toList t27)) ((∃ (t28 : ByteArray), ∃ (t29a : Option Addr) (t29n : Nat) (t29c : Nat), ∃ (t30 : Int), ∃ (t31 : Bool), w20.cell? ⟨w.heap.size, 0, none⟩ = some (.string t28) ∧
      w20.cell? ⟨w.heap.size, 0 + 1, none⟩ = some (.slice t29a t29n t29c) ∧ w20.cell? ⟨w.heap.size, 0 + 2, none⟩ = some (.int .i64 t30) ∧ w20.cell? ⟨w.heap.size, 0 + 3, none⟩ = some (.bool t31) ∧
      PA w20 (.cells #[.string t28, .slice t29a t29n t29c, .int .i64 t30, .bool t31] 73) fun w32 => PRun Try.prog (Builtin.append_ #[62, 62] 62 #[.slice out11a out11n out11c, .slice (some ⟨w20.heap.size, 0, none⟩) 1 1]) w32 (fun v33 w34 =>
      ∃ (t35a : Option Addr) (t35n : Nat) (t35c : Nat), v33 = .slice t35a t35n t35c ∧ J19 t35a t35n t35c true w34) (fun pv w => R (.panicked [{ v := pv, recovered := false }]) w))) (J19 out11a out11n out11c laid12 w20)))))))) ((∀ w20, Drew w15 w20 → J19 out11a out11n out11c laid12 w20))) ∧
      ∀ (out36a : Option Addr) (out36n : Nat) (out36c : Nat) (laid37 : Bool) (B38 : Nat → Value) (w39 : World), J19 out36a out36n out36c laid37 w39 → (∃ b41 o42, d1 = some ⟨b41, o42, none⟩ ∧
      (∃ (t43a : Option Addr) (t43n : Nat) (t43c : Nat), w39.cell? ⟨b41, o42 + 2, none⟩ = some (.slice t43a t43n t43c) ∧ (∃ b44 o45, t43a = some ⟨b44, o45, none⟩ ∧
      (0 : Int) ≤ i13 ∧ i13 < ((t43n : Nat) : Int) ∧ (∃ (t46 : ByteArray), w39.cell? ⟨b44, o45 + Int.toNat i13 * 4, none⟩ = some (.string t46) ∧ (∃ (t47 : ByteArray), w39.cell? ⟨w.heap.size, 0, none⟩ = some (.string t47) ∧
      (∀ w40, Drew w39 w40 → PIf (!((ByteArray.toList t46) == (ByteArray.toList t47))) ((∃ b48 o49, d1 = some ⟨b48, o49, none⟩ ∧ (∃ (t50a : Option Addr) (t50n : Nat) (t50c : Nat), w40.cell? ⟨b48, o49 + 2, none⟩ = some (.slice t50a t50n t50c) ∧
      (∃ b51 o52, t50a = some ⟨b51, o52, none⟩ ∧ (0 : Int) ≤ i13 ∧ i13 < ((t50n : Nat) : Int) ∧ (∃ (t53 : ByteArray), ∃ (t54a : Option Addr) (t54n : Nat) (t54c : Nat), ∃ (t55 : Int), ∃ (t56 : Bool), w40.cell? ⟨b51, o52 + Int.toNat i13 * 4, none⟩ = some (.string t53) ∧
      w40.cell? ⟨b51, o52 + Int.toNat i13 * 4 + 1, none⟩ = some (.slice t54a t54n t54c) ∧ w40.cell? ⟨b51, o52 + Int.toNat i13 * 4 + 2, none⟩ = some (.int .i64 t55) ∧
      w40.cell? ⟨b51, o52 + Int.toNat i13 * 4 + 3, none⟩ = some (.bool t56) ∧ PA w40 (.cells #[.string t53, .slice t54a t54n t54c, .int .i64 t55, .bool t56] 73) fun w57 =>
      PRun Try.prog (Builtin.append_ #[62, 62] 62 #[.slice out36a out36n out36c, .slice (some ⟨w40.heap.size, 0, none⟩) 1 1]) w57 (fun v58 w59 => ∃ (t60a : Option Addr) (t60n : Nat) (t60c : Nat), v58 = .slice t60a t60n t60c ∧
      (∃ m10, m10 < m9 ∧ I8 m10 t60a t60n t60c laid37 (IntKind.wrap .i64 (i13 + 1)) w59)) (fun pv w => R (.panicked [{ v := pv, recovered := false }]) w)))))) ((∃ m10, m10 < m9 ∧
      I8 m10 out36a out36n out36c laid37 (IntKind.wrap .i64 (i13 + 1)) w40)))))))))) (PIf (!laid12) ((∃ (t61 : ByteArray), ∃ (t62a : Option Addr) (t62n : Nat) (t62c : Nat), ∃ (t63 : Int), ∃ (t64 : Bool), w15.cell? ⟨w.heap.size, 0, none⟩ = some (.string t61) ∧
      w15.cell? ⟨w.heap.size, 0 + 1, none⟩ = some (.slice t62a t62n t62c) ∧ w15.cell? ⟨w.heap.size, 0 + 2, none⟩ = some (.int .i64 t63) ∧ w15.cell? ⟨w.heap.size, 0 + 3, none⟩ = some (.bool t64) ∧
      PA w15 (.cells #[.string t61, .slice t62a t62n t62c, .int .i64 t63, .bool t64] 73) fun w65 => PRun Try.prog (Builtin.append_ #[62, 62] 62 #[.slice out11a out11n out11c, .slice (some ⟨w15.heap.size, 0, none⟩) 1 1]) w65 (fun v66 w67 =>
      ∃ (t68a : Option Addr) (t68n : Nat) (t68c : Nat), v66 = .slice t68a t68n t68c ∧ (∃ b69 o70, d1 = some ⟨b69, o70, none⟩ ∧ PS w67 ⟨b69, o70 + 2, none⟩ (.slice t68a t68n t68c) fun w71 =>
      R (.returned (.tuple #[])) w71)) (fun pv w => R (.panicked [{ v := pv, recovered := false }]) w))) ((∃ b72 o73, d1 = some ⟨b72, o73, none⟩ ∧ PS w15 ⟨b72, o73 + 2, none⟩ (.slice out11a out11n out11c) fun w74 =>
      R (.returned (.tuple #[])) w74))))))) :
    Calls Try.prog 67 #[.pointer d1, .agg #[.string f3, .slice f4a f4n f4c, .int .i64 f5, .bool f6]] w R :=
  D_calls A_ref19_Disk_lay mixed Try.func67 rfl (Nat.le_of_ble_eq_true (by kernel_rfl)) (by kernel_rfl) (Eq.mp (by kernel_rfl) h)
/-- (*quayside/quaysideref19.Disk).drop -/
abbrev F_ref19_Disk_drop : Nat := 68
def A_ref19_Disk_drop : Ann := ⟨[(2, [(4, .slice none 0 0), (5, .int .i64 0)])], [], [], []⟩
theorem L_ref19_Disk_drop {d1 : Option Addr} {name2 : ByteArray} {w : World} {R : Ending → World → Prop}
    (h : (∃ I3 : Nat → Option Addr → Nat → Nat → Int → World → Prop, (∃ m4, I3 m4 none 0 0 0 w) ∧ ∀ (m4 : Nat) (out6a : Option Addr) (out6n : Nat) (out6c : Nat) (i7 : Int) (B8 : Nat → Value) (w9 : World), I3 m4 out6a out6n out6c i7 w9 → (∃ b10 o11, d1 = some ⟨b10, o11, none⟩ ∧
      (∃ (t12a : Option Addr) (t12n : Nat) (t12c : Nat), w9.cell? ⟨b10, o11 + 2, none⟩ = some (.slice t12a t12n t12c) ∧ PIf (decide ((i7 : Int) < ((t12n : Nat) : Int))) ((∃ b13 o14, d1 = some ⟨b13, o14, none⟩ ∧
      (∃ (t15a : Option Addr) (t15n : Nat) (t15c : Nat), w9.cell? ⟨b13, o14 + 2, none⟩ = some (.slice t15a t15n t15c) ∧ (∃ b16 o17, t15a = some ⟨b16, o17, none⟩ ∧
      (0 : Int) ≤ i7 ∧ i7 < ((t15n : Nat) : Int) ∧ (∃ (t18 : ByteArray), w9.cell? ⟨b16, o17 + Int.toNat i7 * 4, none⟩ = some (.string t18) ∧ PIf (!((ByteArray.toList t18) == (ByteArray.toList name2))) ((∃ b19 o20, d1 = some ⟨b19, o20, none⟩ ∧
      (∃ (t21a : Option Addr) (t21n : Nat) (t21c : Nat), w9.cell? ⟨b19, o20 + 2, none⟩ = some (.slice t21a t21n t21c) ∧ (∃ b22 o23, t21a = some ⟨b22, o23, none⟩ ∧
      (0 : Int) ≤ i7 ∧ i7 < ((t21n : Nat) : Int) ∧ (∃ (t24 : ByteArray), ∃ (t25a : Option Addr) (t25n : Nat) (t25c : Nat), ∃ (t26 : Int), ∃ (t27 : Bool), w9.cell? ⟨b22, o23 + Int.toNat i7 * 4, none⟩ = some (.string t24) ∧
      w9.cell? ⟨b22, o23 + Int.toNat i7 * 4 + 1, none⟩ = some (.slice t25a t25n t25c) ∧ w9.cell? ⟨b22, o23 + Int.toNat i7 * 4 + 2, none⟩ = some (.int .i64 t26) ∧
      w9.cell? ⟨b22, o23 + Int.toNat i7 * 4 + 3, none⟩ = some (.bool t27) ∧ PA w9 (.cells #[.string t24, .slice t25a t25n t25c, .int .i64 t26, .bool t27] 73) fun w28 =>
      PRun Try.prog (Builtin.append_ #[62, 62] 62 #[.slice out6a out6n out6c, .slice (some ⟨w9.heap.size, 0, none⟩) 1 1]) w28 (fun v29 w30 => ∃ (t31a : Option Addr) (t31n : Nat) (t31c : Nat), v29 = .slice t31a t31n t31c ∧
      (∃ m5, m5 < m4 ∧ I3 m5 t31a t31n t31c (IntKind.wrap .i64 (i7 + 1)) w30)) (fun pv w => R (.panicked [{ v := pv, recovered := false }]) w)))))) ((∃ m5, m5 < m4 ∧
      I3 m5 out6a out6n out6c (IntKind.wrap .i64 (i7 + 1)) w9))))))) ((∃ b32 o33, d1 = some ⟨b32, o33, none⟩ ∧ PS w9 ⟨b32, o33 + 2, none⟩ (.slice out6a out6n out6c) fun w34 =>
      R (.returned (.tuple #[])) w34)))))) :
    Calls Try.prog 68 #[.pointer d1, .string name2] w R :=
  D_calls A_ref19_Disk_drop mixed Try.func68 rfl (Nat.le_of_ble_eq_true (by kernel_rfl)) (by kernel_rfl) (Eq.mp (by kernel_rfl) h)
/-- slices.Collect[string] -/
abbrev F_slices_Collect_string : Nat := 69
def A_slices_Collect_string : Ann := ⟨[], [], [], []⟩
theorem L_slices_Collect_string {seq1g : FuncId} {seq1i : Array Value} {seq1c : Array Value} {w : World} {R : Ending → World → Prop}
    (h : PC Try.prog 76 #[.slice none 0 0, .func (.func seq1g) seq1i seq1c] w (fun v2 w3 => ∃ (t4a : Option Addr) (t4n : Nat) (t4c : Nat), v2 = .slice t4a t4n t4c ∧
      R (.returned (.slice t4a t4n t4c)) w3) (fun ch w => R (.panicked ch) w)) :
    Calls Try.prog 69 #[.func (.func seq1g) seq1i seq1c] w R :=
  D_calls A_slices_Collect_string mixed Try.func69 rfl (Nat.le_of_ble_eq_true (by kernel_rfl)) (by kernel_rfl) (Eq.mp (by kernel_rfl) h)
/-- maps.Keys[map[string]*quayside/vdisk.file,string,*quayside/vdisk.file]$1 -/
abbrev F_maps_Keys_map_string_vdisk_file_string_vdisk_file_1 : Nat := 71
def A_maps_Keys_map_string_vdisk_file_string_vdisk_file_1 : Ann := ⟨[(1, [])], [], [], []⟩
theorem L_maps_Keys_map_string_vdisk_file_string_vdisk_file_1 {yield1g : FuncId} {yield1i : Array Value} {yield1c : Array Value} {b2 : Nat} {o3 : Nat} {w : World} {R : Ending → World → Prop}
    (h : (∃ (t4 : Option Nat), w.cell? ⟨b2, o3, none⟩ = some (.map t4) ∧ PRun Try.prog (Instr.range 59 (.map t4)) w (fun v5 w6 => (∃ I7 : Nat → World → Prop, (∃ m8, I7 m8  w6) ∧
      ∀ (m8 : Nat)  (B10 : Nat → Value) (w11 : World), I7 m8  w11 → PRun Try.prog (Instr.next v5 false 0) w11 (fun v12 w13 => (v12 = .tuple #[.bool false] ∧
      R (.returned (.tuple #[])) w13) ∨ (∃ k14 x15, v12 = .tuple #[.bool true, k14, x15] ∧ PRun Try.prog (Instr.entry v5) w13 (fun v16 w17 => ∃ (k18 : ByteArray), ∃ (x19 : Value), v16 = .tuple #[.string k18, x19] ∧
      (∃ g22 fi23 ca24, (.func (.func yield1g) yield1i yield1c : Value) = .func (.func g22) fi23 ca24 ∧ enters Try.prog g22 = true ∧ PC Try.prog g22 (fi23 ++ #[.string k18] ++ ca24) w17 (fun v20 w21 =>
      ∃ (t25 : Bool), v20 = .bool t25 ∧ PIf (!t25) (R (.returned (.tuple #[])) w21) ((∃ m9, m9 < m8 ∧ I7 m9  w21))) (fun ch w => R (.panicked ch) w))) (fun pv w =>
      R (.panicked [{ v := pv, recovered := false }]) w))) (fun pv w => R (.panicked [{ v := pv, recovered := false }]) w))) (fun pv w => R (.panicked [{ v := pv, recovered := false }]) w))) :
    Calls Try.prog 71 #[.func (.func yield1g) yield1i yield1c, .pointer (some ⟨b2, o3, none⟩)] w R :=
  D_calls A_maps_Keys_map_string_vdisk_file_string_vdisk_file_1 mixed Try.func71 rfl (Nat.le_of_ble_eq_true (by kernel_rfl)) (by kernel_rfl) (Eq.mp (by kernel_rfl) h)
/-- quayside/vdisk.isName$1 -/
abbrev F_vdisk_isName_1 : Nat := 72
def A_vdisk_isName_1 : Ann := ⟨[], [], [], []⟩
theorem L_vdisk_isName_1 {r1 : Int} {w : World} {R : Ending → World → Prop}
    (h : PC Try.prog 73 #[.string (⟨#[97, 98, 99, 100, 101, 102, 103, 104, 105, 106, 107, 108, 109, 110, 111, 112, 113, 114, 115, 116, 117, 118, 119, 120, 121, 122, 48, 49, 50, 51, 52, 53, 54, 55, 56, 57, 46]⟩ : ByteArray), .int .i32 r1] w (fun v2 w3 =>
      ∃ (t4 : Bool), v2 = .bool t4 ∧ R (.returned (.bool (!t4))) w3) (fun ch w => R (.panicked ch) w)) :
    Calls Try.prog 72 #[.int .i32 r1] w R :=
  D_calls A_vdisk_isName_1 mixed Try.func72 rfl (Nat.le_of_ble_eq_true (by kernel_rfl)) (by kernel_rfl) (Eq.mp (by kernel_rfl) h)
/-- strings.ContainsRune -/
abbrev F_strings_ContainsRune : Nat := 73
def A_strings_ContainsRune : Ann := ⟨[], [], [], []⟩
theorem L_strings_ContainsRune {s1 : ByteArray} {r2 : Int} {w : World} {R : Ending → World → Prop}
    (h : PC Try.prog 79 #[.string s1, .int .i32 r2] w (fun v3 w4 => ∃ (t5 : Int), v3 = .int .i64 t5 ∧ R (.returned (.bool (decide ((t5 : Int) ≥ 0)))) w4) (fun ch w =>
      R (.panicked ch) w)) :
    Calls Try.prog 73 #[.string s1, .int .i32 r2] w R :=
  D_calls A_strings_ContainsRune mixed Try.func73 rfl (Nat.le_of_ble_eq_true (by kernel_rfl)) (by kernel_rfl) (Eq.mp (by kernel_rfl) h)
/-- strings.ContainsFunc -/
abbrev F_strings_ContainsFunc : Nat := 74
def A_strings_ContainsFunc : Ann := ⟨[], [], [], []⟩
theorem L_strings_ContainsFunc {s1 : ByteArray} {f2g : FuncId} {f2i : Array Value} {f2c : Array Value} {w : World} {R : Ending → World → Prop}
    (h : PC Try.prog 80 #[.string s1, .func (.func f2g) f2i f2c] w (fun v3 w4 => ∃ (t5 : Int), v3 = .int .i64 t5 ∧ R (.returned (.bool (decide ((t5 : Int) ≥ 0)))) w4) (fun ch w =>
      R (.panicked ch) w)) :
    Calls Try.prog 74 #[.string s1, .func (.func f2g) f2i f2c] w R :=
  D_calls A_strings_ContainsFunc mixed Try.func74 rfl (Nat.le_of_ble_eq_true (by kernel_rfl)) (by kernel_rfl) (Eq.mp (by kernel_rfl) h)
/-- (*quayside/vdisk.Disk).on$1 -/
abbrev F_vdisk_Disk_on_1 : Nat := 75
def A_vdisk_Disk_on_1 : Ann := ⟨[], [], [], []⟩
theorem L_vdisk_Disk_on_1 {b1 : Nat} {o2 : Nat} {b3 : Nat} {o4 : Nat} {b5 : Nat} {o6 : Nat} {w : World} {R : Ending → World → Prop}
    (h : (∃ (t8 : Option Addr), w.cell? ⟨b1, o2, none⟩ = some (.pointer t8) ∧ (∃ b9 o10, t8 = some ⟨b9, o10, none⟩ ∧ (∃ (t11 : Option Nat), w.cell? ⟨b9, o10 + 1, none⟩ = some (.map t11) ∧
      (∃ (t12 : ByteArray), w.cell? ⟨b3, o4, none⟩ = some (.string t12) ∧ (∃ (t13 : Option Addr), (∀ m, (Instr.lookup 59 (.map t11) (.string t12) false).run Try.prog (w.drewN m) = .ok (.pointer t13) (w.drewN m)) ∧
      (∀ w7, Drew w w7 → PRun Try.prog (do eqGuard .neq 68 (.tmp 11) (.const (.pointer none)) (.pointer t13) (.pointer none); binOp .neq 68 (.pointer t13) (.pointer none)) w7 (fun v14 w15 =>
      ∃ (t16 : Bool), v14 = .bool t16 ∧ PIf t16 ((∃ (t17 : Value), w15.cell? ⟨b5, o6, none⟩ = some t17 ∧ (∃ g20 fi21 ca22, (t17 : Value) = .func (.func g20) fi21 ca22 ∧
      enters Try.prog g20 = true ∧ PC Try.prog g20 (fi21 ++ #[.pointer t13] ++ ca22) w15 (fun v18 w19 => ∃ (t23 : Int), v18 = .int .i64 t23 ∧ R (.returned (.int .i64 t23)) w19) (fun ch w =>
      R (.panicked ch) w)))) (R (.returned (.int .i64 14)) w15)) (fun pv w => R (.panicked [{ v := pv, recovered := false }]) w)))))))) :
    Calls Try.prog 75 #[.pointer (some ⟨b1, o2, none⟩), .pointer (some ⟨b3, o4, none⟩), .pointer (some ⟨b5, o6, none⟩)] w R :=
  D_calls A_vdisk_Disk_on_1 mixed Try.func75 rfl (Nat.le_of_ble_eq_true (by kernel_rfl)) (by kernel_rfl) (Eq.mp (by kernel_rfl) h)
/-- strings.IndexRune -/
abbrev F_strings_IndexRune : Nat := 79
def A_strings_IndexRune : Ann := ⟨[(5, [(9, .int .i64 0)]), (12, [(12, .int .i64 0)]), (38, [])], [(11, [(9, .int .i64 0)]), (35, [(160, .bool false)])], [], []⟩
theorem L_strings_IndexRune {s1 : ByteArray} {r2 : Int} {w : World} {R : Ending → World → Prop}
    (h : (∃ J3 : Bool → World → Prop, (PIf (decide ((0 : Int) ≤ r2)) (J3 (decide ((r2 : Int) < 128)) w) (J3 false w)) ∧ ∀ (t4 : Bool) (B5 : Nat → Value) (w6 : World), J3 t4 w6 → PIf t4 (PC Try.prog 92 #[.string s1, .int .u8 (IntKind.wrap .u8 r2)] w6 (fun v7 w8 =>
      ∃ (t9 : Int), v7 = .int .i64 t9 ∧ R (.returned (.int .i64 t9)) w8) (fun ch w => R (.panicked ch) w)) (PIf ((r2 : Int) == 65533) (PRun Try.prog (Instr.range 9 (.string s1)) w6 (fun v10 w11 =>
      (∃ I12 : Nat → World → Prop, (∃ m13, I12 m13  w11) ∧ ∀ (m13 : Nat)  (B15 : Nat → Value) (w16 : World), I12 m13  w16 → PRun Try.prog (Instr.next v10 true 0) w16 (fun v17 w18 =>
      (v17 = .tuple #[.bool false] ∧ R (.returned (.int .i64 (-1))) w18) ∨ (∃ i19 r20, v17 = .tuple #[.bool true, .int .i64 i19, .int .i32 r20] ∧ PIf ((r20 : Int) == 65533) (R (.returned (.int .i64 i19)) w18) ((∃ m14, m14 < m13 ∧
      I12 m14  w18)))) (fun pv w => R (.panicked [{ v := pv, recovered := false }]) w))) (fun pv w => R (.panicked [{ v := pv, recovered := false }]) w)) (PC Try.prog 93 #[.int .i32 r2] w6 (fun v21 w22 =>
      ∃ (t23 : Bool), v21 = .bool t23 ∧ PIf (!t23) (R (.returned (.int .i64 (-1))) w22) (PRun Try.prog (convert 21 9 (.int .i32 r2)) w22 (fun v24 w25 => ∃ (t26 : ByteArray), v24 = .string t26 ∧
      (∃ I27 : Nat → Int → World → Prop, (∃ m28, I27 m28 (IntKind.wrap .i64 (((ByteArray.size t26 : Nat) : Int) - 1)) w25) ∧ ∀ (m28 : Nat) (i30 : Int) (B31 : Nat → Value) (w32 : World), I27 m28 i30 w32 → PIf (decide ((i30 : Int) < ((ByteArray.size s1 : Nat) : Int))) ((∃ J33 : Int → World → Prop, (((0 : Int) ≤ i30 ∧
      ∃ c35, s1[Int.toNat i30]? = some c35 ∧ ((0 : Int) ≤ (IntKind.wrap .i64 (((ByteArray.size t26 : Nat) : Int) - 1)) ∧ ∃ c36, t26[Int.toNat (IntKind.wrap .i64 (((ByteArray.size t26 : Nat) : Int) - 1))]? = some c36 ∧
      (∀ w34, Drew w32 w34 → PIf ((((c35.toNat : Nat) : Int) : Int) != ((c36.toNat : Nat) : Int)) ((∀ w38, Drew w34 w38 → ((0 : Int) ≤ (IntKind.wrap .i64 (i30 + 1)) ∧
      (IntKind.wrap .i64 (i30 + 1)) ≤ ((ByteArray.size s1 : Nat) : Int) ∧ ((0 : Int) ≤ (IntKind.wrap .i64 (((ByteArray.size t26 : Nat) : Int) - 1)) ∧ ∃ c39, t26[Int.toNat (IntKind.wrap .i64 (((ByteArray.size t26 : Nat) : Int) - 1))]? = some c39 ∧
      PC Try.prog 92 #[.string (ByteArray.extract s1 (Int.toNat (IntKind.wrap .i64 (i30 + 1))) (ByteArray.size s1)), .int .u8 ((c39.toNat : Nat) : Int)] w38 (fun v40 w41 =>
      ∃ (t42 : Int), v40 = .int .i64 t42 ∧ PIf (decide ((t42 : Int) < 0)) (R (.returned (.int .i64 (-1))) w41) (J33 (IntKind.wrap .i64 (i30 + (IntKind.wrap .i64 (t42 + 1)))) w41)) (fun ch w =>
      False))))) (J33 i30 w34))))) ∧ ∀ (i43 : Int) (B44 : Nat → Value) (w45 : World), J33 i43 w45 → (∃ I46 : Nat → Int → World → Prop, (∃ m47, I46 m47 1 w45) ∧
      ∀ (m47 : Nat) (j49 : Int) (B50 : Nat → Value) (w51 : World), I46 m47 j49 w51 → PIf (decide ((j49 : Int) < ((ByteArray.size t26 : Nat) : Int))) (((0 : Int) ≤ (IntKind.wrap .i64 (i43 - j49)) ∧
      ∃ c53, s1[Int.toNat (IntKind.wrap .i64 (i43 - j49))]? = some c53 ∧ ((0 : Int) ≤ (IntKind.wrap .i64 ((IntKind.wrap .i64 (((ByteArray.size t26 : Nat) : Int) - 1)) - j49)) ∧
      ∃ c54, t26[Int.toNat (IntKind.wrap .i64 ((IntKind.wrap .i64 (((ByteArray.size t26 : Nat) : Int) - 1)) - j49))]? = some c54 ∧ (∀ w52, Drew w51 w52 → PIf ((((c53.toNat : Nat) : Int) : Int) != ((c54.toNat : Nat) : Int)) (False) ((∃ m48, m48 < m47 ∧
      I46 m48 (IntKind.wrap .i64 (j49 + 1)) w52)))))) (R (.returned (.int .i64 (IntKind.wrap .i64 (i43 - (IntKind.wrap .i64 (((ByteArray.size t26 : Nat) : Int) - 1)))))) w51)))) (R (.returned (.int .i64 (-1))) w32))) (fun pv w =>
      R (.panicked [{ v := pv, recovered := false }]) w))) (fun ch w => R (.panicked ch) w))))) :
    Calls Try.prog 79 #[.string s1, .int .i32 r2] w R :=
  D_calls A_strings_IndexRune mixed Try.func79 rfl (Nat.le_of_ble_eq_true (by kernel_rfl)) (by kernel_rfl) (Eq.mp (by kernel_rfl) h)
/-- strings.IndexFunc -/
abbrev F_strings_IndexFunc : Nat := 80
def A_strings_IndexFunc : Ann := ⟨[], [], [], []⟩
theorem L_strings_IndexFunc {s1 : ByteArray} {f2g : FuncId} {f2i : Array Value} {f2c : Array Value} {w : World} {R : Ending → World → Prop}
    (h : PC Try.prog 96 #[.string s1, .func (.func f2g) f2i f2c, .bool true] w (fun v3 w4 => ∃ (t5 : Int), v3 = .int .i64 t5 ∧ R (.returned (.int .i64 t5)) w4) (fun ch w =>
      R (.panicked ch) w)) :
    Calls Try.prog 80 #[.string s1, .func (.func f2g) f2i f2c] w R :=
  D_calls A_strings_IndexFunc mixed Try.func80 rfl (Nat.le_of_ble_eq_true (by kernel_rfl)) (by kernel_rfl) (Eq.mp (by kernel_rfl) h)
/-- strings.IndexByte -/
abbrev F_strings_IndexByte : Nat := 92
def A_strings_IndexByte : Ann := ⟨[], [], [], []⟩
theorem L_strings_IndexByte {s1 : ByteArray} {c2 : Int} {w : World} {R : Ending → World → Prop}
    (h : PC Try.prog 103 #[.string s1, .int .u8 c2] w (fun v3 w4 => ∃ (t5 : Int), v3 = .int .i64 t5 ∧ R (.returned (.int .i64 t5)) w4) (fun ch w => R (.panicked ch) w)) :
    Calls Try.prog 92 #[.string s1, .int .u8 c2] w R :=
  D_calls A_strings_IndexByte mixed Try.func92 rfl (Nat.le_of_ble_eq_true (by kernel_rfl)) (by kernel_rfl) (Eq.mp (by kernel_rfl) h)
/-- unicode/utf8.ValidRune -/
abbrev F_unicode_utf8_ValidRune : Nat := 93
def A_unicode_utf8_ValidRune : Ann := ⟨[], [], [], []⟩
theorem L_unicode_utf8_ValidRune {r1 : Int} {w : World} {R : Ending → World → Prop}
    (h : PIf (decide ((0 : Int) ≤ r1)) (PIf (decide ((r1 : Int) < 55296)) (R (.returned (.bool true)) w) (PIf (decide ((57343 : Int) < r1)) (PIf (decide ((r1 : Int) ≤ 1114111)) (R (.returned (.bool true)) w) (R (.returned (.bool false)) w)) (R (.returned (.bool false)) w))) (PIf (decide ((57343 : Int) < r1)) (PIf (decide ((r1 : Int) ≤ 1114111)) (R (.returned (.bool true)) w) (R (.returned (.bool false)) w)) (R (.returned (.bool false)) w))) :
    Calls Try.prog 93 #[.int .i32 r1] w R :=
  D_calls A_unicode_utf8_ValidRune mixed Try.func93 rfl (Nat.le_of_ble_eq_true (by kernel_rfl)) (by kernel_rfl) (Eq.mp (by kernel_rfl) h)
/-- internal/bytealg.Cutover -/
abbrev F_internal_bytealg_Cutover : Nat := 94
def A_internal_bytealg_Cutover : Ann := ⟨[], [], [], []⟩
theorem L_internal_bytealg_Cutover {n1 : Int} {w : World} {R : Ending → World → Prop}
    (h : R (.returned (.int .i64 (IntKind.wrap .i64 (Int.tdiv (IntKind.wrap .i64 (n1 + 16)) 8)))) w) :
    Calls Try.prog 94 #[.int .i64 n1] w R :=
  D_calls A_internal_bytealg_Cutover mixed Try.func94 rfl (Nat.le_of_ble_eq_true (by kernel_rfl)) (by kernel_rfl) (Eq.mp (by kernel_rfl) h)
/-- strings.indexFunc -/
abbrev F_strings_indexFunc : Nat := 96
def A_strings_indexFunc : Ann := ⟨[(2, [])], [], [], []⟩
theorem L_strings_indexFunc {s1 : ByteArray} {f2g : FuncId} {f2i : Array Value} {f2c : Array Value} {truth3 : Bool} {w : World} {R : Ending → World → Prop}
    (h : PRun Try.prog (Instr.range 9 (.string s1)) w (fun v4 w5 => (∃ I6 : Nat → World → Prop, (∃ m7, I6 m7  w5) ∧ ∀ (m7 : Nat)  (B9 : Nat → Value) (w10 : World), I6 m7  w10 → PRun Try.prog (Instr.next v4 true 0) w10 (fun v11 w12 =>
      (v11 = .tuple #[.bool false] ∧ R (.returned (.int .i64 (-1))) w12) ∨ (∃ i13 r14, v11 = .tuple #[.bool true, .int .i64 i13, .int .i32 r14] ∧ (∃ g17 fi18 ca19, (.func (.func f2g) f2i f2c : Value) = .func (.func g17) fi18 ca19 ∧
      enters Try.prog g17 = true ∧ PC Try.prog g17 (fi18 ++ #[.int .i32 r14] ++ ca19) w12 (fun v15 w16 => ∃ (t20 : Bool), v15 = .bool t20 ∧ PIf (t20 == truth3) (R (.returned (.int .i64 i13)) w16) ((∃ m8, m8 < m7 ∧
      I6 m8  w16))) (fun ch w => R (.panicked ch) w)))) (fun pv w => R (.panicked [{ v := pv, recovered := false }]) w))) (fun pv w => R (.panicked [{ v := pv, recovered := false }]) w)) :
    Calls Try.prog 96 #[.string s1, .func (.func f2g) f2i f2c, .bool truth3] w R :=
  D_calls A_strings_indexFunc mixed Try.func96 rfl (Nat.le_of_ble_eq_true (by kernel_rfl)) (by kernel_rfl) (Eq.mp (by kernel_rfl) h)
end Go.Proofs.Yticehdfebghloaa
