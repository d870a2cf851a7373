import Derived.Test.YtnfcddhabhbicaaLift
import Derived.Test.YtnfcddhabhbicaaRows
import Derived.KernelRfl
namespace Go.Proofs.Ytnfcddhabhbicaa
open Go.Lift
set_option maxRecDepth 100000
set_option linter.unusedVariables false
theorem mixed : Try.prog.follows .mixedOrders = true := by kernel_rfl
/-- quayside/quaysidelaw26.SessionEnds -/
abbrev F_law26_SessionEnds : Nat := 3
def A_law26_SessionEnds : Ann := ⟨[(10, [(10, .slice none 0 0), (11, .bool false), (12, .int .i64 0)])], [(17, [(14, .bool false)]), (19, []), (20, [(11, .bool false)])], []⟩
theorem L_law26_SessionEnds {peer1 : Int} {retry2 : Int} {heard3a : Option Addr} {heard3n : Nat} {heard3c : Nat} {want4a : Option Addr} {want4n : Nat} {want4c : Nat} {w : World} {R : Ending → World → Prop}
    (h : PIf (decide ((((heard3n : Nat) : Int) : Int) > 100)) (PC Try.prog 9 #[] w (fun v5 w6 => ∃ (t7 : Bool), v5 = .bool t7 ∧ R (.returned (.bool t7)) w6) (fun ch w =>
      R (.panicked ch) w)) (PIf (decide ((((want4n : Nat) : Int) : Int) > 100)) (PC Try.prog 9 #[] w (fun v8 w9 => ∃ (t10 : Bool), v8 = .bool t10 ∧ R (.returned (.bool t10)) w9) (fun ch w =>
      R (.panicked ch) w)) (PC Try.prog 10 #[.int .i64 retry2] w (fun v11 w12 => ∃ (t13 : Option Addr), v11 = .pointer t13 ∧ PRun Try.prog (do eqGuard .eql 25 (.tmp 26) (.const (.pointer none)) (.pointer t13) (.pointer none); binOp .eql 25 (.pointer t13) (.pointer none)) w12 (fun v14 w15 =>
      ∃ (t16 : Bool), v14 = .bool t16 ∧ PIf t16 (R (.returned (.bool false)) w15) (PC Try.prog 11 #[.pointer t13, .int .i64 peer1, .int .i64 0] w15 (fun v17 w18 =>
      v17 = .tuple #[] ∧ (∃ I19 : Nat → Option Addr → Nat → Nat → Bool → Int → World → Prop, (∃ m20, I19 m20 none 0 0 true 0 w18) ∧ ∀ (m20 : Nat) (all22a : Option Addr) (all22n : Nat) (all22c : Nat) (open23 : Bool) (i24 : Int) (B25 : Nat → Value) (w26 : World), I19 m20 all22a all22n all22c open23 i24 w26 → PIf (decide ((i24 : Int) < ((heard3n : Nat) : Int))) ((∃ b27 o28, heard3a = some ⟨b27, o28, none⟩ ∧
      (0 : Int) ≤ i24 ∧ i24 < ((heard3n : Nat) : Int) ∧ (∃ (t29a : Option Addr) (t29n : Nat) (t29c : Nat), w26.cell? ⟨b27, o28 + Int.toNat i24, none⟩ = some (.slice t29a t29n t29c) ∧
      PIf (decide ((((t29n : Nat) : Int) : Int) > 100)) (PC Try.prog 9 #[] w26 (fun v30 w31 => ∃ (t32 : Bool), v30 = .bool t32 ∧ R (.returned (.bool t32)) w31) (fun ch w =>
      R (.panicked ch) w)) ((∃ b33 o34, heard3a = some ⟨b33, o34, none⟩ ∧ (0 : Int) ≤ i24 ∧ i24 < ((heard3n : Nat) : Int) ∧ (∃ (t35a : Option Addr) (t35n : Nat) (t35c : Nat), w26.cell? ⟨b33, o34 + Int.toNat i24, none⟩ = some (.slice t35a t35n t35c) ∧
      PC Try.prog 12 #[.slice all22a all22n all22c, .slice t35a t35n t35c] w26 (fun v36 w37 => ∃ (t38a : Option Addr) (t38n : Nat) (t38c : Nat), v36 = .slice t38a t38n t38c ∧
      PC Try.prog 13 #[.slice t38a t38n t38c, .slice want4a want4n want4c] w37 (fun v39 w40 => ∃ (t41 : Int), v39 = .int .i64 t41 ∧ (∃ J42 : Bool → World → Prop, (PIf ((t41 : Int) == 0) (J42 true w40) (J42 ((t41 : Int) == 2) w40)) ∧
      ∀ (covers43 : Bool) (B44 : Nat → Value) (w45 : World), J42 covers43 w45 → (∃ J46 : World → Prop, ((∃ b47 o48, heard3a = some ⟨b47, o48, none⟩ ∧ (0 : Int) ≤ i24 ∧
      i24 < ((heard3n : Nat) : Int) ∧ (∃ (t49a : Option Addr) (t49n : Nat) (t49c : Nat), w45.cell? ⟨b47, o48 + Int.toNat i24, none⟩ = some (.slice t49a t49n t49c) ∧
      PC Try.prog 14 #[.pointer t13, .int .i64 peer1, .slice t49a t49n t49c, .slice want4a want4n want4c] w45 (fun v50 w51 => ∃ (t52 : Bool), v50 = .bool t52 ∧
      PIf open23 (PIf (!(t52 == covers43)) (R (.returned (.bool false)) w51) (PC Try.prog 15 #[.pointer t13, .int .i64 peer1] w51 (fun v53 w54 => ∃ (t55a : Option Addr) (t55n : Nat) (t55c : Nat), v53 = .slice t55a t55n t55c ∧
      PC Try.prog 13 #[.slice t55a t55n t55c, .slice t38a t38n t38c] w54 (fun v56 w57 => ∃ (t58 : Int), v56 = .int .i64 t58 ∧ PIf ((t58 : Int) != 0) (R (.returned (.bool false)) w57) (J46  w57)) (fun ch w =>
      R (.panicked ch) w)) (fun ch w => R (.panicked ch) w))) (PIf (!(t52 == false)) (R (.returned (.bool false)) w51) (PC Try.prog 15 #[.pointer t13, .int .i64 peer1] w51 (fun v59 w60 =>
      ∃ (t61a : Option Addr) (t61n : Nat) (t61c : Nat), v59 = .slice t61a t61n t61c ∧ PC Try.prog 13 #[.slice t61a t61n t61c, .slice t38a t38n t38c] w60 (fun v62 w63 =>
      ∃ (t64 : Int), v62 = .int .i64 t64 ∧ PIf ((t64 : Int) != 0) (R (.returned (.bool false)) w63) (J46  w63)) (fun ch w => R (.panicked ch) w)) (fun ch w =>
      R (.panicked ch) w)))) (fun ch w => R (.panicked ch) w)))) ∧ ∀  (B65 : Nat → Value) (w66 : World), J46  w66 → (∃ J67 : Bool → World → Prop, (PIf open23 (J67 (!covers43) w66) (J67 false w66)) ∧
      ∀ (open68 : Bool) (B69 : Nat → Value) (w70 : World), J67 open68 w70 → PC Try.prog 16 #[.pointer t13] w70 (fun v71 w72 => ∃ (t73a : Option Addr) (t73n : Nat) (t73c : Nat), v71 = .slice t73a t73n t73c ∧
      PIf (!(((((t73n : Nat) : Int) : Int) == 1) == open68)) (R (.returned (.bool false)) w72) (PIf (!open68) (PC Try.prog 17 #[.pointer t13, .int .i64 2305843009213693952] w72 (fun v74 w75 =>
      ∃ (t76a : Option Addr) (t76n : Nat) (t76c : Nat), v74 = .slice t76a t76n t76c ∧ PIf ((((t76n : Nat) : Int) : Int) != 0) (R (.returned (.bool false)) w75) ((∃ m21, m21 < m20 ∧
      I19 m21 t38a t38n t38c open68 (IntKind.wrap .i64 (i24 + 1)) w75))) (fun ch w => R (.panicked ch) w)) ((∃ m21, m21 < m20 ∧ I19 m21 t38a t38n t38c open68 (IntKind.wrap .i64 (i24 + 1)) w72)))) (fun ch w =>
      R (.panicked ch) w))))) (fun ch w => R (.panicked ch) w)) (fun ch w => R (.panicked ch) w))))))) (PC Try.prog 11 #[.pointer t13, .int .i64 peer1, .int .i64 2305843009213693952] w26 (fun v77 w78 =>
      v77 = .tuple #[] ∧ PC Try.prog 16 #[.pointer t13] w78 (fun v79 w80 => ∃ (t81a : Option Addr) (t81n : Nat) (t81c : Nat), v79 = .slice t81a t81n t81c ∧ PA w80 (.cells #[.int .i64 peer1] 3) fun w82 =>
      PC Try.prog 18 #[.slice t81a t81n t81c, .slice (some ⟨w80.heap.size, 0, none⟩) 1 1] w82 (fun v83 w84 => ∃ (t85 : Bool), v83 = .bool t85 ∧ PIf t85 (PC Try.prog 17 #[.pointer t13, .int .i64 4611686018427387904] w84 (fun v86 w87 =>
      ∃ (t88a : Option Addr) (t88n : Nat) (t88c : Nat), v86 = .slice t88a t88n t88c ∧ PA w87 (.cells #[.int .i64 peer1] 3) fun w89 => PC Try.prog 18 #[.slice t88a t88n t88c, .slice (some ⟨w87.heap.size, 0, none⟩) 1 1] w89 (fun v90 w91 =>
      ∃ (t92 : Bool), v90 = .bool t92 ∧ PIf (t92 == (decide ((2305843009213693952 : Int) ≥ retry2))) (PC Try.prog 9 #[] w91 (fun v93 w94 => ∃ (t95 : Bool), v93 = .bool t95 ∧
      R (.returned (.bool t95)) w94) (fun ch w => R (.panicked ch) w)) (R (.returned (.bool false)) w91)) (fun ch w => R (.panicked ch) w)) (fun ch w => R (.panicked ch) w)) (R (.returned (.bool false)) w84)) (fun ch w =>
      R (.panicked ch) w)) (fun ch w => R (.panicked ch) w)) (fun ch w => R (.panicked ch) w)))) (fun ch w => R (.panicked ch) w))) (fun pv w => R (.panicked [{ v := pv, recovered := false }]) w)) (fun ch w =>
      R (.panicked ch) w)))) :
    Calls Try.prog 3 #[.int .i64 peer1, .int .i64 retry2, .slice heard3a heard3n heard3c, .slice want4a want4n want4c] w R :=
  D_calls A_law26_SessionEnds mixed Try.func3 rfl (Nat.le_of_ble_eq_true (by kernel_rfl)) (by kernel_rfl) (Eq.mp (by kernel_rfl) h)
/-- quayside/quaysidelaw26.SessionDue -/
abbrev F_law26_SessionDue : Nat := 4
def A_law26_SessionDue : Ann := ⟨[(8, [(8, .int .i64 0)]), (11, [(9, .int .i64 0)]), (17, [(10, .slice none 0 0), (11, .int .i64 0)])], [], []⟩
theorem L_law26_SessionDue {retry1 : Int} {starts2a : Option Addr} {starts2n : Nat} {starts2c : Nat} {ticks3 : Int} {w : World} {R : Ending → World → Prop}
    (h : PIf (decide ((retry1 : Int) < 1)) (PC Try.prog 9 #[] w (fun v4 w5 => ∃ (t6 : Bool), v4 = .bool t6 ∧ R (.returned (.bool t6)) w5) (fun ch w => R (.panicked ch) w)) (PIf (decide ((retry1 : Int) > 50)) (PC Try.prog 9 #[] w (fun v7 w8 =>
      ∃ (t9 : Bool), v7 = .bool t9 ∧ R (.returned (.bool t9)) w8) (fun ch w => R (.panicked ch) w)) (PIf (decide ((((starts2n : Nat) : Int) : Int) > 20)) (PC Try.prog 9 #[] w (fun v10 w11 =>
      ∃ (t12 : Bool), v10 = .bool t12 ∧ R (.returned (.bool t12)) w11) (fun ch w => R (.panicked ch) w)) (PC Try.prog 19 #[.int .i64 ticks3, .int .i64 201] w (fun v13 w14 =>
      ∃ (t15 : Int), v13 = .int .i64 t15 ∧ PC Try.prog 10 #[.int .i64 retry1] w14 (fun v16 w17 => ∃ (t18 : Option Addr), v16 = .pointer t18 ∧ PRun Try.prog (do eqGuard .eql 25 (.tmp 29) (.const (.pointer none)) (.pointer t18) (.pointer none); binOp .eql 25 (.pointer t18) (.pointer none)) w17 (fun v19 w20 =>
      ∃ (t21 : Bool), v19 = .bool t21 ∧ PIf t21 (R (.returned (.bool false)) w20) ((∃ I22 : Nat → Int → World → Prop, (∃ m23, I22 m23 0 w20) ∧ ∀ (m23 : Nat) (now25 : Int) (B26 : Nat → Value) (w27 : World), I22 m23 now25 w27 → PIf (decide ((now25 : Int) < t15)) ((∃ I28 : Nat → Int → World → Prop, (∃ m29, I28 m29 0 w27) ∧
      ∀ (m29 : Nat) (p31 : Int) (B32 : Nat → Value) (w33 : World), I28 m29 p31 w33 → PIf (decide ((p31 : Int) < ((starts2n : Nat) : Int))) ((∃ b34 o35, starts2a = some ⟨b34, o35, none⟩ ∧
      (0 : Int) ≤ p31 ∧ p31 < ((starts2n : Nat) : Int) ∧ (∃ (t36 : Int), w33.cell? ⟨b34, o35 + Int.toNat p31, none⟩ = some (.int .i64 t36) ∧ PC Try.prog 19 #[.int .i64 t36, .int .i64 100] w33 (fun v37 w38 =>
      ∃ (t39 : Int), v37 = .int .i64 t39 ∧ PIf ((t39 : Int) == now25) (PC Try.prog 11 #[.pointer t18, .int .i64 p31, .int .i64 now25] w38 (fun v40 w41 => v40 = .tuple #[] ∧
      (∃ m30, m30 < m29 ∧ I28 m30 (IntKind.wrap .i64 (p31 + 1)) w41)) (fun ch w => R (.panicked ch) w)) ((∃ m30, m30 < m29 ∧ I28 m30 (IntKind.wrap .i64 (p31 + 1)) w38))) (fun ch w =>
      R (.panicked ch) w)))) ((∃ I42 : Nat → Option Addr → Nat → Nat → Int → World → Prop, (∃ m43, I42 m43 none 0 0 0 w33) ∧ ∀ (m43 : Nat) (want45a : Option Addr) (want45n : Nat) (want45c : Nat) (p46 : Int) (B47 : Nat → Value) (w48 : World), I42 m43 want45a want45n want45c p46 w48 → PIf (decide ((p46 : Int) < ((starts2n : Nat) : Int))) ((∃ b49 o50, starts2a = some ⟨b49, o50, none⟩ ∧
      (0 : Int) ≤ p46 ∧ p46 < ((starts2n : Nat) : Int) ∧ (∃ (t51 : Int), w48.cell? ⟨b49, o50 + Int.toNat p46, none⟩ = some (.int .i64 t51) ∧ PC Try.prog 19 #[.int .i64 t51, .int .i64 100] w48 (fun v52 w53 =>
      ∃ (t54 : Int), v52 = .int .i64 t54 ∧ PIf (decide (((IntKind.wrap .i64 (now25 - t54)) : Int) > 0)) (PRun Try.prog (do eqGuard .rem 3 (.tmp 69) (.tmp 70) (.int .i64 (IntKind.wrap .i64 (now25 - t54))) (.int .i64 retry1); binOp .rem 3 (.int .i64 (IntKind.wrap .i64 (now25 - t54))) (.int .i64 retry1)) w53 (fun v55 w56 =>
      ∃ (t57 : Int), v55 = .int .i64 t57 ∧ PIf ((t57 : Int) == 0) (PA w56 (.cells #[.int .i64 p46] 3) fun w58 => PRun Try.prog (Builtin.append_ #[23, 23] 23 #[.slice want45a want45n want45c, .slice (some ⟨w56.heap.size, 0, none⟩) 1 1]) w58 (fun v59 w60 =>
      ∃ (t61a : Option Addr) (t61n : Nat) (t61c : Nat), v59 = .slice t61a t61n t61c ∧ (∃ m44, m44 < m43 ∧ I42 m44 t61a t61n t61c (IntKind.wrap .i64 (p46 + 1)) w60)) (fun pv w =>
      R (.panicked [{ v := pv, recovered := false }]) w)) ((∃ m44, m44 < m43 ∧ I42 m44 want45a want45n want45c (IntKind.wrap .i64 (p46 + 1)) w56))) (fun pv w =>
      R (.panicked [{ v := pv, recovered := false }]) w)) ((∃ m44, m44 < m43 ∧ I42 m44 want45a want45n want45c (IntKind.wrap .i64 (p46 + 1)) w53))) (fun ch w =>
      R (.panicked ch) w)))) (PC Try.prog 17 #[.pointer t18, .int .i64 now25] w48 (fun v62 w63 => ∃ (t64a : Option Addr) (t64n : Nat) (t64c : Nat), v62 = .slice t64a t64n t64c ∧
      PC Try.prog 18 #[.slice t64a t64n t64c, .slice want45a want45n want45c] w63 (fun v65 w66 => ∃ (t67 : Bool), v65 = .bool t67 ∧ PIf (!t67) (R (.returned (.bool false)) w66) ((∃ m24, m24 < m23 ∧
      I22 m24 (IntKind.wrap .i64 (now25 + 1)) w66))) (fun ch w => R (.panicked ch) w)) (fun ch w => R (.panicked ch) w)))))) (PC Try.prog 9 #[] w27 (fun v68 w69 =>
      ∃ (t70 : Bool), v68 = .bool t70 ∧ R (.returned (.bool t70)) w69) (fun ch w => R (.panicked ch) w))))) (fun pv w => R (.panicked [{ v := pv, recovered := false }]) w)) (fun ch w =>
      R (.panicked ch) w)) (fun ch w => R (.panicked ch) w))))) :
    Calls Try.prog 4 #[.int .i64 retry1, .slice starts2a starts2n starts2c, .int .i64 ticks3] w R :=
  D_calls A_law26_SessionDue mixed Try.func4 rfl (Nat.le_of_ble_eq_true (by kernel_rfl)) (by kernel_rfl) (Eq.mp (by kernel_rfl) h)
/-- quayside/quaysidelaw26.SessionAnew -/
abbrev F_law26_SessionAnew : Nat := 5
def A_law26_SessionAnew : Ann := ⟨[(8, [(11, .int .i64 0)])], [(22, [(12, .bool false)]), (23, [(13, .bool false)])], []⟩
theorem L_law26_SessionAnew {retry1 : Int} {peer2 : Int} {now3 : Int} {l4a : Option Addr} {l4n : Nat} {l4c : Nat} {w : World} {R : Ending → World → Prop}
    (h : PC Try.prog 20 #[.slice l4a l4n l4c] w (fun v5 w6 => ∃ (t7 : Bool), v5 = .bool t7 ∧ PIf t7 (PC Try.prog 9 #[] w6 (fun v8 w9 => ∃ (t10 : Bool), v8 = .bool t10 ∧
      R (.returned (.bool t10)) w9) (fun ch w => R (.panicked ch) w)) (PIf (decide ((retry1 : Int) < 1)) (PC Try.prog 9 #[] w6 (fun v11 w12 => ∃ (t13 : Bool), v11 = .bool t13 ∧
      R (.returned (.bool t13)) w12) (fun ch w => R (.panicked ch) w)) (PIf (decide ((retry1 : Int) > 1000)) (PC Try.prog 9 #[] w6 (fun v14 w15 => ∃ (t16 : Bool), v14 = .bool t16 ∧
      R (.returned (.bool t16)) w15) (fun ch w => R (.panicked ch) w)) (PC Try.prog 10 #[.int .i64 retry1] w6 (fun v17 w18 => ∃ (t19 : Option Addr), v17 = .pointer t19 ∧
      PC Try.prog 10 #[.int .i64 retry1] w18 (fun v20 w21 => ∃ (t22 : Option Addr), v20 = .pointer t22 ∧ PRun Try.prog (do eqGuard .eql 25 (.tmp 31) (.const (.pointer none)) (.pointer t19) (.pointer none); binOp .eql 25 (.pointer t19) (.pointer none)) w21 (fun v23 w24 =>
      ∃ (t25 : Bool), v23 = .bool t25 ∧ PIf t25 (R (.returned (.bool false)) w24) (PRun Try.prog (do eqGuard .eql 25 (.tmp 34) (.const (.pointer none)) (.pointer t22) (.pointer none); binOp .eql 25 (.pointer t22) (.pointer none)) w24 (fun v26 w27 =>
      ∃ (t28 : Bool), v26 = .bool t28 ∧ PIf t28 (R (.returned (.bool false)) w27) ((∃ I29 : Nat → Int → World → Prop, (∃ m30, I29 m30 0 w27) ∧ ∀ (m30 : Nat) (i32 : Int) (B33 : Nat → Value) (w34 : World), I29 m30 i32 w34 → PIf (decide ((i32 : Int) < ((l4n : Nat) : Int))) ((∃ b35 o36, l4a = some ⟨b35, o36, none⟩ ∧
      (0 : Int) ≤ i32 ∧ i32 < ((l4n : Nat) : Int) ∧ (∃ (t37 : Int), w34.cell? ⟨b35, o36 + Int.toNat i32 * 5, none⟩ = some (.int .i64 t37) ∧ PIf ((t37 : Int) == 0) ((∃ b38 o39, l4a = some ⟨b38, o39, none⟩ ∧
      (0 : Int) ≤ i32 ∧ i32 < ((l4n : Nat) : Int) ∧ (∃ (t40 : Int), w34.cell? ⟨b38, o39 + Int.toNat i32 * 5 + 2, none⟩ = some (.int .i64 t40) ∧ PC Try.prog 21 #[.int .i64 t40] w34 (fun v41 w42 =>
      ∃ (t43 : Int), v41 = .int .i64 t43 ∧ PC Try.prog 11 #[.pointer t19, .int .i64 peer2, .int .i64 t43] w42 (fun v44 w45 => v44 = .tuple #[] ∧ (∃ m31, m31 < m30 ∧
      I29 m31 (IntKind.wrap .i64 (i32 + 1)) w45)) (fun ch w => R (.panicked ch) w)) (fun ch w => R (.panicked ch) w)))) (PIf ((t37 : Int) == 1) ((∀ w47, Drew w34 w47 → (∃ b48 o49, l4a = some ⟨b48, o49, none⟩ ∧
      (0 : Int) ≤ i32 ∧ i32 < ((l4n : Nat) : Int) ∧ (∃ (t50a : Option Addr) (t50n : Nat) (t50c : Nat), w47.cell? ⟨b48, o49 + Int.toNat i32 * 5 + 3, none⟩ = some (.slice t50a t50n t50c) ∧
      (∃ b51 o52, l4a = some ⟨b51, o52, none⟩ ∧ (0 : Int) ≤ i32 ∧ i32 < ((l4n : Nat) : Int) ∧ (∃ (t53a : Option Addr) (t53n : Nat) (t53c : Nat), w47.cell? ⟨b51, o52 + Int.toNat i32 * 5 + 4, none⟩ = some (.slice t53a t53n t53c) ∧
      PC Try.prog 14 #[.pointer t19, .int .i64 peer2, .slice t50a t50n t50c, .slice t53a t53n t53c] w47 (fun v54 w55 => ∃ (t56 : Bool), v54 = .bool t56 ∧ (∃ m31, m31 < m30 ∧
      I29 m31 (IntKind.wrap .i64 (i32 + 1)) w55)) (fun ch w => False))))))) (PIf ((t37 : Int) == 2) ((∃ b57 o58, l4a = some ⟨b57, o58, none⟩ ∧ (0 : Int) ≤ i32 ∧
      i32 < ((l4n : Nat) : Int) ∧ (∃ (t59 : Int), w34.cell? ⟨b57, o58 + Int.toNat i32 * 5 + 2, none⟩ = some (.int .i64 t59) ∧ PC Try.prog 21 #[.int .i64 t59] w34 (fun v60 w61 =>
      ∃ (t62 : Int), v60 = .int .i64 t62 ∧ PC Try.prog 17 #[.pointer t19, .int .i64 t62] w61 (fun v63 w64 => ∃ (t65a : Option Addr) (t65n : Nat) (t65c : Nat), v63 = .slice t65a t65n t65c ∧
      (∃ m31, m31 < m30 ∧ I29 m31 (IntKind.wrap .i64 (i32 + 1)) w64)) (fun ch w => R (.panicked ch) w)) (fun ch w => R (.panicked ch) w)))) ((∃ m31, m31 < m30 ∧
      I29 m31 (IntKind.wrap .i64 (i32 + 1)) w34))))))) (PC Try.prog 15 #[.pointer t19, .int .i64 peer2] w34 (fun v66 w67 => ∃ (t68a : Option Addr) (t68n : Nat) (t68c : Nat), v66 = .slice t68a t68n t68c ∧
      PA w67 (.cells #[.int .i64 1] 3) fun w69 => PC Try.prog 14 #[.pointer t22, .int .i64 peer2, .slice t68a t68n t68c, .slice (some ⟨w67.heap.size, 0, none⟩) 1 1] w69 (fun v70 w71 =>
      ∃ (t72 : Bool), v70 = .bool t72 ∧ PC Try.prog 21 #[.int .i64 now3] w71 (fun v73 w74 => ∃ (t75 : Int), v73 = .int .i64 t75 ∧ PC Try.prog 11 #[.pointer t19, .int .i64 peer2, .int .i64 (IntKind.wrap .i64 (Int.tdiv t75 4))] w74 (fun v76 w77 =>
      v76 = .tuple #[] ∧ PC Try.prog 11 #[.pointer t22, .int .i64 peer2, .int .i64 (IntKind.wrap .i64 (Int.tdiv t75 4))] w77 (fun v78 w79 => v78 = .tuple #[] ∧
      (∃ J80 : Bool → World → Prop, (PC Try.prog 17 #[.pointer t19, .int .i64 (IntKind.wrap .i64 ((IntKind.wrap .i64 ((IntKind.wrap .i64 (Int.tdiv t75 4)) + retry1)) - 1))] w79 (fun v81 w82 =>
      ∃ (t83a : Option Addr) (t83n : Nat) (t83c : Nat), v81 = .slice t83a t83n t83c ∧ PIf ((((t83n : Nat) : Int) : Int) == 0) (PC Try.prog 17 #[.pointer t22, .int .i64 (IntKind.wrap .i64 ((IntKind.wrap .i64 ((IntKind.wrap .i64 (Int.tdiv t75 4)) + retry1)) - 1))] w82 (fun v84 w85 =>
      ∃ (t86a : Option Addr) (t86n : Nat) (t86c : Nat), v84 = .slice t86a t86n t86c ∧ J80 ((((t86n : Nat) : Int) : Int) == 0) w85) (fun ch w => R (.panicked ch) w)) (J80 false w82)) (fun ch w =>
      R (.panicked ch) w)) ∧ ∀ (early87 : Bool) (B88 : Nat → Value) (w89 : World), J80 early87 w89 → (∃ J90 : Bool → World → Prop, (PC Try.prog 17 #[.pointer t19, .int .i64 (IntKind.wrap .i64 ((IntKind.wrap .i64 (Int.tdiv t75 4)) + retry1))] w89 (fun v91 w92 =>
      ∃ (t93a : Option Addr) (t93n : Nat) (t93c : Nat), v91 = .slice t93a t93n t93c ∧ PA w92 (.cells #[.int .i64 peer2] 3) fun w94 => PC Try.prog 18 #[.slice t93a t93n t93c, .slice (some ⟨w92.heap.size, 0, none⟩) 1 1] w94 (fun v95 w96 =>
      ∃ (t97 : Bool), v95 = .bool t97 ∧ PIf t97 (PC Try.prog 17 #[.pointer t22, .int .i64 (IntKind.wrap .i64 ((IntKind.wrap .i64 (Int.tdiv t75 4)) + retry1))] w96 (fun v98 w99 =>
      ∃ (t100a : Option Addr) (t100n : Nat) (t100c : Nat), v98 = .slice t100a t100n t100c ∧ PA w99 (.cells #[.int .i64 peer2] 3) fun w101 => PC Try.prog 18 #[.slice t100a t100n t100c, .slice (some ⟨w99.heap.size, 0, none⟩) 1 1] w101 (fun v102 w103 =>
      ∃ (t104 : Bool), v102 = .bool t104 ∧ J90 t104 w103) (fun ch w => R (.panicked ch) w)) (fun ch w => R (.panicked ch) w)) (J90 false w96)) (fun ch w => R (.panicked ch) w)) (fun ch w =>
      R (.panicked ch) w)) ∧ ∀ (late105 : Bool) (B106 : Nat → Value) (w107 : World), J90 late105 w107 → PC Try.prog 15 #[.pointer t19, .int .i64 peer2] w107 (fun v108 w109 =>
      ∃ (t110a : Option Addr) (t110n : Nat) (t110c : Nat), v108 = .slice t110a t110n t110c ∧ PC Try.prog 14 #[.pointer t19, .int .i64 peer2, .slice none 0 0, .slice t110a t110n t110c] w109 (fun v111 w112 =>
      ∃ (t113 : Bool), v111 = .bool t113 ∧ PC Try.prog 15 #[.pointer t22, .int .i64 peer2] w112 (fun v114 w115 => ∃ (t116a : Option Addr) (t116n : Nat) (t116c : Nat), v114 = .slice t116a t116n t116c ∧
      PC Try.prog 14 #[.pointer t22, .int .i64 peer2, .slice none 0 0, .slice t116a t116n t116c] w115 (fun v117 w118 => ∃ (t119 : Bool), v117 = .bool t119 ∧
      PIf early87 (PIf late105 (PIf t113 (PIf t119 (PC Try.prog 16 #[.pointer t19] w118 (fun v120 w121 => ∃ (t122a : Option Addr) (t122n : Nat) (t122c : Nat), v120 = .slice t122a t122n t122c ∧
      PIf ((((t122n : Nat) : Int) : Int) == 0) (PC Try.prog 9 #[] w121 (fun v123 w124 => ∃ (t125 : Bool), v123 = .bool t125 ∧ R (.returned (.bool t125)) w124) (fun ch w =>
      R (.panicked ch) w)) (R (.returned (.bool false)) w121)) (fun ch w => R (.panicked ch) w)) (R (.returned (.bool false)) w118)) (R (.returned (.bool false)) w118)) (R (.returned (.bool false)) w118)) (R (.returned (.bool false)) w118)) (fun ch w =>
      R (.panicked ch) w)) (fun ch w => R (.panicked ch) w)) (fun ch w => R (.panicked ch) w)) (fun ch w => R (.panicked ch) w)))) (fun ch w => R (.panicked ch) w)) (fun ch w =>
      R (.panicked ch) w)) (fun ch w => R (.panicked ch) w)) (fun ch w => R (.panicked ch) w)) (fun ch w => R (.panicked ch) w))))) (fun pv w => R (.panicked [{ v := pv, recovered := false }]) w))) (fun pv w =>
      R (.panicked [{ v := pv, recovered := false }]) w)) (fun ch w => R (.panicked ch) w)) (fun ch w => R (.panicked ch) w))))) (fun ch w => R (.panicked ch) w)) :
    Calls Try.prog 5 #[.int .i64 retry1, .int .i64 peer2, .int .i64 now3, .slice l4a l4n l4c] w R :=
  D_calls A_law26_SessionAnew mixed Try.func5 rfl (Nat.le_of_ble_eq_true (by kernel_rfl)) (by kernel_rfl) (Eq.mp (by kernel_rfl) h)
/-- quayside/quaysidelaw26.SessionRuns -/
abbrev F_law26_SessionRuns : Nat := 6
def A_law26_SessionRuns : Ann := ⟨[(8, [(7, .int .i64 0)])], [(29, [(9, .bool false)])], [14, 15, 19]⟩
theorem L_law26_SessionRuns {retry1 : Int} {l2a : Option Addr} {l2n : Nat} {l2c : Nat} {w : World} {R : Ending → World → Prop}
    (h : PC Try.prog 20 #[.slice l2a l2n l2c] w (fun v3 w4 => ∃ (t5 : Bool), v3 = .bool t5 ∧ PIf t5 (PC Try.prog 9 #[] w4 (fun v6 w7 => ∃ (t8 : Bool), v6 = .bool t8 ∧
      R (.returned (.bool t8)) w7) (fun ch w => R (.panicked ch) w)) (PC Try.prog 10 #[.int .i64 retry1] w4 (fun v9 w10 => ∃ (t11 : Option Addr), v9 = .pointer t11 ∧
      PC Try.prog 22 #[.int .i64 retry1] w10 (fun v12 w13 => ∃ (t14 : Option Addr), v12 = .pointer t14 ∧ PRun Try.prog (do eqGuard .eql 25 (.tmp 22) (.const (.pointer none)) (.pointer t11) (.pointer none); binOp .eql 25 (.pointer t11) (.pointer none)) w13 (fun v15 w16 =>
      ∃ (t17 : Bool), v15 = .bool t17 ∧ PIf t17 (R (.returned (.bool false)) w16) ((∃ I18 : Nat → Int → World → Prop, (∃ m19, I18 m19 0 w16) ∧ ∀ (m19 : Nat) (i21 : Int) (B22 : Nat → Value) (w23 : World), I18 m19 i21 w23 → PIf (decide ((i21 : Int) < ((l2n : Nat) : Int))) ((∃ b24 o25, l2a = some ⟨b24, o25, none⟩ ∧
      (0 : Int) ≤ i21 ∧ i21 < ((l2n : Nat) : Int) ∧ (∃ (t26 : Int), ∃ (t27 : Int), ∃ (t28 : Int), ∃ (t29a : Option Addr) (t29n : Nat) (t29c : Nat), ∃ (t30a : Option Addr) (t30n : Nat) (t30c : Nat), w23.cell? ⟨b24, o25 + Int.toNat i21 * 5, none⟩ = some (.int .i64 t26) ∧
      w23.cell? ⟨b24, o25 + Int.toNat i21 * 5 + 1, none⟩ = some (.int .i64 t27) ∧ w23.cell? ⟨b24, o25 + Int.toNat i21 * 5 + 2, none⟩ = some (.int .i64 t28) ∧
      w23.cell? ⟨b24, o25 + Int.toNat i21 * 5 + 3, none⟩ = some (.slice t29a t29n t29c) ∧ w23.cell? ⟨b24, o25 + Int.toNat i21 * 5 + 4, none⟩ = some (.slice t30a t30n t30c) ∧
      PA w23 (.cells #[.int .i64 0, .int .i64 0, .int .i64 0, .slice none 0 0, .slice none 0 0] 40) fun w31 => PS w31 ⟨w23.heap.size, 0, none⟩ (.int .i64 t26) fun w32 =>
      PS w32 ⟨w23.heap.size, 0 + 1, none⟩ (.int .i64 t27) fun w33 => PS w33 ⟨w23.heap.size, 0 + 2, none⟩ (.int .i64 t28) fun w34 => PS w34 ⟨w23.heap.size, 0 + 3, none⟩ (.slice t29a t29n t29c) fun w35 =>
      PS w35 ⟨w23.heap.size, 0 + 4, none⟩ (.slice t30a t30n t30c) fun w36 => (∃ J37 : Bool → World → Prop, ((∃ (t38 : Int), w36.cell? ⟨w23.heap.size, 0, none⟩ = some (.int .i64 t38) ∧
      PIf ((t38 : Int) == 0) ((∀ w40, Drew w36 w40 → ∃ S41 : Nat → Prop, (¬ S41 w23.heap.size ∧ (∃ (t42 : Int), w40.cell? ⟨w23.heap.size, 0 + 1, none⟩ = some (.int .i64 t42) ∧
      (∃ (t43 : Int), w40.cell? ⟨w23.heap.size, 0 + 2, none⟩ = some (.int .i64 t43) ∧ PC Try.prog 21 #[.int .i64 t43] w40 (fun v44 w45 => ∃ (t46 : Int), v44 = .int .i64 t46 ∧
      (Keep S41 w40 w45 ∧ PC Try.prog 11 #[.pointer t11, .int .i64 t42, .int .i64 t46] w45 (fun v47 w48 => v47 = .tuple #[] ∧ (Keep S41 w45 w48 ∧ (∀ w50, Drew w48 w50 → ∃ S51 : Nat → Prop, (¬ S51 w23.heap.size ∧
      (∃ (t52 : Int), w50.cell? ⟨w23.heap.size, 0 + 1, none⟩ = some (.int .i64 t52) ∧ (∃ (t53 : Int), w50.cell? ⟨w23.heap.size, 0 + 2, none⟩ = some (.int .i64 t53) ∧
      PC Try.prog 21 #[.int .i64 t53] w50 (fun v54 w55 => ∃ (t56 : Int), v54 = .int .i64 t56 ∧ (Keep S51 w50 w55 ∧ PC Try.prog 23 #[.pointer t14, .int .i64 t52, .int .i64 t56] w55 (fun v57 w58 =>
      v57 = .tuple #[] ∧ (Keep S51 w55 w58 ∧ J37 true w58)) (fun ch w => False))) (fun ch w => False))))))) (fun ch w => False))) (fun ch w => False)))))) (PIf ((t38 : Int) == 1) ((∃ (t59a : Option Addr) (t59n : Nat) (t59c : Nat), w36.cell? ⟨w23.heap.size, 0 + 3, none⟩ = some (.slice t59a t59n t59c) ∧
      PC Try.prog 24 #[.slice t59a t59n t59c] w36 (fun v60 w61 => ∃ (t62a : Option Addr) (t62n : Nat) (t62c : Nat), v60 = .slice t62a t62n t62c ∧ (∃ (t63a : Option Addr) (t63n : Nat) (t63c : Nat), w61.cell? ⟨w23.heap.size, 0 + 4, none⟩ = some (.slice t63a t63n t63c) ∧
      PC Try.prog 24 #[.slice t63a t63n t63c] w61 (fun v64 w65 => ∃ (t66a : Option Addr) (t66n : Nat) (t66c : Nat), v64 = .slice t66a t66n t66c ∧ (∀ w68, Drew w65 w68 → ∃ S69 : Nat → Prop, (∃ (t70 : Int), w68.cell? ⟨w23.heap.size, 0 + 1, none⟩ = some (.int .i64 t70) ∧
      (∃ (t71a : Option Addr) (t71n : Nat) (t71c : Nat), w68.cell? ⟨w23.heap.size, 0 + 3, none⟩ = some (.slice t71a t71n t71c) ∧ ((0 : Int) ≤ ((t71n : Nat) : Int) ∧
      ((t71n : Nat) : Int) ≤ ((t62c : Nat) : Int) ∧ (∃ (t72a : Option Addr) (t72n : Nat) (t72c : Nat), w68.cell? ⟨w23.heap.size, 0 + 4, none⟩ = some (.slice t72a t72n t72c) ∧
      ((0 : Int) ≤ ((t72n : Nat) : Int) ∧ ((t72n : Nat) : Int) ≤ ((t66c : Nat) : Int) ∧ (¬ S69 w23.heap.size ∧ (∃ (t73 : Int), w68.cell? ⟨w23.heap.size, 0 + 1, none⟩ = some (.int .i64 t73) ∧
      (¬ S69 w23.heap.size ∧ (∃ (t74a : Option Addr) (t74n : Nat) (t74c : Nat), w68.cell? ⟨w23.heap.size, 0 + 3, none⟩ = some (.slice t74a t74n t74c) ∧ (¬ S69 w23.heap.size ∧
      (∃ (t75a : Option Addr) (t75n : Nat) (t75c : Nat), w68.cell? ⟨w23.heap.size, 0 + 4, none⟩ = some (.slice t75a t75n t75c) ∧ PC Try.prog 14 #[.pointer t11, .int .i64 t70, .slice t62a (Int.toNat ((t71n : Nat) : Int)) t62c, .slice t66a (Int.toNat ((t72n : Nat) : Int)) t66c] w68 (fun v76 w77 =>
      ∃ (t78 : Bool), v76 = .bool t78 ∧ (Keep S69 w68 w77 ∧ PC Try.prog 25 #[.pointer t14, .int .i64 t73, .slice t74a t74n t74c, .slice t75a t75n t75c] w77 (fun v79 w80 =>
      ∃ (t81 : Bool), v79 = .bool t81 ∧ (Keep S69 w77 w80 ∧ PIf (t78 == t81) ((∃ (t82a : Option Addr) (t82n : Nat) (t82c : Nat), w80.cell? ⟨w23.heap.size, 0 + 3, none⟩ = some (.slice t82a t82n t82c) ∧
      PC Try.prog 26 #[.slice t62a t62n t62c, .slice t82a t82n t82c] w80 (fun v83 w84 => ∃ (t85 : Bool), v83 = .bool t85 ∧ (Keep S69 w80 w84 ∧ PIf t85 ((∃ (t86a : Option Addr) (t86n : Nat) (t86c : Nat), w84.cell? ⟨w23.heap.size, 0 + 4, none⟩ = some (.slice t86a t86n t86c) ∧
      PC Try.prog 26 #[.slice t66a t66n t66c, .slice t86a t86n t86c] w84 (fun v87 w88 => ∃ (t89 : Bool), v87 = .bool t89 ∧ (Keep S69 w84 w88 ∧ PC Try.prog 27 #[.slice t62a t62n t62c] w88 (fun v90 w91 =>
      v90 = .tuple #[] ∧ PC Try.prog 27 #[.slice t66a t66n t66c] w91 (fun v92 w93 => v92 = .tuple #[] ∧ J37 t89 w93) (fun ch w => R (.panicked ch) w)) (fun ch w =>
      R (.panicked ch) w))) (fun ch w => False))) (PC Try.prog 27 #[.slice t62a t62n t62c] w84 (fun v94 w95 => v94 = .tuple #[] ∧ PC Try.prog 27 #[.slice t66a t66n t66c] w95 (fun v96 w97 =>
      v96 = .tuple #[] ∧ J37 false w97) (fun ch w => R (.panicked ch) w)) (fun ch w => R (.panicked ch) w)))) (fun ch w => False))) (PC Try.prog 27 #[.slice t62a t62n t62c] w80 (fun v98 w99 =>
      v98 = .tuple #[] ∧ PC Try.prog 27 #[.slice t66a t66n t66c] w99 (fun v100 w101 => v100 = .tuple #[] ∧ J37 false w101) (fun ch w => R (.panicked ch) w)) (fun ch w =>
      R (.panicked ch) w)))) (fun ch w => False))) (fun ch w => False)))))))))))))) (fun ch w => R (.panicked ch) w))) (fun ch w => R (.panicked ch) w))) (PIf ((t38 : Int) == 2) ((∃ (t102 : Int), w36.cell? ⟨w23.heap.size, 0 + 2, none⟩ = some (.int .i64 t102) ∧
      PC Try.prog 21 #[.int .i64 t102] w36 (fun v103 w104 => ∃ (t105 : Int), v103 = .int .i64 t105 ∧ PC Try.prog 17 #[.pointer t11, .int .i64 t105] w104 (fun v106 w107 =>
      ∃ (t108a : Option Addr) (t108n : Nat) (t108c : Nat), v106 = .slice t108a t108n t108c ∧ (∃ (t109 : Int), w107.cell? ⟨w23.heap.size, 0 + 2, none⟩ = some (.int .i64 t109) ∧
      PC Try.prog 21 #[.int .i64 t109] w107 (fun v110 w111 => ∃ (t112 : Int), v110 = .int .i64 t112 ∧ PC Try.prog 28 #[.pointer t14, .int .i64 t112] w111 (fun v113 w114 =>
      ∃ (t115a : Option Addr) (t115n : Nat) (t115c : Nat), v113 = .slice t115a t115n t115c ∧ PC Try.prog 18 #[.slice t108a t108n t108c, .slice t115a t115n t115c] w114 (fun v116 w117 =>
      ∃ (t118 : Bool), v116 = .bool t118 ∧ PC Try.prog 27 #[.slice t108a t108n t108c] w117 (fun v119 w120 => v119 = .tuple #[] ∧ J37 t118 w120) (fun ch w =>
      R (.panicked ch) w)) (fun ch w => R (.panicked ch) w)) (fun ch w => R (.panicked ch) w)) (fun ch w => R (.panicked ch) w))) (fun ch w => R (.panicked ch) w)) (fun ch w =>
      R (.panicked ch) w))) (PIf ((t38 : Int) == 3) (PC Try.prog 29 #[.pointer t11] w36 (fun v121 w122 => v121 = .tuple #[] ∧ PC Try.prog 30 #[.pointer t14] w122 (fun v123 w124 =>
      v123 = .tuple #[] ∧ J37 true w124) (fun ch w => R (.panicked ch) w)) (fun ch w => R (.panicked ch) w)) (J37 true w36)))))) ∧ ∀ (same125 : Bool) (B126 : Nat → Value) (w127 : World), J37 same125 w127 → PC Try.prog 16 #[.pointer t11] w127 (fun v128 w129 =>
      ∃ (t130a : Option Addr) (t130n : Nat) (t130c : Nat), v128 = .slice t130a t130n t130c ∧ (∃ (t131 : Int), w129.cell? ⟨w23.heap.size, 0 + 1, none⟩ = some (.int .i64 t131) ∧
      PC Try.prog 15 #[.pointer t11, .int .i64 t131] w129 (fun v132 w133 => ∃ (t134a : Option Addr) (t134n : Nat) (t134c : Nat), v132 = .slice t134a t134n t134c ∧
      PIf (!same125) (R (.returned (.bool false)) w133) (PC Try.prog 31 #[.pointer t14] w133 (fun v135 w136 => ∃ (t137a : Option Addr) (t137n : Nat) (t137c : Nat), v135 = .slice t137a t137n t137c ∧
      PC Try.prog 18 #[.slice t130a t130n t130c, .slice t137a t137n t137c] w136 (fun v138 w139 => ∃ (t140 : Bool), v138 = .bool t140 ∧ PIf (!t140) (R (.returned (.bool false)) w139) ((∃ (t141 : Int), w139.cell? ⟨w23.heap.size, 0 + 1, none⟩ = some (.int .i64 t141) ∧
      PC Try.prog 32 #[.pointer t14, .int .i64 t141] w139 (fun v142 w143 => ∃ (t144a : Option Addr) (t144n : Nat) (t144c : Nat), v142 = .slice t144a t144n t144c ∧
      PC Try.prog 18 #[.slice t134a t134n t134c, .slice t144a t144n t144c] w143 (fun v145 w146 => ∃ (t147 : Bool), v145 = .bool t147 ∧ PIf (!t147) (R (.returned (.bool false)) w146) (PC Try.prog 27 #[.slice t130a t130n t130c] w146 (fun v148 w149 =>
      v148 = .tuple #[] ∧ PC Try.prog 27 #[.slice t134a t134n t134c] w149 (fun v150 w151 => v150 = .tuple #[] ∧ (∃ m20, m20 < m19 ∧ I18 m20 (IntKind.wrap .i64 (i21 + 1)) w151)) (fun ch w =>
      R (.panicked ch) w)) (fun ch w => R (.panicked ch) w))) (fun ch w => R (.panicked ch) w)) (fun ch w => R (.panicked ch) w)))) (fun ch w => R (.panicked ch) w)) (fun ch w =>
      R (.panicked ch) w))) (fun ch w => R (.panicked ch) w))) (fun ch w => R (.panicked ch) w))))) (PC Try.prog 9 #[] w23 (fun v152 w153 => ∃ (t154 : Bool), v152 = .bool t154 ∧
      R (.returned (.bool t154)) w153) (fun ch w => R (.panicked ch) w))))) (fun pv w => R (.panicked [{ v := pv, recovered := false }]) w)) (fun ch w => R (.panicked ch) w)) (fun ch w =>
      R (.panicked ch) w))) (fun ch w => R (.panicked ch) w)) :
    Calls Try.prog 6 #[.int .i64 retry1, .slice l2a l2n l2c] w R :=
  D_calls A_law26_SessionRuns mixed Try.func6 rfl (Nat.le_of_ble_eq_true (by kernel_rfl)) (by kernel_rfl) (Eq.mp (by kernel_rfl) h)
/-- quayside/quaysidelaw26.SessionApart -/
abbrev F_law26_SessionApart : Nat := 7
def A_law26_SessionApart : Ann := ⟨[(8, [(9, .int .i64 0)]), (12, [(11, .int .i64 0)]), (26, [(15, .bool false), (16, .int .i64 0)])], [(18, [(12, .pointer none)]), (20, []), (29, [(15, .bool false)])], [19]⟩
theorem L_law26_SessionApart {retry1 : Int} {peer2 : Int} {l3a : Option Addr} {l3n : Nat} {l3c : Nat} {w : World} {R : Ending → World → Prop}
    (h : PC Try.prog 20 #[.slice l3a l3n l3c] w (fun v4 w5 => ∃ (t6 : Bool), v4 = .bool t6 ∧ PIf t6 (PC Try.prog 9 #[] w5 (fun v7 w8 => ∃ (t9 : Bool), v7 = .bool t9 ∧
      R (.returned (.bool t9)) w8) (fun ch w => R (.panicked ch) w)) (PC Try.prog 10 #[.int .i64 retry1] w5 (fun v10 w11 => ∃ (t12 : Option Addr), v10 = .pointer t12 ∧
      PC Try.prog 10 #[.int .i64 retry1] w11 (fun v13 w14 => ∃ (t15 : Option Addr), v13 = .pointer t15 ∧ PRun Try.prog (do eqGuard .eql 25 (.tmp 24) (.const (.pointer none)) (.pointer t12) (.pointer none); binOp .eql 25 (.pointer t12) (.pointer none)) w14 (fun v16 w17 =>
      ∃ (t18 : Bool), v16 = .bool t18 ∧ PIf t18 (R (.returned (.bool false)) w17) (PRun Try.prog (do eqGuard .eql 25 (.tmp 27) (.const (.pointer none)) (.pointer t15) (.pointer none); binOp .eql 25 (.pointer t15) (.pointer none)) w17 (fun v19 w20 =>
      ∃ (t21 : Bool), v19 = .bool t21 ∧ PIf t21 (R (.returned (.bool false)) w20) ((∃ I22 : Nat → Int → World → Prop, (∃ m23, I22 m23 0 w20) ∧ ∀ (m23 : Nat) (i25 : Int) (B26 : Nat → Value) (w27 : World), I22 m23 i25 w27 → PIf (decide ((i25 : Int) < ((l3n : Nat) : Int))) ((∃ b28 o29, l3a = some ⟨b28, o29, none⟩ ∧
      (0 : Int) ≤ i25 ∧ i25 < ((l3n : Nat) : Int) ∧ (∃ (t30 : Int), ∃ (t31 : Int), ∃ (t32 : Int), ∃ (t33a : Option Addr) (t33n : Nat) (t33c : Nat), ∃ (t34a : Option Addr) (t34n : Nat) (t34c : Nat), w27.cell? ⟨b28, o29 + Int.toNat i25 * 5, none⟩ = some (.int .i64 t30) ∧
      w27.cell? ⟨b28, o29 + Int.toNat i25 * 5 + 1, none⟩ = some (.int .i64 t31) ∧ w27.cell? ⟨b28, o29 + Int.toNat i25 * 5 + 2, none⟩ = some (.int .i64 t32) ∧
      w27.cell? ⟨b28, o29 + Int.toNat i25 * 5 + 3, none⟩ = some (.slice t33a t33n t33c) ∧ w27.cell? ⟨b28, o29 + Int.toNat i25 * 5 + 4, none⟩ = some (.slice t34a t34n t34c) ∧
      PA w27 (.cells #[.int .i64 0, .int .i64 0, .int .i64 0, .slice none 0 0, .slice none 0 0] 40) fun w35 => PS w35 ⟨w27.heap.size, 0, none⟩ (.int .i64 t30) fun w36 =>
      PS w36 ⟨w27.heap.size, 0 + 1, none⟩ (.int .i64 t31) fun w37 => PS w37 ⟨w27.heap.size, 0 + 2, none⟩ (.int .i64 t32) fun w38 => PS w38 ⟨w27.heap.size, 0 + 3, none⟩ (.slice t33a t33n t33c) fun w39 =>
      PS w39 ⟨w27.heap.size, 0 + 4, none⟩ (.slice t34a t34n t34c) fun w40 => (∃ I41 : Nat → Int → World → Prop, (∃ m42, I41 m42 0 w40) ∧ ∀ (m42 : Nat) (k44 : Int) (B45 : Nat → Value) (w46 : World), I41 m42 k44 w46 → PIf (decide ((k44 : Int) < 2)) ((∃ J47 : Option Addr → World → Prop, (PIf ((k44 : Int) == 1) ((∃ (t48 : Int), w46.cell? ⟨w27.heap.size, 0 + 1, none⟩ = some (.int .i64 t48) ∧
      PIf ((t48 : Int) != peer2) ((∃ m43, m43 < m42 ∧ I41 m43 (IntKind.wrap .i64 (k44 + 1)) w46)) (J47 t15 w46))) (J47 t12 w46)) ∧ ∀ (t49 : Option Addr) (B50 : Nat → Value) (w51 : World), J47 t49 w51 → (∃ J52 : World → Prop, ((∃ (t53 : Int), w51.cell? ⟨w27.heap.size, 0, none⟩ = some (.int .i64 t53) ∧
      PIf ((t53 : Int) == 0) ((∀ w55, Drew w51 w55 → ∃ S56 : Nat → Prop, (¬ S56 w27.heap.size ∧ (∃ (t57 : Int), w55.cell? ⟨w27.heap.size, 0 + 1, none⟩ = some (.int .i64 t57) ∧
      (∃ (t58 : Int), w55.cell? ⟨w27.heap.size, 0 + 2, none⟩ = some (.int .i64 t58) ∧ PC Try.prog 21 #[.int .i64 t58] w55 (fun v59 w60 => ∃ (t61 : Int), v59 = .int .i64 t61 ∧
      (Keep S56 w55 w60 ∧ PC Try.prog 11 #[.pointer t49, .int .i64 t57, .int .i64 t61] w60 (fun v62 w63 => v62 = .tuple #[] ∧ (Keep S56 w60 w63 ∧ J52  w63)) (fun ch w =>
      False))) (fun ch w => False)))))) (J52  w51))) ∧ ∀  (B64 : Nat → Value) (w65 : World), J52  w65 → (∃ (t66 : Int), w65.cell? ⟨w27.heap.size, 0, none⟩ = some (.int .i64 t66) ∧
      PIf ((t66 : Int) == 1) ((∃ (t67 : Int), w65.cell? ⟨w27.heap.size, 0 + 1, none⟩ = some (.int .i64 t67) ∧ (∃ (t68a : Option Addr) (t68n : Nat) (t68c : Nat), w65.cell? ⟨w27.heap.size, 0 + 3, none⟩ = some (.slice t68a t68n t68c) ∧
      (∃ (t69a : Option Addr) (t69n : Nat) (t69c : Nat), w65.cell? ⟨w27.heap.size, 0 + 4, none⟩ = some (.slice t69a t69n t69c) ∧ PC Try.prog 14 #[.pointer t49, .int .i64 t67, .slice t68a t68n t68c, .slice t69a t69n t69c] w65 (fun v70 w71 =>
      ∃ (t72 : Bool), v70 = .bool t72 ∧ (∃ m43, m43 < m42 ∧ I41 m43 (IntKind.wrap .i64 (k44 + 1)) w71)) (fun ch w => R (.panicked ch) w))))) ((∃ m43, m43 < m42 ∧
      I41 m43 (IntKind.wrap .i64 (k44 + 1)) w65)))))) ((∃ m24, m24 < m23 ∧ I22 m24 (IntKind.wrap .i64 (i25 + 1)) w46)))))) (PC Try.prog 16 #[.pointer t15] w27 (fun v73 w74 =>
      ∃ (t75a : Option Addr) (t75n : Nat) (t75c : Nat), v73 = .slice t75a t75n t75c ∧ PC Try.prog 16 #[.pointer t12] w74 (fun v76 w77 => ∃ (t78a : Option Addr) (t78n : Nat) (t78c : Nat), v76 = .slice t78a t78n t78c ∧
      (∃ I79 : Nat → Bool → Int → World → Prop, (∃ m80, I79 m80 false 0 w77) ∧ ∀ (m80 : Nat) (there82 : Bool) (i83 : Int) (B84 : Nat → Value) (w85 : World), I79 m80 there82 i83 w85 → PIf (decide ((i83 : Int) < ((t78n : Nat) : Int))) ((∃ J86 : Bool → World → Prop, (PIf there82 (J86 true w85) ((∃ b87 o88, t78a = some ⟨b87, o88, none⟩ ∧
      (0 : Int) ≤ i83 ∧ i83 < ((t78n : Nat) : Int) ∧ (∃ (t89 : Int), w85.cell? ⟨b87, o88 + Int.toNat i83, none⟩ = some (.int .i64 t89) ∧ J86 ((t89 : Int) == peer2) w85)))) ∧
      ∀ (there90 : Bool) (B91 : Nat → Value) (w92 : World), J86 there90 w92 → PIf (decide ((i83 : Int) > 0)) ((∃ b94 o95, t78a = some ⟨b94, o95, none⟩ ∧ (0 : Int) ≤ i83 ∧
      i83 < ((t78n : Nat) : Int) ∧ (∃ (t96 : Int), w92.cell? ⟨b94, o95 + Int.toNat i83, none⟩ = some (.int .i64 t96) ∧ (∃ b97 o98, t78a = some ⟨b97, o98, none⟩ ∧
      (0 : Int) ≤ (IntKind.wrap .i64 (i83 - 1)) ∧ (IntKind.wrap .i64 (i83 - 1)) < ((t78n : Nat) : Int) ∧ (∃ (t99 : Int), w92.cell? ⟨b97, o98 + Int.toNat (IntKind.wrap .i64 (i83 - 1)), none⟩ = some (.int .i64 t99) ∧
      (∀ w93, Drew w92 w93 → PIf (decide ((t96 : Int) ≤ t99)) (R (.returned (.bool false)) w93) ((∃ m81, m81 < m80 ∧ I79 m81 there90 (IntKind.wrap .i64 (i83 + 1)) w93)))))))) ((∀ w93, Drew w92 w93 → (∃ m81, m81 < m80 ∧
      I79 m81 there90 (IntKind.wrap .i64 (i83 + 1)) w93))))) (PIf (!((decide ((((t75n : Nat) : Int) : Int) > 0)) == there82)) (R (.returned (.bool false)) w85) (PC Try.prog 15 #[.pointer t12, .int .i64 peer2] w85 (fun v100 w101 =>
      ∃ (t102a : Option Addr) (t102n : Nat) (t102c : Nat), v100 = .slice t102a t102n t102c ∧ PC Try.prog 15 #[.pointer t15, .int .i64 peer2] w101 (fun v103 w104 =>
      ∃ (t105a : Option Addr) (t105n : Nat) (t105c : Nat), v103 = .slice t105a t105n t105c ∧ PC Try.prog 18 #[.slice t102a t102n t102c, .slice t105a t105n t105c] w104 (fun v106 w107 =>
      ∃ (t108 : Bool), v106 = .bool t108 ∧ PIf (!t108) (R (.returned (.bool false)) w107) (PC Try.prog 29 #[.pointer t12] w107 (fun v109 w110 => v109 = .tuple #[] ∧
      PC Try.prog 16 #[.pointer t12] w110 (fun v111 w112 => ∃ (t113a : Option Addr) (t113n : Nat) (t113c : Nat), v111 = .slice t113a t113n t113c ∧ PIf ((((t113n : Nat) : Int) : Int) == 0) (PC Try.prog 15 #[.pointer t12, .int .i64 peer2] w112 (fun v114 w115 =>
      ∃ (t116a : Option Addr) (t116n : Nat) (t116c : Nat), v114 = .slice t116a t116n t116c ∧ PIf ((((t116n : Nat) : Int) : Int) == 0) (PC Try.prog 17 #[.pointer t12, .int .i64 2305843009213693952] w115 (fun v117 w118 =>
      ∃ (t119a : Option Addr) (t119n : Nat) (t119c : Nat), v117 = .slice t119a t119n t119c ∧ PIf ((((t119n : Nat) : Int) : Int) == 0) (PC Try.prog 9 #[] w118 (fun v120 w121 =>
      ∃ (t122 : Bool), v120 = .bool t122 ∧ R (.returned (.bool t122)) w121) (fun ch w => R (.panicked ch) w)) (R (.returned (.bool false)) w118)) (fun ch w =>
      R (.panicked ch) w)) (R (.returned (.bool false)) w115)) (fun ch w => R (.panicked ch) w)) (R (.returned (.bool false)) w112)) (fun ch w => R (.panicked ch) w)) (fun ch w =>
      R (.panicked ch) w))) (fun ch w => R (.panicked ch) w)) (fun ch w => R (.panicked ch) w)) (fun ch w => R (.panicked ch) w))))) (fun ch w => R (.panicked ch) w)) (fun ch w =>
      R (.panicked ch) w))))) (fun pv w => R (.panicked [{ v := pv, recovered := false }]) w))) (fun pv w => R (.panicked [{ v := pv, recovered := false }]) w)) (fun ch w =>
      R (.panicked ch) w)) (fun ch w => R (.panicked ch) w))) (fun ch w => R (.panicked ch) w)) :
    Calls Try.prog 7 #[.int .i64 retry1, .int .i64 peer2, .slice l3a l3n l3c] w R :=
  D_calls A_law26_SessionApart mixed Try.func7 rfl (Nat.le_of_ble_eq_true (by kernel_rfl)) (by kernel_rfl) (Eq.mp (by kernel_rfl) h)
/-- quayside/quaysidelaw26.works -/
abbrev F_law26_works : Nat := 9
def A_law26_works : Ann := ⟨[], [], []⟩
theorem L_law26_works  {w : World} {R : Ending → World → Prop}
    (h : PC Try.prog 10 #[.int .i64 5] w (fun v1 w2 => ∃ (t3 : Option Addr), v1 = .pointer t3 ∧ PRun Try.prog (do eqGuard .eql 25 (.tmp 9) (.const (.pointer none)) (.pointer t3) (.pointer none); binOp .eql 25 (.pointer t3) (.pointer none)) w2 (fun v4 w5 =>
      ∃ (t6 : Bool), v4 = .bool t6 ∧ PIf t6 (R (.returned (.bool false)) w5) (PC Try.prog 11 #[.pointer t3, .int .i64 2, .int .i64 0] w5 (fun v7 w8 => v7 = .tuple #[] ∧
      PC Try.prog 11 #[.pointer t3, .int .i64 1, .int .i64 3] w8 (fun v9 w10 => v9 = .tuple #[] ∧ PC Try.prog 17 #[.pointer t3, .int .i64 4] w10 (fun v11 w12 =>
      ∃ (t13a : Option Addr) (t13n : Nat) (t13c : Nat), v11 = .slice t13a t13n t13c ∧ PC Try.prog 17 #[.pointer t3, .int .i64 5] w12 (fun v14 w15 => ∃ (t16a : Option Addr) (t16n : Nat) (t16c : Nat), v14 = .slice t16a t16n t16c ∧
      PC Try.prog 17 #[.pointer t3, .int .i64 6] w15 (fun v17 w18 => ∃ (t19a : Option Addr) (t19n : Nat) (t19c : Nat), v17 = .slice t19a t19n t19c ∧ PC Try.prog 17 #[.pointer t3, .int .i64 8] w18 (fun v20 w21 =>
      ∃ (t22a : Option Addr) (t22n : Nat) (t22c : Nat), v20 = .slice t22a t22n t22c ∧ PA w21 (.cells #[.int .i64 4, .int .i64 0] 3) fun w23 => PA w23 (.cells #[.int .i64 5, .int .i64 0] 3) fun w24 =>
      PC Try.prog 14 #[.pointer t3, .int .i64 2, .slice (some ⟨w21.heap.size, 0, none⟩) 2 2, .slice (some ⟨w23.heap.size, 0, none⟩) 2 2] w24 (fun v25 w26 =>
      ∃ (t27 : Bool), v25 = .bool t27 ∧ PA w26 (.cells #[.int .i64 5, .int .i64 1] 3) fun w28 => PA w28 (.cells #[.int .i64 5, .int .i64 0] 3) fun w29 => PC Try.prog 14 #[.pointer t3, .int .i64 2, .slice (some ⟨w26.heap.size, 0, none⟩) 2 2, .slice (some ⟨w28.heap.size, 0, none⟩) 2 2] w29 (fun v30 w31 =>
      ∃ (t32 : Bool), v30 = .bool t32 ∧ PIf ((((t13n : Nat) : Int) : Int) == 0) (PA w31 (.cells #[.int .i64 2] 3) fun w33 => PC Try.prog 18 #[.slice t16a t16n t16c, .slice (some ⟨w31.heap.size, 0, none⟩) 1 1] w33 (fun v34 w35 =>
      ∃ (t36 : Bool), v34 = .bool t36 ∧ PIf t36 (PIf ((((t19n : Nat) : Int) : Int) == 0) (PA w35 (.cells #[.int .i64 1] 3) fun w37 => PC Try.prog 18 #[.slice t22a t22n t22c, .slice (some ⟨w35.heap.size, 0, none⟩) 1 1] w37 (fun v38 w39 =>
      ∃ (t40 : Bool), v38 = .bool t40 ∧ PIf t40 (PIf (!t27) (PIf t32 (PC Try.prog 16 #[.pointer t3] w39 (fun v41 w42 => ∃ (t43a : Option Addr) (t43n : Nat) (t43c : Nat), v41 = .slice t43a t43n t43c ∧
      PA w42 (.cells #[.int .i64 1] 3) fun w44 => PC Try.prog 18 #[.slice t43a t43n t43c, .slice (some ⟨w42.heap.size, 0, none⟩) 1 1] w44 (fun v45 w46 => ∃ (t47 : Bool), v45 = .bool t47 ∧
      PIf t47 (PC Try.prog 15 #[.pointer t3, .int .i64 2] w46 (fun v48 w49 => ∃ (t50a : Option Addr) (t50n : Nat) (t50c : Nat), v48 = .slice t50a t50n t50c ∧
      PA w49 (.cells #[.int .i64 5, .int .i64 1] 3) fun w51 => PC Try.prog 18 #[.slice t50a t50n t50c, .slice (some ⟨w49.heap.size, 0, none⟩) 2 2] w51 (fun v52 w53 =>
      ∃ (t54 : Bool), v52 = .bool t54 ∧ R (.returned (.bool t54)) w53) (fun ch w => R (.panicked ch) w)) (fun ch w => R (.panicked ch) w)) (R (.returned (.bool false)) w46)) (fun ch w =>
      R (.panicked ch) w)) (fun ch w => R (.panicked ch) w)) (R (.returned (.bool false)) w39)) (R (.returned (.bool false)) w39)) (R (.returned (.bool false)) w39)) (fun ch w =>
      R (.panicked ch) w)) (R (.returned (.bool false)) w35)) (R (.returned (.bool false)) w35)) (fun ch w => R (.panicked ch) w)) (R (.returned (.bool false)) w31)) (fun ch w =>
      R (.panicked ch) w)) (fun ch w => R (.panicked ch) w)) (fun ch w => R (.panicked ch) w)) (fun ch w => R (.panicked ch) w)) (fun ch w => R (.panicked ch) w)) (fun ch w =>
      R (.panicked ch) w)) (fun ch w => R (.panicked ch) w)) (fun ch w => R (.panicked ch) w))) (fun pv w => R (.panicked [{ v := pv, recovered := false }]) w)) (fun ch w =>
      R (.panicked ch) w)) :
    Calls Try.prog 9 #[] w R :=
  D_calls A_law26_works mixed Try.func9 rfl (Nat.le_of_ble_eq_true (by kernel_rfl)) (by kernel_rfl) (Eq.mp (by kernel_rfl) h)
/-- quayside/session.New -/
abbrev F_session_New : Nat := 10
def A_session_New : Ann := ⟨[], [], []⟩
theorem L_session_New {retry1 : Int} {w : World} {R : Ending → World → Prop}
    (h : PA w (.map #[] 0) fun w2 => PA w2 (.map #[] 0) fun w3 => PA w3 (.cells #[.int .i64 retry1, .map (some w.heap.size), .map (some w2.heap.size)] 52) fun w4 =>
      R (.returned (.pointer (some ⟨w3.heap.size, 0, none⟩))) w4) :
    Calls Try.prog 10 #[.int .i64 retry1] w R :=
  D_calls A_session_New mixed Try.func10 rfl (Nat.le_of_ble_eq_true (by kernel_rfl)) (by kernel_rfl) (Eq.mp (by kernel_rfl) h)
/-- (*quayside/session.Table).Start -/
abbrev F_session_Table_Start : Nat := 11
def A_session_Table_Start : Ann := ⟨[], [], []⟩
theorem L_session_Table_Start {t1 : Option Addr} {peer2 : Int} {now3 : Int} {w : World} {R : Ending → World → Prop}
    (h : (∃ b4 o5, t1 = some ⟨b4, o5, none⟩ ∧ (∃ (t6 : Option Nat), w.cell? ⟨b4, o5 + 1, none⟩ = some (.map t6) ∧ PRunU Try.prog (Instr.mapUpdate 49 (.map t6) (.int .i64 peer2) (.int .i64 now3)) w (fun w7 =>
      R (.returned (.tuple #[])) w7) (fun pv w => R (.panicked [{ v := pv, recovered := false }]) w)))) :
    Calls Try.prog 11 #[.pointer t1, .int .i64 peer2, .int .i64 now3] w R :=
  D_calls A_session_Table_Start mixed Try.func11 rfl (Nat.le_of_ble_eq_true (by kernel_rfl)) (by kernel_rfl) (Eq.mp (by kernel_rfl) h)
/-- quayside/vec.Join -/
abbrev F_vec_Join : Nat := 12
def A_vec_Join : Ann := ⟨[(3, [(5, .slice none 0 0), (12, .int .i64 0)])], [], []⟩
theorem L_vec_Join {a1a : Option Addr} {a1n : Nat} {a1c : Nat} {b2a : Option Addr} {b2n : Nat} {b2c : Nat} {w : World} {R : Ending → World → Prop}
    (h : (∃ I3 : Nat → Option Addr → Nat → Nat → Int → World → Prop, (∃ m4, I3 m4 none 0 0 0 w) ∧ ∀ (m4 : Nat) (out6a : Option Addr) (out6n : Nat) (out6c : Nat) (t7 : Int) (B8 : Nat → Value) (w9 : World), I3 m4 out6a out6n out6c t7 w9 → PIf (decide ((t7 : Int) < (if ((b2n : Nat) : Int) > ((a1n : Nat) : Int) then ((b2n : Nat) : Int) else ((a1n : Nat) : Int)))) (PC Try.prog 33 #[.slice a1a a1n a1c, .int .i64 t7] w9 (fun v10 w11 =>
      ∃ (t12 : Int), v10 = .int .i64 t12 ∧ PC Try.prog 33 #[.slice b2a b2n b2c, .int .i64 t7] w11 (fun v13 w14 => ∃ (t15 : Int), v13 = .int .i64 t15 ∧ PA w14 (.cells #[.int .i64 (if t15 > t12 then t15 else t12)] 3) fun w16 =>
      PRun Try.prog (Builtin.append_ #[23, 23] 23 #[.slice out6a out6n out6c, .slice (some ⟨w14.heap.size, 0, none⟩) 1 1]) w16 (fun v17 w18 => ∃ (t19a : Option Addr) (t19n : Nat) (t19c : Nat), v17 = .slice t19a t19n t19c ∧
      (∃ m5, m5 < m4 ∧ I3 m5 t19a t19n t19c (IntKind.wrap .i64 (t7 + 1)) w18)) (fun pv w => R (.panicked [{ v := pv, recovered := false }]) w)) (fun ch w =>
      R (.panicked ch) w)) (fun ch w => R (.panicked ch) w)) (R (.returned (.slice out6a out6n out6c)) w9))) :
    Calls Try.prog 12 #[.slice a1a a1n a1c, .slice b2a b2n b2c] w R :=
  D_calls A_vec_Join mixed Try.func12 rfl (Nat.le_of_ble_eq_true (by kernel_rfl)) (by kernel_rfl) (Eq.mp (by kernel_rfl) h)
/-- quayside/vec.Cmp -/
abbrev F_vec_Cmp : Nat := 13
def A_vec_Cmp : Ann := ⟨[(3, [(5, .int .i64 0), (14, .int .i64 0)])], [], []⟩
theorem L_vec_Cmp {a1a : Option Addr} {a1n : Nat} {a1c : Nat} {b2a : Option Addr} {b2n : Nat} {b2c : Nat} {w : World} {R : Ending → World → Prop}
    (h : (∃ I3 : Nat → Int → Int → World → Prop, (∃ m4, I3 m4 0 0 w) ∧ ∀ (m4 : Nat) (how6 : Int) (t7 : Int) (B8 : Nat → Value) (w9 : World), I3 m4 how6 t7 w9 → PIf (decide ((t7 : Int) < (if ((b2n : Nat) : Int) > ((a1n : Nat) : Int) then ((b2n : Nat) : Int) else ((a1n : Nat) : Int)))) (PC Try.prog 33 #[.slice a1a a1n a1c, .int .i64 t7] w9 (fun v10 w11 =>
      ∃ (t12 : Int), v10 = .int .i64 t12 ∧ PC Try.prog 33 #[.slice b2a b2n b2c, .int .i64 t7] w11 (fun v13 w14 => ∃ (t15 : Int), v13 = .int .i64 t15 ∧ PIf (decide ((t12 : Int) < t15)) ((∃ m5, m5 < m4 ∧
      I3 m5 (iOr .i64 how6 1) (IntKind.wrap .i64 (t7 + 1)) w14)) (PIf (decide ((t12 : Int) > t15)) ((∃ m5, m5 < m4 ∧ I3 m5 (iOr .i64 how6 2) (IntKind.wrap .i64 (t7 + 1)) w14)) ((∃ m5, m5 < m4 ∧
      I3 m5 how6 (IntKind.wrap .i64 (t7 + 1)) w14)))) (fun ch w => R (.panicked ch) w)) (fun ch w => R (.panicked ch) w)) (R (.returned (.int .i64 how6)) w9))) :
    Calls Try.prog 13 #[.slice a1a a1n a1c, .slice b2a b2n b2c] w R :=
  D_calls A_vec_Cmp mixed Try.func13 rfl (Nat.le_of_ble_eq_true (by kernel_rfl)) (by kernel_rfl) (Eq.mp (by kernel_rfl) h)
/-- (*quayside/session.Table).Heard -/
abbrev F_session_Table_Heard : Nat := 14
def A_session_Table_Heard : Ann := ⟨[], [(7, [])], []⟩
theorem L_session_Table_Heard {t1 : Option Addr} {peer2 : Int} {v3a : Option Addr} {v3n : Nat} {v3c : Nat} {want4a : Option Addr} {want4n : Nat} {want4c : Nat} {w : World} {R : Ending → World → Prop}
    (h : (∃ b5 o6, t1 = some ⟨b5, o6, none⟩ ∧ (∃ (t7 : Option Nat), w.cell? ⟨b5, o6 + 2, none⟩ = some (.map t7) ∧ PRun Try.prog (Instr.lookup 50 (.map t7) (.int .i64 peer2) false) w (fun v8 w9 =>
      ∃ (t10a : Option Addr) (t10n : Nat) (t10c : Nat), v8 = .slice t10a t10n t10c ∧ PC Try.prog 12 #[.slice t10a t10n t10c, .slice v3a v3n v3c] w9 (fun v11 w12 =>
      ∃ (t13a : Option Addr) (t13n : Nat) (t13c : Nat), v11 = .slice t13a t13n t13c ∧ (∃ b14 o15, t1 = some ⟨b14, o15, none⟩ ∧ (∃ (t16 : Option Nat), w12.cell? ⟨b14, o15 + 2, none⟩ = some (.map t16) ∧
      PRunU Try.prog (Instr.mapUpdate 50 (.map t16) (.int .i64 peer2) (.slice t13a t13n t13c)) w12 (fun w17 => PC Try.prog 13 #[.slice t13a t13n t13c, .slice want4a want4n want4c] w17 (fun v18 w19 =>
      ∃ (t20 : Int), v18 = .int .i64 t20 ∧ (∃ J21 : World → Prop, ((∃ b22 o23, t1 = some ⟨b22, o23, none⟩ ∧ (∃ (t24 : Option Nat), w19.cell? ⟨b22, o23 + 1, none⟩ = some (.map t24) ∧
      PRun Try.prog (Instr.lookup 49 (.map t24) (.int .i64 peer2) true) w19 (fun v25 w26 => ∃ (t27 : Int), ∃ (t28 : Bool), v25 = .tuple #[.int .i64 t27, .bool t28] ∧
      PIf (!t28) (R (.returned (.bool false)) w26) (PIf ((t20 : Int) != 0) (PIf ((t20 : Int) != 2) (R (.returned (.bool false)) w26) (J21  w26)) (J21  w26))) (fun pv w =>
      R (.panicked [{ v := pv, recovered := false }]) w)))) ∧ ∀  (B29 : Nat → Value) (w30 : World), J21  w30 → (∃ b31 o32, t1 = some ⟨b31, o32, none⟩ ∧ (∃ (t33 : Option Nat), w30.cell? ⟨b31, o32 + 1, none⟩ = some (.map t33) ∧
      PRun Try.prog (Builtin.delete_ #[49, 3] 0 #[.map t33, .int .i64 peer2]) w30 (fun v34 w35 => R (.returned (.bool true)) w35) (fun pv w => R (.panicked [{ v := pv, recovered := false }]) w))))) (fun ch w =>
      R (.panicked ch) w)) (fun pv w => R (.panicked [{ v := pv, recovered := false }]) w)))) (fun ch w => R (.panicked ch) w)) (fun pv w => R (.panicked [{ v := pv, recovered := false }]) w)))) :
    Calls Try.prog 14 #[.pointer t1, .int .i64 peer2, .slice v3a v3n v3c, .slice want4a want4n want4c] w R :=
  D_calls A_session_Table_Heard mixed Try.func14 rfl (Nat.le_of_ble_eq_true (by kernel_rfl)) (by kernel_rfl) (Eq.mp (by kernel_rfl) h)
/-- (*quayside/session.Table).Vec -/
abbrev F_session_Table_Vec : Nat := 15
def A_session_Table_Vec : Ann := ⟨[], [], []⟩
theorem L_session_Table_Vec {t1 : Option Addr} {peer2 : Int} {w : World} {R : Ending → World → Prop}
    (h : (∃ b3 o4, t1 = some ⟨b3, o4, none⟩ ∧ (∃ (t5 : Option Nat), w.cell? ⟨b3, o4 + 2, none⟩ = some (.map t5) ∧ PRun Try.prog (Instr.lookup 50 (.map t5) (.int .i64 peer2) false) w (fun v6 w7 =>
      ∃ (t8a : Option Addr) (t8n : Nat) (t8c : Nat), v6 = .slice t8a t8n t8c ∧ PC Try.prog 34 #[.slice t8a t8n t8c] w7 (fun v9 w10 => ∃ (t11a : Option Addr) (t11n : Nat) (t11c : Nat), v9 = .slice t11a t11n t11c ∧
      R (.returned (.slice t11a t11n t11c)) w10) (fun ch w => R (.panicked ch) w)) (fun pv w => R (.panicked [{ v := pv, recovered := false }]) w)))) :
    Calls Try.prog 15 #[.pointer t1, .int .i64 peer2] w R :=
  D_calls A_session_Table_Vec mixed Try.func15 rfl (Nat.le_of_ble_eq_true (by kernel_rfl)) (by kernel_rfl) (Eq.mp (by kernel_rfl) h)
/-- (*quayside/session.Table).Open -/
abbrev F_session_Table_Open : Nat := 16
def A_session_Table_Open : Ann := ⟨[], [], []⟩
theorem L_session_Table_Open {t1 : Option Addr} {w : World} {R : Ending → World → Prop}
    (h : (∃ b2 o3, t1 = some ⟨b2, o3, none⟩ ∧ (∃ (t4 : Option Nat), w.cell? ⟨b2, o3 + 1, none⟩ = some (.map t4) ∧ PC Try.prog 36 #[.map t4] w (fun v5 w6 => ∃ (t7 : Value), v5 = t7 ∧
      PC Try.prog 35 #[t7] w6 (fun v8 w9 => ∃ (t10a : Option Addr) (t10n : Nat) (t10c : Nat), v8 = .slice t10a t10n t10c ∧ R (.returned (.slice t10a t10n t10c)) w9) (fun ch w =>
      R (.panicked ch) w)) (fun ch w => R (.panicked ch) w)))) :
    Calls Try.prog 16 #[.pointer t1] w R :=
  D_calls A_session_Table_Open mixed Try.func16 rfl (Nat.le_of_ble_eq_true (by kernel_rfl)) (by kernel_rfl) (Eq.mp (by kernel_rfl) h)
/-- (*quayside/session.Table).Due -/
abbrev F_session_Table_Due : Nat := 17
def A_session_Table_Due : Ann := ⟨[(3, [(5, .slice none 0 0), (11, .int .i64 0)])], [], []⟩
theorem L_session_Table_Due {t1 : Option Addr} {now2 : Int} {w : World} {R : Ending → World → Prop}
    (h : PC Try.prog 16 #[.pointer t1] w (fun v3 w4 => ∃ (t5a : Option Addr) (t5n : Nat) (t5c : Nat), v3 = .slice t5a t5n t5c ∧ (∃ I6 : Nat → Option Addr → Nat → Nat → Int → World → Prop, (∃ m7, I6 m7 none 0 0 0 w4) ∧
      ∀ (m7 : Nat) (out9a : Option Addr) (out9n : Nat) (out9c : Nat) (t10 : Int) (B11 : Nat → Value) (w12 : World), I6 m7 out9a out9n out9c t10 w12 → PIf (decide ((t10 : Int) < ((t5n : Nat) : Int))) ((∃ b13 o14, t5a = some ⟨b13, o14, none⟩ ∧
      (0 : Int) ≤ t10 ∧ t10 < ((t5n : Nat) : Int) ∧ (∃ (t15 : Int), w12.cell? ⟨b13, o14 + Int.toNat t10, none⟩ = some (.int .i64 t15) ∧ (∃ b17 o18, t1 = some ⟨b17, o18, none⟩ ∧
      (∃ (t19 : Option Nat), w12.cell? ⟨b17, o18 + 1, none⟩ = some (.map t19) ∧ (∃ (t20 : Int), (∀ m, (Instr.lookup 49 (.map t19) (.int .i64 t15) false).run Try.prog (w12.drewN m) = .ok (.int .i64 t20) (w12.drewN m)) ∧
      (∃ b21 o22, t1 = some ⟨b21, o22, none⟩ ∧ (∃ (t23 : Int), w12.cell? ⟨b21, o22, none⟩ = some (.int .i64 t23) ∧ (∀ w16, Drew w12 w16 → PIf (decide (((IntKind.wrap .i64 (now2 - t20)) : Int) ≥ t23)) (PA w16 (.cells #[.int .i64 t15] 3) fun w24 =>
      PRun Try.prog (Builtin.append_ #[23, 23] 23 #[.slice out9a out9n out9c, .slice (some ⟨w16.heap.size, 0, none⟩) 1 1]) w24 (fun v25 w26 => ∃ (t27a : Option Addr) (t27n : Nat) (t27c : Nat), v25 = .slice t27a t27n t27c ∧
      (∃ b28 o29, t1 = some ⟨b28, o29, none⟩ ∧ (∃ (t30 : Option Nat), w26.cell? ⟨b28, o29 + 1, none⟩ = some (.map t30) ∧ PRunU Try.prog (Instr.mapUpdate 49 (.map t30) (.int .i64 t15) (.int .i64 now2)) w26 (fun w31 =>
      (∃ m8, m8 < m7 ∧ I6 m8 t27a t27n t27c (IntKind.wrap .i64 (t10 + 1)) w31)) (fun pv w => R (.panicked [{ v := pv, recovered := false }]) w)))) (fun pv w =>
      R (.panicked [{ v := pv, recovered := false }]) w)) ((∃ m8, m8 < m7 ∧ I6 m8 out9a out9n out9c (IntKind.wrap .i64 (t10 + 1)) w16))))))))))) (R (.returned (.slice out9a out9n out9c)) w12))) (fun ch w =>
      R (.panicked ch) w)) :
    Calls Try.prog 17 #[.pointer t1, .int .i64 now2] w R :=
  D_calls A_session_Table_Due mixed Try.func17 rfl (Nat.le_of_ble_eq_true (by kernel_rfl)) (by kernel_rfl) (Eq.mp (by kernel_rfl) h)
/-- quayside/quaysidekit.SameInts -/
abbrev F_kit_SameInts : Nat := 18
def A_kit_SameInts : Ann := ⟨[(4, [(5, .int .i64 0)])], [], []⟩
theorem L_kit_SameInts {a1a : Option Addr} {a1n : Nat} {a1c : Nat} {b2a : Option Addr} {b2n : Nat} {b2c : Nat} {w : World} {R : Ending → World → Prop}
    (h : PIf ((((a1n : Nat) : Int) : Int) != ((b2n : Nat) : Int)) (R (.returned (.bool false)) w) ((∃ I3 : Nat → Int → World → Prop, (∃ m4, I3 m4 0 w) ∧ ∀ (m4 : Nat) (i6 : Int) (B7 : Nat → Value) (w8 : World), I3 m4 i6 w8 → PIf (decide ((i6 : Int) < ((a1n : Nat) : Int))) ((∃ b10 o11, a1a = some ⟨b10, o11, none⟩ ∧
      (0 : Int) ≤ i6 ∧ i6 < ((a1n : Nat) : Int) ∧ (∃ (t12 : Int), w8.cell? ⟨b10, o11 + Int.toNat i6, none⟩ = some (.int .i64 t12) ∧ (∃ b13 o14, b2a = some ⟨b13, o14, none⟩ ∧
      (0 : Int) ≤ i6 ∧ i6 < ((b2n : Nat) : Int) ∧ (∃ (t15 : Int), w8.cell? ⟨b13, o14 + Int.toNat i6, none⟩ = some (.int .i64 t15) ∧ (∀ w9, Drew w8 w9 → PIf ((t12 : Int) != t15) (R (.returned (.bool false)) w9) ((∃ m5, m5 < m4 ∧
      I3 m5 (IntKind.wrap .i64 (i6 + 1)) w9)))))))) (R (.returned (.bool true)) w8)))) :
    Calls Try.prog 18 #[.slice a1a a1n a1c, .slice b2a b2n b2c] w R :=
  D_calls A_kit_SameInts mixed Try.func18 rfl (Nat.le_of_ble_eq_true (by kernel_rfl)) (by kernel_rfl) (Eq.mp (by kernel_rfl) h)
/-- quayside/quaysidekit.Pick -/
abbrev F_kit_Pick : Nat := 19
def A_kit_Pick : Ann := ⟨[], [], []⟩
theorem L_kit_Pick {k1 : Int} {n2 : Int} {w : World} {R : Ending → World → Prop}
    (h : PIf (decide ((n2 : Int) < 1)) (R (.returned (.int .i64 0)) w) (PRun Try.prog (do eqGuard .rem 3 (.tmp 7) (.tmp 8) (.int .i64 k1) (.int .i64 n2); binOp .rem 3 (.int .i64 k1) (.int .i64 n2)) w (fun v3 w4 =>
      ∃ (t5 : Int), v3 = .int .i64 t5 ∧ PIf (decide ((t5 : Int) < 0)) (R (.returned (.int .i64 (IntKind.wrap .i64 (t5 + n2)))) w4) (R (.returned (.int .i64 t5)) w4)) (fun pv w =>
      R (.panicked [{ v := pv, recovered := false }]) w))) :
    Calls Try.prog 19 #[.int .i64 k1, .int .i64 n2] w R :=
  D_calls A_kit_Pick mixed Try.func19 rfl (Nat.le_of_ble_eq_true (by kernel_rfl)) (by kernel_rfl) (Eq.mp (by kernel_rfl) h)
/-- quayside/quaysidelaw26.Long -/
abbrev F_law26_Long : Nat := 20
def A_law26_Long : Ann := ⟨[(2, [(3, .int .i64 0)])], [], []⟩
theorem L_law26_Long {l1a : Option Addr} {l1n : Nat} {l1c : Nat} {w : World} {R : Ending → World → Prop}
    (h : (∃ I2 : Nat → Int → World → Prop, (∃ m3, I2 m3 0 w) ∧ ∀ (m3 : Nat) (i5 : Int) (B6 : Nat → Value) (w7 : World), I2 m3 i5 w7 → PIf (decide ((i5 : Int) < ((l1n : Nat) : Int))) ((∃ b8 o9, l1a = some ⟨b8, o9, none⟩ ∧
      (0 : Int) ≤ i5 ∧ i5 < ((l1n : Nat) : Int) ∧ (∃ (t10a : Option Addr) (t10n : Nat) (t10c : Nat), w7.cell? ⟨b8, o9 + Int.toNat i5 * 5 + 3, none⟩ = some (.slice t10a t10n t10c) ∧
      PIf (decide ((((t10n : Nat) : Int) : Int) > 100)) (R (.returned (.bool true)) w7) ((∃ b11 o12, l1a = some ⟨b11, o12, none⟩ ∧ (0 : Int) ≤ i5 ∧ i5 < ((l1n : Nat) : Int) ∧
      (∃ (t13a : Option Addr) (t13n : Nat) (t13c : Nat), w7.cell? ⟨b11, o12 + Int.toNat i5 * 5 + 4, none⟩ = some (.slice t13a t13n t13c) ∧ PIf (decide ((((t13n : Nat) : Int) : Int) > 100)) (R (.returned (.bool true)) w7) ((∃ m4, m4 < m3 ∧
      I2 m4 (IntKind.wrap .i64 (i5 + 1)) w7)))))))) (R (.returned (.bool (decide ((((l1n : Nat) : Int) : Int) > 200)))) w7))) :
    Calls Try.prog 20 #[.slice l1a l1n l1c] w R :=
  D_calls A_law26_Long mixed Try.func20 rfl (Nat.le_of_ble_eq_true (by kernel_rfl)) (by kernel_rfl) (Eq.mp (by kernel_rfl) h)
/-- quayside/quaysidelaw26.at -/
abbrev F_law26_at : Nat := 21
def A_law26_at : Ann := ⟨[], [], []⟩
theorem L_law26_at {now1 : Int} {w : World} {R : Ending → World → Prop}
    (h : PC Try.prog 19 #[.int .i64 now1, .int .i64 4611686018427387904] w (fun v2 w3 => ∃ (t4 : Int), v2 = .int .i64 t4 ∧ R (.returned (.int .i64 t4)) w3) (fun ch w =>
      R (.panicked ch) w)) :
    Calls Try.prog 21 #[.int .i64 now1] w R :=
  D_calls A_law26_at mixed Try.func21 rfl (Nat.le_of_ble_eq_true (by kernel_rfl)) (by kernel_rfl) (Eq.mp (by kernel_rfl) h)
/-- quayside/quaysideref26.New -/
abbrev F_ref26_New : Nat := 22
def A_ref26_New : Ann := ⟨[], [], []⟩
theorem L_ref26_New {retry1 : Int} {w : World} {R : Ending → World → Prop}
    (h : PA w (.cells #[.slice none 0 0, .int .i64 retry1] 61) fun w2 => R (.returned (.pointer (some ⟨w.heap.size, 0, none⟩))) w2) :
    Calls Try.prog 22 #[.int .i64 retry1] w R :=
  D_calls A_ref26_New mixed Try.func22 rfl (Nat.le_of_ble_eq_true (by kernel_rfl)) (by kernel_rfl) (Eq.mp (by kernel_rfl) h)
/-- (*quayside/quaysideref26.Table).Start -/
abbrev F_ref26_Table_Start : Nat := 23
def A_ref26_Table_Start : Ann := ⟨[], [], []⟩
theorem L_ref26_Table_Start {t1 : Option Addr} {peer2 : Int} {now3 : Int} {w : World} {R : Ending → World → Prop}
    (h : PC Try.prog 37 #[.pointer t1, .int .i64 peer2] w (fun v4 w5 => ∃ (t6 : Int), v4 = .int .i64 t6 ∧ (∃ b7 o8, t1 = some ⟨b7, o8, none⟩ ∧ (∃ (t9a : Option Addr) (t9n : Nat) (t9c : Nat), w5.cell? ⟨b7, o8, none⟩ = some (.slice t9a t9n t9c) ∧
      (∃ b10 o11, t9a = some ⟨b10, o11, none⟩ ∧ (0 : Int) ≤ t6 ∧ t6 < ((t9n : Nat) : Int) ∧ PS w5 ⟨b10, o11 + Int.toNat t6 * 4 + 2, none⟩ (.bool true) fun w12 =>
      (∃ b13 o14, t1 = some ⟨b13, o14, none⟩ ∧ (∃ (t15a : Option Addr) (t15n : Nat) (t15c : Nat), w12.cell? ⟨b13, o14, none⟩ = some (.slice t15a t15n t15c) ∧
      (∃ b16 o17, t15a = some ⟨b16, o17, none⟩ ∧ (0 : Int) ≤ t6 ∧ t6 < ((t15n : Nat) : Int) ∧ PS w12 ⟨b16, o17 + Int.toNat t6 * 4 + 1, none⟩ (.int .i64 now3) fun w18 =>
      R (.returned (.tuple #[])) w18))))))) (fun ch w => R (.panicked ch) w)) :
    Calls Try.prog 23 #[.pointer t1, .int .i64 peer2, .int .i64 now3] w R :=
  D_calls A_ref26_Table_Start mixed Try.func23 rfl (Nat.le_of_ble_eq_true (by kernel_rfl)) (by kernel_rfl) (Eq.mp (by kernel_rfl) h)
/-- quayside/quaysidekit.LentInts -/
abbrev F_kit_LentInts : Nat := 24
def A_kit_LentInts : Ann := ⟨[(3, [(3, .slice none 0 0), (4, .int .i64 0)])], [], []⟩
theorem L_kit_LentInts {l1a : Option Addr} {l1n : Nat} {l1c : Nat} {w : World} {R : Ending → World → Prop}
    (h : PC Try.prog 38 #[.slice l1a l1n l1c] w (fun v2 w3 => ∃ (t4a : Option Addr) (t4n : Nat) (t4c : Nat), v2 = .slice t4a t4n t4c ∧ (∃ I5 : Nat → Option Addr → Nat → Nat → Int → World → Prop, (∃ m6, I5 m6 t4a t4n t4c 0 w3) ∧
      ∀ (m6 : Nat) (all8a : Option Addr) (all8n : Nat) (all8c : Nat) (i9 : Int) (B10 : Nat → Value) (w11 : World), I5 m6 all8a all8n all8c i9 w11 → PIf (decide ((i9 : Int) < 5)) (PC Try.prog 39 #[.int .i64 i9] w11 (fun v12 w13 =>
      ∃ (t14 : Int), v12 = .int .i64 t14 ∧ PA w13 (.cells #[.int .i64 t14] 3) fun w15 => PRun Try.prog (Builtin.append_ #[23, 23] 23 #[.slice all8a all8n all8c, .slice (some ⟨w13.heap.size, 0, none⟩) 1 1]) w15 (fun v16 w17 =>
      ∃ (t18a : Option Addr) (t18n : Nat) (t18c : Nat), v16 = .slice t18a t18n t18c ∧ (∃ m7, m7 < m6 ∧ I5 m7 t18a t18n t18c (IntKind.wrap .i64 (i9 + 1)) w17)) (fun pv w =>
      R (.panicked [{ v := pv, recovered := false }]) w)) (fun ch w => R (.panicked ch) w)) (R (.returned (.slice all8a all8n all8c)) w11))) (fun ch w => R (.panicked ch) w)) :
    Calls Try.prog 24 #[.slice l1a l1n l1c] w R :=
  D_calls A_kit_LentInts mixed Try.func24 rfl (Nat.le_of_ble_eq_true (by kernel_rfl)) (by kernel_rfl) (Eq.mp (by kernel_rfl) h)
/-- (*quayside/quaysideref26.Table).Heard -/
abbrev F_ref26_Table_Heard : Nat := 25
def A_ref26_Table_Heard : Ann := ⟨[], [], [2]⟩
theorem L_ref26_Table_Heard {t1 : Option Addr} {peer2 : Int} {v3a : Option Addr} {v3n : Nat} {v3c : Nat} {want4a : Option Addr} {want4n : Nat} {want4c : Nat} {w : World} {R : Ending → World → Prop}
    (h : PC Try.prog 37 #[.pointer t1, .int .i64 peer2] w (fun v5 w6 => ∃ (t7 : Int), v5 = .int .i64 t7 ∧ (∀ w9, Drew w6 w9 → ∃ S10 : Nat → Prop, (∃ b11 o12, t1 = some ⟨b11, o12, none⟩ ∧
      (¬ S10 b11 ∧ (∃ (t13a : Option Addr) (t13n : Nat) (t13c : Nat), w9.cell? ⟨b11, o12, none⟩ = some (.slice t13a t13n t13c) ∧ (∃ b14 o15, t1 = some ⟨b14, o15, none⟩ ∧
      (∃ (t16a : Option Addr) (t16n : Nat) (t16c : Nat), w9.cell? ⟨b14, o15, none⟩ = some (.slice t16a t16n t16c) ∧ (∃ b17 o18, t16a = some ⟨b17, o18, none⟩ ∧
      (0 : Int) ≤ t7 ∧ t7 < ((t16n : Nat) : Int) ∧ (∃ (t19a : Option Addr) (t19n : Nat) (t19c : Nat), w9.cell? ⟨b17, o18 + Int.toNat t7 * 4 + 3, none⟩ = some (.slice t19a t19n t19c) ∧
      PC Try.prog 40 #[.slice t19a t19n t19c, .slice v3a v3n v3c] w9 (fun v20 w21 => ∃ (t22a : Option Addr) (t22n : Nat) (t22c : Nat), v20 = .slice t22a t22n t22c ∧
      (Keep S10 w9 w21 ∧ (∃ b23 o24, t13a = some ⟨b23, o24, none⟩ ∧ (0 : Int) ≤ t7 ∧ t7 < ((t13n : Nat) : Int) ∧ PS w21 ⟨b23, o24 + Int.toNat t7 * 4 + 3, none⟩ (.slice t22a t22n t22c) fun w25 =>
      (Keep S10 w21 w25 ∧ (∃ b26 o27, t1 = some ⟨b26, o27, none⟩ ∧ (∃ (t28a : Option Addr) (t28n : Nat) (t28c : Nat), w25.cell? ⟨b26, o27, none⟩ = some (.slice t28a t28n t28c) ∧
      (∃ b29 o30, t28a = some ⟨b29, o30, none⟩ ∧ (0 : Int) ≤ t7 ∧ t7 < ((t28n : Nat) : Int) ∧ (∃ (t31a : Option Addr) (t31n : Nat) (t31c : Nat), w25.cell? ⟨b29, o30 + Int.toNat t7 * 4 + 3, none⟩ = some (.slice t31a t31n t31c) ∧
      PC Try.prog 41 #[.slice t31a t31n t31c, .slice want4a want4n want4c] w25 (fun v32 w33 => ∃ (t34 : Int), v32 = .int .i64 t34 ∧ (∃ b35 o36, t1 = some ⟨b35, o36, none⟩ ∧
      (∃ (t37a : Option Addr) (t37n : Nat) (t37c : Nat), w33.cell? ⟨b35, o36, none⟩ = some (.slice t37a t37n t37c) ∧ (∃ b38 o39, t37a = some ⟨b38, o39, none⟩ ∧
      (0 : Int) ≤ t7 ∧ t7 < ((t37n : Nat) : Int) ∧ (∃ (t40 : Bool), w33.cell? ⟨b38, o39 + Int.toNat t7 * 4 + 2, none⟩ = some (.bool t40) ∧ PIf t40 (PIf ((t34 : Int) == 0) ((∃ b41 o42, t1 = some ⟨b41, o42, none⟩ ∧
      (∃ (t43a : Option Addr) (t43n : Nat) (t43c : Nat), w33.cell? ⟨b41, o42, none⟩ = some (.slice t43a t43n t43c) ∧ (∃ b44 o45, t43a = some ⟨b44, o45, none⟩ ∧
      (0 : Int) ≤ t7 ∧ t7 < ((t43n : Nat) : Int) ∧ PS w33 ⟨b44, o45 + Int.toNat t7 * 4 + 2, none⟩ (.bool false) fun w46 => R (.returned (.bool true)) w46)))) (PIf ((t34 : Int) == 2) ((∃ b47 o48, t1 = some ⟨b47, o48, none⟩ ∧
      (∃ (t49a : Option Addr) (t49n : Nat) (t49c : Nat), w33.cell? ⟨b47, o48, none⟩ = some (.slice t49a t49n t49c) ∧ (∃ b50 o51, t49a = some ⟨b50, o51, none⟩ ∧
      (0 : Int) ≤ t7 ∧ t7 < ((t49n : Nat) : Int) ∧ PS w33 ⟨b50, o51 + Int.toNat t7 * 4 + 2, none⟩ (.bool false) fun w52 => R (.returned (.bool true)) w52)))) (R (.returned (.bool false)) w33))) (R (.returned (.bool false)) w33)))))) (fun ch w =>
      R (.panicked ch) w))))))))) (fun ch w => False)))))))))) (fun ch w => R (.panicked ch) w)) :
    Calls Try.prog 25 #[.pointer t1, .int .i64 peer2, .slice v3a v3n v3c, .slice want4a want4n want4c] w R :=
  D_calls A_ref26_Table_Heard mixed Try.func25 rfl (Nat.le_of_ble_eq_true (by kernel_rfl)) (by kernel_rfl) (Eq.mp (by kernel_rfl) h)
/-- quayside/quaysidekit.KeptInts -/
abbrev F_kit_KeptInts : Nat := 26
def A_kit_KeptInts : Ann := ⟨[(4, [(5, .int .i64 0)])], [], [6]⟩
theorem L_kit_KeptInts {all1a : Option Addr} {all1n : Nat} {all1c : Nat} {l2a : Option Addr} {l2n : Nat} {l2c : Nat} {w : World} {R : Ending → World → Prop}
    (h : PIf ((((all1n : Nat) : Int) : Int) != (IntKind.wrap .i64 (((l2n : Nat) : Int) + 5))) (R (.returned (.bool false)) w) (((0 : Int) ≤ ((l2n : Nat) : Int) ∧
      ((l2n : Nat) : Int) ≤ ((all1c : Nat) : Int) ∧ PC Try.prog 18 #[.slice all1a (Int.toNat ((l2n : Nat) : Int)) all1c, .slice l2a l2n l2c] w (fun v3 w4 =>
      ∃ (t5 : Bool), v3 = .bool t5 ∧ PIf (!t5) (R (.returned (.bool false)) w4) ((∃ I6 : Nat → Int → World → Prop, (∃ m7, I6 m7 0 w4) ∧ ∀ (m7 : Nat) (i9 : Int) (B10 : Nat → Value) (w11 : World), I6 m7 i9 w11 → PIf (decide ((i9 : Int) < 5)) ((∀ w13, Drew w11 w13 → ∃ S14 : Nat → Prop, (∃ b15 o16, all1a = some ⟨b15, o16, none⟩ ∧
      (0 : Int) ≤ (IntKind.wrap .i64 (((l2n : Nat) : Int) + i9)) ∧ (IntKind.wrap .i64 (((l2n : Nat) : Int) + i9)) < ((all1n : Nat) : Int) ∧ (¬ S14 b15 ∧ (∃ (t17 : Int), w13.cell? ⟨b15, o16 + Int.toNat (IntKind.wrap .i64 (((l2n : Nat) : Int) + i9)), none⟩ = some (.int .i64 t17) ∧
      PC Try.prog 39 #[.int .i64 i9] w13 (fun v18 w19 => ∃ (t20 : Int), v18 = .int .i64 t20 ∧ (Keep S14 w13 w19 ∧ PIf ((t17 : Int) != t20) (R (.returned (.bool false)) w19) ((∃ m8, m8 < m7 ∧
      I6 m8 (IntKind.wrap .i64 (i9 + 1)) w19)))) (fun ch w => False)))))) (R (.returned (.bool true)) w11)))) (fun ch w => R (.panicked ch) w)))) :
    Calls Try.prog 26 #[.slice all1a all1n all1c, .slice l2a l2n l2c] w R :=
  D_calls A_kit_KeptInts mixed Try.func26 rfl (Nat.le_of_ble_eq_true (by kernel_rfl)) (by kernel_rfl) (Eq.mp (by kernel_rfl) h)
/-- quayside/quaysidekit.SpoilInts -/
abbrev F_kit_SpoilInts : Nat := 27
def A_kit_SpoilInts : Ann := ⟨[(1, [(2, .int .i64 0)])], [], []⟩
theorem L_kit_SpoilInts {l1a : Option Addr} {l1n : Nat} {l1c : Nat} {w : World} {R : Ending → World → Prop}
    (h : (∃ I2 : Nat → Int → World → Prop, (∃ m3, I2 m3 0 w) ∧ ∀ (m3 : Nat) (i5 : Int) (B6 : Nat → Value) (w7 : World), I2 m3 i5 w7 → PIf (decide ((i5 : Int) < ((l1n : Nat) : Int))) (PC Try.prog 39 #[.int .i64 (IntKind.wrap .i64 (i5 + 7))] w7 (fun v8 w9 =>
      ∃ (t10 : Int), v8 = .int .i64 t10 ∧ (∃ b11 o12, l1a = some ⟨b11, o12, none⟩ ∧ (0 : Int) ≤ i5 ∧ i5 < ((l1n : Nat) : Int) ∧ PS w9 ⟨b11, o12 + Int.toNat i5, none⟩ (.int .i64 t10) fun w13 =>
      (∃ m4, m4 < m3 ∧ I2 m4 (IntKind.wrap .i64 (i5 + 1)) w13))) (fun ch w => R (.panicked ch) w)) (R (.returned (.tuple #[])) w7))) :
    Calls Try.prog 27 #[.slice l1a l1n l1c] w R :=
  D_calls A_kit_SpoilInts mixed Try.func27 rfl (Nat.le_of_ble_eq_true (by kernel_rfl)) (by kernel_rfl) (Eq.mp (by kernel_rfl) h)
/-- (*quayside/quaysideref26.Table).Due -/
abbrev F_ref26_Table_Due : Nat := 28
def A_ref26_Table_Due : Ann := ⟨[(3, [(5, .slice none 0 0), (6, .int .i64 0)])], [], []⟩
theorem L_ref26_Table_Due {t1 : Option Addr} {now2 : Int} {w : World} {R : Ending → World → Prop}
    (h : (∃ I3 : Nat → Option Addr → Nat → Nat → Int → World → Prop, (∃ m4, I3 m4 none 0 0 0 w) ∧ ∀ (m4 : Nat) (out6a : Option Addr) (out6n : Nat) (out6c : Nat) (i7 : Int) (B8 : Nat → Value) (w9 : World), I3 m4 out6a out6n out6c i7 w9 → (∃ b10 o11, t1 = some ⟨b10, o11, none⟩ ∧
      (∃ (t12a : Option Addr) (t12n : Nat) (t12c : Nat), w9.cell? ⟨b10, o11, none⟩ = some (.slice t12a t12n t12c) ∧ PIf (decide ((i7 : Int) < ((t12n : Nat) : Int))) ((∃ b14 o15, t1 = some ⟨b14, o15, none⟩ ∧
      (∃ (t16a : Option Addr) (t16n : Nat) (t16c : Nat), w9.cell? ⟨b14, o15, none⟩ = some (.slice t16a t16n t16c) ∧ (∃ b17 o18, t16a = some ⟨b17, o18, none⟩ ∧
      (0 : Int) ≤ i7 ∧ i7 < ((t16n : Nat) : Int) ∧ (∃ (t19 : Bool), w9.cell? ⟨b17, o18 + Int.toNat i7 * 4 + 2, none⟩ = some (.bool t19) ∧ PIf t19 ((∃ b20 o21, t1 = some ⟨b20, o21, none⟩ ∧
      (∃ (t22a : Option Addr) (t22n : Nat) (t22c : Nat), w9.cell? ⟨b20, o21, none⟩ = some (.slice t22a t22n t22c) ∧ (∃ b23 o24, t22a = some ⟨b23, o24, none⟩ ∧
      (0 : Int) ≤ i7 ∧ i7 < ((t22n : Nat) : Int) ∧ (∃ (t25 : Int), w9.cell? ⟨b23, o24 + Int.toNat i7 * 4 + 1, none⟩ = some (.int .i64 t25) ∧ (∃ b26 o27, t1 = some ⟨b26, o27, none⟩ ∧
      (∃ (t28 : Int), w9.cell? ⟨b26, o27 + 1, none⟩ = some (.int .i64 t28) ∧ (∀ w13, Drew w9 w13 → PIf (decide (((IntKind.wrap .i64 (now2 - t25)) : Int) ≥ t28)) ((∃ b29 o30, t1 = some ⟨b29, o30, none⟩ ∧
      (∃ (t31a : Option Addr) (t31n : Nat) (t31c : Nat), w13.cell? ⟨b29, o30, none⟩ = some (.slice t31a t31n t31c) ∧ (∃ b32 o33, t31a = some ⟨b32, o33, none⟩ ∧
      (0 : Int) ≤ i7 ∧ i7 < ((t31n : Nat) : Int) ∧ PS w13 ⟨b32, o33 + Int.toNat i7 * 4 + 1, none⟩ (.int .i64 now2) fun w34 => (∃ b35 o36, t1 = some ⟨b35, o36, none⟩ ∧
      (∃ (t37a : Option Addr) (t37n : Nat) (t37c : Nat), w34.cell? ⟨b35, o36, none⟩ = some (.slice t37a t37n t37c) ∧ (∃ b38 o39, t37a = some ⟨b38, o39, none⟩ ∧
      (0 : Int) ≤ i7 ∧ i7 < ((t37n : Nat) : Int) ∧ (∃ (t40 : Int), w34.cell? ⟨b38, o39 + Int.toNat i7 * 4, none⟩ = some (.int .i64 t40) ∧ PA w34 (.cells #[.int .i64 t40] 3) fun w41 =>
      PRun Try.prog (Builtin.append_ #[23, 23] 23 #[.slice out6a out6n out6c, .slice (some ⟨w34.heap.size, 0, none⟩) 1 1]) w41 (fun v42 w43 => ∃ (t44a : Option Addr) (t44n : Nat) (t44c : Nat), v42 = .slice t44a t44n t44c ∧
      (∃ m5, m5 < m4 ∧ I3 m5 t44a t44n t44c (IntKind.wrap .i64 (i7 + 1)) w43)) (fun pv w => R (.panicked [{ v := pv, recovered := false }]) w))))))))) ((∃ m5, m5 < m4 ∧
      I3 m5 out6a out6n out6c (IntKind.wrap .i64 (i7 + 1)) w13)))))))))) ((∀ w13, Drew w9 w13 → (∃ m5, m5 < m4 ∧ I3 m5 out6a out6n out6c (IntKind.wrap .i64 (i7 + 1)) w13)))))))) (R (.returned (.slice out6a out6n out6c)) w9))))) :
    Calls Try.prog 28 #[.pointer t1, .int .i64 now2] w R :=
  D_calls A_ref26_Table_Due mixed Try.func28 rfl (Nat.le_of_ble_eq_true (by kernel_rfl)) (by kernel_rfl) (Eq.mp (by kernel_rfl) h)
/-- (*quayside/session.Table).Clear -/
abbrev F_session_Table_Clear : Nat := 29
def A_session_Table_Clear : Ann := ⟨[], [], []⟩
theorem L_session_Table_Clear {t1 : Option Addr} {w : World} {R : Ending → World → Prop}
    (h : (∃ b2 o3, t1 = some ⟨b2, o3, none⟩ ∧ (∃ (t4 : Option Nat), w.cell? ⟨b2, o3 + 1, none⟩ = some (.map t4) ∧ PRun Try.prog (Builtin.clear_ #[49] 0 #[.map t4]) w (fun v5 w6 =>
      (∃ b7 o8, t1 = some ⟨b7, o8, none⟩ ∧ (∃ (t9 : Option Nat), w6.cell? ⟨b7, o8 + 2, none⟩ = some (.map t9) ∧ PRun Try.prog (Builtin.clear_ #[50] 0 #[.map t9]) w6 (fun v10 w11 =>
      R (.returned (.tuple #[])) w11) (fun pv w => R (.panicked [{ v := pv, recovered := false }]) w)))) (fun pv w => R (.panicked [{ v := pv, recovered := false }]) w)))) :
    Calls Try.prog 29 #[.pointer t1] w R :=
  D_calls A_session_Table_Clear mixed Try.func29 rfl (Nat.le_of_ble_eq_true (by kernel_rfl)) (by kernel_rfl) (Eq.mp (by kernel_rfl) h)
/-- (*quayside/quaysideref26.Table).Clear -/
abbrev F_ref26_Table_Clear : Nat := 30
def A_ref26_Table_Clear : Ann := ⟨[], [], []⟩
theorem L_ref26_Table_Clear {t1 : Option Addr} {w : World} {R : Ending → World → Prop}
    (h : (∃ b2 o3, t1 = some ⟨b2, o3, none⟩ ∧ PS w ⟨b2, o3, none⟩ (.slice none 0 0) fun w4 => R (.returned (.tuple #[])) w4)) :
    Calls Try.prog 30 #[.pointer t1] w R :=
  D_calls A_ref26_Table_Clear mixed Try.func30 rfl (Nat.le_of_ble_eq_true (by kernel_rfl)) (by kernel_rfl) (Eq.mp (by kernel_rfl) h)
/-- (*quayside/quaysideref26.Table).Open -/
abbrev F_ref26_Table_Open : Nat := 31
def A_ref26_Table_Open : Ann := ⟨[(3, [(3, .slice none 0 0), (4, .int .i64 0)])], [], []⟩
theorem L_ref26_Table_Open {t1 : Option Addr} {w : World} {R : Ending → World → Prop}
    (h : (∃ I2 : Nat → Option Addr → Nat → Nat → Int → World → Prop, (∃ m3, I2 m3 none 0 0 0 w) ∧ ∀ (m3 : Nat) (out5a : Option Addr) (out5n : Nat) (out5c : Nat) (i6 : Int) (B7 : Nat → Value) (w8 : World), I2 m3 out5a out5n out5c i6 w8 → (∃ b9 o10, t1 = some ⟨b9, o10, none⟩ ∧
      (∃ (t11a : Option Addr) (t11n : Nat) (t11c : Nat), w8.cell? ⟨b9, o10, none⟩ = some (.slice t11a t11n t11c) ∧ PIf (decide ((i6 : Int) < ((t11n : Nat) : Int))) ((∃ b12 o13, t1 = some ⟨b12, o13, none⟩ ∧
      (∃ (t14a : Option Addr) (t14n : Nat) (t14c : Nat), w8.cell? ⟨b12, o13, none⟩ = some (.slice t14a t14n t14c) ∧ (∃ b15 o16, t14a = some ⟨b15, o16, none⟩ ∧
      (0 : Int) ≤ i6 ∧ i6 < ((t14n : Nat) : Int) ∧ (∃ (t17 : Bool), w8.cell? ⟨b15, o16 + Int.toNat i6 * 4 + 2, none⟩ = some (.bool t17) ∧ PIf t17 ((∃ b18 o19, t1 = some ⟨b18, o19, none⟩ ∧
      (∃ (t20a : Option Addr) (t20n : Nat) (t20c : Nat), w8.cell? ⟨b18, o19, none⟩ = some (.slice t20a t20n t20c) ∧ (∃ b21 o22, t20a = some ⟨b21, o22, none⟩ ∧
      (0 : Int) ≤ i6 ∧ i6 < ((t20n : Nat) : Int) ∧ (∃ (t23 : Int), w8.cell? ⟨b21, o22 + Int.toNat i6 * 4, none⟩ = some (.int .i64 t23) ∧ PA w8 (.cells #[.int .i64 t23] 3) fun w24 =>
      PRun Try.prog (Builtin.append_ #[23, 23] 23 #[.slice out5a out5n out5c, .slice (some ⟨w8.heap.size, 0, none⟩) 1 1]) w24 (fun v25 w26 => ∃ (t27a : Option Addr) (t27n : Nat) (t27c : Nat), v25 = .slice t27a t27n t27c ∧
      (∃ m4, m4 < m3 ∧ I2 m4 t27a t27n t27c (IntKind.wrap .i64 (i6 + 1)) w26)) (fun pv w => R (.panicked [{ v := pv, recovered := false }]) w)))))) ((∃ m4, m4 < m3 ∧
      I2 m4 out5a out5n out5c (IntKind.wrap .i64 (i6 + 1)) w8))))))) (R (.returned (.slice out5a out5n out5c)) w8))))) :
    Calls Try.prog 31 #[.pointer t1] w R :=
  D_calls A_ref26_Table_Open mixed Try.func31 rfl (Nat.le_of_ble_eq_true (by kernel_rfl)) (by kernel_rfl) (Eq.mp (by kernel_rfl) h)
/-- (*quayside/quaysideref26.Table).Vec -/
abbrev F_ref26_Table_Vec : Nat := 32
def A_ref26_Table_Vec : Ann := ⟨[(2, [(5, .int .i64 0)])], [], []⟩
theorem L_ref26_Table_Vec {t1 : Option Addr} {peer2 : Int} {w : World} {R : Ending → World → Prop}
    (h : (∃ I3 : Nat → Int → World → Prop, (∃ m4, I3 m4 0 w) ∧ ∀ (m4 : Nat) (i6 : Int) (B7 : Nat → Value) (w8 : World), I3 m4 i6 w8 → (∃ b9 o10, t1 = some ⟨b9, o10, none⟩ ∧
      (∃ (t11a : Option Addr) (t11n : Nat) (t11c : Nat), w8.cell? ⟨b9, o10, none⟩ = some (.slice t11a t11n t11c) ∧ PIf (decide ((i6 : Int) < ((t11n : Nat) : Int))) ((∃ b12 o13, t1 = some ⟨b12, o13, none⟩ ∧
      (∃ (t14a : Option Addr) (t14n : Nat) (t14c : Nat), w8.cell? ⟨b12, o13, none⟩ = some (.slice t14a t14n t14c) ∧ (∃ b15 o16, t14a = some ⟨b15, o16, none⟩ ∧
      (0 : Int) ≤ i6 ∧ i6 < ((t14n : Nat) : Int) ∧ (∃ (t17 : Int), w8.cell? ⟨b15, o16 + Int.toNat i6 * 4, none⟩ = some (.int .i64 t17) ∧ PIf ((t17 : Int) == peer2) ((∃ b18 o19, t1 = some ⟨b18, o19, none⟩ ∧
      (∃ (t20a : Option Addr) (t20n : Nat) (t20c : Nat), w8.cell? ⟨b18, o19, none⟩ = some (.slice t20a t20n t20c) ∧ (∃ b21 o22, t20a = some ⟨b21, o22, none⟩ ∧
      (0 : Int) ≤ i6 ∧ i6 < ((t20n : Nat) : Int) ∧ (∃ (t23a : Option Addr) (t23n : Nat) (t23c : Nat), w8.cell? ⟨b21, o22 + Int.toNat i6 * 4 + 3, none⟩ = some (.slice t23a t23n t23c) ∧
      PC Try.prog 40 #[.slice t23a t23n t23c, .slice none 0 0] w8 (fun v24 w25 => ∃ (t26a : Option Addr) (t26n : Nat) (t26c : Nat), v24 = .slice t26a t26n t26c ∧
      R (.returned (.slice t26a t26n t26c)) w25) (fun ch w => R (.panicked ch) w)))))) ((∃ m5, m5 < m4 ∧ I3 m5 (IntKind.wrap .i64 (i6 + 1)) w8))))))) (R (.returned (.slice none 0 0)) w8))))) :
    Calls Try.prog 32 #[.pointer t1, .int .i64 peer2] w R :=
  D_calls A_ref26_Table_Vec mixed Try.func32 rfl (Nat.le_of_ble_eq_true (by kernel_rfl)) (by kernel_rfl) (Eq.mp (by kernel_rfl) h)
/-- quayside/vec.Get -/
abbrev F_vec_Get : Nat := 33
def A_vec_Get : Ann := ⟨[], [], []⟩
theorem L_vec_Get {v1a : Option Addr} {v1n : Nat} {v1c : Nat} {origin2 : Int} {w : World} {R : Ending → World → Prop}
    (h : PIf (decide ((origin2 : Int) < 0)) (R (.returned (.int .i64 0)) w) (PIf (decide ((origin2 : Int) ≥ ((v1n : Nat) : Int))) (R (.returned (.int .i64 0)) w) ((∃ b3 o4, v1a = some ⟨b3, o4, none⟩ ∧
      (0 : Int) ≤ origin2 ∧ origin2 < ((v1n : Nat) : Int) ∧ (∃ (t5 : Int), w.cell? ⟨b3, o4 + Int.toNat origin2, none⟩ = some (.int .i64 t5) ∧ R (.returned (.int .i64 (if 0 > t5 then 0 else t5))) w))))) :
    Calls Try.prog 33 #[.slice v1a v1n v1c, .int .i64 origin2] w R :=
  D_calls A_vec_Get mixed Try.func33 rfl (Nat.le_of_ble_eq_true (by kernel_rfl)) (by kernel_rfl) (Eq.mp (by kernel_rfl) h)
/-- slices.Clone[[]int,int] -/
abbrev F_slices_Clone_int_int : Nat := 34
def A_slices_Clone_int_int : Ann := ⟨[], [], []⟩
theorem L_slices_Clone_int_int {s1a : Option Addr} {s1n : Nat} {s1c : Nat} {w : World} {R : Ending → World → Prop}
    (h : PRun Try.prog (do eqGuard .eql 23 (.tmp 3) (.const (.slice none 0 0)) (.slice s1a s1n s1c) (.slice none 0 0); binOp .eql 23 (.slice s1a s1n s1c) (.slice none 0 0)) w (fun v2 w3 =>
      ∃ (t4 : Bool), v2 = .bool t4 ∧ PIf t4 (R (.returned (.slice none 0 0)) w3) (PA w3 (.cells #[] 3) fun w5 => PRun Try.prog (Builtin.append_ #[23, 23] 23 #[.slice (some ⟨w3.heap.size, 0, none⟩) 0 0, .slice s1a s1n s1c]) w5 (fun v6 w7 =>
      ∃ (t8a : Option Addr) (t8n : Nat) (t8c : Nat), v6 = .slice t8a t8n t8c ∧ R (.returned (.slice t8a t8n t8c)) w7) (fun pv w => R (.panicked [{ v := pv, recovered := false }]) w))) (fun pv w =>
      R (.panicked [{ v := pv, recovered := false }]) w)) :
    Calls Try.prog 34 #[.slice s1a s1n s1c] w R :=
  D_calls A_slices_Clone_int_int mixed Try.func34 rfl (Nat.le_of_ble_eq_true (by kernel_rfl)) (by kernel_rfl) (Eq.mp (by kernel_rfl) h)
/-- slices.Sorted[int] -/
abbrev F_slices_Sorted_int : Nat := 35
def A_slices_Sorted_int : Ann := ⟨[], [], []⟩
theorem L_slices_Sorted_int {seq1 : Value} {w : World} {R : Ending → World → Prop}
    (h : PC Try.prog 42 #[seq1] w (fun v2 w3 => ∃ (t4a : Option Addr) (t4n : Nat) (t4c : Nat), v2 = .slice t4a t4n t4c ∧ PC Try.prog 43 #[.slice t4a t4n t4c] w3 (fun v5 w6 =>
      v5 = .tuple #[] ∧ R (.returned (.slice t4a t4n t4c)) w6) (fun ch w => R (.panicked ch) w)) (fun ch w => R (.panicked ch) w)) :
    Calls Try.prog 35 #[seq1] w R :=
  D_calls A_slices_Sorted_int mixed Try.func35 rfl (Nat.le_of_ble_eq_true (by kernel_rfl)) (by kernel_rfl) (Eq.mp (by kernel_rfl) h)
/-- maps.Keys[map[int]int,int,int] -/
abbrev F_maps_Keys_map_int_int_int_int : Nat := 36
def A_maps_Keys_map_int_int_int_int : Ann := ⟨[], [], []⟩
theorem L_maps_Keys_map_int_int_int_int {m1 : Option Nat} {w : World} {R : Ending → World → Prop}
    (h : PA w (.cells #[.map m1] 49) fun w2 => R (.returned (.func (.func 44) #[] #[.pointer (some ⟨w.heap.size, 0, none⟩)])) w2) :
    Calls Try.prog 36 #[.map m1] w R :=
  D_calls A_maps_Keys_map_int_int_int_int mixed Try.func36 rfl (Nat.le_of_ble_eq_true (by kernel_rfl)) (by kernel_rfl) (Eq.mp (by kernel_rfl) h)
/-- (*quayside/quaysideref26.Table).at -/
abbrev F_ref26_Table_at : Nat := 37
def A_ref26_Table_at : Ann := ⟨[(2, [(5, .int .i64 0)]), (8, [(6, .int .i64 0)])], [(4, [(5, .int .i64 0)]), (6, [])], []⟩
theorem L_ref26_Table_at {t1 : Option Addr} {peer2 : Int} {w : World} {R : Ending → World → Prop}
    (h : (∃ J3 : Int → World → Prop, ((∃ I4 : Nat → Int → World → Prop, (∃ m5, I4 m5 0 w) ∧ ∀ (m5 : Nat) (i7 : Int) (B8 : Nat → Value) (w9 : World), I4 m5 i7 w9 → (∃ b10 o11, t1 = some ⟨b10, o11, none⟩ ∧
      (∃ (t12a : Option Addr) (t12n : Nat) (t12c : Nat), w9.cell? ⟨b10, o11, none⟩ = some (.slice t12a t12n t12c) ∧ PIf (decide ((i7 : Int) < ((t12n : Nat) : Int))) ((∃ b13 o14, t1 = some ⟨b13, o14, none⟩ ∧
      (∃ (t15a : Option Addr) (t15n : Nat) (t15c : Nat), w9.cell? ⟨b13, o14, none⟩ = some (.slice t15a t15n t15c) ∧ (∃ b16 o17, t15a = some ⟨b16, o17, none⟩ ∧
      (0 : Int) ≤ i7 ∧ i7 < ((t15n : Nat) : Int) ∧ (∃ (t18 : Int), w9.cell? ⟨b16, o17 + Int.toNat i7 * 4, none⟩ = some (.int .i64 t18) ∧ PIf (decide ((t18 : Int) < peer2)) ((∃ m6, m6 < m5 ∧
      I4 m6 (IntKind.wrap .i64 (i7 + 1)) w9)) (J3 i7 w9)))))) (J3 i7 w9))))) ∧ ∀ (i19 : Int) (B20 : Nat → Value) (w21 : World), J3 i19 w21 → (∃ J22 : World → Prop, ((∃ b23 o24, t1 = some ⟨b23, o24, none⟩ ∧
      (∃ (t25a : Option Addr) (t25n : Nat) (t25c : Nat), w21.cell? ⟨b23, o24, none⟩ = some (.slice t25a t25n t25c) ∧ PIf (decide ((i19 : Int) < ((t25n : Nat) : Int))) ((∃ b26 o27, t1 = some ⟨b26, o27, none⟩ ∧
      (∃ (t28a : Option Addr) (t28n : Nat) (t28c : Nat), w21.cell? ⟨b26, o27, none⟩ = some (.slice t28a t28n t28c) ∧ (∃ b29 o30, t28a = some ⟨b29, o30, none⟩ ∧
      (0 : Int) ≤ i19 ∧ i19 < ((t28n : Nat) : Int) ∧ (∃ (t31 : Int), w21.cell? ⟨b29, o30 + Int.toNat i19 * 4, none⟩ = some (.int .i64 t31) ∧ PIf ((t31 : Int) == peer2) (R (.returned (.int .i64 i19)) w21) (J22  w21)))))) (J22  w21)))) ∧
      ∀  (B32 : Nat → Value) (w33 : World), J22  w33 → (∃ b34 o35, t1 = some ⟨b34, o35, none⟩ ∧ (∃ (t36a : Option Addr) (t36n : Nat) (t36c : Nat), w33.cell? ⟨b34, o35, none⟩ = some (.slice t36a t36n t36c) ∧
      PA w33 (.cells #[.int .i64 0, .int .i64 0, .bool false, .slice none 0 0] 63) fun w37 => PRun Try.prog (Builtin.append_ #[59, 59] 59 #[.slice t36a t36n t36c, .slice (some ⟨w33.heap.size, 0, none⟩) 1 1]) w37 (fun v38 w39 =>
      ∃ (t40a : Option Addr) (t40n : Nat) (t40c : Nat), v38 = .slice t40a t40n t40c ∧ (∃ b41 o42, t1 = some ⟨b41, o42, none⟩ ∧ PS w39 ⟨b41, o42, none⟩ (.slice t40a t40n t40c) fun w43 =>
      (∃ b44 o45, t1 = some ⟨b44, o45, none⟩ ∧ (∃ (t46a : Option Addr) (t46n : Nat) (t46c : Nat), w43.cell? ⟨b44, o45, none⟩ = some (.slice t46a t46n t46c) ∧
      (∃ I47 : Nat → Int → World → Prop, (∃ m48, I47 m48 (IntKind.wrap .i64 (((t46n : Nat) : Int) - 1)) w43) ∧ ∀ (m48 : Nat) (k50 : Int) (B51 : Nat → Value) (w52 : World), I47 m48 k50 w52 → PIf (decide ((k50 : Int) > i19)) ((∀ w54, Drew w52 w54 → (∃ b55 o56, t1 = some ⟨b55, o56, none⟩ ∧
      (∃ (t57a : Option Addr) (t57n : Nat) (t57c : Nat), w54.cell? ⟨b55, o56, none⟩ = some (.slice t57a t57n t57c) ∧ (∃ b58 o59, t1 = some ⟨b58, o59, none⟩ ∧
      (∃ (t60a : Option Addr) (t60n : Nat) (t60c : Nat), w54.cell? ⟨b58, o59, none⟩ = some (.slice t60a t60n t60c) ∧ (∃ b61 o62, t60a = some ⟨b61, o62, none⟩ ∧
      (0 : Int) ≤ (IntKind.wrap .i64 (k50 - 1)) ∧ (IntKind.wrap .i64 (k50 - 1)) < ((t60n : Nat) : Int) ∧ (∃ (t63 : Int), ∃ (t64 : Int), ∃ (t65 : Bool), ∃ (t66a : Option Addr) (t66n : Nat) (t66c : Nat), w54.cell? ⟨b61, o62 + Int.toNat (IntKind.wrap .i64 (k50 - 1)) * 4, none⟩ = some (.int .i64 t63) ∧
      w54.cell? ⟨b61, o62 + Int.toNat (IntKind.wrap .i64 (k50 - 1)) * 4 + 1, none⟩ = some (.int .i64 t64) ∧ w54.cell? ⟨b61, o62 + Int.toNat (IntKind.wrap .i64 (k50 - 1)) * 4 + 2, none⟩ = some (.bool t65) ∧
      w54.cell? ⟨b61, o62 + Int.toNat (IntKind.wrap .i64 (k50 - 1)) * 4 + 3, none⟩ = some (.slice t66a t66n t66c) ∧ (∃ b67 o68, t57a = some ⟨b67, o68, none⟩ ∧
      (0 : Int) ≤ k50 ∧ k50 < ((t57n : Nat) : Int) ∧ PS w54 ⟨b67, o68 + Int.toNat k50 * 4, none⟩ (.int .i64 t63) fun w69 => PS w69 ⟨b67, o68 + Int.toNat k50 * 4 + 1, none⟩ (.int .i64 t64) fun w70 =>
      PS w70 ⟨b67, o68 + Int.toNat k50 * 4 + 2, none⟩ (.bool t65) fun w71 => PS w71 ⟨b67, o68 + Int.toNat k50 * 4 + 3, none⟩ (.slice t66a t66n t66c) fun w72 =>
      (∃ m49, m49 < m48 ∧ I47 m49 (IntKind.wrap .i64 (k50 - 1)) w72)))))))))) ((∃ b73 o74, t1 = some ⟨b73, o74, none⟩ ∧ (∃ (t75a : Option Addr) (t75n : Nat) (t75c : Nat), w52.cell? ⟨b73, o74, none⟩ = some (.slice t75a t75n t75c) ∧
      (∃ b76 o77, t75a = some ⟨b76, o77, none⟩ ∧ (0 : Int) ≤ i19 ∧ i19 < ((t75n : Nat) : Int) ∧ PS w52 ⟨b76, o77 + Int.toNat i19 * 4, none⟩ (.int .i64 peer2) fun w78 =>
      PS w78 ⟨b76, o77 + Int.toNat i19 * 4 + 1, none⟩ (.int .i64 0) fun w79 => PS w79 ⟨b76, o77 + Int.toNat i19 * 4 + 2, none⟩ (.bool false) fun w80 => PS w80 ⟨b76, o77 + Int.toNat i19 * 4 + 3, none⟩ (.slice none 0 0) fun w81 =>
      R (.returned (.int .i64 i19)) w81))))))))) (fun pv w => R (.panicked [{ v := pv, recovered := false }]) w)))))) :
    Calls Try.prog 37 #[.pointer t1, .int .i64 peer2] w R :=
  D_calls A_ref26_Table_at mixed Try.func37 rfl (Nat.le_of_ble_eq_true (by kernel_rfl)) (by kernel_rfl) (Eq.mp (by kernel_rfl) h)
/-- quayside/quaysidekit.CopyInts -/
abbrev F_kit_CopyInts : Nat := 38
def A_kit_CopyInts : Ann := ⟨[(3, [(3, .slice none 0 0), (4, .int .i64 0)])], [], []⟩
theorem L_kit_CopyInts {l1a : Option Addr} {l1n : Nat} {l1c : Nat} {w : World} {R : Ending → World → Prop}
    (h : (∃ I2 : Nat → Option Addr → Nat → Nat → Int → World → Prop, (∃ m3, I2 m3 none 0 0 0 w) ∧ ∀ (m3 : Nat) (out5a : Option Addr) (out5n : Nat) (out5c : Nat) (i6 : Int) (B7 : Nat → Value) (w8 : World), I2 m3 out5a out5n out5c i6 w8 → PIf (decide ((i6 : Int) < ((l1n : Nat) : Int))) ((∃ b9 o10, l1a = some ⟨b9, o10, none⟩ ∧
      (0 : Int) ≤ i6 ∧ i6 < ((l1n : Nat) : Int) ∧ (∃ (t11 : Int), w8.cell? ⟨b9, o10 + Int.toNat i6, none⟩ = some (.int .i64 t11) ∧ PA w8 (.cells #[.int .i64 t11] 3) fun w12 =>
      PRun Try.prog (Builtin.append_ #[23, 23] 23 #[.slice out5a out5n out5c, .slice (some ⟨w8.heap.size, 0, none⟩) 1 1]) w12 (fun v13 w14 => ∃ (t15a : Option Addr) (t15n : Nat) (t15c : Nat), v13 = .slice t15a t15n t15c ∧
      (∃ m4, m4 < m3 ∧ I2 m4 t15a t15n t15c (IntKind.wrap .i64 (i6 + 1)) w14)) (fun pv w => R (.panicked [{ v := pv, recovered := false }]) w)))) (R (.returned (.slice out5a out5n out5c)) w8))) :
    Calls Try.prog 38 #[.slice l1a l1n l1c] w R :=
  D_calls A_kit_CopyInts mixed Try.func38 rfl (Nat.le_of_ble_eq_true (by kernel_rfl)) (by kernel_rfl) (Eq.mp (by kernel_rfl) h)
/-- quayside/quaysidekit.markInts -/
abbrev F_kit_markInts : Nat := 39
def A_kit_markInts : Ann := ⟨[], [], []⟩
theorem L_kit_markInts {i1 : Int} {w : World} {R : Ending → World → Prop}
    (h : R (.returned (.int .i64 (IntKind.wrap .i64 (7001 + (IntKind.wrap .i64 (13 * i1)))))) w) :
    Calls Try.prog 39 #[.int .i64 i1] w R :=
  D_calls A_kit_markInts mixed Try.func39 rfl (Nat.le_of_ble_eq_true (by kernel_rfl)) (by kernel_rfl) (Eq.mp (by kernel_rfl) h)
/-- quayside/quaysideref04.Join -/
abbrev F_ref04_Join : Nat := 40
def A_ref04_Join : Ann := ⟨[(3, [(5, .slice none 0 0), (6, .int .i64 0)])], [(5, [])], []⟩
theorem L_ref04_Join {a1a : Option Addr} {a1n : Nat} {a1c : Nat} {b2a : Option Addr} {b2n : Nat} {b2c : Nat} {w : World} {R : Ending → World → Prop}
    (h : (∃ I3 : Nat → Option Addr → Nat → Nat → Int → World → Prop, (∃ m4, I3 m4 none 0 0 0 w) ∧ ∀ (m4 : Nat) (out6a : Option Addr) (out6n : Nat) (out6c : Nat) (i7 : Int) (B8 : Nat → Value) (w9 : World), I3 m4 out6a out6n out6c i7 w9 → (∃ J10 : World → Prop, (PIf (decide ((i7 : Int) < ((a1n : Nat) : Int))) (J10  w9) (PIf (decide ((i7 : Int) < ((b2n : Nat) : Int))) (J10  w9) (R (.returned (.slice out6a out6n out6c)) w9))) ∧
      ∀  (B11 : Nat → Value) (w12 : World), J10  w12 → PC Try.prog 45 #[.slice a1a a1n a1c, .int .i64 i7] w12 (fun v13 w14 => ∃ (t15 : Int), v13 = .int .i64 t15 ∧
      PC Try.prog 45 #[.slice b2a b2n b2c, .int .i64 i7] w14 (fun v16 w17 => ∃ (t18 : Int), v16 = .int .i64 t18 ∧ PIf (decide ((t18 : Int) > t15)) (PC Try.prog 45 #[.slice b2a b2n b2c, .int .i64 i7] w17 (fun v19 w20 =>
      ∃ (t21 : Int), v19 = .int .i64 t21 ∧ PA w20 (.cells #[.int .i64 t21] 3) fun w22 => PRun Try.prog (Builtin.append_ #[23, 23] 23 #[.slice out6a out6n out6c, .slice (some ⟨w20.heap.size, 0, none⟩) 1 1]) w22 (fun v23 w24 =>
      ∃ (t25a : Option Addr) (t25n : Nat) (t25c : Nat), v23 = .slice t25a t25n t25c ∧ (∃ m5, m5 < m4 ∧ I3 m5 t25a t25n t25c (IntKind.wrap .i64 (i7 + 1)) w24)) (fun pv w =>
      R (.panicked [{ v := pv, recovered := false }]) w)) (fun ch w => R (.panicked ch) w)) (PA w17 (.cells #[.int .i64 t15] 3) fun w26 => PRun Try.prog (Builtin.append_ #[23, 23] 23 #[.slice out6a out6n out6c, .slice (some ⟨w17.heap.size, 0, none⟩) 1 1]) w26 (fun v27 w28 =>
      ∃ (t29a : Option Addr) (t29n : Nat) (t29c : Nat), v27 = .slice t29a t29n t29c ∧ (∃ m5, m5 < m4 ∧ I3 m5 t29a t29n t29c (IntKind.wrap .i64 (i7 + 1)) w28)) (fun pv w =>
      R (.panicked [{ v := pv, recovered := false }]) w))) (fun ch w => R (.panicked ch) w)) (fun ch w => R (.panicked ch) w)))) :
    Calls Try.prog 40 #[.slice a1a a1n a1c, .slice b2a b2n b2c] w R :=
  D_calls A_ref04_Join mixed Try.func40 rfl (Nat.le_of_ble_eq_true (by kernel_rfl)) (by kernel_rfl) (Eq.mp (by kernel_rfl) h)
/-- quayside/quaysideref04.Cmp -/
abbrev F_ref04_Cmp : Nat := 41
def A_ref04_Cmp : Ann := ⟨[], [], []⟩
theorem L_ref04_Cmp {a1a : Option Addr} {a1n : Nat} {a1c : Nat} {b2a : Option Addr} {b2n : Nat} {b2c : Nat} {w : World} {R : Ending → World → Prop}
    (h : PC Try.prog 46 #[.slice a1a a1n a1c, .slice b2a b2n b2c] w (fun v3 w4 => ∃ (t5 : Bool), v3 = .bool t5 ∧ PC Try.prog 46 #[.slice b2a b2n b2c, .slice a1a a1n a1c] w4 (fun v6 w7 =>
      ∃ (t8 : Bool), v6 = .bool t8 ∧ PIf t5 (PIf t8 (R (.returned (.int .i64 0)) w7) (PIf t8 (R (.returned (.int .i64 1)) w7) (PIf t5 (R (.returned (.int .i64 2)) w7) (R (.returned (.int .i64 3)) w7)))) (PIf t8 (R (.returned (.int .i64 1)) w7) (PIf t5 (R (.returned (.int .i64 2)) w7) (R (.returned (.int .i64 3)) w7)))) (fun ch w =>
      R (.panicked ch) w)) (fun ch w => R (.panicked ch) w)) :
    Calls Try.prog 41 #[.slice a1a a1n a1c, .slice b2a b2n b2c] w R :=
  D_calls A_ref04_Cmp mixed Try.func41 rfl (Nat.le_of_ble_eq_true (by kernel_rfl)) (by kernel_rfl) (Eq.mp (by kernel_rfl) h)
/-- slices.Collect[int] -/
abbrev F_slices_Collect_int : Nat := 42
def A_slices_Collect_int : Ann := ⟨[], [], []⟩
theorem L_slices_Collect_int {seq1 : Value} {w : World} {R : Ending → World → Prop}
    (h : PC Try.prog 47 #[.slice none 0 0, seq1] w (fun v2 w3 => ∃ (t4a : Option Addr) (t4n : Nat) (t4c : Nat), v2 = .slice t4a t4n t4c ∧ R (.returned (.slice t4a t4n t4c)) w3) (fun ch w =>
      R (.panicked ch) w)) :
    Calls Try.prog 42 #[seq1] w R :=
  D_calls A_slices_Collect_int mixed Try.func42 rfl (Nat.le_of_ble_eq_true (by kernel_rfl)) (by kernel_rfl) (Eq.mp (by kernel_rfl) h)
/-- slices.Sort[[]int,int] -/
abbrev F_slices_Sort_int_int : Nat := 43
def A_slices_Sort_int_int : Ann := ⟨[], [], []⟩
theorem L_slices_Sort_int_int {x1a : Option Addr} {x1n : Nat} {x1c : Nat} {w : World} {R : Ending → World → Prop}
    (h : PC Try.prog 49 #[.int .u64 (IntKind.wrap .u64 ((x1n : Nat) : Int))] w (fun v2 w3 => ∃ (t4 : Int), v2 = .int .i64 t4 ∧ PC Try.prog 48 #[.slice x1a x1n x1c, .int .i64 0, .int .i64 ((x1n : Nat) : Int), .int .i64 t4] w3 (fun v5 w6 =>
      v5 = .tuple #[] ∧ R (.returned (.tuple #[])) w6) (fun ch w => R (.panicked ch) w)) (fun ch w => R (.panicked ch) w)) :
    Calls Try.prog 43 #[.slice x1a x1n x1c] w R :=
  D_calls A_slices_Sort_int_int mixed Try.func43 rfl (Nat.le_of_ble_eq_true (by kernel_rfl)) (by kernel_rfl) (Eq.mp (by kernel_rfl) h)
/-- quayside/quaysideref04.Get -/
abbrev F_ref04_Get : Nat := 45
def A_ref04_Get : Ann := ⟨[], [], []⟩
theorem L_ref04_Get {v1a : Option Addr} {v1n : Nat} {v1c : Nat} {origin2 : Int} {w : World} {R : Ending → World → Prop}
    (h : PIf (decide ((origin2 : Int) ≥ 0)) (PIf (decide ((origin2 : Int) < ((v1n : Nat) : Int))) ((∃ b3 o4, v1a = some ⟨b3, o4, none⟩ ∧ (0 : Int) ≤ origin2 ∧ origin2 < ((v1n : Nat) : Int) ∧
      (∃ (t5 : Int), w.cell? ⟨b3, o4 + Int.toNat origin2, none⟩ = some (.int .i64 t5) ∧ PIf (decide ((t5 : Int) > 0)) ((∃ b6 o7, v1a = some ⟨b6, o7, none⟩ ∧
      (0 : Int) ≤ origin2 ∧ origin2 < ((v1n : Nat) : Int) ∧ (∃ (t8 : Int), w.cell? ⟨b6, o7 + Int.toNat origin2, none⟩ = some (.int .i64 t8) ∧ R (.returned (.int .i64 t8)) w))) (R (.returned (.int .i64 0)) w)))) (R (.returned (.int .i64 0)) w)) (R (.returned (.int .i64 0)) w)) :
    Calls Try.prog 45 #[.slice v1a v1n v1c, .int .i64 origin2] w R :=
  D_calls A_ref04_Get mixed Try.func45 rfl (Nat.le_of_ble_eq_true (by kernel_rfl)) (by kernel_rfl) (Eq.mp (by kernel_rfl) h)
/-- quayside/quaysideref04.covers -/
abbrev F_ref04_covers : Nat := 46
def A_ref04_covers : Ann := ⟨[(2, [(5, .int .i64 0)])], [], []⟩
theorem L_ref04_covers {a1a : Option Addr} {a1n : Nat} {a1c : Nat} {b2a : Option Addr} {b2n : Nat} {b2c : Nat} {w : World} {R : Ending → World → Prop}
    (h : (∃ I3 : Nat → Int → World → Prop, (∃ m4, I3 m4 0 w) ∧ ∀ (m4 : Nat) (i6 : Int) (B7 : Nat → Value) (w8 : World), I3 m4 i6 w8 → PIf (decide ((i6 : Int) < ((b2n : Nat) : Int))) (PC Try.prog 45 #[.slice b2a b2n b2c, .int .i64 i6] w8 (fun v9 w10 =>
      ∃ (t11 : Int), v9 = .int .i64 t11 ∧ PC Try.prog 45 #[.slice a1a a1n a1c, .int .i64 i6] w10 (fun v12 w13 => ∃ (t14 : Int), v12 = .int .i64 t14 ∧ PIf (decide ((t11 : Int) > t14)) (R (.returned (.bool false)) w13) ((∃ m5, m5 < m4 ∧
      I3 m5 (IntKind.wrap .i64 (i6 + 1)) w13))) (fun ch w => R (.panicked ch) w)) (fun ch w => R (.panicked ch) w)) (R (.returned (.bool true)) w8))) :
    Calls Try.prog 46 #[.slice a1a a1n a1c, .slice b2a b2n b2c] w R :=
  D_calls A_ref04_covers mixed Try.func46 rfl (Nat.le_of_ble_eq_true (by kernel_rfl)) (by kernel_rfl) (Eq.mp (by kernel_rfl) h)
end Go.Proofs.Ytnfcddhabhbicaa
