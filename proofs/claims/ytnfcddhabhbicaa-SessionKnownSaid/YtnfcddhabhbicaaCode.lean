import Derived.Test.YtnfcddhabhbicaaLift
import Derived.Test.YtnfcddhabhbicaaRows
import Derived.KernelRfl
namespace Go.Proofs.Ytnfcddhabhbicaa
open Go.Lift
set_option maxRecDepth 100000
set_option linter.unusedVariables false
theorem mixed : Try.prog.follows .mixedOrders = true := by kernel_rfl
/-- quayside/quaysidelaw26.SessionEnds -/
abbrev F_law26_SessionEnds : Nat := 3
def A_law26_SessionEnds : Ann := ⟨[(10, [(10, .slice none 0 0), (11, .bool false), (12, .int .i64 0)])], [(17, [(14, .bool false)]), (19, []), (20, [(11, .bool false)])], [], []⟩
theorem L_law26_SessionEnds {peer1 : Int} {retry2 : Int} {heard3a : Option Addr} {heard3n : Nat} {heard3c : Nat} {want4a : Option Addr} {want4n : Nat} {want4c : Nat} {w : World} {R : Ending → World → Prop}
    (h : PIf (decide ((((heard3n : Nat) : Int) : Int) > 100)) (PC Try.prog 9 #[] w (fun v5 w6 => ∃ (t7 : Bool), v5 = .bool t7 ∧ R (.returned (.bool t7)) w6) (fun ch w =>
      R (.panicked ch) w)) (PIf (decide ((((want4n : Nat) : Int) : Int) > 100)) (PC Try.prog 9 #[] w (fun v8 w9 => ∃ (t10 : Bool), v8 = .bool t10 ∧ R (.returned (.bool t10)) w9) (fun ch w =>
      R (.panicked ch) w)) (PC Try.prog 10 #[.int .i64 retry2] w (fun v11 w12 => ∃ (t13 : Option Addr), v11 = .pointer t13 ∧ PRun Try.prog (do eqGuard .eql 25 (.tmp 26) (.const (.pointer none)) (.pointer t13) (.pointer none); binOp .eql 25 (.pointer t13) (.pointer none)) w12 (fun v14 w15 =>
      ∃ (t16 : Bool), v14 = .bool t16 ∧ PIf t16 (R (.returned (.bool false)) w15) (PC Try.prog 11 #[.pointer t13, .int .i64 peer1, .int .i64 0] w15 (fun v17 w18 =>
      v17 = .tuple #[] ∧ (∃ I19 : Nat → Option Addr → Nat → Nat → Bool → Int → World → Prop, (∃ m20, I19 m20 none 0 0 true 0 w18) ∧ ∀ (m20 : Nat) (all22a : Option Addr) (all22n : Nat) (all22c : Nat) (open23 : Bool) (i24 : Int) (B25 : Nat → Value) (w26 : World), I19 m20 all22a all22n all22c open23 i24 w26 → PIf (decide ((i24 : Int) < ((heard3n : Nat) : Int))) ((∃ b27 o28, heard3a = some ⟨b27, o28, none⟩ ∧
      (0 : Int) ≤ i24 ∧ i24 < ((heard3n : Nat) : Int) ∧ (∃ (t29a : Option Addr) (t29n : Nat) (t29c : Nat), w26.cell? ⟨b27, o28 + Int.toNat i24, none⟩ = some (.slice t29a t29n t29c) ∧
      PIf (decide ((((t29n : Nat) : Int) : Int) > 100)) (PC Try.prog 9 #[] w26 (fun v30 w31 => ∃ (t32 : Bool), v30 = .bool t32 ∧ R (.returned (.bool t32)) w31) (fun ch w =>
      R (.panicked ch) w)) ((∃ b33 o34, heard3a = some ⟨b33, o34, none⟩ ∧ (0 : Int) ≤ i24 ∧ i24 < ((heard3n : Nat) : Int) ∧ (∃ (t35a : Option Addr) (t35n : Nat) (t35c : Nat), w26.cell? ⟨b33, o34 + Int.toNat i24, none⟩ = some (.slice t35a t35n t35c) ∧
      PC Try.prog 12 #[.slice all22a all22n all22c, .slice t35a t35n t35c] w26 (fun v36 w37 => ∃ (t38a : Option Addr) (t38n : Nat) (t38c : Nat), v36 = .slice t38a t38n t38c ∧
      PC Try.prog 13 #[.slice t38a t38n t38c, .slice want4a want4n want4c] w37 (fun v39 w40 => ∃ (t41 : Int), v39 = .int .i64 t41 ∧ (∃ J42 : Bool → World → Prop, (PIf ((t41 : Int) == 0) (J42 true w40) (J42 ((t41 : Int) == 2) w40)) ∧
      ∀ (covers43 : Bool) (B44 : Nat → Value) (w45 : World), J42 covers43 w45 → (∃ J46 : World → Prop, ((∃ b47 o48, heard3a = some ⟨b47, o48, none⟩ ∧ (0 : Int) ≤ i24 ∧
      i24 < ((heard3n : Nat) : Int) ∧ (∃ (t49a : Option Addr) (t49n : Nat) (t49c : Nat), w45.cell? ⟨b47, o48 + Int.toNat i24, none⟩ = some (.slice t49a t49n t49c) ∧
      PC Try.prog 14 #[.pointer t13, .int .i64 peer1, .slice t49a t49n t49c, .slice want4a want4n want4c] w45 (fun v50 w51 => ∃ (t52 : Bool), v50 = .bool t52 ∧
      PIf open23 (PIf (!(t52 == covers43)) (R (.returned (.bool false)) w51) (PC Try.prog 15 #[.pointer t13, .int .i64 peer1] w51 (fun v53 w54 => ∃ (t55a : Option Addr) (t55n : Nat) (t55c : Nat), v53 = .slice t55a t55n t55c ∧
      PC Try.prog 13 #[.slice t55a t55n t55c, .slice t38a t38n t38c] w54 (fun v56 w57 => ∃ (t58 : Int), v56 = .int .i64 t58 ∧ PIf ((t58 : Int) != 0) (R (.returned (.bool false)) w57) (J46  w57)) (fun ch w =>
      R (.panicked ch) w)) (fun ch w => R (.panicked ch) w))) (PIf (!(t52 == false)) (R (.returned (.bool false)) w51) (PC Try.prog 15 #[.pointer t13, .int .i64 peer1] w51 (fun v59 w60 =>
      ∃ (t61a : Option Addr) (t61n : Nat) (t61c : Nat), v59 = .slice t61a t61n t61c ∧ PC Try.prog 13 #[.slice t61a t61n t61c, .slice t38a t38n t38c] w60 (fun v62 w63 =>
      ∃ (t64 : Int), v62 = .int .i64 t64 ∧ PIf ((t64 : Int) != 0) (R (.returned (.bool false)) w63) (J46  w63)) (fun ch w => R (.panicked ch) w)) (fun ch w =>
      R (.panicked ch) w)))) (fun ch w => R (.panicked ch) w)))) ∧ ∀  (B65 : Nat → Value) (w66 : World), J46  w66 → (∃ J67 : Bool → World → Prop, (PIf open23 (J67 (!covers43) w66) (J67 false w66)) ∧
      ∀ (open68 : Bool) (B69 : Nat → Value) (w70 : World), J67 open68 w70 → PC Try.prog 16 #[.pointer t13] w70 (fun v71 w72 => ∃ (t73a : Option Addr) (t73n : Nat) (t73c : Nat), v71 = .slice t73a t73n t73c ∧
      PIf (!(((((t73n : Nat) : Int) : Int) == 1) == open68)) (R (.returned (.bool false)) w72) (PIf (!open68) (PC Try.prog 17 #[.pointer t13, .int .i64 2305843009213693952] w72 (fun v74 w75 =>
      ∃ (t76a : Option Addr) (t76n : Nat) (t76c : Nat), v74 = .slice t76a t76n t76c ∧ PIf ((((t76n : Nat) : Int) : Int) != 0) (R (.returned (.bool false)) w75) ((∃ m21, m21 < m20 ∧
      I19 m21 t38a t38n t38c open68 (IntKind.wrap .i64 (i24 + 1)) w75))) (fun ch w => R (.panicked ch) w)) ((∃ m21, m21 < m20 ∧ I19 m21 t38a t38n t38c open68 (IntKind.wrap .i64 (i24 + 1)) w72)))) (fun ch w =>
      R (.panicked ch) w))))) (fun ch w => R (.panicked ch) w)) (fun ch w => R (.panicked ch) w))))))) (PC Try.prog 11 #[.pointer t13, .int .i64 peer1, .int .i64 2305843009213693952] w26 (fun v77 w78 =>
      v77 = .tuple #[] ∧ PC Try.prog 16 #[.pointer t13] w78 (fun v79 w80 => ∃ (t81a : Option Addr) (t81n : Nat) (t81c : Nat), v79 = .slice t81a t81n t81c ∧ PA w80 (.cells #[.int .i64 peer1] 3) fun w82 =>
      PC Try.prog 18 #[.slice t81a t81n t81c, .slice (some ⟨w80.heap.size, 0, none⟩) 1 1] w82 (fun v83 w84 => ∃ (t85 : Bool), v83 = .bool t85 ∧ PIf t85 (PC Try.prog 17 #[.pointer t13, .int .i64 4611686018427387904] w84 (fun v86 w87 =>
      ∃ (t88a : Option Addr) (t88n : Nat) (t88c : Nat), v86 = .slice t88a t88n t88c ∧ PA w87 (.cells #[.int .i64 peer1] 3) fun w89 => PC Try.prog 18 #[.slice t88a t88n t88c, .slice (some ⟨w87.heap.size, 0, none⟩) 1 1] w89 (fun v90 w91 =>
      ∃ (t92 : Bool), v90 = .bool t92 ∧ PIf (t92 == (decide ((2305843009213693952 : Int) ≥ retry2))) (PC Try.prog 9 #[] w91 (fun v93 w94 => ∃ (t95 : Bool), v93 = .bool t95 ∧
      R (.returned (.bool t95)) w94) (fun ch w => R (.panicked ch) w)) (R (.returned (.bool false)) w91)) (fun ch w => R (.panicked ch) w)) (fun ch w => R (.panicked ch) w)) (R (.returned (.bool false)) w84)) (fun ch w =>
      R (.panicked ch) w)) (fun ch w => R (.panicked ch) w)) (fun ch w => R (.panicked ch) w)))) (fun ch w => R (.panicked ch) w))) (fun pv w => R (.panicked [{ v := pv, recovered := false }]) w)) (fun ch w =>
      R (.panicked ch) w)))) :
    Calls Try.prog 3 #[.int .i64 peer1, .int .i64 retry2, .slice heard3a heard3n heard3c, .slice want4a want4n want4c] w R :=
  D_calls A_law26_SessionEnds mixed Try.func3 rfl (Nat.le_of_ble_eq_true (by kernel_rfl)) (by kernel_rfl) (Eq.mp (by kernel_rfl) h)
/-- quayside/quaysidelaw26.SessionDue -/
abbrev F_law26_SessionDue : Nat := 4
def A_law26_SessionDue : Ann := ⟨[(8, [(8, .int .i64 0)]), (11, [(9, .int .i64 0)]), (17, [(10, .slice none 0 0), (11, .int .i64 0)])], [], [], []⟩
theorem L_law26_SessionDue {retry1 : Int} {starts2a : Option Addr} {starts2n : Nat} {starts2c : Nat} {ticks3 : Int} {w : World} {R : Ending → World → Prop}
    (h : PIf (decide ((retry1 : Int) < 1)) (PC Try.prog 9 #[] w (fun v4 w5 => ∃ (t6 : Bool), v4 = .bool t6 ∧ R (.returned (.bool t6)) w5) (fun ch w => R (.panicked ch) w)) (PIf (decide ((retry1 : Int) > 50)) (PC Try.prog 9 #[] w (fun v7 w8 =>
      ∃ (t9 : Bool), v7 = .bool t9 ∧ R (.returned (.bool t9)) w8) (fun ch w => R (.panicked ch) w)) (PIf (decide ((((starts2n : Nat) : Int) : Int) > 20)) (PC Try.prog 9 #[] w (fun v10 w11 =>
      ∃ (t12 : Bool), v10 = .bool t12 ∧ R (.returned (.bool t12)) w11) (fun ch w => R (.panicked ch) w)) (PC Try.prog 19 #[.int .i64 ticks3, .int .i64 201] w (fun v13 w14 =>
      ∃ (t15 : Int), v13 = .int .i64 t15 ∧ PC Try.prog 10 #[.int .i64 retry1] w14 (fun v16 w17 => ∃ (t18 : Option Addr), v16 = .pointer t18 ∧ PRun Try.prog (do eqGuard .eql 25 (.tmp 29) (.const (.pointer none)) (.pointer t18) (.pointer none); binOp .eql 25 (.pointer t18) (.pointer none)) w17 (fun v19 w20 =>
      ∃ (t21 : Bool), v19 = .bool t21 ∧ PIf t21 (R (.returned (.bool false)) w20) ((∃ I22 : Nat → Int → World → Prop, (∃ m23, I22 m23 0 w20) ∧ ∀ (m23 : Nat) (now25 : Int) (B26 : Nat → Value) (w27 : World), I22 m23 now25 w27 → PIf (decide ((now25 : Int) < t15)) ((∃ I28 : Nat → Int → World → Prop, (∃ m29, I28 m29 0 w27) ∧
      ∀ (m29 : Nat) (p31 : Int) (B32 : Nat → Value) (w33 : World), I28 m29 p31 w33 → PIf (decide ((p31 : Int) < ((starts2n : Nat) : Int))) ((∃ b34 o35, starts2a = some ⟨b34, o35, none⟩ ∧
      (0 : Int) ≤ p31 ∧ p31 < ((starts2n : Nat) : Int) ∧ (∃ (t36 : Int), w33.cell? ⟨b34, o35 + Int.toNat p31, none⟩ = some (.int .i64 t36) ∧ PC Try.prog 19 #[.int .i64 t36, .int .i64 100] w33 (fun v37 w38 =>
      ∃ (t39 : Int), v37 = .int .i64 t39 ∧ PIf ((t39 : Int) == now25) (PC Try.prog 11 #[.pointer t18, .int .i64 p31, .int .i64 now25] w38 (fun v40 w41 => v40 = .tuple #[] ∧
      (∃ m30, m30 < m29 ∧ I28 m30 (IntKind.wrap .i64 (p31 + 1)) w41)) (fun ch w => R (.panicked ch) w)) ((∃ m30, m30 < m29 ∧ I28 m30 (IntKind.wrap .i64 (p31 + 1)) w38))) (fun ch w =>
      R (.panicked ch) w)))) ((∃ I42 : Nat → Option Addr → Nat → Nat → Int → World → Prop, (∃ m43, I42 m43 none 0 0 0 w33) ∧ ∀ (m43 : Nat) (want45a : Option Addr) (want45n : Nat) (want45c : Nat) (p46 : Int) (B47 : Nat → Value) (w48 : World), I42 m43 want45a want45n want45c p46 w48 → PIf (decide ((p46 : Int) < ((starts2n : Nat) : Int))) ((∃ b49 o50, starts2a = some ⟨b49, o50, none⟩ ∧
      (0 : Int) ≤ p46 ∧ p46 < ((starts2n : Nat) : Int) ∧ (∃ (t51 : Int), w48.cell? ⟨b49, o50 + Int.toNat p46, none⟩ = some (.int .i64 t51) ∧ PC Try.prog 19 #[.int .i64 t51, .int .i64 100] w48 (fun v52 w53 =>
      ∃ (t54 : Int), v52 = .int .i64 t54 ∧ PIf (decide (((IntKind.wrap .i64 (now25 - t54)) : Int) > 0)) (PRun Try.prog (do eqGuard .rem 3 (.tmp 69) (.tmp 70) (.int .i64 (IntKind.wrap .i64 (now25 - t54))) (.int .i64 retry1); binOp .rem 3 (.int .i64 (IntKind.wrap .i64 (now25 - t54))) (.int .i64 retry1)) w53 (fun v55 w56 =>
      ∃ (t57 : Int), v55 = .int .i64 t57 ∧ PIf ((t57 : Int) == 0) (PA w56 (.cells #[.int .i64 p46] 3) fun w58 => PRun Try.prog (Builtin.append_ #[23, 23] 23 #[.slice want45a want45n want45c, .slice (some ⟨w56.heap.size, 0, none⟩) 1 1]) w58 (fun v59 w60 =>
      ∃ (t61a : Option Addr) (t61n : Nat) (t61c : Nat), v59 = .slice t61a t61n t61c ∧ (∃ m44, m44 < m43 ∧ I42 m44 t61a t61n t61c (IntKind.wrap .i64 (p46 + 1)) w60)) (fun pv w =>
      R (.panicked [{ v := pv, recovered := false }]) w)) ((∃ m44, m44 < m43 ∧ I42 m44 want45a want45n want45c (IntKind.wrap .i64 (p46 + 1)) w56))) (fun pv w =>
      R (.panicked [{ v := pv, recovered := false }]) w)) ((∃ m44, m44 < m43 ∧ I42 m44 want45a want45n want45c (IntKind.wrap .i64 (p46 + 1)) w53))) (fun ch w =>
      R (.panicked ch) w)))) (PC Try.prog 17 #[.pointer t18, .int .i64 now25] w48 (fun v62 w63 => ∃ (t64a : Option Addr) (t64n : Nat) (t64c : Nat), v62 = .slice t64a t64n t64c ∧
      PC Try.prog 18 #[.slice t64a t64n t64c, .slice want45a want45n want45c] w63 (fun v65 w66 => ∃ (t67 : Bool), v65 = .bool t67 ∧ PIf (!t67) (R (.returned (.bool false)) w66) ((∃ m24, m24 < m23 ∧
      I22 m24 (IntKind.wrap .i64 (now25 + 1)) w66))) (fun ch w => R (.panicked ch) w)) (fun ch w => R (.panicked ch) w)))))) (PC Try.prog 9 #[] w27 (fun v68 w69 =>
      ∃ (t70 : Bool), v68 = .bool t70 ∧ R (.returned (.bool t70)) w69) (fun ch w => R (.panicked ch) w))))) (fun pv w => R (.panicked [{ v := pv, recovered := false }]) w)) (fun ch w =>
      R (.panicked ch) w)) (fun ch w => R (.panicked ch) w))))) :
    Calls Try.prog 4 #[.int .i64 retry1, .slice starts2a starts2n starts2c, .int .i64 ticks3] w R :=
  D_calls A_law26_SessionDue mixed Try.func4 rfl (Nat.le_of_ble_eq_true (by kernel_rfl)) (by kernel_rfl) (Eq.mp (by kernel_rfl) h)
/-- quayside/quaysidelaw26.SessionAnew -/
abbrev F_law26_SessionAnew : Nat := 5
def A_law26_SessionAnew : Ann := ⟨[(8, [(11, .int .i64 0)])], [(22, [(12, .bool false)]), (23, [(13, .bool false)])], [], [(14, ⟨[0, 0, 0, 0, 12, 16, 32, 0, 0, 384, 512, 1024, 2115], [8191, 8191, 8191, 8191, 8179, 8175, 8159, 8191, 8191, 7807, 7679, 7167, 6076], [0, 0, 0, 0, 0, 0, 1, 0, 0, 0, 0, 1, 2]⟩)]⟩
theorem L_law26_SessionAnew {retry1 : Int} {peer2 : Int} {now3 : Int} {l4a : Option Addr} {l4n : Nat} {l4c : Nat} {w : World} {R : Ending → World → Prop}
    (h : PC Try.prog 20 #[.slice l4a l4n l4c] w (fun v5 w6 => ∃ (t7 : Bool), v5 = .bool t7 ∧ PIf t7 (PC Try.prog 9 #[] w6 (fun v8 w9 => ∃ (t10 : Bool), v8 = .bool t10 ∧
      R (.returned (.bool t10)) w9) (fun ch w => R (.panicked ch) w)) (PIf (decide ((retry1 : Int) < 1)) (PC Try.prog 9 #[] w6 (fun v11 w12 => ∃ (t13 : Bool), v11 = .bool t13 ∧
      R (.returned (.bool t13)) w12) (fun ch w => R (.panicked ch) w)) (PIf (decide ((retry1 : Int) > 1000)) (PC Try.prog 9 #[] w6 (fun v14 w15 => ∃ (t16 : Bool), v14 = .bool t16 ∧
      R (.returned (.bool t16)) w15) (fun ch w => R (.panicked ch) w)) (PC Try.prog 10 #[.int .i64 retry1] w6 (fun v17 w18 => ∃ (t19 : Option Addr), v17 = .pointer t19 ∧
      PC Try.prog 10 #[.int .i64 retry1] w18 (fun v20 w21 => ∃ (t22 : Option Addr), v20 = .pointer t22 ∧ PRun Try.prog (do eqGuard .eql 25 (.tmp 31) (.const (.pointer none)) (.pointer t19) (.pointer none); binOp .eql 25 (.pointer t19) (.pointer none)) w21 (fun v23 w24 =>
      ∃ (t25 : Bool), v23 = .bool t25 ∧ PIf t25 (R (.returned (.bool false)) w24) (PRun Try.prog (do eqGuard .eql 25 (.tmp 34) (.const (.pointer none)) (.pointer t22) (.pointer none); binOp .eql 25 (.pointer t22) (.pointer none)) w24 (fun v26 w27 =>
      ∃ (t28 : Bool), v26 = .bool t28 ∧ PIf t28 (R (.returned (.bool false)) w27) ((∃ I29 : Nat → Int → World → Prop, (∃ m30, I29 m30 0 w27) ∧ ∀ (m30 : Nat) (i32 : Int) (B33 : Nat → Value) (w34 : World), I29 m30 i32 w34 → PIf (decide ((i32 : Int) < ((l4n : Nat) : Int))) ((∃ b35 o36, l4a = some ⟨b35, o36, none⟩ ∧
      (0 : Int) ≤ i32 ∧ i32 < ((l4n : Nat) : Int) ∧ (∃ (t37 : Int), w34.cell? ⟨b35, o36 + Int.toNat i32 * 5, none⟩ = some (.int .i64 t37) ∧ PIf ((t37 : Int) == 0) ((∃ b38 o39, l4a = some ⟨b38, o39, none⟩ ∧
      (0 : Int) ≤ i32 ∧ i32 < ((l4n : Nat) : Int) ∧ (∃ (t40 : Int), w34.cell? ⟨b38, o39 + Int.toNat i32 * 5 + 2, none⟩ = some (.int .i64 t40) ∧ PC Try.prog 21 #[.int .i64 t40] w34 (fun v41 w42 =>
      ∃ (t43 : Int), v41 = .int .i64 t43 ∧ PC Try.prog 11 #[.pointer t19, .int .i64 peer2, .int .i64 t43] w42 (fun v44 w45 => v44 = .tuple #[] ∧ (∃ m31, m31 < m30 ∧
      I29 m31 (IntKind.wrap .i64 (i32 + 1)) w45)) (fun ch w => R (.panicked ch) w)) (fun ch w => R (.panicked ch) w)))) (PIf ((t37 : Int) == 1) ((∀ w47, Drew w34 w47 → (∃ b48 o49, l4a = some ⟨b48, o49, none⟩ ∧
      (0 : Int) ≤ i32 ∧ i32 < ((l4n : Nat) : Int) ∧ (∃ (t50a : Option Addr) (t50n : Nat) (t50c : Nat), w47.cell? ⟨b48, o49 + Int.toNat i32 * 5 + 3, none⟩ = some (.slice t50a t50n t50c) ∧
      (∃ b51 o52, l4a = some ⟨b51, o52, none⟩ ∧ (0 : Int) ≤ i32 ∧ i32 < ((l4n : Nat) : Int) ∧ (∃ (t53a : Option Addr) (t53n : Nat) (t53c : Nat), w47.cell? ⟨b51, o52 + Int.toNat i32 * 5 + 4, none⟩ = some (.slice t53a t53n t53c) ∧
      PC Try.prog 14 #[.pointer t19, .int .i64 peer2, .slice t50a t50n t50c, .slice t53a t53n t53c] w47 (fun v54 w55 => ∃ (t56 : Bool), v54 = .bool t56 ∧ (∃ m31, m31 < m30 ∧
      I29 m31 (IntKind.wrap .i64 (i32 + 1)) w55)) (fun ch w => False))))))) (PIf ((t37 : Int) == 2) ((∃ b57 o58, l4a = some ⟨b57, o58, none⟩ ∧ (0 : Int) ≤ i32 ∧
      i32 < ((l4n : Nat) : Int) ∧ (∃ (t59 : Int), w34.cell? ⟨b57, o58 + Int.toNat i32 * 5 + 2, none⟩ = some (.int .i64 t59) ∧ PC Try.prog 21 #[.int .i64 t59] w34 (fun v60 w61 =>
      ∃ (t62 : Int), v60 = .int .i64 t62 ∧ PC Try.prog 17 #[.pointer t19, .int .i64 t62] w61 (fun v63 w64 => ∃ (t65a : Option Addr) (t65n : Nat) (t65c : Nat), v63 = .slice t65a t65n t65c ∧
      (∃ m31, m31 < m30 ∧ I29 m31 (IntKind.wrap .i64 (i32 + 1)) w64)) (fun ch w => R (.panicked ch) w)) (fun ch w => R (.panicked ch) w)))) ((∃ m31, m31 < m30 ∧
      I29 m31 (IntKind.wrap .i64 (i32 + 1)) w34))))))) (PC Try.prog 15 #[.pointer t19, .int .i64 peer2] w34 (fun v66 w67 => ∃ (t68a : Option Addr) (t68n : Nat) (t68c : Nat), v66 = .slice t68a t68n t68c ∧
      PA w67 (.cells #[.int .i64 1] 3) fun w69 => PC Try.prog 14 #[.pointer t22, .int .i64 peer2, .slice t68a t68n t68c, .slice (some ⟨w67.heap.size, 0, none⟩) 1 1] w69 (fun v70 w71 =>
      ∃ (t72 : Bool), v70 = .bool t72 ∧ PC Try.prog 21 #[.int .i64 now3] w71 (fun v73 w74 => ∃ (t75 : Int), v73 = .int .i64 t75 ∧ PC Try.prog 11 #[.pointer t19, .int .i64 peer2, .int .i64 (IntKind.wrap .i64 (Int.tdiv t75 4))] w74 (fun v76 w77 =>
      v76 = .tuple #[] ∧ PC Try.prog 11 #[.pointer t22, .int .i64 peer2, .int .i64 (IntKind.wrap .i64 (Int.tdiv t75 4))] w77 (fun v78 w79 => v78 = .tuple #[] ∧
      (∃ J80 : Bool → World → Prop, (PC Try.prog 17 #[.pointer t19, .int .i64 (IntKind.wrap .i64 ((IntKind.wrap .i64 ((IntKind.wrap .i64 (Int.tdiv t75 4)) + retry1)) - 1))] w79 (fun v81 w82 =>
      ∃ (t83a : Option Addr) (t83n : Nat) (t83c : Nat), v81 = .slice t83a t83n t83c ∧ PIf ((((t83n : Nat) : Int) : Int) == 0) (PC Try.prog 17 #[.pointer t22, .int .i64 (IntKind.wrap .i64 ((IntKind.wrap .i64 ((IntKind.wrap .i64 (Int.tdiv t75 4)) + retry1)) - 1))] w82 (fun v84 w85 =>
      ∃ (t86a : Option Addr) (t86n : Nat) (t86c : Nat), v84 = .slice t86a t86n t86c ∧ J80 ((((t86n : Nat) : Int) : Int) == 0) w85) (fun ch w => R (.panicked ch) w)) (J80 false w82)) (fun ch w =>
      R (.panicked ch) w)) ∧ ∀ (early87 : Bool) (B88 : Nat → Value) (w89 : World), J80 early87 w89 → (∃ J90 : Bool → World → Prop, (PC Try.prog 17 #[.pointer t19, .int .i64 (IntKind.wrap .i64 ((IntKind.wrap .i64 (Int.tdiv t75 4)) + retry1))] w89 (fun v91 w92 =>
      ∃ (t93a : Option Addr) (t93n : Nat) (t93c : Nat), v91 = .slice t93a t93n t93c ∧ PA w92 (.cells #[.int .i64 peer2] 3) fun w94 => PC Try.prog 18 #[.slice t93a t93n t93c, .slice (some ⟨w92.heap.size, 0, none⟩) 1 1] w94 (fun v95 w96 =>
      ∃ (t97 : Bool), v95 = .bool t97 ∧ PIf t97 (PC Try.prog 17 #[.pointer t22, .int .i64 (IntKind.wrap .i64 ((IntKind.wrap .i64 (Int.tdiv t75 4)) + retry1))] w96 (fun v98 w99 =>
      ∃ (t100a : Option Addr) (t100n : Nat) (t100c : Nat), v98 = .slice t100a t100n t100c ∧ PA w99 (.cells #[.int .i64 peer2] 3) fun w101 => PC Try.prog 18 #[.slice t100a t100n t100c, .slice (some ⟨w99.heap.size, 0, none⟩) 1 1] w101 (fun v102 w103 =>
      ∃ (t104 : Bool), v102 = .bool t104 ∧ J90 t104 w103) (fun ch w => R (.panicked ch) w)) (fun ch w => R (.panicked ch) w)) (J90 false w96)) (fun ch w => R (.panicked ch) w)) (fun ch w =>
      R (.panicked ch) w)) ∧ ∀ (late105 : Bool) (B106 : Nat → Value) (w107 : World), J90 late105 w107 → PC Try.prog 15 #[.pointer t19, .int .i64 peer2] w107 (fun v108 w109 =>
      ∃ (t110a : Option Addr) (t110n : Nat) (t110c : Nat), v108 = .slice t110a t110n t110c ∧ PC Try.prog 14 #[.pointer t19, .int .i64 peer2, .slice none 0 0, .slice t110a t110n t110c] w109 (fun v111 w112 =>
      ∃ (t113 : Bool), v111 = .bool t113 ∧ PC Try.prog 15 #[.pointer t22, .int .i64 peer2] w112 (fun v114 w115 => ∃ (t116a : Option Addr) (t116n : Nat) (t116c : Nat), v114 = .slice t116a t116n t116c ∧
      PC Try.prog 14 #[.pointer t22, .int .i64 peer2, .slice none 0 0, .slice t116a t116n t116c] w115 (fun v117 w118 => ∃ (t119 : Bool), v117 = .bool t119 ∧
      PIf early87 (PIf late105 (PIf t113 (PIf t119 (PC Try.prog 16 #[.pointer t19] w118 (fun v120 w121 => ∃ (t122a : Option Addr) (t122n : Nat) (t122c : Nat), v120 = .slice t122a t122n t122c ∧
      PIf ((((t122n : Nat) : Int) : Int) == 0) (PC Try.prog 9 #[] w121 (fun v123 w124 => ∃ (t125 : Bool), v123 = .bool t125 ∧ R (.returned (.bool t125)) w124) (fun ch w =>
      R (.panicked ch) w)) (R (.returned (.bool false)) w121)) (fun ch w => R (.panicked ch) w)) (R (.returned (.bool false)) w118)) (R (.returned (.bool false)) w118)) (R (.returned (.bool false)) w118)) (R (.returned (.bool false)) w118)) (fun ch w =>
      R (.panicked ch) w)) (fun ch w => R (.panicked ch) w)) (fun ch w => R (.panicked ch) w)) (fun ch w => R (.panicked ch) w)))) (fun ch w => R (.panicked ch) w)) (fun ch w =>
      R (.panicked ch) w)) (fun ch w => R (.panicked ch) w)) (fun ch w => R (.panicked ch) w)) (fun ch w => R (.panicked ch) w))))) (fun pv w => R (.panicked [{ v := pv, recovered := false }]) w))) (fun pv w =>
      R (.panicked [{ v := pv, recovered := false }]) w)) (fun ch w => R (.panicked ch) w)) (fun ch w => R (.panicked ch) w))))) (fun ch w => R (.panicked ch) w)) :
    Calls Try.prog 5 #[.int .i64 retry1, .int .i64 peer2, .int .i64 now3, .slice l4a l4n l4c] w R :=
  D_calls A_law26_SessionAnew mixed Try.func5 rfl (Nat.le_of_ble_eq_true (by kernel_rfl)) (by kernel_rfl) (Eq.mp (by kernel_rfl) h)
/-- quayside/quaysidelaw26.SessionRuns -/
abbrev F_law26_SessionRuns : Nat := 6
def A_law26_SessionRuns : Ann := ⟨[(8, [(7, .int .i64 0)])], [(29, [(9, .bool false)])], [14, 15, 19], [(19, ⟨[0, 0, 2, 0, 0, 16, 32, 72, 0, 0, 512, 1024, 2304, 4229, 0, 0, 32768, 0, 131072, 0, 524288, 1400832, 2105344, 6291456, 8388608, 8388608, 41943040, 92274688, 142606336, 402653184, 536870912, 536870912, 2684354560, 5905580032, 9126805504, 34359738367], [68719476735, 68719476735, 68719476733, 68719476735, 68719476735, 68719476719, 68719476703, 68719476663, 68719476735, 68719476735, 68719476223, 68719475711, 68719474431, 68719472506, 68719476735, 68719476735, 68719443967, 68719476735, 68719345663, 68719476735, 68718952447, 68718084095, 68717371391, 68715282431, 68711088127, 68711088127, 68677533695, 68627202047, 68576870399, 68451041279, 68182605823, 68182605823, 66035122175, 62813896703, 59592671231, 51539607551], [0, 0, 1, 0, 0, 1, 0, 0, 0, 0, 1, 0, 0, 2, 0, 0, 1, 0, 1, 0, 1, 2, 0, 0, 0, 0, 1, 2, 0, 0, 0, 0, 1, 2, 0, 0]⟩)]⟩
theorem L_law26_SessionRuns {retry1 : Int} {l2a : Option Addr} {l2n : Nat} {l2c : Nat} {w : World} {R : Ending → World → Prop}
    (h : PC Try.prog 20 #[.slice l2a l2n l2c] w (fun v3 w4 => ∃ (t5 : Bool), v3 = .bool t5 ∧ PIf t5 (PC Try.prog 9 #[] w4 (fun v6 w7 => ∃ (t8 : Bool), v6 = .bool t8 ∧
      R (.returned (.bool t8)) w7) (fun ch w => R (.panicked ch) w)) (PC Try.prog 10 #[.int .i64 retry1] w4 (fun v9 w10 => ∃ (t11 : Option Addr), v9 = .pointer t11 ∧
      PC Try.prog 22 #[.int .i64 retry1] w10 (fun v12 w13 => ∃ (t14 : Option Addr), v12 = .pointer t14 ∧ PRun Try.prog (do eqGuard .eql 25 (.tmp 22) (.const (.pointer none)) (.pointer t11) (.pointer none); binOp .eql 25 (.pointer t11) (.pointer none)) w13 (fun v15 w16 =>
      ∃ (t17 : Bool), v15 = .bool t17 ∧ PIf t17 (R (.returned (.bool false)) w16) ((∃ I18 : Nat → Int → World → Prop, (∃ m19, I18 m19 0 w16) ∧ ∀ (m19 : Nat) (i21 : Int) (B22 : Nat → Value) (w23 : World), I18 m19 i21 w23 → PIf (decide ((i21 : Int) < ((l2n : Nat) : Int))) ((∃ b24 o25, l2a = some ⟨b24, o25, none⟩ ∧
      (0 : Int) ≤ i21 ∧ i21 < ((l2n : Nat) : Int) ∧ (∃ (t26 : Int), ∃ (t27 : Int), ∃ (t28 : Int), ∃ (t29a : Option Addr) (t29n : Nat) (t29c : Nat), ∃ (t30a : Option Addr) (t30n : Nat) (t30c : Nat), w23.cell? ⟨b24, o25 + Int.toNat i21 * 5, none⟩ = some (.int .i64 t26) ∧
      w23.cell? ⟨b24, o25 + Int.toNat i21 * 5 + 1, none⟩ = some (.int .i64 t27) ∧ w23.cell? ⟨b24, o25 + Int.toNat i21 * 5 + 2, none⟩ = some (.int .i64 t28) ∧
      w23.cell? ⟨b24, o25 + Int.toNat i21 * 5 + 3, none⟩ = some (.slice t29a t29n t29c) ∧ w23.cell? ⟨b24, o25 + Int.toNat i21 * 5 + 4, none⟩ = some (.slice t30a t30n t30c) ∧
      PA w23 (.cells #[.int .i64 0, .int .i64 0, .int .i64 0, .slice none 0 0, .slice none 0 0] 40) fun w31 => PS w31 ⟨w23.heap.size, 0, none⟩ (.int .i64 t26) fun w32 =>
      PS w32 ⟨w23.heap.size, 0 + 1, none⟩ (.int .i64 t27) fun w33 => PS w33 ⟨w23.heap.size, 0 + 2, none⟩ (.int .i64 t28) fun w34 => PS w34 ⟨w23.heap.size, 0 + 3, none⟩ (.slice t29a t29n t29c) fun w35 =>
      PS w35 ⟨w23.heap.size, 0 + 4, none⟩ (.slice t30a t30n t30c) fun w36 => (∃ J37 : Bool → World → Prop, ((∃ (t38 : Int), w36.cell? ⟨w23.heap.size, 0, none⟩ = some (.int .i64 t38) ∧
      PIf ((t38 : Int) == 0) ((∀ w40, Drew w36 w40 → ∃ S41 : Nat → Prop, (¬ S41 w23.heap.size ∧ (∃ (t42 : Int), w40.cell? ⟨w23.heap.size, 0 + 1, none⟩ = some (.int .i64 t42) ∧
      (∃ (t43 : Int), w40.cell? ⟨w23.heap.size, 0 + 2, none⟩ = some (.int .i64 t43) ∧ PC Try.prog 21 #[.int .i64 t43] w40 (fun v44 w45 => ∃ (t46 : Int), v44 = .int .i64 t46 ∧
      (Keep S41 w40 w45 ∧ PC Try.prog 11 #[.pointer t11, .int .i64 t42, .int .i64 t46] w45 (fun v47 w48 => v47 = .tuple #[] ∧ (Keep S41 w45 w48 ∧ (∀ w50, Drew w48 w50 → ∃ S51 : Nat → Prop, (¬ S51 w23.heap.size ∧
      (∃ (t52 : Int), w50.cell? ⟨w23.heap.size, 0 + 1, none⟩ = some (.int .i64 t52) ∧ (∃ (t53 : Int), w50.cell? ⟨w23.heap.size, 0 + 2, none⟩ = some (.int .i64 t53) ∧
      PC Try.prog 21 #[.int .i64 t53] w50 (fun v54 w55 => ∃ (t56 : Int), v54 = .int .i64 t56 ∧ (Keep S51 w50 w55 ∧ PC Try.prog 23 #[.pointer t14, .int .i64 t52, .int .i64 t56] w55 (fun v57 w58 =>
      v57 = .tuple #[] ∧ (Keep S51 w55 w58 ∧ J37 true w58)) (fun ch w => False))) (fun ch w => False))))))) (fun ch w => False))) (fun ch w => False)))))) (PIf ((t38 : Int) == 1) ((∃ (t59a : Option Addr) (t59n : Nat) (t59c : Nat), w36.cell? ⟨w23.heap.size, 0 + 3, none⟩ = some (.slice t59a t59n t59c) ∧
      PC Try.prog 24 #[.slice t59a t59n t59c] w36 (fun v60 w61 => ∃ (t62a : Option Addr) (t62n : Nat) (t62c : Nat), v60 = .slice t62a t62n t62c ∧ (∃ (t63a : Option Addr) (t63n : Nat) (t63c : Nat), w61.cell? ⟨w23.heap.size, 0 + 4, none⟩ = some (.slice t63a t63n t63c) ∧
      PC Try.prog 24 #[.slice t63a t63n t63c] w61 (fun v64 w65 => ∃ (t66a : Option Addr) (t66n : Nat) (t66c : Nat), v64 = .slice t66a t66n t66c ∧ (∀ w68, Drew w65 w68 → ∃ S69 : Nat → Prop, (∃ (t70 : Int), w68.cell? ⟨w23.heap.size, 0 + 1, none⟩ = some (.int .i64 t70) ∧
      (∃ (t71a : Option Addr) (t71n : Nat) (t71c : Nat), w68.cell? ⟨w23.heap.size, 0 + 3, none⟩ = some (.slice t71a t71n t71c) ∧ ((0 : Int) ≤ ((t71n : Nat) : Int) ∧
      ((t71n : Nat) : Int) ≤ ((t62c : Nat) : Int) ∧ (∃ (t72a : Option Addr) (t72n : Nat) (t72c : Nat), w68.cell? ⟨w23.heap.size, 0 + 4, none⟩ = some (.slice t72a t72n t72c) ∧
      ((0 : Int) ≤ ((t72n : Nat) : Int) ∧ ((t72n : Nat) : Int) ≤ ((t66c : Nat) : Int) ∧ (¬ S69 w23.heap.size ∧ (∃ (t73 : Int), w68.cell? ⟨w23.heap.size, 0 + 1, none⟩ = some (.int .i64 t73) ∧
      (¬ S69 w23.heap.size ∧ (∃ (t74a : Option Addr) (t74n : Nat) (t74c : Nat), w68.cell? ⟨w23.heap.size, 0 + 3, none⟩ = some (.slice t74a t74n t74c) ∧ (¬ S69 w23.heap.size ∧
      (∃ (t75a : Option Addr) (t75n : Nat) (t75c : Nat), w68.cell? ⟨w23.heap.size, 0 + 4, none⟩ = some (.slice t75a t75n t75c) ∧ PC Try.prog 14 #[.pointer t11, .int .i64 t70, .slice t62a (Int.toNat ((t71n : Nat) : Int)) t62c, .slice t66a (Int.toNat ((t72n : Nat) : Int)) t66c] w68 (fun v76 w77 =>
      ∃ (t78 : Bool), v76 = .bool t78 ∧ (Keep S69 w68 w77 ∧ PC Try.prog 25 #[.pointer t14, .int .i64 t73, .slice t74a t74n t74c, .slice t75a t75n t75c] w77 (fun v79 w80 =>
      ∃ (t81 : Bool), v79 = .bool t81 ∧ (Keep S69 w77 w80 ∧ PIf (t78 == t81) ((∃ (t82a : Option Addr) (t82n : Nat) (t82c : Nat), w80.cell? ⟨w23.heap.size, 0 + 3, none⟩ = some (.slice t82a t82n t82c) ∧
      PC Try.prog 26 #[.slice t62a t62n t62c, .slice t82a t82n t82c] w80 (fun v83 w84 => ∃ (t85 : Bool), v83 = .bool t85 ∧ (Keep S69 w80 w84 ∧ PIf t85 ((∃ (t86a : Option Addr) (t86n : Nat) (t86c : Nat), w84.cell? ⟨w23.heap.size, 0 + 4, none⟩ = some (.slice t86a t86n t86c) ∧
      PC Try.prog 26 #[.slice t66a t66n t66c, .slice t86a t86n t86c] w84 (fun v87 w88 => ∃ (t89 : Bool), v87 = .bool t89 ∧ (Keep S69 w84 w88 ∧ PC Try.prog 27 #[.slice t62a t62n t62c] w88 (fun v90 w91 =>
      v90 = .tuple #[] ∧ PC Try.prog 27 #[.slice t66a t66n t66c] w91 (fun v92 w93 => v92 = .tuple #[] ∧ J37 t89 w93) (fun ch w => R (.panicked ch) w)) (fun ch w =>
      R (.panicked ch) w))) (fun ch w => False))) (PC Try.prog 27 #[.slice t62a t62n t62c] w84 (fun v94 w95 => v94 = .tuple #[] ∧ PC Try.prog 27 #[.slice t66a t66n t66c] w95 (fun v96 w97 =>
      v96 = .tuple #[] ∧ J37 false w97) (fun ch w => R (.panicked ch) w)) (fun ch w => R (.panicked ch) w)))) (fun ch w => False))) (PC Try.prog 27 #[.slice t62a t62n t62c] w80 (fun v98 w99 =>
      v98 = .tuple #[] ∧ PC Try.prog 27 #[.slice t66a t66n t66c] w99 (fun v100 w101 => v100 = .tuple #[] ∧ J37 false w101) (fun ch w => R (.panicked ch) w)) (fun ch w =>
      R (.panicked ch) w)))) (fun ch w => False))) (fun ch w => False)))))))))))))) (fun ch w => R (.panicked ch) w))) (fun ch w => R (.panicked ch) w))) (PIf ((t38 : Int) == 2) ((∃ (t102 : Int), w36.cell? ⟨w23.heap.size, 0 + 2, none⟩ = some (.int .i64 t102) ∧
      PC Try.prog 21 #[.int .i64 t102] w36 (fun v103 w104 => ∃ (t105 : Int), v103 = .int .i64 t105 ∧ PC Try.prog 17 #[.pointer t11, .int .i64 t105] w104 (fun v106 w107 =>
      ∃ (t108a : Option Addr) (t108n : Nat) (t108c : Nat), v106 = .slice t108a t108n t108c ∧ (∃ (t109 : Int), w107.cell? ⟨w23.heap.size, 0 + 2, none⟩ = some (.int .i64 t109) ∧
      PC Try.prog 21 #[.int .i64 t109] w107 (fun v110 w111 => ∃ (t112 : Int), v110 = .int .i64 t112 ∧ PC Try.prog 28 #[.pointer t14, .int .i64 t112] w111 (fun v113 w114 =>
      ∃ (t115a : Option Addr) (t115n : Nat) (t115c : Nat), v113 = .slice t115a t115n t115c ∧ PC Try.prog 18 #[.slice t108a t108n t108c, .slice t115a t115n t115c] w114 (fun v116 w117 =>
      ∃ (t118 : Bool), v116 = .bool t118 ∧ PC Try.prog 27 #[.slice t108a t108n t108c] w117 (fun v119 w120 => v119 = .tuple #[] ∧ J37 t118 w120) (fun ch w =>
      R (.panicked ch) w)) (fun ch w => R (.panicked ch) w)) (fun ch w => R (.panicked ch) w)) (fun ch w => R (.panicked ch) w))) (fun ch w => R (.panicked ch) w)) (fun ch w =>
      R (.panicked ch) w))) (PIf ((t38 : Int) == 3) (PC Try.prog 29 #[.pointer t11] w36 (fun v121 w122 => v121 = .tuple #[] ∧ PC Try.prog 30 #[.pointer t14] w122 (fun v123 w124 =>
      v123 = .tuple #[] ∧ J37 true w124) (fun ch w => R (.panicked ch) w)) (fun ch w => R (.panicked ch) w)) (J37 true w36)))))) ∧ ∀ (same125 : Bool) (B126 : Nat → Value) (w127 : World), J37 same125 w127 → PC Try.prog 16 #[.pointer t11] w127 (fun v128 w129 =>
      ∃ (t130a : Option Addr) (t130n : Nat) (t130c : Nat), v128 = .slice t130a t130n t130c ∧ (∃ (t131 : Int), w129.cell? ⟨w23.heap.size, 0 + 1, none⟩ = some (.int .i64 t131) ∧
      PC Try.prog 15 #[.pointer t11, .int .i64 t131] w129 (fun v132 w133 => ∃ (t134a : Option Addr) (t134n : Nat) (t134c : Nat), v132 = .slice t134a t134n t134c ∧
      PIf (!same125) (R (.returned (.bool false)) w133) (PC Try.prog 31 #[.pointer t14] w133 (fun v135 w136 => ∃ (t137a : Option Addr) (t137n : Nat) (t137c : Nat), v135 = .slice t137a t137n t137c ∧
      PC Try.prog 18 #[.slice t130a t130n t130c, .slice t137a t137n t137c] w136 (fun v138 w139 => ∃ (t140 : Bool), v138 = .bool t140 ∧ PIf (!t140) (R (.returned (.bool false)) w139) ((∃ (t141 : Int), w139.cell? ⟨w23.heap.size, 0 + 1, none⟩ = some (.int .i64 t141) ∧
      PC Try.prog 32 #[.pointer t14, .int .i64 t141] w139 (fun v142 w143 => ∃ (t144a : Option Addr) (t144n : Nat) (t144c : Nat), v142 = .slice t144a t144n t144c ∧
      PC Try.prog 18 #[.slice t134a t134n t134c, .slice t144a t144n t144c] w143 (fun v145 w146 => ∃ (t147 : Bool), v145 = .bool t147 ∧ PIf (!t147) (R (.returned (.bool false)) w146) (PC Try.prog 27 #[.slice t130a t130n t130c] w146 (fun v148 w149 =>
      v148 = .tuple #[] ∧ PC Try.prog 27 #[.slice t134a t134n t134c] w149 (fun v150 w151 => v150 = .tuple #[] ∧ (∃ m20, m20 < m19 ∧ I18 m20 (IntKind.wrap .i64 (i21 + 1)) w151)) (fun ch w =>
      R (.panicked ch) w)) (fun ch w => R (.panicked ch) w))) (fun ch w => R (.panicked ch) w)) (fun ch w => R (.panicked ch) w)))) (fun ch w => R (.panicked ch) w)) (fun ch w =>
      R (.panicked ch) w))) (fun ch w => R (.panicked ch) w))) (fun ch w => R (.panicked ch) w))))) (PC Try.prog 9 #[] w23 (fun v152 w153 => ∃ (t154 : Bool), v152 = .bool t154 ∧
      R (.returned (.bool t154)) w153) (fun ch w => R (.panicked ch) w))))) (fun pv w => R (.panicked [{ v := pv, recovered := false }]) w)) (fun ch w => R (.panicked ch) w)) (fun ch w =>
      R (.panicked ch) w))) (fun ch w => R (.panicked ch) w)) :
    Calls Try.prog 6 #[.int .i64 retry1, .slice l2a l2n l2c] w R :=
  D_calls A_law26_SessionRuns mixed Try.func6 rfl (Nat.le_of_ble_eq_true (by kernel_rfl)) (by kernel_rfl) (Eq.mp (by kernel_rfl) h)
/-- quayside/quaysidelaw26.SessionApart -/
abbrev F_law26_SessionApart : Nat := 7
def A_law26_SessionApart : Ann := ⟨[(8, [(9, .int .i64 0)]), (12, [(11, .int .i64 0)]), (26, [(15, .bool false), (16, .int .i64 0)])], [(18, [(12, .pointer none)]), (20, []), (29, [(15, .bool false)])], [19], []⟩
theorem L_law26_SessionApart {retry1 : Int} {peer2 : Int} {l3a : Option Addr} {l3n : Nat} {l3c : Nat} {w : World} {R : Ending → World → Prop}
    (h : PC Try.prog 20 #[.slice l3a l3n l3c] w (fun v4 w5 => ∃ (t6 : Bool), v4 = .bool t6 ∧ PIf t6 (PC Try.prog 9 #[] w5 (fun v7 w8 => ∃ (t9 : Bool), v7 = .bool t9 ∧
      R (.returned (.bool t9)) w8) (fun ch w => R (.panicked ch) w)) (PC Try.prog 10 #[.int .i64 retry1] w5 (fun v10 w11 => ∃ (t12 : Option Addr), v10 = .pointer t12 ∧
      PC Try.prog 10 #[.int .i64 retry1] w11 (fun v13 w14 => ∃ (t15 : Option Addr), v13 = .pointer t15 ∧ PRun Try.prog (do eqGuard .eql 25 (.tmp 24) (.const (.pointer none)) (.pointer t12) (.pointer none); binOp .eql 25 (.pointer t12) (.pointer none)) w14 (fun v16 w17 =>
      ∃ (t18 : Bool), v16 = .bool t18 ∧ PIf t18 (R (.returned (.bool false)) w17) (PRun Try.prog (do eqGuard .eql 25 (.tmp 27) (.const (.pointer none)) (.pointer t15) (.pointer none); binOp .eql 25 (.pointer t15) (.pointer none)) w17 (fun v19 w20 =>
      ∃ (t21 : Bool), v19 = .bool t21 ∧ PIf t21 (R (.returned (.bool false)) w20) ((∃ I22 : Nat → Int → World → Prop, (∃ m23, I22 m23 0 w20) ∧ ∀ (m23 : Nat) (i25 : Int) (B26 : Nat → Value) (w27 : World), I22 m23 i25 w27 → PIf (decide ((i25 : Int) < ((l3n : Nat) : Int))) ((∃ b28 o29, l3a = some ⟨b28, o29, none⟩ ∧
      (0 : Int) ≤ i25 ∧ i25 < ((l3n : Nat) : Int) ∧ (∃ (t30 : Int), ∃ (t31 : Int), ∃ (t32 : Int), ∃ (t33a : Option Addr) (t33n : Nat) (t33c : Nat), ∃ (t34a : Option Addr) (t34n : Nat) (t34c : Nat), w27.cell? ⟨b28, o29 + Int.toNat i25 * 5, none⟩ = some (.int .i64 t30) ∧
      w27.cell? ⟨b28, o29 + Int.toNat i25 * 5 + 1, none⟩ = some (.int .i64 t31) ∧ w27.cell? ⟨b28, o29 + Int.toNat i25 * 5 + 2, none⟩ = some (.int .i64 t32) ∧
      w27.cell? ⟨b28, o29 + Int.toNat i25 * 5 + 3, none⟩ = some (.slice t33a t33n t33c) ∧ w27.cell? ⟨b28, o29 + Int.toNat i25 * 5 + 4, none⟩ = some (.slice t34a t34n t34c) ∧
      PA w27 (.cells #[.int .i64 0, .int .i64 0, .int .i64 0, .slice none 0 0, .slice none 0 0] 40) fun w35 => PS w35 ⟨w27.heap.size, 0, none⟩ (.int .i64 t30) fun w36 =>
      PS w36 ⟨w27.heap.size, 0 + 1, none⟩ (.int .i64 t31) fun w37 => PS w37 ⟨w27.heap.size, 0 + 2, none⟩ (.int .i64 t32) fun w38 => PS w38 ⟨w27.heap.size, 0 + 3, none⟩ (.slice t33a t33n t33c) fun w39 =>
      PS w39 ⟨w27.heap.size, 0 + 4, none⟩ (.slice t34a t34n t34c) fun w40 => (∃ I41 : Nat → Int → World → Prop, (∃ m42, I41 m42 0 w40) ∧ ∀ (m42 : Nat) (k44 : Int) (B45 : Nat → Value) (w46 : World), I41 m42 k44 w46 → PIf (decide ((k44 : Int) < 2)) ((∃ J47 : Option Addr → World → Prop, (PIf ((k44 : Int) == 1) ((∃ (t48 : Int), w46.cell? ⟨w27.heap.size, 0 + 1, none⟩ = some (.int .i64 t48) ∧
      PIf ((t48 : Int) != peer2) ((∃ m43, m43 < m42 ∧ I41 m43 (IntKind.wrap .i64 (k44 + 1)) w46)) (J47 t15 w46))) (J47 t12 w46)) ∧ ∀ (t49 : Option Addr) (B50 : Nat → Value) (w51 : World), J47 t49 w51 → (∃ J52 : World → Prop, ((∃ (t53 : Int), w51.cell? ⟨w27.heap.size, 0, none⟩ = some (.int .i64 t53) ∧
      PIf ((t53 : Int) == 0) ((∀ w55, Drew w51 w55 → ∃ S56 : Nat → Prop, (¬ S56 w27.heap.size ∧ (∃ (t57 : Int), w55.cell? ⟨w27.heap.size, 0 + 1, none⟩ = some (.int .i64 t57) ∧
      (∃ (t58 : Int), w55.cell? ⟨w27.heap.size, 0 + 2, none⟩ = some (.int .i64 t58) ∧ PC Try.prog 21 #[.int .i64 t58] w55 (fun v59 w60 => ∃ (t61 : Int), v59 = .int .i64 t61 ∧
      (Keep S56 w55 w60 ∧ PC Try.prog 11 #[.pointer t49, .int .i64 t57, .int .i64 t61] w60 (fun v62 w63 => v62 = .tuple #[] ∧ (Keep S56 w60 w63 ∧ J52  w63)) (fun ch w =>
      False))) (fun ch w => False)))))) (J52  w51))) ∧ ∀  (B64 : Nat → Value) (w65 : World), J52  w65 → (∃ (t66 : Int), w65.cell? ⟨w27.heap.size, 0, none⟩ = some (.int .i64 t66) ∧
      PIf ((t66 : Int) == 1) ((∃ (t67 : Int), w65.cell? ⟨w27.heap.size, 0 + 1, none⟩ = some (.int .i64 t67) ∧ (∃ (t68a : Option Addr) (t68n : Nat) (t68c : Nat), w65.cell? ⟨w27.heap.size, 0 + 3, none⟩ = some (.slice t68a t68n t68c) ∧
      (∃ (t69a : Option Addr) (t69n : Nat) (t69c : Nat), w65.cell? ⟨w27.heap.size, 0 + 4, none⟩ = some (.slice t69a t69n t69c) ∧ PC Try.prog 14 #[.pointer t49, .int .i64 t67, .slice t68a t68n t68c, .slice t69a t69n t69c] w65 (fun v70 w71 =>
      ∃ (t72 : Bool), v70 = .bool t72 ∧ (∃ m43, m43 < m42 ∧ I41 m43 (IntKind.wrap .i64 (k44 + 1)) w71)) (fun ch w => R (.panicked ch) w))))) ((∃ m43, m43 < m42 ∧
      I41 m43 (IntKind.wrap .i64 (k44 + 1)) w65)))))) ((∃ m24, m24 < m23 ∧ I22 m24 (IntKind.wrap .i64 (i25 + 1)) w46)))))) (PC Try.prog 16 #[.pointer t15] w27 (fun v73 w74 =>
      ∃ (t75a : Option Addr) (t75n : Nat) (t75c : Nat), v73 = .slice t75a t75n t75c ∧ PC Try.prog 16 #[.pointer t12] w74 (fun v76 w77 => ∃ (t78a : Option Addr) (t78n : Nat) (t78c : Nat), v76 = .slice t78a t78n t78c ∧
      (∃ I79 : Nat → Bool → Int → World → Prop, (∃ m80, I79 m80 false 0 w77) ∧ ∀ (m80 : Nat) (there82 : Bool) (i83 : Int) (B84 : Nat → Value) (w85 : World), I79 m80 there82 i83 w85 → PIf (decide ((i83 : Int) < ((t78n : Nat) : Int))) ((∃ J86 : Bool → World → Prop, (PIf there82 (J86 true w85) ((∃ b87 o88, t78a = some ⟨b87, o88, none⟩ ∧
      (0 : Int) ≤ i83 ∧ i83 < ((t78n : Nat) : Int) ∧ (∃ (t89 : Int), w85.cell? ⟨b87, o88 + Int.toNat i83, none⟩ = some (.int .i64 t89) ∧ J86 ((t89 : Int) == peer2) w85)))) ∧
      ∀ (there90 : Bool) (B91 : Nat → Value) (w92 : World), J86 there90 w92 → PIf (decide ((i83 : Int) > 0)) ((∃ b94 o95, t78a = some ⟨b94, o95, none⟩ ∧ (0 : Int) ≤ i83 ∧
      i83 < ((t78n : Nat) : Int) ∧ (∃ (t96 : Int), w92.cell? ⟨b94, o95 + Int.toNat i83, none⟩ = some (.int .i64 t96) ∧ (∃ b97 o98, t78a = some ⟨b97, o98, none⟩ ∧
      (0 : Int) ≤ (IntKind.wrap .i64 (i83 - 1)) ∧ (IntKind.wrap .i64 (i83 - 1)) < ((t78n : Nat) : Int) ∧ (∃ (t99 : Int), w92.cell? ⟨b97, o98 + Int.toNat (IntKind.wrap .i64 (i83 - 1)), none⟩ = some (.int .i64 t99) ∧
      (∀ w93, Drew w92 w93 → PIf (decide ((t96 : Int) ≤ t99)) (R (.returned (.bool false)) w93) ((∃ m81, m81 < m80 ∧ I79 m81 there90 (IntKind.wrap .i64 (i83 + 1)) w93)))))))) ((∀ w93, Drew w92 w93 → (∃ m81, m81 < m80 ∧
      I79 m81 there90 (IntKind.wrap .i64 (i83 + 1)) w93))))) (PIf (!((decide ((((t75n : Nat) : Int) : Int) > 0)) == there82)) (R (.returned (.bool false)) w85) (PC Try.prog 15 #[.pointer t12, .int .i64 peer2] w85 (fun v100 w101 =>
      ∃ (t102a : Option Addr) (t102n : Nat) (t102c : Nat), v100 = .slice t102a t102n t102c ∧ PC Try.prog 15 #[.pointer t15, .int .i64 peer2] w101 (fun v103 w104 =>
      ∃ (t105a : Option Addr) (t105n : Nat) (t105c : Nat), v103 = .slice t105a t105n t105c ∧ PC Try.prog 18 #[.slice t102a t102n t102c, .slice t105a t105n t105c] w104 (fun v106 w107 =>
      ∃ (t108 : Bool), v106 = .bool t108 ∧ PIf (!t108) (R (.returned (.bool false)) w107) (PC Try.prog 29 #[.pointer t12] w107 (fun v109 w110 => v109 = .tuple #[] ∧
      PC Try.prog 16 #[.pointer t12] w110 (fun v111 w112 => ∃ (t113a : Option Addr) (t113n : Nat) (t113c : Nat), v111 = .slice t113a t113n t113c ∧ PIf ((((t113n : Nat) : Int) : Int) == 0) (PC Try.prog 15 #[.pointer t12, .int .i64 peer2] w112 (fun v114 w115 =>
      ∃ (t116a : Option Addr) (t116n : Nat) (t116c : Nat), v114 = .slice t116a t116n t116c ∧ PIf ((((t116n : Nat) : Int) : Int) == 0) (PC Try.prog 17 #[.pointer t12, .int .i64 2305843009213693952] w115 (fun v117 w118 =>
      ∃ (t119a : Option Addr) (t119n : Nat) (t119c : Nat), v117 = .slice t119a t119n t119c ∧ PIf ((((t119n : Nat) : Int) : Int) == 0) (PC Try.prog 9 #[] w118 (fun v120 w121 =>
      ∃ (t122 : Bool), v120 = .bool t122 ∧ R (.returned (.bool t122)) w121) (fun ch w => R (.panicked ch) w)) (R (.returned (.bool false)) w118)) (fun ch w =>
      R (.panicked ch) w)) (R (.returned (.bool false)) w115)) (fun ch w => R (.panicked ch) w)) (R (.returned (.bool false)) w112)) (fun ch w => R (.panicked ch) w)) (fun ch w =>
      R (.panicked ch) w))) (fun ch w => R (.panicked ch) w)) (fun ch w => R (.panicked ch) w)) (fun ch w => R (.panicked ch) w))))) (fun ch w => R (.panicked ch) w)) (fun ch w =>
      R (.panicked ch) w))))) (fun pv w => R (.panicked [{ v := pv, recovered := false }]) w))) (fun pv w => R (.panicked [{ v := pv, recovered := false }]) w)) (fun ch w =>
      R (.panicked ch) w)) (fun ch w => R (.panicked ch) w))) (fun ch w => R (.panicked ch) w)) :
    Calls Try.prog 7 #[.int .i64 retry1, .int .i64 peer2, .slice l3a l3n l3c] w R :=
  D_calls A_law26_SessionApart mixed Try.func7 rfl (Nat.le_of_ble_eq_true (by kernel_rfl)) (by kernel_rfl) (Eq.mp (by kernel_rfl) h)
/-- quayside/quaysidelaw26.SessionKnown -/
abbrev F_law26_SessionKnown : Nat := 8
def A_law26_SessionKnown : Ann := ⟨[(3, [(2, .int .i64 0)]), (6, [(3, .int .i64 0)])], [(9, [(4, .slice none 0 0)])], [8, 9], [(8, ⟨[0, 0, 3, 4, 8, 0, 0, 96, 128, 256, 0, 0, 0, 6144, 8192, 0, 0, 98304, 131072, 262144, 0, 1589248, 0, 0, 12582912, 16777216, 33554432, 0, 134217728, 0, 0, 0, 0, 0, 0, 25769803776, 34359738368, 0, 0, 412316860416, 618475290624, 1107902334480, 4398046511103], [8796093022207, 8796093022207, 8796093022204, 8796093022203, 8796093022199, 8796093022207, 8796093022207, 8796093022111, 8796093022079, 8796093021951, 8796093022207, 8796093022207, 8796093022207, 8796093016063, 8796093014015, 8796093022207, 8796093022207, 8796092923903, 8796092891135, 8796092760063, 8796093022207, 8796091432959, 8796093022207, 8796093022207, 8796080439295, 8796076244991, 8796059467775, 8796093022207, 8795958804479, 8796093022207, 8796093022207, 8796093022207, 8796093022207, 8796093022207, 8796093022207, 8770323218431, 8761733283839, 8796093022207, 8796093022207, 8383776161791, 8177617731583, 7688190687727, 6597069766655], [0, 0, 0, 1, 0, 0, 0, 0, 1, 0, 0, 0, 0, 0, 1, 0, 0, 0, 1, 2, 2, 0, 0, 0, 0, 1, 0, 2, 0, 0, 0, 0, 0, 0, 0, 0, 1, 0, 0, 0, 0, 2, 0]⟩), (9, ⟨[0, 0, 3, 4, 0, 24, 32, 96, 128, 128, 896, 1152, 128, 128, 12416, 16512, 128, 128, 128, 393344, 524416, 1048704, 128, 6357120, 128, 128, 50331776, 67108992, 134217856, 276859008, 536871040, 1073741952, 2684354560, 4294967296, 12884901888, 4294967296, 4294967296, 107374182400, 158913789952, 279172874240, 554050781184, 1374389534720, 2199023255552, 2199023255552, 15393162788864, 19791209299968, 2199023255552, 2199023255552, 213305255788544, 283673999966208, 2199023255552, 1726233255608320, 2253998836940800, 4505798650626048], [18014398509481983, 18014398509481983, 18014398509481980, 18014398509481979, 18014398509481983, 18014398509481959, 18014398509481951, 18014398509481919, 18014398509481855, 18014398509481855, 18014398509481087, 18014398509480831, 18014398509481855, 18014398509481855, 18014398509469567, 18014398509465471, 18014398509481855, 18014398509481855, 18014398509481855, 18014398509088639, 18014398508957567, 18014398508433279, 18014398509481855, 18014398503124863, 18014398509481855, 18014398509481855, 18014398459150207, 18014398442372991, 18014398375264127, 18014398232622975, 18014397972610943, 18014397435740031, 18014396361998335, 18014394214514687, 18014385624580095, 18014394214514687, 18014394214514687, 18014291135299583, 18014239595692031, 18014119336607743, 18013844458700799, 18013298997854207, 18012199486226431, 18012199486226431, 17999005346693119, 17994607300182015, 18012199486226431, 18012199486226431, 17801093253693439, 17730724509515775, 18012199486226431, 16288165253873663, 15760399672541183, 13508599858855935], [0, 0, 0, 1, 0, 2, 0, 0, 0, 0, 0, 1, 0, 0, 0, 1, 2, 0, 0, 0, 1, 2, 2, 2, 0, 0, 0, 1, 2, 2, 0, 0, 0, 0, 0, 0, 0, 2, 2, 0, 0, 0, 0, 0, 0, 1, 0, 0, 0, 1, 0, 2, 0, 0]⟩)]⟩
theorem L_law26_SessionKnown  {w : World} {R : Ending → World → Prop}
    (h : PA w (.cells #[.int .i64 (-9223372036854775808), .int .i64 (-1), .int .i64 0, .int .i64 1, .int .i64 2, .int .i64 5, .int .i64 2305843009213693952, .int .i64 9223372036854775807] 3) fun w1 =>
      (∃ I2 : Nat → Int → World → Prop, (∃ m3, I2 m3 0 w1) ∧ ∀ (m3 : Nat) (i5 : Int) (B6 : Nat → Value) (w7 : World), I2 m3 i5 w7 → PIf (decide ((i5 : Int) < ((8 : Nat) : Int))) ((∃ I8 : Nat → Int → World → Prop, (∃ m9, I8 m9 0 w7) ∧
      ∀ (m9 : Nat) (k11 : Int) (B12 : Nat → Value) (w13 : World), I8 m9 k11 w13 → PIf (decide ((k11 : Int) < ((8 : Nat) : Int))) ((∃ J14 : Option Addr → Nat → Nat → World → Prop, ((∀ w16, Drew w13 w16 → ∃ S17 : Nat → Prop, (∃ b18 o19, ((some ⟨w.heap.size, 0, none⟩) : Option Addr) = some ⟨b18, o19, none⟩ ∧
      (0 : Int) ≤ k11 ∧ k11 < ((8 : Nat) : Int) ∧ (¬ S17 b18 ∧ (∃ (t20 : Int), w16.cell? ⟨b18, o19 + Int.toNat k11, none⟩ = some (.int .i64 t20) ∧ (∃ b21 o22, ((some ⟨w.heap.size, 0, none⟩) : Option Addr) = some ⟨b21, o22, none⟩ ∧
      (0 : Int) ≤ i5 ∧ i5 < ((8 : Nat) : Int) ∧ (¬ S17 b21 ∧ (∃ (t23 : Int), w16.cell? ⟨b21, o22 + Int.toNat i5, none⟩ = some (.int .i64 t23) ∧ (∃ b24 o25, ((some ⟨w.heap.size, 0, none⟩) : Option Addr) = some ⟨b24, o25, none⟩ ∧
      (0 : Int) ≤ k11 ∧ k11 < ((8 : Nat) : Int) ∧ (¬ S17 b24 ∧ (∃ (t26 : Int), w16.cell? ⟨b24, o25 + Int.toNat k11, none⟩ = some (.int .i64 t26) ∧ (∃ b27 o28, ((some ⟨w.heap.size, 0, none⟩) : Option Addr) = some ⟨b27, o28, none⟩ ∧
      (0 : Int) ≤ i5 ∧ i5 < ((8 : Nat) : Int) ∧ (¬ S17 b27 ∧ (∃ (t29 : Int), w16.cell? ⟨b27, o28 + Int.toNat i5, none⟩ = some (.int .i64 t29) ∧ (∃ b30 o31, ((some ⟨w.heap.size, 0, none⟩) : Option Addr) = some ⟨b30, o31, none⟩ ∧
      (0 : Int) ≤ k11 ∧ k11 < ((8 : Nat) : Int) ∧ (¬ S17 b30 ∧ (∃ (t32 : Int), w16.cell? ⟨b30, o31 + Int.toNat k11, none⟩ = some (.int .i64 t32) ∧ (∃ b33 o34, ((some ⟨w.heap.size, 0, none⟩) : Option Addr) = some ⟨b33, o34, none⟩ ∧
      (0 : Int) ≤ i5 ∧ i5 < ((8 : Nat) : Int) ∧ (¬ S17 b33 ∧ (∃ (t35 : Int), w16.cell? ⟨b33, o34 + Int.toNat i5, none⟩ = some (.int .i64 t35) ∧ ((0 : Int) ≤ i5 ∧
      i5 ≤ ((8 : Nat) : Int) ∧ ((PA w16 (.cells #[.int .i64 1, .int .i64 t29] 3) fun w36 => (Keep S17 w16 w36 ∧ ((PA w36 (.cells #[.int .i64 1, .int .i64 2] 3) fun w37 =>
      (Keep S17 w36 w37 ∧ PA w37 (.cells #[.int .i64 3] 3) fun w38 => (Keep S17 w37 w38 ∧ PA w38 (.cells #[.int .i64 0, .int .i64 t20, .int .i64 3, .slice none 0 0, .slice none 0 0, .int .i64 0, .int .i64 2, .int .i64 t23, .slice none 0 0, .slice none 0 0, .int .i64 2, .int .i64 0, .int .i64 5, .slice none 0 0, .slice none 0 0, .int .i64 1, .int .i64 t26, .int .i64 0, .slice (some ⟨w16.heap.size, 0, none⟩) 2 2, .slice (some ⟨w36.heap.size, 0, none⟩) 2 2, .int .i64 2, .int .i64 0, .int .i64 t32, .slice none 0 0, .slice none 0 0, .int .i64 1, .int .i64 2, .int .i64 0, .slice (some ⟨w37.heap.size, 0, none⟩) 1 1, .slice none 0 0, .int .i64 0, .int .i64 2, .int .i64 0, .slice none 0 0, .slice none 0 0, .int .i64 2, .int .i64 0, .int .i64 1099511627776, .slice none 0 0, .slice none 0 0, .int .i64 9, .int .i64 2, .int .i64 0, .slice none 0 0, .slice none 0 0, .int .i64 3, .int .i64 0, .int .i64 0, .slice none 0 0, .slice none 0 0, .int .i64 1, .int .i64 t35, .int .i64 0, .slice (some ⟨w.heap.size, 0, none⟩) (Int.toNat i5) 8, .slice none 0 0] 40) fun w39 =>
      (Keep S17 w38 w39 ∧ J14 (some ⟨w38.heap.size, 0, none⟩) 11 11 w39)))) ∧ (PA w36 (.cells #[.int .i64 3] 3) fun w40 => (Keep S17 w36 w40 ∧ PA w40 (.cells #[.int .i64 1, .int .i64 2] 3) fun w41 =>
      (Keep S17 w40 w41 ∧ PA w41 (.cells #[.int .i64 0, .int .i64 t20, .int .i64 3, .slice none 0 0, .slice none 0 0, .int .i64 0, .int .i64 2, .int .i64 t23, .slice none 0 0, .slice none 0 0, .int .i64 2, .int .i64 0, .int .i64 5, .slice none 0 0, .slice none 0 0, .int .i64 1, .int .i64 t26, .int .i64 0, .slice (some ⟨w16.heap.size, 0, none⟩) 2 2, .slice (some ⟨w40.heap.size, 0, none⟩) 2 2, .int .i64 2, .int .i64 0, .int .i64 t32, .slice none 0 0, .slice none 0 0, .int .i64 1, .int .i64 2, .int .i64 0, .slice (some ⟨w36.heap.size, 0, none⟩) 1 1, .slice none 0 0, .int .i64 0, .int .i64 2, .int .i64 0, .slice none 0 0, .slice none 0 0, .int .i64 2, .int .i64 0, .int .i64 1099511627776, .slice none 0 0, .slice none 0 0, .int .i64 9, .int .i64 2, .int .i64 0, .slice none 0 0, .slice none 0 0, .int .i64 3, .int .i64 0, .int .i64 0, .slice none 0 0, .slice none 0 0, .int .i64 1, .int .i64 t35, .int .i64 0, .slice (some ⟨w.heap.size, 0, none⟩) (Int.toNat i5) 8, .slice none 0 0] 40) fun w42 =>
      (Keep S17 w41 w42 ∧ J14 (some ⟨w41.heap.size, 0, none⟩) 11 11 w42))))))) ∧ (PA w16 (.cells #[.int .i64 1, .int .i64 2] 3) fun w43 => (Keep S17 w16 w43 ∧
      ((PA w43 (.cells #[.int .i64 1, .int .i64 t29] 3) fun w44 => (Keep S17 w43 w44 ∧ PA w44 (.cells #[.int .i64 3] 3) fun w45 => (Keep S17 w44 w45 ∧ PA w45 (.cells #[.int .i64 0, .int .i64 t20, .int .i64 3, .slice none 0 0, .slice none 0 0, .int .i64 0, .int .i64 2, .int .i64 t23, .slice none 0 0, .slice none 0 0, .int .i64 2, .int .i64 0, .int .i64 5, .slice none 0 0, .slice none 0 0, .int .i64 1, .int .i64 t26, .int .i64 0, .slice (some ⟨w43.heap.size, 0, none⟩) 2 2, .slice (some ⟨w16.heap.size, 0, none⟩) 2 2, .int .i64 2, .int .i64 0, .int .i64 t32, .slice none 0 0, .slice none 0 0, .int .i64 1, .int .i64 2, .int .i64 0, .slice (some ⟨w44.heap.size, 0, none⟩) 1 1, .slice none 0 0, .int .i64 0, .int .i64 2, .int .i64 0, .slice none 0 0, .slice none 0 0, .int .i64 2, .int .i64 0, .int .i64 1099511627776, .slice none 0 0, .slice none 0 0, .int .i64 9, .int .i64 2, .int .i64 0, .slice none 0 0, .slice none 0 0, .int .i64 3, .int .i64 0, .int .i64 0, .slice none 0 0, .slice none 0 0, .int .i64 1, .int .i64 t35, .int .i64 0, .slice (some ⟨w.heap.size, 0, none⟩) (Int.toNat i5) 8, .slice none 0 0] 40) fun w46 =>
      (Keep S17 w45 w46 ∧ J14 (some ⟨w45.heap.size, 0, none⟩) 11 11 w46)))) ∧ (PA w43 (.cells #[.int .i64 3] 3) fun w47 => (Keep S17 w43 w47 ∧ PA w47 (.cells #[.int .i64 1, .int .i64 t29] 3) fun w48 =>
      (Keep S17 w47 w48 ∧ PA w48 (.cells #[.int .i64 0, .int .i64 t20, .int .i64 3, .slice none 0 0, .slice none 0 0, .int .i64 0, .int .i64 2, .int .i64 t23, .slice none 0 0, .slice none 0 0, .int .i64 2, .int .i64 0, .int .i64 5, .slice none 0 0, .slice none 0 0, .int .i64 1, .int .i64 t26, .int .i64 0, .slice (some ⟨w47.heap.size, 0, none⟩) 2 2, .slice (some ⟨w16.heap.size, 0, none⟩) 2 2, .int .i64 2, .int .i64 0, .int .i64 t32, .slice none 0 0, .slice none 0 0, .int .i64 1, .int .i64 2, .int .i64 0, .slice (some ⟨w43.heap.size, 0, none⟩) 1 1, .slice none 0 0, .int .i64 0, .int .i64 2, .int .i64 0, .slice none 0 0, .slice none 0 0, .int .i64 2, .int .i64 0, .int .i64 1099511627776, .slice none 0 0, .slice none 0 0, .int .i64 9, .int .i64 2, .int .i64 0, .slice none 0 0, .slice none 0 0, .int .i64 3, .int .i64 0, .int .i64 0, .slice none 0 0, .slice none 0 0, .int .i64 1, .int .i64 t35, .int .i64 0, .slice (some ⟨w.heap.size, 0, none⟩) (Int.toNat i5) 8, .slice none 0 0] 40) fun w49 =>
      (Keep S17 w48 w49 ∧ J14 (some ⟨w48.heap.size, 0, none⟩) 11 11 w49))))))) ∧ (PA w16 (.cells #[.int .i64 3] 3) fun w50 => (Keep S17 w16 w50 ∧ ((PA w50 (.cells #[.int .i64 1, .int .i64 t29] 3) fun w51 =>
      (Keep S17 w50 w51 ∧ PA w51 (.cells #[.int .i64 1, .int .i64 2] 3) fun w52 => (Keep S17 w51 w52 ∧ PA w52 (.cells #[.int .i64 0, .int .i64 t20, .int .i64 3, .slice none 0 0, .slice none 0 0, .int .i64 0, .int .i64 2, .int .i64 t23, .slice none 0 0, .slice none 0 0, .int .i64 2, .int .i64 0, .int .i64 5, .slice none 0 0, .slice none 0 0, .int .i64 1, .int .i64 t26, .int .i64 0, .slice (some ⟨w50.heap.size, 0, none⟩) 2 2, .slice (some ⟨w51.heap.size, 0, none⟩) 2 2, .int .i64 2, .int .i64 0, .int .i64 t32, .slice none 0 0, .slice none 0 0, .int .i64 1, .int .i64 2, .int .i64 0, .slice (some ⟨w16.heap.size, 0, none⟩) 1 1, .slice none 0 0, .int .i64 0, .int .i64 2, .int .i64 0, .slice none 0 0, .slice none 0 0, .int .i64 2, .int .i64 0, .int .i64 1099511627776, .slice none 0 0, .slice none 0 0, .int .i64 9, .int .i64 2, .int .i64 0, .slice none 0 0, .slice none 0 0, .int .i64 3, .int .i64 0, .int .i64 0, .slice none 0 0, .slice none 0 0, .int .i64 1, .int .i64 t35, .int .i64 0, .slice (some ⟨w.heap.size, 0, none⟩) (Int.toNat i5) 8, .slice none 0 0] 40) fun w53 =>
      (Keep S17 w52 w53 ∧ J14 (some ⟨w52.heap.size, 0, none⟩) 11 11 w53)))) ∧ (PA w50 (.cells #[.int .i64 1, .int .i64 2] 3) fun w54 => (Keep S17 w50 w54 ∧ PA w54 (.cells #[.int .i64 1, .int .i64 t29] 3) fun w55 =>
      (Keep S17 w54 w55 ∧ PA w55 (.cells #[.int .i64 0, .int .i64 t20, .int .i64 3, .slice none 0 0, .slice none 0 0, .int .i64 0, .int .i64 2, .int .i64 t23, .slice none 0 0, .slice none 0 0, .int .i64 2, .int .i64 0, .int .i64 5, .slice none 0 0, .slice none 0 0, .int .i64 1, .int .i64 t26, .int .i64 0, .slice (some ⟨w54.heap.size, 0, none⟩) 2 2, .slice (some ⟨w50.heap.size, 0, none⟩) 2 2, .int .i64 2, .int .i64 0, .int .i64 t32, .slice none 0 0, .slice none 0 0, .int .i64 1, .int .i64 2, .int .i64 0, .slice (some ⟨w16.heap.size, 0, none⟩) 1 1, .slice none 0 0, .int .i64 0, .int .i64 2, .int .i64 0, .slice none 0 0, .slice none 0 0, .int .i64 2, .int .i64 0, .int .i64 1099511627776, .slice none 0 0, .slice none 0 0, .int .i64 9, .int .i64 2, .int .i64 0, .slice none 0 0, .slice none 0 0, .int .i64 3, .int .i64 0, .int .i64 0, .slice none 0 0, .slice none 0 0, .int .i64 1, .int .i64 t35, .int .i64 0, .slice (some ⟨w.heap.size, 0, none⟩) (Int.toNat i5) 8, .slice none 0 0] 40) fun w56 =>
      (Keep S17 w55 w56 ∧ J14 (some ⟨w55.heap.size, 0, none⟩) 11 11 w56))))))))))))))))))))))))))))) ∧ ∀ (l57a : Option Addr) (l57n : Nat) (l57c : Nat) (B58 : Nat → Value) (w59 : World), J14 l57a l57n l57c w59 → (∀ w61, Drew w59 w61 → ∃ S62 : Nat → Prop, (∃ b63 o64, ((some ⟨w.heap.size, 0, none⟩) : Option Addr) = some ⟨b63, o64, none⟩ ∧
      (0 : Int) ≤ i5 ∧ i5 < ((8 : Nat) : Int) ∧ (∃ (t65 : Int), w61.cell? ⟨b63, o64 + Int.toNat i5, none⟩ = some (.int .i64 t65) ∧ PC Try.prog 6 #[.int .i64 t65, .slice l57a l57n l57c] w61 (fun v66 w67 =>
      ∃ (t68 : Bool), v66 = .bool t68 ∧ (Keep S62 w61 w67 ∧ PIf (!t68) (((((((((R (.returned (.bool false)) w67) ∧ (R (.returned (.bool false)) w67))) ∧ (R (.returned (.bool false)) w67))) ∧
      (((((R (.returned (.bool false)) w67) ∧ (R (.returned (.bool false)) w67))) ∧ (R (.returned (.bool false)) w67))) ∧ (((R (.returned (.bool false)) w67) ∧
      (R (.returned (.bool false)) w67))))) ∧ (((((((R (.returned (.bool false)) w67) ∧ (R (.returned (.bool false)) w67))) ∧ (R (.returned (.bool false)) w67))) ∧
      (((((R (.returned (.bool false)) w67) ∧ (R (.returned (.bool false)) w67))) ∧ (R (.returned (.bool false)) w67))) ∧ (((R (.returned (.bool false)) w67) ∧
      (R (.returned (.bool false)) w67))))) ∧ (((((((R (.returned (.bool false)) w67) ∧ (R (.returned (.bool false)) w67))) ∧ (R (.returned (.bool false)) w67))) ∧
      (((((R (.returned (.bool false)) w67) ∧ (R (.returned (.bool false)) w67))) ∧ (R (.returned (.bool false)) w67))) ∧ (((R (.returned (.bool false)) w67) ∧
      (R (.returned (.bool false)) w67))))) ∧ (((((R (.returned (.bool false)) w67) ∧ (R (.returned (.bool false)) w67))) ∧ (((R (.returned (.bool false)) w67) ∧
      (R (.returned (.bool false)) w67))) ∧ (((R (.returned (.bool false)) w67) ∧ (R (.returned (.bool false)) w67))))))) ((∃ b69 o70, ((some ⟨w.heap.size, 0, none⟩) : Option Addr) = some ⟨b69, o70, none⟩ ∧
      (0 : Int) ≤ k11 ∧ k11 < ((8 : Nat) : Int) ∧ (¬ S62 b69 ∧ (∃ (t71 : Int), w67.cell? ⟨b69, o70 + Int.toNat k11, none⟩ = some (.int .i64 t71) ∧ (∃ b72 o73, ((some ⟨w.heap.size, 0, none⟩) : Option Addr) = some ⟨b72, o73, none⟩ ∧
      (0 : Int) ≤ i5 ∧ i5 < ((8 : Nat) : Int) ∧ (¬ S62 b72 ∧ (∃ (t74 : Int), w67.cell? ⟨b72, o73 + Int.toNat i5, none⟩ = some (.int .i64 t74) ∧ (∃ b75 o76, ((some ⟨w.heap.size, 0, none⟩) : Option Addr) = some ⟨b75, o76, none⟩ ∧
      (0 : Int) ≤ k11 ∧ k11 < ((8 : Nat) : Int) ∧ (¬ S62 b75 ∧ (∃ (t77 : Int), w67.cell? ⟨b75, o76 + Int.toNat k11, none⟩ = some (.int .i64 t77) ∧ (∃ b78 o79, ((some ⟨w.heap.size, 0, none⟩) : Option Addr) = some ⟨b78, o79, none⟩ ∧
      (0 : Int) ≤ i5 ∧ i5 < ((8 : Nat) : Int) ∧ (¬ S62 b78 ∧ (∃ (t80 : Int), w67.cell? ⟨b78, o79 + Int.toNat i5, none⟩ = some (.int .i64 t80) ∧ ((PA w67 (.cells #[.int .i64 1] 3) fun w81 =>
      (Keep S62 w67 w81 ∧ ((PA w81 (.cells #[.int .i64 0, .int .i64 t77] 3) fun w82 => (Keep S62 w81 w82 ∧ ((PA w82 (.cells #[.int .i64 2, .int .i64 2] 3) fun w83 =>
      (Keep S62 w82 w83 ∧ ((PA w83 (.cells #[.slice (some ⟨w67.heap.size, 0, none⟩) 1 1, .slice (some ⟨w81.heap.size, 0, none⟩) 2 2, .slice (some ⟨w82.heap.size, 0, none⟩) 2 2] 23) fun w84 =>
      (Keep S62 w83 w84 ∧ PA w84 (.cells #[.int .i64 1, .int .i64 t80] 3) fun w85 => (Keep S62 w84 w85 ∧ PC Try.prog 3 #[.int .i64 t71, .int .i64 t74, .slice (some ⟨w83.heap.size, 0, none⟩) 3 3, .slice (some ⟨w84.heap.size, 0, none⟩) 2 2] w85 (fun v86 w87 =>
      ∃ (t88 : Bool), v86 = .bool t88 ∧ (Keep S62 w85 w87 ∧ PIf (!t88) (R (.returned (.bool false)) w87) (PA w87 (.cells #[.int .i64 i5, .int .i64 k11, .int .i64 3, .int .i64 3] 3) fun w89 =>
      (Keep S62 w87 w89 ∧ PC Try.prog 4 #[.int .i64 (IntKind.wrap .i64 (1 + k11)), .slice (some ⟨w87.heap.size, 0, none⟩) 4 4, .int .i64 60] w89 (fun v90 w91 =>
      ∃ (t92 : Bool), v90 = .bool t92 ∧ (Keep S62 w89 w91 ∧ PIf (!t92) (R (.returned (.bool false)) w91) ((∃ b93 o94, ((some ⟨w.heap.size, 0, none⟩) : Option Addr) = some ⟨b93, o94, none⟩ ∧
      (0 : Int) ≤ i5 ∧ i5 < ((8 : Nat) : Int) ∧ (∃ (t95 : Int), w91.cell? ⟨b93, o94 + Int.toNat i5, none⟩ = some (.int .i64 t95) ∧ (∃ b96 o97, ((some ⟨w.heap.size, 0, none⟩) : Option Addr) = some ⟨b96, o97, none⟩ ∧
      (0 : Int) ≤ k11 ∧ k11 < ((8 : Nat) : Int) ∧ (∃ (t98 : Int), w91.cell? ⟨b96, o97 + Int.toNat k11, none⟩ = some (.int .i64 t98) ∧ PC Try.prog 7 #[.int .i64 t95, .int .i64 t98, .slice l57a l57n l57c] w91 (fun v99 w100 =>
      ∃ (t101 : Bool), v99 = .bool t101 ∧ (Keep S62 w91 w100 ∧ PIf (!t101) (R (.returned (.bool false)) w100) ((∃ m10, m10 < m9 ∧ I8 m10 (IntKind.wrap .i64 (k11 + 1)) w100)))) (fun ch w =>
      False)))))))) (fun ch w => False))))) (fun ch w => False)))) ∧ (PA w83 (.cells #[.int .i64 1, .int .i64 t80] 3) fun w102 => (Keep S62 w83 w102 ∧ PA w102 (.cells #[.slice (some ⟨w67.heap.size, 0, none⟩) 1 1, .slice (some ⟨w81.heap.size, 0, none⟩) 2 2, .slice (some ⟨w82.heap.size, 0, none⟩) 2 2] 23) fun w103 =>
      (Keep S62 w102 w103 ∧ PC Try.prog 3 #[.int .i64 t71, .int .i64 t74, .slice (some ⟨w102.heap.size, 0, none⟩) 3 3, .slice (some ⟨w83.heap.size, 0, none⟩) 2 2] w103 (fun v104 w105 =>
      ∃ (t106 : Bool), v104 = .bool t106 ∧ (Keep S62 w103 w105 ∧ PIf (!t106) (R (.returned (.bool false)) w105) (PA w105 (.cells #[.int .i64 i5, .int .i64 k11, .int .i64 3, .int .i64 3] 3) fun w107 =>
      (Keep S62 w105 w107 ∧ PC Try.prog 4 #[.int .i64 (IntKind.wrap .i64 (1 + k11)), .slice (some ⟨w105.heap.size, 0, none⟩) 4 4, .int .i64 60] w107 (fun v108 w109 =>
      ∃ (t110 : Bool), v108 = .bool t110 ∧ (Keep S62 w107 w109 ∧ PIf (!t110) (R (.returned (.bool false)) w109) ((∃ b111 o112, ((some ⟨w.heap.size, 0, none⟩) : Option Addr) = some ⟨b111, o112, none⟩ ∧
      (0 : Int) ≤ i5 ∧ i5 < ((8 : Nat) : Int) ∧ (∃ (t113 : Int), w109.cell? ⟨b111, o112 + Int.toNat i5, none⟩ = some (.int .i64 t113) ∧ (∃ b114 o115, ((some ⟨w.heap.size, 0, none⟩) : Option Addr) = some ⟨b114, o115, none⟩ ∧
      (0 : Int) ≤ k11 ∧ k11 < ((8 : Nat) : Int) ∧ (∃ (t116 : Int), w109.cell? ⟨b114, o115 + Int.toNat k11, none⟩ = some (.int .i64 t116) ∧ PC Try.prog 7 #[.int .i64 t113, .int .i64 t116, .slice l57a l57n l57c] w109 (fun v117 w118 =>
      ∃ (t119 : Bool), v117 = .bool t119 ∧ (Keep S62 w109 w118 ∧ PIf (!t119) (R (.returned (.bool false)) w118) ((∃ m10, m10 < m9 ∧ I8 m10 (IntKind.wrap .i64 (k11 + 1)) w118)))) (fun ch w =>
      False)))))))) (fun ch w => False))))) (fun ch w => False))))))) ∧ (PA w82 (.cells #[.int .i64 1, .int .i64 t80] 3) fun w120 => (Keep S62 w82 w120 ∧ PA w120 (.cells #[.int .i64 2, .int .i64 2] 3) fun w121 =>
      (Keep S62 w120 w121 ∧ PA w121 (.cells #[.slice (some ⟨w67.heap.size, 0, none⟩) 1 1, .slice (some ⟨w81.heap.size, 0, none⟩) 2 2, .slice (some ⟨w120.heap.size, 0, none⟩) 2 2] 23) fun w122 =>
      (Keep S62 w121 w122 ∧ PC Try.prog 3 #[.int .i64 t71, .int .i64 t74, .slice (some ⟨w121.heap.size, 0, none⟩) 3 3, .slice (some ⟨w82.heap.size, 0, none⟩) 2 2] w122 (fun v123 w124 =>
      ∃ (t125 : Bool), v123 = .bool t125 ∧ (Keep S62 w122 w124 ∧ PIf (!t125) (R (.returned (.bool false)) w124) (PA w124 (.cells #[.int .i64 i5, .int .i64 k11, .int .i64 3, .int .i64 3] 3) fun w126 =>
      (Keep S62 w124 w126 ∧ PC Try.prog 4 #[.int .i64 (IntKind.wrap .i64 (1 + k11)), .slice (some ⟨w124.heap.size, 0, none⟩) 4 4, .int .i64 60] w126 (fun v127 w128 =>
      ∃ (t129 : Bool), v127 = .bool t129 ∧ (Keep S62 w126 w128 ∧ PIf (!t129) (R (.returned (.bool false)) w128) ((∃ b130 o131, ((some ⟨w.heap.size, 0, none⟩) : Option Addr) = some ⟨b130, o131, none⟩ ∧
      (0 : Int) ≤ i5 ∧ i5 < ((8 : Nat) : Int) ∧ (∃ (t132 : Int), w128.cell? ⟨b130, o131 + Int.toNat i5, none⟩ = some (.int .i64 t132) ∧ (∃ b133 o134, ((some ⟨w.heap.size, 0, none⟩) : Option Addr) = some ⟨b133, o134, none⟩ ∧
      (0 : Int) ≤ k11 ∧ k11 < ((8 : Nat) : Int) ∧ (∃ (t135 : Int), w128.cell? ⟨b133, o134 + Int.toNat k11, none⟩ = some (.int .i64 t135) ∧ PC Try.prog 7 #[.int .i64 t132, .int .i64 t135, .slice l57a l57n l57c] w128 (fun v136 w137 =>
      ∃ (t138 : Bool), v136 = .bool t138 ∧ (Keep S62 w128 w137 ∧ PIf (!t138) (R (.returned (.bool false)) w137) ((∃ m10, m10 < m9 ∧ I8 m10 (IntKind.wrap .i64 (k11 + 1)) w137)))) (fun ch w =>
      False)))))))) (fun ch w => False))))) (fun ch w => False)))))))) ∧ (PA w81 (.cells #[.int .i64 2, .int .i64 2] 3) fun w139 => (Keep S62 w81 w139 ∧ ((PA w139 (.cells #[.int .i64 0, .int .i64 t77] 3) fun w140 =>
      (Keep S62 w139 w140 ∧ ((PA w140 (.cells #[.slice (some ⟨w67.heap.size, 0, none⟩) 1 1, .slice (some ⟨w139.heap.size, 0, none⟩) 2 2, .slice (some ⟨w81.heap.size, 0, none⟩) 2 2] 23) fun w141 =>
      (Keep S62 w140 w141 ∧ PA w141 (.cells #[.int .i64 1, .int .i64 t80] 3) fun w142 => (Keep S62 w141 w142 ∧ PC Try.prog 3 #[.int .i64 t71, .int .i64 t74, .slice (some ⟨w140.heap.size, 0, none⟩) 3 3, .slice (some ⟨w141.heap.size, 0, none⟩) 2 2] w142 (fun v143 w144 =>
      ∃ (t145 : Bool), v143 = .bool t145 ∧ (Keep S62 w142 w144 ∧ PIf (!t145) (R (.returned (.bool false)) w144) (PA w144 (.cells #[.int .i64 i5, .int .i64 k11, .int .i64 3, .int .i64 3] 3) fun w146 =>
      (Keep S62 w144 w146 ∧ PC Try.prog 4 #[.int .i64 (IntKind.wrap .i64 (1 + k11)), .slice (some ⟨w144.heap.size, 0, none⟩) 4 4, .int .i64 60] w146 (fun v147 w148 =>
      ∃ (t149 : Bool), v147 = .bool t149 ∧ (Keep S62 w146 w148 ∧ PIf (!t149) (R (.returned (.bool false)) w148) ((∃ b150 o151, ((some ⟨w.heap.size, 0, none⟩) : Option Addr) = some ⟨b150, o151, none⟩ ∧
      (0 : Int) ≤ i5 ∧ i5 < ((8 : Nat) : Int) ∧ (∃ (t152 : Int), w148.cell? ⟨b150, o151 + Int.toNat i5, none⟩ = some (.int .i64 t152) ∧ (∃ b153 o154, ((some ⟨w.heap.size, 0, none⟩) : Option Addr) = some ⟨b153, o154, none⟩ ∧
      (0 : Int) ≤ k11 ∧ k11 < ((8 : Nat) : Int) ∧ (∃ (t155 : Int), w148.cell? ⟨b153, o154 + Int.toNat k11, none⟩ = some (.int .i64 t155) ∧ PC Try.prog 7 #[.int .i64 t152, .int .i64 t155, .slice l57a l57n l57c] w148 (fun v156 w157 =>
      ∃ (t158 : Bool), v156 = .bool t158 ∧ (Keep S62 w148 w157 ∧ PIf (!t158) (R (.returned (.bool false)) w157) ((∃ m10, m10 < m9 ∧ I8 m10 (IntKind.wrap .i64 (k11 + 1)) w157)))) (fun ch w =>
      False)))))))) (fun ch w => False))))) (fun ch w => False)))) ∧ (PA w140 (.cells #[.int .i64 1, .int .i64 t80] 3) fun w159 => (Keep S62 w140 w159 ∧ PA w159 (.cells #[.slice (some ⟨w67.heap.size, 0, none⟩) 1 1, .slice (some ⟨w139.heap.size, 0, none⟩) 2 2, .slice (some ⟨w81.heap.size, 0, none⟩) 2 2] 23) fun w160 =>
      (Keep S62 w159 w160 ∧ PC Try.prog 3 #[.int .i64 t71, .int .i64 t74, .slice (some ⟨w159.heap.size, 0, none⟩) 3 3, .slice (some ⟨w140.heap.size, 0, none⟩) 2 2] w160 (fun v161 w162 =>
      ∃ (t163 : Bool), v161 = .bool t163 ∧ (Keep S62 w160 w162 ∧ PIf (!t163) (R (.returned (.bool false)) w162) (PA w162 (.cells #[.int .i64 i5, .int .i64 k11, .int .i64 3, .int .i64 3] 3) fun w164 =>
      (Keep S62 w162 w164 ∧ PC Try.prog 4 #[.int .i64 (IntKind.wrap .i64 (1 + k11)), .slice (some ⟨w162.heap.size, 0, none⟩) 4 4, .int .i64 60] w164 (fun v165 w166 =>
      ∃ (t167 : Bool), v165 = .bool t167 ∧ (Keep S62 w164 w166 ∧ PIf (!t167) (R (.returned (.bool false)) w166) ((∃ b168 o169, ((some ⟨w.heap.size, 0, none⟩) : Option Addr) = some ⟨b168, o169, none⟩ ∧
      (0 : Int) ≤ i5 ∧ i5 < ((8 : Nat) : Int) ∧ (∃ (t170 : Int), w166.cell? ⟨b168, o169 + Int.toNat i5, none⟩ = some (.int .i64 t170) ∧ (∃ b171 o172, ((some ⟨w.heap.size, 0, none⟩) : Option Addr) = some ⟨b171, o172, none⟩ ∧
      (0 : Int) ≤ k11 ∧ k11 < ((8 : Nat) : Int) ∧ (∃ (t173 : Int), w166.cell? ⟨b171, o172 + Int.toNat k11, none⟩ = some (.int .i64 t173) ∧ PC Try.prog 7 #[.int .i64 t170, .int .i64 t173, .slice l57a l57n l57c] w166 (fun v174 w175 =>
      ∃ (t176 : Bool), v174 = .bool t176 ∧ (Keep S62 w166 w175 ∧ PIf (!t176) (R (.returned (.bool false)) w175) ((∃ m10, m10 < m9 ∧ I8 m10 (IntKind.wrap .i64 (k11 + 1)) w175)))) (fun ch w =>
      False)))))))) (fun ch w => False))))) (fun ch w => False))))))) ∧ (PA w139 (.cells #[.int .i64 1, .int .i64 t80] 3) fun w177 => (Keep S62 w139 w177 ∧ PA w177 (.cells #[.int .i64 0, .int .i64 t77] 3) fun w178 =>
      (Keep S62 w177 w178 ∧ PA w178 (.cells #[.slice (some ⟨w67.heap.size, 0, none⟩) 1 1, .slice (some ⟨w177.heap.size, 0, none⟩) 2 2, .slice (some ⟨w81.heap.size, 0, none⟩) 2 2] 23) fun w179 =>
      (Keep S62 w178 w179 ∧ PC Try.prog 3 #[.int .i64 t71, .int .i64 t74, .slice (some ⟨w178.heap.size, 0, none⟩) 3 3, .slice (some ⟨w139.heap.size, 0, none⟩) 2 2] w179 (fun v180 w181 =>
      ∃ (t182 : Bool), v180 = .bool t182 ∧ (Keep S62 w179 w181 ∧ PIf (!t182) (R (.returned (.bool false)) w181) (PA w181 (.cells #[.int .i64 i5, .int .i64 k11, .int .i64 3, .int .i64 3] 3) fun w183 =>
      (Keep S62 w181 w183 ∧ PC Try.prog 4 #[.int .i64 (IntKind.wrap .i64 (1 + k11)), .slice (some ⟨w181.heap.size, 0, none⟩) 4 4, .int .i64 60] w183 (fun v184 w185 =>
      ∃ (t186 : Bool), v184 = .bool t186 ∧ (Keep S62 w183 w185 ∧ PIf (!t186) (R (.returned (.bool false)) w185) ((∃ b187 o188, ((some ⟨w.heap.size, 0, none⟩) : Option Addr) = some ⟨b187, o188, none⟩ ∧
      (0 : Int) ≤ i5 ∧ i5 < ((8 : Nat) : Int) ∧ (∃ (t189 : Int), w185.cell? ⟨b187, o188 + Int.toNat i5, none⟩ = some (.int .i64 t189) ∧ (∃ b190 o191, ((some ⟨w.heap.size, 0, none⟩) : Option Addr) = some ⟨b190, o191, none⟩ ∧
      (0 : Int) ≤ k11 ∧ k11 < ((8 : Nat) : Int) ∧ (∃ (t192 : Int), w185.cell? ⟨b190, o191 + Int.toNat k11, none⟩ = some (.int .i64 t192) ∧ PC Try.prog 7 #[.int .i64 t189, .int .i64 t192, .slice l57a l57n l57c] w185 (fun v193 w194 =>
      ∃ (t195 : Bool), v193 = .bool t195 ∧ (Keep S62 w185 w194 ∧ PIf (!t195) (R (.returned (.bool false)) w194) ((∃ m10, m10 < m9 ∧ I8 m10 (IntKind.wrap .i64 (k11 + 1)) w194)))) (fun ch w =>
      False)))))))) (fun ch w => False))))) (fun ch w => False)))))))) ∧ (PA w81 (.cells #[.int .i64 1, .int .i64 t80] 3) fun w196 => (Keep S62 w81 w196 ∧ ((PA w196 (.cells #[.int .i64 0, .int .i64 t77] 3) fun w197 =>
      (Keep S62 w196 w197 ∧ PA w197 (.cells #[.int .i64 2, .int .i64 2] 3) fun w198 => (Keep S62 w197 w198 ∧ PA w198 (.cells #[.slice (some ⟨w67.heap.size, 0, none⟩) 1 1, .slice (some ⟨w196.heap.size, 0, none⟩) 2 2, .slice (some ⟨w197.heap.size, 0, none⟩) 2 2] 23) fun w199 =>
      (Keep S62 w198 w199 ∧ PC Try.prog 3 #[.int .i64 t71, .int .i64 t74, .slice (some ⟨w198.heap.size, 0, none⟩) 3 3, .slice (some ⟨w81.heap.size, 0, none⟩) 2 2] w199 (fun v200 w201 =>
      ∃ (t202 : Bool), v200 = .bool t202 ∧ (Keep S62 w199 w201 ∧ PIf (!t202) (R (.returned (.bool false)) w201) (PA w201 (.cells #[.int .i64 i5, .int .i64 k11, .int .i64 3, .int .i64 3] 3) fun w203 =>
      (Keep S62 w201 w203 ∧ PC Try.prog 4 #[.int .i64 (IntKind.wrap .i64 (1 + k11)), .slice (some ⟨w201.heap.size, 0, none⟩) 4 4, .int .i64 60] w203 (fun v204 w205 =>
      ∃ (t206 : Bool), v204 = .bool t206 ∧ (Keep S62 w203 w205 ∧ PIf (!t206) (R (.returned (.bool false)) w205) ((∃ b207 o208, ((some ⟨w.heap.size, 0, none⟩) : Option Addr) = some ⟨b207, o208, none⟩ ∧
      (0 : Int) ≤ i5 ∧ i5 < ((8 : Nat) : Int) ∧ (∃ (t209 : Int), w205.cell? ⟨b207, o208 + Int.toNat i5, none⟩ = some (.int .i64 t209) ∧ (∃ b210 o211, ((some ⟨w.heap.size, 0, none⟩) : Option Addr) = some ⟨b210, o211, none⟩ ∧
      (0 : Int) ≤ k11 ∧ k11 < ((8 : Nat) : Int) ∧ (∃ (t212 : Int), w205.cell? ⟨b210, o211 + Int.toNat k11, none⟩ = some (.int .i64 t212) ∧ PC Try.prog 7 #[.int .i64 t209, .int .i64 t212, .slice l57a l57n l57c] w205 (fun v213 w214 =>
      ∃ (t215 : Bool), v213 = .bool t215 ∧ (Keep S62 w205 w214 ∧ PIf (!t215) (R (.returned (.bool false)) w214) ((∃ m10, m10 < m9 ∧ I8 m10 (IntKind.wrap .i64 (k11 + 1)) w214)))) (fun ch w =>
      False)))))))) (fun ch w => False))))) (fun ch w => False))))) ∧ (PA w196 (.cells #[.int .i64 2, .int .i64 2] 3) fun w216 => (Keep S62 w196 w216 ∧ PA w216 (.cells #[.int .i64 0, .int .i64 t77] 3) fun w217 =>
      (Keep S62 w216 w217 ∧ PA w217 (.cells #[.slice (some ⟨w67.heap.size, 0, none⟩) 1 1, .slice (some ⟨w216.heap.size, 0, none⟩) 2 2, .slice (some ⟨w196.heap.size, 0, none⟩) 2 2] 23) fun w218 =>
      (Keep S62 w217 w218 ∧ PC Try.prog 3 #[.int .i64 t71, .int .i64 t74, .slice (some ⟨w217.heap.size, 0, none⟩) 3 3, .slice (some ⟨w81.heap.size, 0, none⟩) 2 2] w218 (fun v219 w220 =>
      ∃ (t221 : Bool), v219 = .bool t221 ∧ (Keep S62 w218 w220 ∧ PIf (!t221) (R (.returned (.bool false)) w220) (PA w220 (.cells #[.int .i64 i5, .int .i64 k11, .int .i64 3, .int .i64 3] 3) fun w222 =>
      (Keep S62 w220 w222 ∧ PC Try.prog 4 #[.int .i64 (IntKind.wrap .i64 (1 + k11)), .slice (some ⟨w220.heap.size, 0, none⟩) 4 4, .int .i64 60] w222 (fun v223 w224 =>
      ∃ (t225 : Bool), v223 = .bool t225 ∧ (Keep S62 w222 w224 ∧ PIf (!t225) (R (.returned (.bool false)) w224) ((∃ b226 o227, ((some ⟨w.heap.size, 0, none⟩) : Option Addr) = some ⟨b226, o227, none⟩ ∧
      (0 : Int) ≤ i5 ∧ i5 < ((8 : Nat) : Int) ∧ (∃ (t228 : Int), w224.cell? ⟨b226, o227 + Int.toNat i5, none⟩ = some (.int .i64 t228) ∧ (∃ b229 o230, ((some ⟨w.heap.size, 0, none⟩) : Option Addr) = some ⟨b229, o230, none⟩ ∧
      (0 : Int) ≤ k11 ∧ k11 < ((8 : Nat) : Int) ∧ (∃ (t231 : Int), w224.cell? ⟨b229, o230 + Int.toNat k11, none⟩ = some (.int .i64 t231) ∧ PC Try.prog 7 #[.int .i64 t228, .int .i64 t231, .slice l57a l57n l57c] w224 (fun v232 w233 =>
      ∃ (t234 : Bool), v232 = .bool t234 ∧ (Keep S62 w224 w233 ∧ PIf (!t234) (R (.returned (.bool false)) w233) ((∃ m10, m10 < m9 ∧ I8 m10 (IntKind.wrap .i64 (k11 + 1)) w233)))) (fun ch w =>
      False)))))))) (fun ch w => False))))) (fun ch w => False))))))))))) ∧ (PA w67 (.cells #[.int .i64 0, .int .i64 t77] 3) fun w235 => (Keep S62 w67 w235 ∧
      ((PA w235 (.cells #[.int .i64 1] 3) fun w236 => (Keep S62 w235 w236 ∧ ((PA w236 (.cells #[.int .i64 2, .int .i64 2] 3) fun w237 => (Keep S62 w236 w237 ∧
      ((PA w237 (.cells #[.slice (some ⟨w235.heap.size, 0, none⟩) 1 1, .slice (some ⟨w67.heap.size, 0, none⟩) 2 2, .slice (some ⟨w236.heap.size, 0, none⟩) 2 2] 23) fun w238 =>
      (Keep S62 w237 w238 ∧ PA w238 (.cells #[.int .i64 1, .int .i64 t80] 3) fun w239 => (Keep S62 w238 w239 ∧ PC Try.prog 3 #[.int .i64 t71, .int .i64 t74, .slice (some ⟨w237.heap.size, 0, none⟩) 3 3, .slice (some ⟨w238.heap.size, 0, none⟩) 2 2] w239 (fun v240 w241 =>
      ∃ (t242 : Bool), v240 = .bool t242 ∧ (Keep S62 w239 w241 ∧ PIf (!t242) (R (.returned (.bool false)) w241) (PA w241 (.cells #[.int .i64 i5, .int .i64 k11, .int .i64 3, .int .i64 3] 3) fun w243 =>
      (Keep S62 w241 w243 ∧ PC Try.prog 4 #[.int .i64 (IntKind.wrap .i64 (1 + k11)), .slice (some ⟨w241.heap.size, 0, none⟩) 4 4, .int .i64 60] w243 (fun v244 w245 =>
      ∃ (t246 : Bool), v244 = .bool t246 ∧ (Keep S62 w243 w245 ∧ PIf (!t246) (R (.returned (.bool false)) w245) ((∃ b247 o248, ((some ⟨w.heap.size, 0, none⟩) : Option Addr) = some ⟨b247, o248, none⟩ ∧
      (0 : Int) ≤ i5 ∧ i5 < ((8 : Nat) : Int) ∧ (∃ (t249 : Int), w245.cell? ⟨b247, o248 + Int.toNat i5, none⟩ = some (.int .i64 t249) ∧ (∃ b250 o251, ((some ⟨w.heap.size, 0, none⟩) : Option Addr) = some ⟨b250, o251, none⟩ ∧
      (0 : Int) ≤ k11 ∧ k11 < ((8 : Nat) : Int) ∧ (∃ (t252 : Int), w245.cell? ⟨b250, o251 + Int.toNat k11, none⟩ = some (.int .i64 t252) ∧ PC Try.prog 7 #[.int .i64 t249, .int .i64 t252, .slice l57a l57n l57c] w245 (fun v253 w254 =>
      ∃ (t255 : Bool), v253 = .bool t255 ∧ (Keep S62 w245 w254 ∧ PIf (!t255) (R (.returned (.bool false)) w254) ((∃ m10, m10 < m9 ∧ I8 m10 (IntKind.wrap .i64 (k11 + 1)) w254)))) (fun ch w =>
      False)))))))) (fun ch w => False))))) (fun ch w => False)))) ∧ (PA w237 (.cells #[.int .i64 1, .int .i64 t80] 3) fun w256 => (Keep S62 w237 w256 ∧ PA w256 (.cells #[.slice (some ⟨w235.heap.size, 0, none⟩) 1 1, .slice (some ⟨w67.heap.size, 0, none⟩) 2 2, .slice (some ⟨w236.heap.size, 0, none⟩) 2 2] 23) fun w257 =>
      (Keep S62 w256 w257 ∧ PC Try.prog 3 #[.int .i64 t71, .int .i64 t74, .slice (some ⟨w256.heap.size, 0, none⟩) 3 3, .slice (some ⟨w237.heap.size, 0, none⟩) 2 2] w257 (fun v258 w259 =>
      ∃ (t260 : Bool), v258 = .bool t260 ∧ (Keep S62 w257 w259 ∧ PIf (!t260) (R (.returned (.bool false)) w259) (PA w259 (.cells #[.int .i64 i5, .int .i64 k11, .int .i64 3, .int .i64 3] 3) fun w261 =>
      (Keep S62 w259 w261 ∧ PC Try.prog 4 #[.int .i64 (IntKind.wrap .i64 (1 + k11)), .slice (some ⟨w259.heap.size, 0, none⟩) 4 4, .int .i64 60] w261 (fun v262 w263 =>
      ∃ (t264 : Bool), v262 = .bool t264 ∧ (Keep S62 w261 w263 ∧ PIf (!t264) (R (.returned (.bool false)) w263) ((∃ b265 o266, ((some ⟨w.heap.size, 0, none⟩) : Option Addr) = some ⟨b265, o266, none⟩ ∧
      (0 : Int) ≤ i5 ∧ i5 < ((8 : Nat) : Int) ∧ (∃ (t267 : Int), w263.cell? ⟨b265, o266 + Int.toNat i5, none⟩ = some (.int .i64 t267) ∧ (∃ b268 o269, ((some ⟨w.heap.size, 0, none⟩) : Option Addr) = some ⟨b268, o269, none⟩ ∧
      (0 : Int) ≤ k11 ∧ k11 < ((8 : Nat) : Int) ∧ (∃ (t270 : Int), w263.cell? ⟨b268, o269 + Int.toNat k11, none⟩ = some (.int .i64 t270) ∧ PC Try.prog 7 #[.int .i64 t267, .int .i64 t270, .slice l57a l57n l57c] w263 (fun v271 w272 =>
      ∃ (t273 : Bool), v271 = .bool t273 ∧ (Keep S62 w263 w272 ∧ PIf (!t273) (R (.returned (.bool false)) w272) ((∃ m10, m10 < m9 ∧ I8 m10 (IntKind.wrap .i64 (k11 + 1)) w272)))) (fun ch w =>
      False)))))))) (fun ch w => False))))) (fun ch w => False))))))) ∧ (PA w236 (.cells #[.int .i64 1, .int .i64 t80] 3) fun w274 => (Keep S62 w236 w274 ∧ PA w274 (.cells #[.int .i64 2, .int .i64 2] 3) fun w275 =>
      (Keep S62 w274 w275 ∧ PA w275 (.cells #[.slice (some ⟨w235.heap.size, 0, none⟩) 1 1, .slice (some ⟨w67.heap.size, 0, none⟩) 2 2, .slice (some ⟨w274.heap.size, 0, none⟩) 2 2] 23) fun w276 =>
      (Keep S62 w275 w276 ∧ PC Try.prog 3 #[.int .i64 t71, .int .i64 t74, .slice (some ⟨w275.heap.size, 0, none⟩) 3 3, .slice (some ⟨w236.heap.size, 0, none⟩) 2 2] w276 (fun v277 w278 =>
      ∃ (t279 : Bool), v277 = .bool t279 ∧ (Keep S62 w276 w278 ∧ PIf (!t279) (R (.returned (.bool false)) w278) (PA w278 (.cells #[.int .i64 i5, .int .i64 k11, .int .i64 3, .int .i64 3] 3) fun w280 =>
      (Keep S62 w278 w280 ∧ PC Try.prog 4 #[.int .i64 (IntKind.wrap .i64 (1 + k11)), .slice (some ⟨w278.heap.size, 0, none⟩) 4 4, .int .i64 60] w280 (fun v281 w282 =>
      ∃ (t283 : Bool), v281 = .bool t283 ∧ (Keep S62 w280 w282 ∧ PIf (!t283) (R (.returned (.bool false)) w282) ((∃ b284 o285, ((some ⟨w.heap.size, 0, none⟩) : Option Addr) = some ⟨b284, o285, none⟩ ∧
      (0 : Int) ≤ i5 ∧ i5 < ((8 : Nat) : Int) ∧ (∃ (t286 : Int), w282.cell? ⟨b284, o285 + Int.toNat i5, none⟩ = some (.int .i64 t286) ∧ (∃ b287 o288, ((some ⟨w.heap.size, 0, none⟩) : Option Addr) = some ⟨b287, o288, none⟩ ∧
      (0 : Int) ≤ k11 ∧ k11 < ((8 : Nat) : Int) ∧ (∃ (t289 : Int), w282.cell? ⟨b287, o288 + Int.toNat k11, none⟩ = some (.int .i64 t289) ∧ PC Try.prog 7 #[.int .i64 t286, .int .i64 t289, .slice l57a l57n l57c] w282 (fun v290 w291 =>
      ∃ (t292 : Bool), v290 = .bool t292 ∧ (Keep S62 w282 w291 ∧ PIf (!t292) (R (.returned (.bool false)) w291) ((∃ m10, m10 < m9 ∧ I8 m10 (IntKind.wrap .i64 (k11 + 1)) w291)))) (fun ch w =>
      False)))))))) (fun ch w => False))))) (fun ch w => False)))))))) ∧ (PA w235 (.cells #[.int .i64 2, .int .i64 2] 3) fun w293 => (Keep S62 w235 w293 ∧ ((PA w293 (.cells #[.int .i64 1] 3) fun w294 =>
      (Keep S62 w293 w294 ∧ ((PA w294 (.cells #[.slice (some ⟨w293.heap.size, 0, none⟩) 1 1, .slice (some ⟨w67.heap.size, 0, none⟩) 2 2, .slice (some ⟨w235.heap.size, 0, none⟩) 2 2] 23) fun w295 =>
      (Keep S62 w294 w295 ∧ PA w295 (.cells #[.int .i64 1, .int .i64 t80] 3) fun w296 => (Keep S62 w295 w296 ∧ PC Try.prog 3 #[.int .i64 t71, .int .i64 t74, .slice (some ⟨w294.heap.size, 0, none⟩) 3 3, .slice (some ⟨w295.heap.size, 0, none⟩) 2 2] w296 (fun v297 w298 =>
      ∃ (t299 : Bool), v297 = .bool t299 ∧ (Keep S62 w296 w298 ∧ PIf (!t299) (R (.returned (.bool false)) w298) (PA w298 (.cells #[.int .i64 i5, .int .i64 k11, .int .i64 3, .int .i64 3] 3) fun w300 =>
      (Keep S62 w298 w300 ∧ PC Try.prog 4 #[.int .i64 (IntKind.wrap .i64 (1 + k11)), .slice (some ⟨w298.heap.size, 0, none⟩) 4 4, .int .i64 60] w300 (fun v301 w302 =>
      ∃ (t303 : Bool), v301 = .bool t303 ∧ (Keep S62 w300 w302 ∧ PIf (!t303) (R (.returned (.bool false)) w302) ((∃ b304 o305, ((some ⟨w.heap.size, 0, none⟩) : Option Addr) = some ⟨b304, o305, none⟩ ∧
      (0 : Int) ≤ i5 ∧ i5 < ((8 : Nat) : Int) ∧ (∃ (t306 : Int), w302.cell? ⟨b304, o305 + Int.toNat i5, none⟩ = some (.int .i64 t306) ∧ (∃ b307 o308, ((some ⟨w.heap.size, 0, none⟩) : Option Addr) = some ⟨b307, o308, none⟩ ∧
      (0 : Int) ≤ k11 ∧ k11 < ((8 : Nat) : Int) ∧ (∃ (t309 : Int), w302.cell? ⟨b307, o308 + Int.toNat k11, none⟩ = some (.int .i64 t309) ∧ PC Try.prog 7 #[.int .i64 t306, .int .i64 t309, .slice l57a l57n l57c] w302 (fun v310 w311 =>
      ∃ (t312 : Bool), v310 = .bool t312 ∧ (Keep S62 w302 w311 ∧ PIf (!t312) (R (.returned (.bool false)) w311) ((∃ m10, m10 < m9 ∧ I8 m10 (IntKind.wrap .i64 (k11 + 1)) w311)))) (fun ch w =>
      False)))))))) (fun ch w => False))))) (fun ch w => False)))) ∧ (PA w294 (.cells #[.int .i64 1, .int .i64 t80] 3) fun w313 => (Keep S62 w294 w313 ∧ PA w313 (.cells #[.slice (some ⟨w293.heap.size, 0, none⟩) 1 1, .slice (some ⟨w67.heap.size, 0, none⟩) 2 2, .slice (some ⟨w235.heap.size, 0, none⟩) 2 2] 23) fun w314 =>
      (Keep S62 w313 w314 ∧ PC Try.prog 3 #[.int .i64 t71, .int .i64 t74, .slice (some ⟨w313.heap.size, 0, none⟩) 3 3, .slice (some ⟨w294.heap.size, 0, none⟩) 2 2] w314 (fun v315 w316 =>
      ∃ (t317 : Bool), v315 = .bool t317 ∧ (Keep S62 w314 w316 ∧ PIf (!t317) (R (.returned (.bool false)) w316) (PA w316 (.cells #[.int .i64 i5, .int .i64 k11, .int .i64 3, .int .i64 3] 3) fun w318 =>
      (Keep S62 w316 w318 ∧ PC Try.prog 4 #[.int .i64 (IntKind.wrap .i64 (1 + k11)), .slice (some ⟨w316.heap.size, 0, none⟩) 4 4, .int .i64 60] w318 (fun v319 w320 =>
      ∃ (t321 : Bool), v319 = .bool t321 ∧ (Keep S62 w318 w320 ∧ PIf (!t321) (R (.returned (.bool false)) w320) ((∃ b322 o323, ((some ⟨w.heap.size, 0, none⟩) : Option Addr) = some ⟨b322, o323, none⟩ ∧
      (0 : Int) ≤ i5 ∧ i5 < ((8 : Nat) : Int) ∧ (∃ (t324 : Int), w320.cell? ⟨b322, o323 + Int.toNat i5, none⟩ = some (.int .i64 t324) ∧ (∃ b325 o326, ((some ⟨w.heap.size, 0, none⟩) : Option Addr) = some ⟨b325, o326, none⟩ ∧
      (0 : Int) ≤ k11 ∧ k11 < ((8 : Nat) : Int) ∧ (∃ (t327 : Int), w320.cell? ⟨b325, o326 + Int.toNat k11, none⟩ = some (.int .i64 t327) ∧ PC Try.prog 7 #[.int .i64 t324, .int .i64 t327, .slice l57a l57n l57c] w320 (fun v328 w329 =>
      ∃ (t330 : Bool), v328 = .bool t330 ∧ (Keep S62 w320 w329 ∧ PIf (!t330) (R (.returned (.bool false)) w329) ((∃ m10, m10 < m9 ∧ I8 m10 (IntKind.wrap .i64 (k11 + 1)) w329)))) (fun ch w =>
      False)))))))) (fun ch w => False))))) (fun ch w => False))))))) ∧ (PA w293 (.cells #[.int .i64 1, .int .i64 t80] 3) fun w331 => (Keep S62 w293 w331 ∧ PA w331 (.cells #[.int .i64 1] 3) fun w332 =>
      (Keep S62 w331 w332 ∧ PA w332 (.cells #[.slice (some ⟨w331.heap.size, 0, none⟩) 1 1, .slice (some ⟨w67.heap.size, 0, none⟩) 2 2, .slice (some ⟨w235.heap.size, 0, none⟩) 2 2] 23) fun w333 =>
      (Keep S62 w332 w333 ∧ PC Try.prog 3 #[.int .i64 t71, .int .i64 t74, .slice (some ⟨w332.heap.size, 0, none⟩) 3 3, .slice (some ⟨w293.heap.size, 0, none⟩) 2 2] w333 (fun v334 w335 =>
      ∃ (t336 : Bool), v334 = .bool t336 ∧ (Keep S62 w333 w335 ∧ PIf (!t336) (R (.returned (.bool false)) w335) (PA w335 (.cells #[.int .i64 i5, .int .i64 k11, .int .i64 3, .int .i64 3] 3) fun w337 =>
      (Keep S62 w335 w337 ∧ PC Try.prog 4 #[.int .i64 (IntKind.wrap .i64 (1 + k11)), .slice (some ⟨w335.heap.size, 0, none⟩) 4 4, .int .i64 60] w337 (fun v338 w339 =>
      ∃ (t340 : Bool), v338 = .bool t340 ∧ (Keep S62 w337 w339 ∧ PIf (!t340) (R (.returned (.bool false)) w339) ((∃ b341 o342, ((some ⟨w.heap.size, 0, none⟩) : Option Addr) = some ⟨b341, o342, none⟩ ∧
      (0 : Int) ≤ i5 ∧ i5 < ((8 : Nat) : Int) ∧ (∃ (t343 : Int), w339.cell? ⟨b341, o342 + Int.toNat i5, none⟩ = some (.int .i64 t343) ∧ (∃ b344 o345, ((some ⟨w.heap.size, 0, none⟩) : Option Addr) = some ⟨b344, o345, none⟩ ∧
      (0 : Int) ≤ k11 ∧ k11 < ((8 : Nat) : Int) ∧ (∃ (t346 : Int), w339.cell? ⟨b344, o345 + Int.toNat k11, none⟩ = some (.int .i64 t346) ∧ PC Try.prog 7 #[.int .i64 t343, .int .i64 t346, .slice l57a l57n l57c] w339 (fun v347 w348 =>
      ∃ (t349 : Bool), v347 = .bool t349 ∧ (Keep S62 w339 w348 ∧ PIf (!t349) (R (.returned (.bool false)) w348) ((∃ m10, m10 < m9 ∧ I8 m10 (IntKind.wrap .i64 (k11 + 1)) w348)))) (fun ch w =>
      False)))))))) (fun ch w => False))))) (fun ch w => False)))))))) ∧ (PA w235 (.cells #[.int .i64 1, .int .i64 t80] 3) fun w350 => (Keep S62 w235 w350 ∧
      ((PA w350 (.cells #[.int .i64 1] 3) fun w351 => (Keep S62 w350 w351 ∧ PA w351 (.cells #[.int .i64 2, .int .i64 2] 3) fun w352 => (Keep S62 w351 w352 ∧
      PA w352 (.cells #[.slice (some ⟨w350.heap.size, 0, none⟩) 1 1, .slice (some ⟨w67.heap.size, 0, none⟩) 2 2, .slice (some ⟨w351.heap.size, 0, none⟩) 2 2] 23) fun w353 =>
      (Keep S62 w352 w353 ∧ PC Try.prog 3 #[.int .i64 t71, .int .i64 t74, .slice (some ⟨w352.heap.size, 0, none⟩) 3 3, .slice (some ⟨w235.heap.size, 0, none⟩) 2 2] w353 (fun v354 w355 =>
      ∃ (t356 : Bool), v354 = .bool t356 ∧ (Keep S62 w353 w355 ∧ PIf (!t356) (R (.returned (.bool false)) w355) (PA w355 (.cells #[.int .i64 i5, .int .i64 k11, .int .i64 3, .int .i64 3] 3) fun w357 =>
      (Keep S62 w355 w357 ∧ PC Try.prog 4 #[.int .i64 (IntKind.wrap .i64 (1 + k11)), .slice (some ⟨w355.heap.size, 0, none⟩) 4 4, .int .i64 60] w357 (fun v358 w359 =>
      ∃ (t360 : Bool), v358 = .bool t360 ∧ (Keep S62 w357 w359 ∧ PIf (!t360) (R (.returned (.bool false)) w359) ((∃ b361 o362, ((some ⟨w.heap.size, 0, none⟩) : Option Addr) = some ⟨b361, o362, none⟩ ∧
      (0 : Int) ≤ i5 ∧ i5 < ((8 : Nat) : Int) ∧ (∃ (t363 : Int), w359.cell? ⟨b361, o362 + Int.toNat i5, none⟩ = some (.int .i64 t363) ∧ (∃ b364 o365, ((some ⟨w.heap.size, 0, none⟩) : Option Addr) = some ⟨b364, o365, none⟩ ∧
      (0 : Int) ≤ k11 ∧ k11 < ((8 : Nat) : Int) ∧ (∃ (t366 : Int), w359.cell? ⟨b364, o365 + Int.toNat k11, none⟩ = some (.int .i64 t366) ∧ PC Try.prog 7 #[.int .i64 t363, .int .i64 t366, .slice l57a l57n l57c] w359 (fun v367 w368 =>
      ∃ (t369 : Bool), v367 = .bool t369 ∧ (Keep S62 w359 w368 ∧ PIf (!t369) (R (.returned (.bool false)) w368) ((∃ m10, m10 < m9 ∧ I8 m10 (IntKind.wrap .i64 (k11 + 1)) w368)))) (fun ch w =>
      False)))))))) (fun ch w => False))))) (fun ch w => False))))) ∧ (PA w350 (.cells #[.int .i64 2, .int .i64 2] 3) fun w370 => (Keep S62 w350 w370 ∧ PA w370 (.cells #[.int .i64 1] 3) fun w371 =>
      (Keep S62 w370 w371 ∧ PA w371 (.cells #[.slice (some ⟨w370.heap.size, 0, none⟩) 1 1, .slice (some ⟨w67.heap.size, 0, none⟩) 2 2, .slice (some ⟨w350.heap.size, 0, none⟩) 2 2] 23) fun w372 =>
      (Keep S62 w371 w372 ∧ PC Try.prog 3 #[.int .i64 t71, .int .i64 t74, .slice (some ⟨w371.heap.size, 0, none⟩) 3 3, .slice (some ⟨w235.heap.size, 0, none⟩) 2 2] w372 (fun v373 w374 =>
      ∃ (t375 : Bool), v373 = .bool t375 ∧ (Keep S62 w372 w374 ∧ PIf (!t375) (R (.returned (.bool false)) w374) (PA w374 (.cells #[.int .i64 i5, .int .i64 k11, .int .i64 3, .int .i64 3] 3) fun w376 =>
      (Keep S62 w374 w376 ∧ PC Try.prog 4 #[.int .i64 (IntKind.wrap .i64 (1 + k11)), .slice (some ⟨w374.heap.size, 0, none⟩) 4 4, .int .i64 60] w376 (fun v377 w378 =>
      ∃ (t379 : Bool), v377 = .bool t379 ∧ (Keep S62 w376 w378 ∧ PIf (!t379) (R (.returned (.bool false)) w378) ((∃ b380 o381, ((some ⟨w.heap.size, 0, none⟩) : Option Addr) = some ⟨b380, o381, none⟩ ∧
      (0 : Int) ≤ i5 ∧ i5 < ((8 : Nat) : Int) ∧ (∃ (t382 : Int), w378.cell? ⟨b380, o381 + Int.toNat i5, none⟩ = some (.int .i64 t382) ∧ (∃ b383 o384, ((some ⟨w.heap.size, 0, none⟩) : Option Addr) = some ⟨b383, o384, none⟩ ∧
      (0 : Int) ≤ k11 ∧ k11 < ((8 : Nat) : Int) ∧ (∃ (t385 : Int), w378.cell? ⟨b383, o384 + Int.toNat k11, none⟩ = some (.int .i64 t385) ∧ PC Try.prog 7 #[.int .i64 t382, .int .i64 t385, .slice l57a l57n l57c] w378 (fun v386 w387 =>
      ∃ (t388 : Bool), v386 = .bool t388 ∧ (Keep S62 w378 w387 ∧ PIf (!t388) (R (.returned (.bool false)) w387) ((∃ m10, m10 < m9 ∧ I8 m10 (IntKind.wrap .i64 (k11 + 1)) w387)))) (fun ch w =>
      False)))))))) (fun ch w => False))))) (fun ch w => False))))))))))) ∧ (PA w67 (.cells #[.int .i64 2, .int .i64 2] 3) fun w389 => (Keep S62 w67 w389 ∧ ((PA w389 (.cells #[.int .i64 1] 3) fun w390 =>
      (Keep S62 w389 w390 ∧ ((PA w390 (.cells #[.int .i64 0, .int .i64 t77] 3) fun w391 => (Keep S62 w390 w391 ∧ ((PA w391 (.cells #[.slice (some ⟨w389.heap.size, 0, none⟩) 1 1, .slice (some ⟨w390.heap.size, 0, none⟩) 2 2, .slice (some ⟨w67.heap.size, 0, none⟩) 2 2] 23) fun w392 =>
      (Keep S62 w391 w392 ∧ PA w392 (.cells #[.int .i64 1, .int .i64 t80] 3) fun w393 => (Keep S62 w392 w393 ∧ PC Try.prog 3 #[.int .i64 t71, .int .i64 t74, .slice (some ⟨w391.heap.size, 0, none⟩) 3 3, .slice (some ⟨w392.heap.size, 0, none⟩) 2 2] w393 (fun v394 w395 =>
      ∃ (t396 : Bool), v394 = .bool t396 ∧ (Keep S62 w393 w395 ∧ PIf (!t396) (R (.returned (.bool false)) w395) (PA w395 (.cells #[.int .i64 i5, .int .i64 k11, .int .i64 3, .int .i64 3] 3) fun w397 =>
      (Keep S62 w395 w397 ∧ PC Try.prog 4 #[.int .i64 (IntKind.wrap .i64 (1 + k11)), .slice (some ⟨w395.heap.size, 0, none⟩) 4 4, .int .i64 60] w397 (fun v398 w399 =>
      ∃ (t400 : Bool), v398 = .bool t400 ∧ (Keep S62 w397 w399 ∧ PIf (!t400) (R (.returned (.bool false)) w399) ((∃ b401 o402, ((some ⟨w.heap.size, 0, none⟩) : Option Addr) = some ⟨b401, o402, none⟩ ∧
      (0 : Int) ≤ i5 ∧ i5 < ((8 : Nat) : Int) ∧ (∃ (t403 : Int), w399.cell? ⟨b401, o402 + Int.toNat i5, none⟩ = some (.int .i64 t403) ∧ (∃ b404 o405, ((some ⟨w.heap.size, 0, none⟩) : Option Addr) = some ⟨b404, o405, none⟩ ∧
      (0 : Int) ≤ k11 ∧ k11 < ((8 : Nat) : Int) ∧ (∃ (t406 : Int), w399.cell? ⟨b404, o405 + Int.toNat k11, none⟩ = some (.int .i64 t406) ∧ PC Try.prog 7 #[.int .i64 t403, .int .i64 t406, .slice l57a l57n l57c] w399 (fun v407 w408 =>
      ∃ (t409 : Bool), v407 = .bool t409 ∧ (Keep S62 w399 w408 ∧ PIf (!t409) (R (.returned (.bool false)) w408) ((∃ m10, m10 < m9 ∧ I8 m10 (IntKind.wrap .i64 (k11 + 1)) w408)))) (fun ch w =>
      False)))))))) (fun ch w => False))))) (fun ch w => False)))) ∧ (PA w391 (.cells #[.int .i64 1, .int .i64 t80] 3) fun w410 => (Keep S62 w391 w410 ∧ PA w410 (.cells #[.slice (some ⟨w389.heap.size, 0, none⟩) 1 1, .slice (some ⟨w390.heap.size, 0, none⟩) 2 2, .slice (some ⟨w67.heap.size, 0, none⟩) 2 2] 23) fun w411 =>
      (Keep S62 w410 w411 ∧ PC Try.prog 3 #[.int .i64 t71, .int .i64 t74, .slice (some ⟨w410.heap.size, 0, none⟩) 3 3, .slice (some ⟨w391.heap.size, 0, none⟩) 2 2] w411 (fun v412 w413 =>
      ∃ (t414 : Bool), v412 = .bool t414 ∧ (Keep S62 w411 w413 ∧ PIf (!t414) (R (.returned (.bool false)) w413) (PA w413 (.cells #[.int .i64 i5, .int .i64 k11, .int .i64 3, .int .i64 3] 3) fun w415 =>
      (Keep S62 w413 w415 ∧ PC Try.prog 4 #[.int .i64 (IntKind.wrap .i64 (1 + k11)), .slice (some ⟨w413.heap.size, 0, none⟩) 4 4, .int .i64 60] w415 (fun v416 w417 =>
      ∃ (t418 : Bool), v416 = .bool t418 ∧ (Keep S62 w415 w417 ∧ PIf (!t418) (R (.returned (.bool false)) w417) ((∃ b419 o420, ((some ⟨w.heap.size, 0, none⟩) : Option Addr) = some ⟨b419, o420, none⟩ ∧
      (0 : Int) ≤ i5 ∧ i5 < ((8 : Nat) : Int) ∧ (∃ (t421 : Int), w417.cell? ⟨b419, o420 + Int.toNat i5, none⟩ = some (.int .i64 t421) ∧ (∃ b422 o423, ((some ⟨w.heap.size, 0, none⟩) : Option Addr) = some ⟨b422, o423, none⟩ ∧
      (0 : Int) ≤ k11 ∧ k11 < ((8 : Nat) : Int) ∧ (∃ (t424 : Int), w417.cell? ⟨b422, o423 + Int.toNat k11, none⟩ = some (.int .i64 t424) ∧ PC Try.prog 7 #[.int .i64 t421, .int .i64 t424, .slice l57a l57n l57c] w417 (fun v425 w426 =>
      ∃ (t427 : Bool), v425 = .bool t427 ∧ (Keep S62 w417 w426 ∧ PIf (!t427) (R (.returned (.bool false)) w426) ((∃ m10, m10 < m9 ∧ I8 m10 (IntKind.wrap .i64 (k11 + 1)) w426)))) (fun ch w =>
      False)))))))) (fun ch w => False))))) (fun ch w => False))))))) ∧ (PA w390 (.cells #[.int .i64 1, .int .i64 t80] 3) fun w428 => (Keep S62 w390 w428 ∧ PA w428 (.cells #[.int .i64 0, .int .i64 t77] 3) fun w429 =>
      (Keep S62 w428 w429 ∧ PA w429 (.cells #[.slice (some ⟨w389.heap.size, 0, none⟩) 1 1, .slice (some ⟨w428.heap.size, 0, none⟩) 2 2, .slice (some ⟨w67.heap.size, 0, none⟩) 2 2] 23) fun w430 =>
      (Keep S62 w429 w430 ∧ PC Try.prog 3 #[.int .i64 t71, .int .i64 t74, .slice (some ⟨w429.heap.size, 0, none⟩) 3 3, .slice (some ⟨w390.heap.size, 0, none⟩) 2 2] w430 (fun v431 w432 =>
      ∃ (t433 : Bool), v431 = .bool t433 ∧ (Keep S62 w430 w432 ∧ PIf (!t433) (R (.returned (.bool false)) w432) (PA w432 (.cells #[.int .i64 i5, .int .i64 k11, .int .i64 3, .int .i64 3] 3) fun w434 =>
      (Keep S62 w432 w434 ∧ PC Try.prog 4 #[.int .i64 (IntKind.wrap .i64 (1 + k11)), .slice (some ⟨w432.heap.size, 0, none⟩) 4 4, .int .i64 60] w434 (fun v435 w436 =>
      ∃ (t437 : Bool), v435 = .bool t437 ∧ (Keep S62 w434 w436 ∧ PIf (!t437) (R (.returned (.bool false)) w436) ((∃ b438 o439, ((some ⟨w.heap.size, 0, none⟩) : Option Addr) = some ⟨b438, o439, none⟩ ∧
      (0 : Int) ≤ i5 ∧ i5 < ((8 : Nat) : Int) ∧ (∃ (t440 : Int), w436.cell? ⟨b438, o439 + Int.toNat i5, none⟩ = some (.int .i64 t440) ∧ (∃ b441 o442, ((some ⟨w.heap.size, 0, none⟩) : Option Addr) = some ⟨b441, o442, none⟩ ∧
      (0 : Int) ≤ k11 ∧ k11 < ((8 : Nat) : Int) ∧ (∃ (t443 : Int), w436.cell? ⟨b441, o442 + Int.toNat k11, none⟩ = some (.int .i64 t443) ∧ PC Try.prog 7 #[.int .i64 t440, .int .i64 t443, .slice l57a l57n l57c] w436 (fun v444 w445 =>
      ∃ (t446 : Bool), v444 = .bool t446 ∧ (Keep S62 w436 w445 ∧ PIf (!t446) (R (.returned (.bool false)) w445) ((∃ m10, m10 < m9 ∧ I8 m10 (IntKind.wrap .i64 (k11 + 1)) w445)))) (fun ch w =>
      False)))))))) (fun ch w => False))))) (fun ch w => False)))))))) ∧ (PA w389 (.cells #[.int .i64 0, .int .i64 t77] 3) fun w447 => (Keep S62 w389 w447 ∧
      ((PA w447 (.cells #[.int .i64 1] 3) fun w448 => (Keep S62 w447 w448 ∧ ((PA w448 (.cells #[.slice (some ⟨w447.heap.size, 0, none⟩) 1 1, .slice (some ⟨w389.heap.size, 0, none⟩) 2 2, .slice (some ⟨w67.heap.size, 0, none⟩) 2 2] 23) fun w449 =>
      (Keep S62 w448 w449 ∧ PA w449 (.cells #[.int .i64 1, .int .i64 t80] 3) fun w450 => (Keep S62 w449 w450 ∧ PC Try.prog 3 #[.int .i64 t71, .int .i64 t74, .slice (some ⟨w448.heap.size, 0, none⟩) 3 3, .slice (some ⟨w449.heap.size, 0, none⟩) 2 2] w450 (fun v451 w452 =>
      ∃ (t453 : Bool), v451 = .bool t453 ∧ (Keep S62 w450 w452 ∧ PIf (!t453) (R (.returned (.bool false)) w452) (PA w452 (.cells #[.int .i64 i5, .int .i64 k11, .int .i64 3, .int .i64 3] 3) fun w454 =>
      (Keep S62 w452 w454 ∧ PC Try.prog 4 #[.int .i64 (IntKind.wrap .i64 (1 + k11)), .slice (some ⟨w452.heap.size, 0, none⟩) 4 4, .int .i64 60] w454 (fun v455 w456 =>
      ∃ (t457 : Bool), v455 = .bool t457 ∧ (Keep S62 w454 w456 ∧ PIf (!t457) (R (.returned (.bool false)) w456) ((∃ b458 o459, ((some ⟨w.heap.size, 0, none⟩) : Option Addr) = some ⟨b458, o459, none⟩ ∧
      (0 : Int) ≤ i5 ∧ i5 < ((8 : Nat) : Int) ∧ (∃ (t460 : Int), w456.cell? ⟨b458, o459 + Int.toNat i5, none⟩ = some (.int .i64 t460) ∧ (∃ b461 o462, ((some ⟨w.heap.size, 0, none⟩) : Option Addr) = some ⟨b461, o462, none⟩ ∧
      (0 : Int) ≤ k11 ∧ k11 < ((8 : Nat) : Int) ∧ (∃ (t463 : Int), w456.cell? ⟨b461, o462 + Int.toNat k11, none⟩ = some (.int .i64 t463) ∧ PC Try.prog 7 #[.int .i64 t460, .int .i64 t463, .slice l57a l57n l57c] w456 (fun v464 w465 =>
      ∃ (t466 : Bool), v464 = .bool t466 ∧ (Keep S62 w456 w465 ∧ PIf (!t466) (R (.returned (.bool false)) w465) ((∃ m10, m10 < m9 ∧ I8 m10 (IntKind.wrap .i64 (k11 + 1)) w465)))) (fun ch w =>
      False)))))))) (fun ch w => False))))) (fun ch w => False)))) ∧ (PA w448 (.cells #[.int .i64 1, .int .i64 t80] 3) fun w467 => (Keep S62 w448 w467 ∧ PA w467 (.cells #[.slice (some ⟨w447.heap.size, 0, none⟩) 1 1, .slice (some ⟨w389.heap.size, 0, none⟩) 2 2, .slice (some ⟨w67.heap.size, 0, none⟩) 2 2] 23) fun w468 =>
      (Keep S62 w467 w468 ∧ PC Try.prog 3 #[.int .i64 t71, .int .i64 t74, .slice (some ⟨w467.heap.size, 0, none⟩) 3 3, .slice (some ⟨w448.heap.size, 0, none⟩) 2 2] w468 (fun v469 w470 =>
      ∃ (t471 : Bool), v469 = .bool t471 ∧ (Keep S62 w468 w470 ∧ PIf (!t471) (R (.returned (.bool false)) w470) (PA w470 (.cells #[.int .i64 i5, .int .i64 k11, .int .i64 3, .int .i64 3] 3) fun w472 =>
      (Keep S62 w470 w472 ∧ PC Try.prog 4 #[.int .i64 (IntKind.wrap .i64 (1 + k11)), .slice (some ⟨w470.heap.size, 0, none⟩) 4 4, .int .i64 60] w472 (fun v473 w474 =>
      ∃ (t475 : Bool), v473 = .bool t475 ∧ (Keep S62 w472 w474 ∧ PIf (!t475) (R (.returned (.bool false)) w474) ((∃ b476 o477, ((some ⟨w.heap.size, 0, none⟩) : Option Addr) = some ⟨b476, o477, none⟩ ∧
      (0 : Int) ≤ i5 ∧ i5 < ((8 : Nat) : Int) ∧ (∃ (t478 : Int), w474.cell? ⟨b476, o477 + Int.toNat i5, none⟩ = some (.int .i64 t478) ∧ (∃ b479 o480, ((some ⟨w.heap.size, 0, none⟩) : Option Addr) = some ⟨b479, o480, none⟩ ∧
      (0 : Int) ≤ k11 ∧ k11 < ((8 : Nat) : Int) ∧ (∃ (t481 : Int), w474.cell? ⟨b479, o480 + Int.toNat k11, none⟩ = some (.int .i64 t481) ∧ PC Try.prog 7 #[.int .i64 t478, .int .i64 t481, .slice l57a l57n l57c] w474 (fun v482 w483 =>
      ∃ (t484 : Bool), v482 = .bool t484 ∧ (Keep S62 w474 w483 ∧ PIf (!t484) (R (.returned (.bool false)) w483) ((∃ m10, m10 < m9 ∧ I8 m10 (IntKind.wrap .i64 (k11 + 1)) w483)))) (fun ch w =>
      False)))))))) (fun ch w => False))))) (fun ch w => False))))))) ∧ (PA w447 (.cells #[.int .i64 1, .int .i64 t80] 3) fun w485 => (Keep S62 w447 w485 ∧ PA w485 (.cells #[.int .i64 1] 3) fun w486 =>
      (Keep S62 w485 w486 ∧ PA w486 (.cells #[.slice (some ⟨w485.heap.size, 0, none⟩) 1 1, .slice (some ⟨w389.heap.size, 0, none⟩) 2 2, .slice (some ⟨w67.heap.size, 0, none⟩) 2 2] 23) fun w487 =>
      (Keep S62 w486 w487 ∧ PC Try.prog 3 #[.int .i64 t71, .int .i64 t74, .slice (some ⟨w486.heap.size, 0, none⟩) 3 3, .slice (some ⟨w447.heap.size, 0, none⟩) 2 2] w487 (fun v488 w489 =>
      ∃ (t490 : Bool), v488 = .bool t490 ∧ (Keep S62 w487 w489 ∧ PIf (!t490) (R (.returned (.bool false)) w489) (PA w489 (.cells #[.int .i64 i5, .int .i64 k11, .int .i64 3, .int .i64 3] 3) fun w491 =>
      (Keep S62 w489 w491 ∧ PC Try.prog 4 #[.int .i64 (IntKind.wrap .i64 (1 + k11)), .slice (some ⟨w489.heap.size, 0, none⟩) 4 4, .int .i64 60] w491 (fun v492 w493 =>
      ∃ (t494 : Bool), v492 = .bool t494 ∧ (Keep S62 w491 w493 ∧ PIf (!t494) (R (.returned (.bool false)) w493) ((∃ b495 o496, ((some ⟨w.heap.size, 0, none⟩) : Option Addr) = some ⟨b495, o496, none⟩ ∧
      (0 : Int) ≤ i5 ∧ i5 < ((8 : Nat) : Int) ∧ (∃ (t497 : Int), w493.cell? ⟨b495, o496 + Int.toNat i5, none⟩ = some (.int .i64 t497) ∧ (∃ b498 o499, ((some ⟨w.heap.size, 0, none⟩) : Option Addr) = some ⟨b498, o499, none⟩ ∧
      (0 : Int) ≤ k11 ∧ k11 < ((8 : Nat) : Int) ∧ (∃ (t500 : Int), w493.cell? ⟨b498, o499 + Int.toNat k11, none⟩ = some (.int .i64 t500) ∧ PC Try.prog 7 #[.int .i64 t497, .int .i64 t500, .slice l57a l57n l57c] w493 (fun v501 w502 =>
      ∃ (t503 : Bool), v501 = .bool t503 ∧ (Keep S62 w493 w502 ∧ PIf (!t503) (R (.returned (.bool false)) w502) ((∃ m10, m10 < m9 ∧ I8 m10 (IntKind.wrap .i64 (k11 + 1)) w502)))) (fun ch w =>
      False)))))))) (fun ch w => False))))) (fun ch w => False)))))))) ∧ (PA w389 (.cells #[.int .i64 1, .int .i64 t80] 3) fun w504 => (Keep S62 w389 w504 ∧
      ((PA w504 (.cells #[.int .i64 1] 3) fun w505 => (Keep S62 w504 w505 ∧ PA w505 (.cells #[.int .i64 0, .int .i64 t77] 3) fun w506 => (Keep S62 w505 w506 ∧
      PA w506 (.cells #[.slice (some ⟨w504.heap.size, 0, none⟩) 1 1, .slice (some ⟨w505.heap.size, 0, none⟩) 2 2, .slice (some ⟨w67.heap.size, 0, none⟩) 2 2] 23) fun w507 =>
      (Keep S62 w506 w507 ∧ PC Try.prog 3 #[.int .i64 t71, .int .i64 t74, .slice (some ⟨w506.heap.size, 0, none⟩) 3 3, .slice (some ⟨w389.heap.size, 0, none⟩) 2 2] w507 (fun v508 w509 =>
      ∃ (t510 : Bool), v508 = .bool t510 ∧ (Keep S62 w507 w509 ∧ PIf (!t510) (R (.returned (.bool false)) w509) (PA w509 (.cells #[.int .i64 i5, .int .i64 k11, .int .i64 3, .int .i64 3] 3) fun w511 =>
      (Keep S62 w509 w511 ∧ PC Try.prog 4 #[.int .i64 (IntKind.wrap .i64 (1 + k11)), .slice (some ⟨w509.heap.size, 0, none⟩) 4 4, .int .i64 60] w511 (fun v512 w513 =>
      ∃ (t514 : Bool), v512 = .bool t514 ∧ (Keep S62 w511 w513 ∧ PIf (!t514) (R (.returned (.bool false)) w513) ((∃ b515 o516, ((some ⟨w.heap.size, 0, none⟩) : Option Addr) = some ⟨b515, o516, none⟩ ∧
      (0 : Int) ≤ i5 ∧ i5 < ((8 : Nat) : Int) ∧ (∃ (t517 : Int), w513.cell? ⟨b515, o516 + Int.toNat i5, none⟩ = some (.int .i64 t517) ∧ (∃ b518 o519, ((some ⟨w.heap.size, 0, none⟩) : Option Addr) = some ⟨b518, o519, none⟩ ∧
      (0 : Int) ≤ k11 ∧ k11 < ((8 : Nat) : Int) ∧ (∃ (t520 : Int), w513.cell? ⟨b518, o519 + Int.toNat k11, none⟩ = some (.int .i64 t520) ∧ PC Try.prog 7 #[.int .i64 t517, .int .i64 t520, .slice l57a l57n l57c] w513 (fun v521 w522 =>
      ∃ (t523 : Bool), v521 = .bool t523 ∧ (Keep S62 w513 w522 ∧ PIf (!t523) (R (.returned (.bool false)) w522) ((∃ m10, m10 < m9 ∧ I8 m10 (IntKind.wrap .i64 (k11 + 1)) w522)))) (fun ch w =>
      False)))))))) (fun ch w => False))))) (fun ch w => False))))) ∧ (PA w504 (.cells #[.int .i64 0, .int .i64 t77] 3) fun w524 => (Keep S62 w504 w524 ∧ PA w524 (.cells #[.int .i64 1] 3) fun w525 =>
      (Keep S62 w524 w525 ∧ PA w525 (.cells #[.slice (some ⟨w524.heap.size, 0, none⟩) 1 1, .slice (some ⟨w504.heap.size, 0, none⟩) 2 2, .slice (some ⟨w67.heap.size, 0, none⟩) 2 2] 23) fun w526 =>
      (Keep S62 w525 w526 ∧ PC Try.prog 3 #[.int .i64 t71, .int .i64 t74, .slice (some ⟨w525.heap.size, 0, none⟩) 3 3, .slice (some ⟨w389.heap.size, 0, none⟩) 2 2] w526 (fun v527 w528 =>
      ∃ (t529 : Bool), v527 = .bool t529 ∧ (Keep S62 w526 w528 ∧ PIf (!t529) (R (.returned (.bool false)) w528) (PA w528 (.cells #[.int .i64 i5, .int .i64 k11, .int .i64 3, .int .i64 3] 3) fun w530 =>
      (Keep S62 w528 w530 ∧ PC Try.prog 4 #[.int .i64 (IntKind.wrap .i64 (1 + k11)), .slice (some ⟨w528.heap.size, 0, none⟩) 4 4, .int .i64 60] w530 (fun v531 w532 =>
      ∃ (t533 : Bool), v531 = .bool t533 ∧ (Keep S62 w530 w532 ∧ PIf (!t533) (R (.returned (.bool false)) w532) ((∃ b534 o535, ((some ⟨w.heap.size, 0, none⟩) : Option Addr) = some ⟨b534, o535, none⟩ ∧
      (0 : Int) ≤ i5 ∧ i5 < ((8 : Nat) : Int) ∧ (∃ (t536 : Int), w532.cell? ⟨b534, o535 + Int.toNat i5, none⟩ = some (.int .i64 t536) ∧ (∃ b537 o538, ((some ⟨w.heap.size, 0, none⟩) : Option Addr) = some ⟨b537, o538, none⟩ ∧
      (0 : Int) ≤ k11 ∧ k11 < ((8 : Nat) : Int) ∧ (∃ (t539 : Int), w532.cell? ⟨b537, o538 + Int.toNat k11, none⟩ = some (.int .i64 t539) ∧ PC Try.prog 7 #[.int .i64 t536, .int .i64 t539, .slice l57a l57n l57c] w532 (fun v540 w541 =>
      ∃ (t542 : Bool), v540 = .bool t542 ∧ (Keep S62 w532 w541 ∧ PIf (!t542) (R (.returned (.bool false)) w541) ((∃ m10, m10 < m9 ∧ I8 m10 (IntKind.wrap .i64 (k11 + 1)) w541)))) (fun ch w =>
      False)))))))) (fun ch w => False))))) (fun ch w => False))))))))))) ∧ (PA w67 (.cells #[.int .i64 1, .int .i64 t80] 3) fun w543 => (Keep S62 w67 w543 ∧
      ((PA w543 (.cells #[.int .i64 1] 3) fun w544 => (Keep S62 w543 w544 ∧ ((PA w544 (.cells #[.int .i64 0, .int .i64 t77] 3) fun w545 => (Keep S62 w544 w545 ∧
      PA w545 (.cells #[.int .i64 2, .int .i64 2] 3) fun w546 => (Keep S62 w545 w546 ∧ PA w546 (.cells #[.slice (some ⟨w543.heap.size, 0, none⟩) 1 1, .slice (some ⟨w544.heap.size, 0, none⟩) 2 2, .slice (some ⟨w545.heap.size, 0, none⟩) 2 2] 23) fun w547 =>
      (Keep S62 w546 w547 ∧ PC Try.prog 3 #[.int .i64 t71, .int .i64 t74, .slice (some ⟨w546.heap.size, 0, none⟩) 3 3, .slice (some ⟨w67.heap.size, 0, none⟩) 2 2] w547 (fun v548 w549 =>
      ∃ (t550 : Bool), v548 = .bool t550 ∧ (Keep S62 w547 w549 ∧ PIf (!t550) (R (.returned (.bool false)) w549) (PA w549 (.cells #[.int .i64 i5, .int .i64 k11, .int .i64 3, .int .i64 3] 3) fun w551 =>
      (Keep S62 w549 w551 ∧ PC Try.prog 4 #[.int .i64 (IntKind.wrap .i64 (1 + k11)), .slice (some ⟨w549.heap.size, 0, none⟩) 4 4, .int .i64 60] w551 (fun v552 w553 =>
      ∃ (t554 : Bool), v552 = .bool t554 ∧ (Keep S62 w551 w553 ∧ PIf (!t554) (R (.returned (.bool false)) w553) ((∃ b555 o556, ((some ⟨w.heap.size, 0, none⟩) : Option Addr) = some ⟨b555, o556, none⟩ ∧
      (0 : Int) ≤ i5 ∧ i5 < ((8 : Nat) : Int) ∧ (∃ (t557 : Int), w553.cell? ⟨b555, o556 + Int.toNat i5, none⟩ = some (.int .i64 t557) ∧ (∃ b558 o559, ((some ⟨w.heap.size, 0, none⟩) : Option Addr) = some ⟨b558, o559, none⟩ ∧
      (0 : Int) ≤ k11 ∧ k11 < ((8 : Nat) : Int) ∧ (∃ (t560 : Int), w553.cell? ⟨b558, o559 + Int.toNat k11, none⟩ = some (.int .i64 t560) ∧ PC Try.prog 7 #[.int .i64 t557, .int .i64 t560, .slice l57a l57n l57c] w553 (fun v561 w562 =>
      ∃ (t563 : Bool), v561 = .bool t563 ∧ (Keep S62 w553 w562 ∧ PIf (!t563) (R (.returned (.bool false)) w562) ((∃ m10, m10 < m9 ∧ I8 m10 (IntKind.wrap .i64 (k11 + 1)) w562)))) (fun ch w =>
      False)))))))) (fun ch w => False))))) (fun ch w => False))))) ∧ (PA w544 (.cells #[.int .i64 2, .int .i64 2] 3) fun w564 => (Keep S62 w544 w564 ∧ PA w564 (.cells #[.int .i64 0, .int .i64 t77] 3) fun w565 =>
      (Keep S62 w564 w565 ∧ PA w565 (.cells #[.slice (some ⟨w543.heap.size, 0, none⟩) 1 1, .slice (some ⟨w564.heap.size, 0, none⟩) 2 2, .slice (some ⟨w544.heap.size, 0, none⟩) 2 2] 23) fun w566 =>
      (Keep S62 w565 w566 ∧ PC Try.prog 3 #[.int .i64 t71, .int .i64 t74, .slice (some ⟨w565.heap.size, 0, none⟩) 3 3, .slice (some ⟨w67.heap.size, 0, none⟩) 2 2] w566 (fun v567 w568 =>
      ∃ (t569 : Bool), v567 = .bool t569 ∧ (Keep S62 w566 w568 ∧ PIf (!t569) (R (.returned (.bool false)) w568) (PA w568 (.cells #[.int .i64 i5, .int .i64 k11, .int .i64 3, .int .i64 3] 3) fun w570 =>
      (Keep S62 w568 w570 ∧ PC Try.prog 4 #[.int .i64 (IntKind.wrap .i64 (1 + k11)), .slice (some ⟨w568.heap.size, 0, none⟩) 4 4, .int .i64 60] w570 (fun v571 w572 =>
      ∃ (t573 : Bool), v571 = .bool t573 ∧ (Keep S62 w570 w572 ∧ PIf (!t573) (R (.returned (.bool false)) w572) ((∃ b574 o575, ((some ⟨w.heap.size, 0, none⟩) : Option Addr) = some ⟨b574, o575, none⟩ ∧
      (0 : Int) ≤ i5 ∧ i5 < ((8 : Nat) : Int) ∧ (∃ (t576 : Int), w572.cell? ⟨b574, o575 + Int.toNat i5, none⟩ = some (.int .i64 t576) ∧ (∃ b577 o578, ((some ⟨w.heap.size, 0, none⟩) : Option Addr) = some ⟨b577, o578, none⟩ ∧
      (0 : Int) ≤ k11 ∧ k11 < ((8 : Nat) : Int) ∧ (∃ (t579 : Int), w572.cell? ⟨b577, o578 + Int.toNat k11, none⟩ = some (.int .i64 t579) ∧ PC Try.prog 7 #[.int .i64 t576, .int .i64 t579, .slice l57a l57n l57c] w572 (fun v580 w581 =>
      ∃ (t582 : Bool), v580 = .bool t582 ∧ (Keep S62 w572 w581 ∧ PIf (!t582) (R (.returned (.bool false)) w581) ((∃ m10, m10 < m9 ∧ I8 m10 (IntKind.wrap .i64 (k11 + 1)) w581)))) (fun ch w =>
      False)))))))) (fun ch w => False))))) (fun ch w => False)))))))) ∧ (PA w543 (.cells #[.int .i64 0, .int .i64 t77] 3) fun w583 => (Keep S62 w543 w583 ∧
      ((PA w583 (.cells #[.int .i64 1] 3) fun w584 => (Keep S62 w583 w584 ∧ PA w584 (.cells #[.int .i64 2, .int .i64 2] 3) fun w585 => (Keep S62 w584 w585 ∧
      PA w585 (.cells #[.slice (some ⟨w583.heap.size, 0, none⟩) 1 1, .slice (some ⟨w543.heap.size, 0, none⟩) 2 2, .slice (some ⟨w584.heap.size, 0, none⟩) 2 2] 23) fun w586 =>
      (Keep S62 w585 w586 ∧ PC Try.prog 3 #[.int .i64 t71, .int .i64 t74, .slice (some ⟨w585.heap.size, 0, none⟩) 3 3, .slice (some ⟨w67.heap.size, 0, none⟩) 2 2] w586 (fun v587 w588 =>
      ∃ (t589 : Bool), v587 = .bool t589 ∧ (Keep S62 w586 w588 ∧ PIf (!t589) (R (.returned (.bool false)) w588) (PA w588 (.cells #[.int .i64 i5, .int .i64 k11, .int .i64 3, .int .i64 3] 3) fun w590 =>
      (Keep S62 w588 w590 ∧ PC Try.prog 4 #[.int .i64 (IntKind.wrap .i64 (1 + k11)), .slice (some ⟨w588.heap.size, 0, none⟩) 4 4, .int .i64 60] w590 (fun v591 w592 =>
      ∃ (t593 : Bool), v591 = .bool t593 ∧ (Keep S62 w590 w592 ∧ PIf (!t593) (R (.returned (.bool false)) w592) ((∃ b594 o595, ((some ⟨w.heap.size, 0, none⟩) : Option Addr) = some ⟨b594, o595, none⟩ ∧
      (0 : Int) ≤ i5 ∧ i5 < ((8 : Nat) : Int) ∧ (∃ (t596 : Int), w592.cell? ⟨b594, o595 + Int.toNat i5, none⟩ = some (.int .i64 t596) ∧ (∃ b597 o598, ((some ⟨w.heap.size, 0, none⟩) : Option Addr) = some ⟨b597, o598, none⟩ ∧
      (0 : Int) ≤ k11 ∧ k11 < ((8 : Nat) : Int) ∧ (∃ (t599 : Int), w592.cell? ⟨b597, o598 + Int.toNat k11, none⟩ = some (.int .i64 t599) ∧ PC Try.prog 7 #[.int .i64 t596, .int .i64 t599, .slice l57a l57n l57c] w592 (fun v600 w601 =>
      ∃ (t602 : Bool), v600 = .bool t602 ∧ (Keep S62 w592 w601 ∧ PIf (!t602) (R (.returned (.bool false)) w601) ((∃ m10, m10 < m9 ∧ I8 m10 (IntKind.wrap .i64 (k11 + 1)) w601)))) (fun ch w =>
      False)))))))) (fun ch w => False))))) (fun ch w => False))))) ∧ (PA w583 (.cells #[.int .i64 2, .int .i64 2] 3) fun w603 => (Keep S62 w583 w603 ∧ PA w603 (.cells #[.int .i64 1] 3) fun w604 =>
      (Keep S62 w603 w604 ∧ PA w604 (.cells #[.slice (some ⟨w603.heap.size, 0, none⟩) 1 1, .slice (some ⟨w543.heap.size, 0, none⟩) 2 2, .slice (some ⟨w583.heap.size, 0, none⟩) 2 2] 23) fun w605 =>
      (Keep S62 w604 w605 ∧ PC Try.prog 3 #[.int .i64 t71, .int .i64 t74, .slice (some ⟨w604.heap.size, 0, none⟩) 3 3, .slice (some ⟨w67.heap.size, 0, none⟩) 2 2] w605 (fun v606 w607 =>
      ∃ (t608 : Bool), v606 = .bool t608 ∧ (Keep S62 w605 w607 ∧ PIf (!t608) (R (.returned (.bool false)) w607) (PA w607 (.cells #[.int .i64 i5, .int .i64 k11, .int .i64 3, .int .i64 3] 3) fun w609 =>
      (Keep S62 w607 w609 ∧ PC Try.prog 4 #[.int .i64 (IntKind.wrap .i64 (1 + k11)), .slice (some ⟨w607.heap.size, 0, none⟩) 4 4, .int .i64 60] w609 (fun v610 w611 =>
      ∃ (t612 : Bool), v610 = .bool t612 ∧ (Keep S62 w609 w611 ∧ PIf (!t612) (R (.returned (.bool false)) w611) ((∃ b613 o614, ((some ⟨w.heap.size, 0, none⟩) : Option Addr) = some ⟨b613, o614, none⟩ ∧
      (0 : Int) ≤ i5 ∧ i5 < ((8 : Nat) : Int) ∧ (∃ (t615 : Int), w611.cell? ⟨b613, o614 + Int.toNat i5, none⟩ = some (.int .i64 t615) ∧ (∃ b616 o617, ((some ⟨w.heap.size, 0, none⟩) : Option Addr) = some ⟨b616, o617, none⟩ ∧
      (0 : Int) ≤ k11 ∧ k11 < ((8 : Nat) : Int) ∧ (∃ (t618 : Int), w611.cell? ⟨b616, o617 + Int.toNat k11, none⟩ = some (.int .i64 t618) ∧ PC Try.prog 7 #[.int .i64 t615, .int .i64 t618, .slice l57a l57n l57c] w611 (fun v619 w620 =>
      ∃ (t621 : Bool), v619 = .bool t621 ∧ (Keep S62 w611 w620 ∧ PIf (!t621) (R (.returned (.bool false)) w620) ((∃ m10, m10 < m9 ∧ I8 m10 (IntKind.wrap .i64 (k11 + 1)) w620)))) (fun ch w =>
      False)))))))) (fun ch w => False))))) (fun ch w => False)))))))) ∧ (PA w543 (.cells #[.int .i64 2, .int .i64 2] 3) fun w622 => (Keep S62 w543 w622 ∧ ((PA w622 (.cells #[.int .i64 1] 3) fun w623 =>
      (Keep S62 w622 w623 ∧ PA w623 (.cells #[.int .i64 0, .int .i64 t77] 3) fun w624 => (Keep S62 w623 w624 ∧ PA w624 (.cells #[.slice (some ⟨w622.heap.size, 0, none⟩) 1 1, .slice (some ⟨w623.heap.size, 0, none⟩) 2 2, .slice (some ⟨w543.heap.size, 0, none⟩) 2 2] 23) fun w625 =>
      (Keep S62 w624 w625 ∧ PC Try.prog 3 #[.int .i64 t71, .int .i64 t74, .slice (some ⟨w624.heap.size, 0, none⟩) 3 3, .slice (some ⟨w67.heap.size, 0, none⟩) 2 2] w625 (fun v626 w627 =>
      ∃ (t628 : Bool), v626 = .bool t628 ∧ (Keep S62 w625 w627 ∧ PIf (!t628) (R (.returned (.bool false)) w627) (PA w627 (.cells #[.int .i64 i5, .int .i64 k11, .int .i64 3, .int .i64 3] 3) fun w629 =>
      (Keep S62 w627 w629 ∧ PC Try.prog 4 #[.int .i64 (IntKind.wrap .i64 (1 + k11)), .slice (some ⟨w627.heap.size, 0, none⟩) 4 4, .int .i64 60] w629 (fun v630 w631 =>
      ∃ (t632 : Bool), v630 = .bool t632 ∧ (Keep S62 w629 w631 ∧ PIf (!t632) (R (.returned (.bool false)) w631) ((∃ b633 o634, ((some ⟨w.heap.size, 0, none⟩) : Option Addr) = some ⟨b633, o634, none⟩ ∧
      (0 : Int) ≤ i5 ∧ i5 < ((8 : Nat) : Int) ∧ (∃ (t635 : Int), w631.cell? ⟨b633, o634 + Int.toNat i5, none⟩ = some (.int .i64 t635) ∧ (∃ b636 o637, ((some ⟨w.heap.size, 0, none⟩) : Option Addr) = some ⟨b636, o637, none⟩ ∧
      (0 : Int) ≤ k11 ∧ k11 < ((8 : Nat) : Int) ∧ (∃ (t638 : Int), w631.cell? ⟨b636, o637 + Int.toNat k11, none⟩ = some (.int .i64 t638) ∧ PC Try.prog 7 #[.int .i64 t635, .int .i64 t638, .slice l57a l57n l57c] w631 (fun v639 w640 =>
      ∃ (t641 : Bool), v639 = .bool t641 ∧ (Keep S62 w631 w640 ∧ PIf (!t641) (R (.returned (.bool false)) w640) ((∃ m10, m10 < m9 ∧ I8 m10 (IntKind.wrap .i64 (k11 + 1)) w640)))) (fun ch w =>
      False)))))))) (fun ch w => False))))) (fun ch w => False))))) ∧ (PA w622 (.cells #[.int .i64 0, .int .i64 t77] 3) fun w642 => (Keep S62 w622 w642 ∧ PA w642 (.cells #[.int .i64 1] 3) fun w643 =>
      (Keep S62 w642 w643 ∧ PA w643 (.cells #[.slice (some ⟨w642.heap.size, 0, none⟩) 1 1, .slice (some ⟨w622.heap.size, 0, none⟩) 2 2, .slice (some ⟨w543.heap.size, 0, none⟩) 2 2] 23) fun w644 =>
      (Keep S62 w643 w644 ∧ PC Try.prog 3 #[.int .i64 t71, .int .i64 t74, .slice (some ⟨w643.heap.size, 0, none⟩) 3 3, .slice (some ⟨w67.heap.size, 0, none⟩) 2 2] w644 (fun v645 w646 =>
      ∃ (t647 : Bool), v645 = .bool t647 ∧ (Keep S62 w644 w646 ∧ PIf (!t647) (R (.returned (.bool false)) w646) (PA w646 (.cells #[.int .i64 i5, .int .i64 k11, .int .i64 3, .int .i64 3] 3) fun w648 =>
      (Keep S62 w646 w648 ∧ PC Try.prog 4 #[.int .i64 (IntKind.wrap .i64 (1 + k11)), .slice (some ⟨w646.heap.size, 0, none⟩) 4 4, .int .i64 60] w648 (fun v649 w650 =>
      ∃ (t651 : Bool), v649 = .bool t651 ∧ (Keep S62 w648 w650 ∧ PIf (!t651) (R (.returned (.bool false)) w650) ((∃ b652 o653, ((some ⟨w.heap.size, 0, none⟩) : Option Addr) = some ⟨b652, o653, none⟩ ∧
      (0 : Int) ≤ i5 ∧ i5 < ((8 : Nat) : Int) ∧ (∃ (t654 : Int), w650.cell? ⟨b652, o653 + Int.toNat i5, none⟩ = some (.int .i64 t654) ∧ (∃ b655 o656, ((some ⟨w.heap.size, 0, none⟩) : Option Addr) = some ⟨b655, o656, none⟩ ∧
      (0 : Int) ≤ k11 ∧ k11 < ((8 : Nat) : Int) ∧ (∃ (t657 : Int), w650.cell? ⟨b655, o656 + Int.toNat k11, none⟩ = some (.int .i64 t657) ∧ PC Try.prog 7 #[.int .i64 t654, .int .i64 t657, .slice l57a l57n l57c] w650 (fun v658 w659 =>
      ∃ (t660 : Bool), v658 = .bool t660 ∧ (Keep S62 w650 w659 ∧ PIf (!t660) (R (.returned (.bool false)) w659) ((∃ m10, m10 < m9 ∧ I8 m10 (IntKind.wrap .i64 (k11 + 1)) w659)))) (fun ch w =>
      False)))))))) (fun ch w => False))))) (fun ch w => False))))))))))))))))))))))))))) (fun ch w => False)))))) ((∃ m4, m4 < m3 ∧ I2 m4 (IntKind.wrap .i64 (i5 + 1)) w13)))) (PC Try.prog 9 #[] w7 (fun v661 w662 =>
      ∃ (t663 : Bool), v661 = .bool t663 ∧ R (.returned (.bool t663)) w662) (fun ch w => R (.panicked ch) w)))) :
    Calls Try.prog 8 #[] w R :=
  D_calls A_law26_SessionKnown mixed Try.func8 rfl (Nat.le_of_ble_eq_true (by kernel_rfl)) (by kernel_rfl) (Eq.mp (by kernel_rfl) h)
/-- quayside/quaysidelaw26.works -/
abbrev F_law26_works : Nat := 9
def A_law26_works : Ann := ⟨[], [], [], []⟩
theorem L_law26_works  {w : World} {R : Ending → World → Prop}
    (h : PC Try.prog 10 #[.int .i64 5] w (fun v1 w2 => ∃ (t3 : Option Addr), v1 = .pointer t3 ∧ PRun Try.prog (do eqGuard .eql 25 (.tmp 9) (.const (.pointer none)) (.pointer t3) (.pointer none); binOp .eql 25 (.pointer t3) (.pointer none)) w2 (fun v4 w5 =>
      ∃ (t6 : Bool), v4 = .bool t6 ∧ PIf t6 (R (.returned (.bool false)) w5) (PC Try.prog 11 #[.pointer t3, .int .i64 2, .int .i64 0] w5 (fun v7 w8 => v7 = .tuple #[] ∧
      PC Try.prog 11 #[.pointer t3, .int .i64 1, .int .i64 3] w8 (fun v9 w10 => v9 = .tuple #[] ∧ PC Try.prog 17 #[.pointer t3, .int .i64 4] w10 (fun v11 w12 =>
      ∃ (t13a : Option Addr) (t13n : Nat) (t13c : Nat), v11 = .slice t13a t13n t13c ∧ PC Try.prog 17 #[.pointer t3, .int .i64 5] w12 (fun v14 w15 => ∃ (t16a : Option Addr) (t16n : Nat) (t16c : Nat), v14 = .slice t16a t16n t16c ∧
      PC Try.prog 17 #[.pointer t3, .int .i64 6] w15 (fun v17 w18 => ∃ (t19a : Option Addr) (t19n : Nat) (t19c : Nat), v17 = .slice t19a t19n t19c ∧ PC Try.prog 17 #[.pointer t3, .int .i64 8] w18 (fun v20 w21 =>
      ∃ (t22a : Option Addr) (t22n : Nat) (t22c : Nat), v20 = .slice t22a t22n t22c ∧ PA w21 (.cells #[.int .i64 4, .int .i64 0] 3) fun w23 => PA w23 (.cells #[.int .i64 5, .int .i64 0] 3) fun w24 =>
      PC Try.prog 14 #[.pointer t3, .int .i64 2, .slice (some ⟨w21.heap.size, 0, none⟩) 2 2, .slice (some ⟨w23.heap.size, 0, none⟩) 2 2] w24 (fun v25 w26 =>
      ∃ (t27 : Bool), v25 = .bool t27 ∧ PA w26 (.cells #[.int .i64 5, .int .i64 1] 3) fun w28 => PA w28 (.cells #[.int .i64 5, .int .i64 0] 3) fun w29 => PC Try.prog 14 #[.pointer t3, .int .i64 2, .slice (some ⟨w26.heap.size, 0, none⟩) 2 2, .slice (some ⟨w28.heap.size, 0, none⟩) 2 2] w29 (fun v30 w31 =>
      ∃ (t32 : Bool), v30 = .bool t32 ∧ PIf ((((t13n : Nat) : Int) : Int) == 0) (PA w31 (.cells #[.int .i64 2] 3) fun w33 => PC Try.prog 18 #[.slice t16a t16n t16c, .slice (some ⟨w31.heap.size, 0, none⟩) 1 1] w33 (fun v34 w35 =>
      ∃ (t36 : Bool), v34 = .bool t36 ∧ PIf t36 (PIf ((((t19n : Nat) : Int) : Int) == 0) (PA w35 (.cells #[.int .i64 1] 3) fun w37 => PC Try.prog 18 #[.slice t22a t22n t22c, .slice (some ⟨w35.heap.size, 0, none⟩) 1 1] w37 (fun v38 w39 =>
      ∃ (t40 : Bool), v38 = .bool t40 ∧ PIf t40 (PIf (!t27) (PIf t32 (PC Try.prog 16 #[.pointer t3] w39 (fun v41 w42 => ∃ (t43a : Option Addr) (t43n : Nat) (t43c : Nat), v41 = .slice t43a t43n t43c ∧
      PA w42 (.cells #[.int .i64 1] 3) fun w44 => PC Try.prog 18 #[.slice t43a t43n t43c, .slice (some ⟨w42.heap.size, 0, none⟩) 1 1] w44 (fun v45 w46 => ∃ (t47 : Bool), v45 = .bool t47 ∧
      PIf t47 (PC Try.prog 15 #[.pointer t3, .int .i64 2] w46 (fun v48 w49 => ∃ (t50a : Option Addr) (t50n : Nat) (t50c : Nat), v48 = .slice t50a t50n t50c ∧
      PA w49 (.cells #[.int .i64 5, .int .i64 1] 3) fun w51 => PC Try.prog 18 #[.slice t50a t50n t50c, .slice (some ⟨w49.heap.size, 0, none⟩) 2 2] w51 (fun v52 w53 =>
      ∃ (t54 : Bool), v52 = .bool t54 ∧ R (.returned (.bool t54)) w53) (fun ch w => R (.panicked ch) w)) (fun ch w => R (.panicked ch) w)) (R (.returned (.bool false)) w46)) (fun ch w =>
      R (.panicked ch) w)) (fun ch w => R (.panicked ch) w)) (R (.returned (.bool false)) w39)) (R (.returned (.bool false)) w39)) (R (.returned (.bool false)) w39)) (fun ch w =>
      R (.panicked ch) w)) (R (.returned (.bool false)) w35)) (R (.returned (.bool false)) w35)) (fun ch w => R (.panicked ch) w)) (R (.returned (.bool false)) w31)) (fun ch w =>
      R (.panicked ch) w)) (fun ch w => R (.panicked ch) w)) (fun ch w => R (.panicked ch) w)) (fun ch w => R (.panicked ch) w)) (fun ch w => R (.panicked ch) w)) (fun ch w =>
      R (.panicked ch) w)) (fun ch w => R (.panicked ch) w)) (fun ch w => R (.panicked ch) w))) (fun pv w => R (.panicked [{ v := pv, recovered := false }]) w)) (fun ch w =>
      R (.panicked ch) w)) :
    Calls Try.prog 9 #[] w R :=
  D_calls A_law26_works mixed Try.func9 rfl (Nat.le_of_ble_eq_true (by kernel_rfl)) (by kernel_rfl) (Eq.mp (by kernel_rfl) h)
/-- quayside/session.New -/
abbrev F_session_New : Nat := 10
def A_session_New : Ann := ⟨[], [], [], []⟩
theorem L_session_New {retry1 : Int} {w : World} {R : Ending → World → Prop}
    (h : PA w (.map #[] 0) fun w2 => PA w2 (.map #[] 0) fun w3 => PA w3 (.cells #[.int .i64 retry1, .map (some w.heap.size), .map (some w2.heap.size)] 52) fun w4 =>
      R (.returned (.pointer (some ⟨w3.heap.size, 0, none⟩))) w4) :
    Calls Try.prog 10 #[.int .i64 retry1] w R :=
  D_calls A_session_New mixed Try.func10 rfl (Nat.le_of_ble_eq_true (by kernel_rfl)) (by kernel_rfl) (Eq.mp (by kernel_rfl) h)
/-- (*quayside/session.Table).Start -/
abbrev F_session_Table_Start : Nat := 11
def A_session_Table_Start : Ann := ⟨[], [], [], []⟩
theorem L_session_Table_Start {t1 : Option Addr} {peer2 : Int} {now3 : Int} {w : World} {R : Ending → World → Prop}
    (h : (∃ b4 o5, t1 = some ⟨b4, o5, none⟩ ∧ (∃ (t6 : Option Nat), w.cell? ⟨b4, o5 + 1, none⟩ = some (.map t6) ∧ PRunU Try.prog (Instr.mapUpdate 49 (.map t6) (.int .i64 peer2) (.int .i64 now3)) w (fun w7 =>
      R (.returned (.tuple #[])) w7) (fun pv w => R (.panicked [{ v := pv, recovered := false }]) w)))) :
    Calls Try.prog 11 #[.pointer t1, .int .i64 peer2, .int .i64 now3] w R :=
  D_calls A_session_Table_Start mixed Try.func11 rfl (Nat.le_of_ble_eq_true (by kernel_rfl)) (by kernel_rfl) (Eq.mp (by kernel_rfl) h)
/-- quayside/vec.Join -/
abbrev F_vec_Join : Nat := 12
def A_vec_Join : Ann := ⟨[(3, [(5, .slice none 0 0), (12, .int .i64 0)])], [], [], []⟩
theorem L_vec_Join {a1a : Option Addr} {a1n : Nat} {a1c : Nat} {b2a : Option Addr} {b2n : Nat} {b2c : Nat} {w : World} {R : Ending → World → Prop}
    (h : (∃ I3 : Nat → Option Addr → Nat → Nat → Int → World → Prop, (∃ m4, I3 m4 none 0 0 0 w) ∧ ∀ (m4 : Nat) (out6a : Option Addr) (out6n : Nat) (out6c : Nat) (t7 : Int) (B8 : Nat → Value) (w9 : World), I3 m4 out6a out6n out6c t7 w9 → PIf (decide ((t7 : Int) < (if ((b2n : Nat) : Int) > ((a1n : Nat) : Int) then ((b2n : Nat) : Int) else ((a1n : Nat) : Int)))) (PC Try.prog 33 #[.slice a1a a1n a1c, .int .i64 t7] w9 (fun v10 w11 =>
      ∃ (t12 : Int), v10 = .int .i64 t12 ∧ PC Try.prog 33 #[.slice b2a b2n b2c, .int .i64 t7] w11 (fun v13 w14 => ∃ (t15 : Int), v13 = .int .i64 t15 ∧ PA w14 (.cells #[.int .i64 (if t15 > t12 then t15 else t12)] 3) fun w16 =>
      PRun Try.prog (Builtin.append_ #[23, 23] 23 #[.slice out6a out6n out6c, .slice (some ⟨w14.heap.size, 0, none⟩) 1 1]) w16 (fun v17 w18 => ∃ (t19a : Option Addr) (t19n : Nat) (t19c : Nat), v17 = .slice t19a t19n t19c ∧
      (∃ m5, m5 < m4 ∧ I3 m5 t19a t19n t19c (IntKind.wrap .i64 (t7 + 1)) w18)) (fun pv w => R (.panicked [{ v := pv, recovered := false }]) w)) (fun ch w =>
      R (.panicked ch) w)) (fun ch w => R (.panicked ch) w)) (R (.returned (.slice out6a out6n out6c)) w9))) :
    Calls Try.prog 12 #[.slice a1a a1n a1c, .slice b2a b2n b2c] w R :=
  D_calls A_vec_Join mixed Try.func12 rfl (Nat.le_of_ble_eq_true (by kernel_rfl)) (by kernel_rfl) (Eq.mp (by kernel_rfl) h)
/-- quayside/vec.Cmp -/
abbrev F_vec_Cmp : Nat := 13
def A_vec_Cmp : Ann := ⟨[(3, [(5, .int .i64 0), (14, .int .i64 0)])], [], [], []⟩
theorem L_vec_Cmp {a1a : Option Addr} {a1n : Nat} {a1c : Nat} {b2a : Option Addr} {b2n : Nat} {b2c : Nat} {w : World} {R : Ending → World → Prop}
    (h : (∃ I3 : Nat → Int → Int → World → Prop, (∃ m4, I3 m4 0 0 w) ∧ ∀ (m4 : Nat) (how6 : Int) (t7 : Int) (B8 : Nat → Value) (w9 : World), I3 m4 how6 t7 w9 → PIf (decide ((t7 : Int) < (if ((b2n : Nat) : Int) > ((a1n : Nat) : Int) then ((b2n : Nat) : Int) else ((a1n : Nat) : Int)))) (PC Try.prog 33 #[.slice a1a a1n a1c, .int .i64 t7] w9 (fun v10 w11 =>
      ∃ (t12 : Int), v10 = .int .i64 t12 ∧ PC Try.prog 33 #[.slice b2a b2n b2c, .int .i64 t7] w11 (fun v13 w14 => ∃ (t15 : Int), v13 = .int .i64 t15 ∧ PIf (decide ((t12 : Int) < t15)) ((∃ m5, m5 < m4 ∧
      I3 m5 (iOr .i64 how6 1) (IntKind.wrap .i64 (t7 + 1)) w14)) (PIf (decide ((t12 : Int) > t15)) ((∃ m5, m5 < m4 ∧ I3 m5 (iOr .i64 how6 2) (IntKind.wrap .i64 (t7 + 1)) w14)) ((∃ m5, m5 < m4 ∧
      I3 m5 how6 (IntKind.wrap .i64 (t7 + 1)) w14)))) (fun ch w => R (.panicked ch) w)) (fun ch w => R (.panicked ch) w)) (R (.returned (.int .i64 how6)) w9))) :
    Calls Try.prog 13 #[.slice a1a a1n a1c, .slice b2a b2n b2c] w R :=
  D_calls A_vec_Cmp mixed Try.func13 rfl (Nat.le_of_ble_eq_true (by kernel_rfl)) (by kernel_rfl) (Eq.mp (by kernel_rfl) h)
/-- (*quayside/session.Table).Heard -/
abbrev F_session_Table_Heard : Nat := 14
def A_session_Table_Heard : Ann := ⟨[], [(7, [])], [], []⟩
theorem L_session_Table_Heard {t1 : Option Addr} {peer2 : Int} {v3a : Option Addr} {v3n : Nat} {v3c : Nat} {want4a : Option Addr} {want4n : Nat} {want4c : Nat} {w : World} {R : Ending → World → Prop}
    (h : (∃ b5 o6, t1 = some ⟨b5, o6, none⟩ ∧ (∃ (t7 : Option Nat), w.cell? ⟨b5, o6 + 2, none⟩ = some (.map t7) ∧ PRun Try.prog (Instr.lookup 50 (.map t7) (.int .i64 peer2) false) w (fun v8 w9 =>
      ∃ (t10a : Option Addr) (t10n : Nat) (t10c : Nat), v8 = .slice t10a t10n t10c ∧ PC Try.prog 12 #[.slice t10a t10n t10c, .slice v3a v3n v3c] w9 (fun v11 w12 =>
      ∃ (t13a : Option Addr) (t13n : Nat) (t13c : Nat), v11 = .slice t13a t13n t13c ∧ (∃ b14 o15, t1 = some ⟨b14, o15, none⟩ ∧ (∃ (t16 : Option Nat), w12.cell? ⟨b14, o15 + 2, none⟩ = some (.map t16) ∧
      PRunU Try.prog (Instr.mapUpdate 50 (.map t16) (.int .i64 peer2) (.slice t13a t13n t13c)) w12 (fun w17 => PC Try.prog 13 #[.slice t13a t13n t13c, .slice want4a want4n want4c] w17 (fun v18 w19 =>
      ∃ (t20 : Int), v18 = .int .i64 t20 ∧ (∃ J21 : World → Prop, ((∃ b22 o23, t1 = some ⟨b22, o23, none⟩ ∧ (∃ (t24 : Option Nat), w19.cell? ⟨b22, o23 + 1, none⟩ = some (.map t24) ∧
      PRun Try.prog (Instr.lookup 49 (.map t24) (.int .i64 peer2) true) w19 (fun v25 w26 => ∃ (t27 : Int), ∃ (t28 : Bool), v25 = .tuple #[.int .i64 t27, .bool t28] ∧
      PIf (!t28) (R (.returned (.bool false)) w26) (PIf ((t20 : Int) != 0) (PIf ((t20 : Int) != 2) (R (.returned (.bool false)) w26) (J21  w26)) (J21  w26))) (fun pv w =>
      R (.panicked [{ v := pv, recovered := false }]) w)))) ∧ ∀  (B29 : Nat → Value) (w30 : World), J21  w30 → (∃ b31 o32, t1 = some ⟨b31, o32, none⟩ ∧ (∃ (t33 : Option Nat), w30.cell? ⟨b31, o32 + 1, none⟩ = some (.map t33) ∧
      PRun Try.prog (Builtin.delete_ #[49, 3] 0 #[.map t33, .int .i64 peer2]) w30 (fun v34 w35 => R (.returned (.bool true)) w35) (fun pv w => R (.panicked [{ v := pv, recovered := false }]) w))))) (fun ch w =>
      R (.panicked ch) w)) (fun pv w => R (.panicked [{ v := pv, recovered := false }]) w)))) (fun ch w => R (.panicked ch) w)) (fun pv w => R (.panicked [{ v := pv, recovered := false }]) w)))) :
    Calls Try.prog 14 #[.pointer t1, .int .i64 peer2, .slice v3a v3n v3c, .slice want4a want4n want4c] w R :=
  D_calls A_session_Table_Heard mixed Try.func14 rfl (Nat.le_of_ble_eq_true (by kernel_rfl)) (by kernel_rfl) (Eq.mp (by kernel_rfl) h)
/-- (*quayside/session.Table).Vec -/
abbrev F_session_Table_Vec : Nat := 15
def A_session_Table_Vec : Ann := ⟨[], [], [], []⟩
theorem L_session_Table_Vec {t1 : Option Addr} {peer2 : Int} {w : World} {R : Ending → World → Prop}
    (h : (∃ b3 o4, t1 = some ⟨b3, o4, none⟩ ∧ (∃ (t5 : Option Nat), w.cell? ⟨b3, o4 + 2, none⟩ = some (.map t5) ∧ PRun Try.prog (Instr.lookup 50 (.map t5) (.int .i64 peer2) false) w (fun v6 w7 =>
      ∃ (t8a : Option Addr) (t8n : Nat) (t8c : Nat), v6 = .slice t8a t8n t8c ∧ PC Try.prog 34 #[.slice t8a t8n t8c] w7 (fun v9 w10 => ∃ (t11a : Option Addr) (t11n : Nat) (t11c : Nat), v9 = .slice t11a t11n t11c ∧
      R (.returned (.slice t11a t11n t11c)) w10) (fun ch w => R (.panicked ch) w)) (fun pv w => R (.panicked [{ v := pv, recovered := false }]) w)))) :
    Calls Try.prog 15 #[.pointer t1, .int .i64 peer2] w R :=
  D_calls A_session_Table_Vec mixed Try.func15 rfl (Nat.le_of_ble_eq_true (by kernel_rfl)) (by kernel_rfl) (Eq.mp (by kernel_rfl) h)
/-- (*quayside/session.Table).Open -/
abbrev F_session_Table_Open : Nat := 16
def A_session_Table_Open : Ann := ⟨[], [], [], []⟩
theorem L_session_Table_Open {t1 : Option Addr} {w : World} {R : Ending → World → Prop}
    (h : (∃ b2 o3, t1 = some ⟨b2, o3, none⟩ ∧ (∃ (t4 : Option Nat), w.cell? ⟨b2, o3 + 1, none⟩ = some (.map t4) ∧ PC Try.prog 36 #[.map t4] w (fun v5 w6 => ∃ (t7 : Value), v5 = t7 ∧
      PC Try.prog 35 #[t7] w6 (fun v8 w9 => ∃ (t10a : Option Addr) (t10n : Nat) (t10c : Nat), v8 = .slice t10a t10n t10c ∧ R (.returned (.slice t10a t10n t10c)) w9) (fun ch w =>
      R (.panicked ch) w)) (fun ch w => R (.panicked ch) w)))) :
    Calls Try.prog 16 #[.pointer t1] w R :=
  D_calls A_session_Table_Open mixed Try.func16 rfl (Nat.le_of_ble_eq_true (by kernel_rfl)) (by kernel_rfl) (Eq.mp (by kernel_rfl) h)
/-- (*quayside/session.Table).Due -/
abbrev F_session_Table_Due : Nat := 17
def A_session_Table_Due : Ann := ⟨[(3, [(5, .slice none 0 0), (11, .int .i64 0)])], [], [], []⟩
theorem L_session_Table_Due {t1 : Option Addr} {now2 : Int} {w : World} {R : Ending → World → Prop}
    (h : PC Try.prog 16 #[.pointer t1] w (fun v3 w4 => ∃ (t5a : Option Addr) (t5n : Nat) (t5c : Nat), v3 = .slice t5a t5n t5c ∧ (∃ I6 : Nat → Option Addr → Nat → Nat → Int → World → Prop, (∃ m7, I6 m7 none 0 0 0 w4) ∧
      ∀ (m7 : Nat) (out9a : Option Addr) (out9n : Nat) (out9c : Nat) (t10 : Int) (B11 : Nat → Value) (w12 : World), I6 m7 out9a out9n out9c t10 w12 → PIf (decide ((t10 : Int) < ((t5n : Nat) : Int))) ((∃ b13 o14, t5a = some ⟨b13, o14, none⟩ ∧
      (0 : Int) ≤ t10 ∧ t10 < ((t5n : Nat) : Int) ∧ (∃ (t15 : Int), w12.cell? ⟨b13, o14 + Int.toNat t10, none⟩ = some (.int .i64 t15) ∧ (∃ b17 o18, t1 = some ⟨b17, o18, none⟩ ∧
      (∃ (t19 : Option Nat), w12.cell? ⟨b17, o18 + 1, none⟩ = some (.map t19) ∧ (∃ (t20 : Int), (∀ m, (Instr.lookup 49 (.map t19) (.int .i64 t15) false).run Try.prog (w12.drewN m) = .ok (.int .i64 t20) (w12.drewN m)) ∧
      (∃ b21 o22, t1 = some ⟨b21, o22, none⟩ ∧ (∃ (t23 : Int), w12.cell? ⟨b21, o22, none⟩ = some (.int .i64 t23) ∧ (∀ w16, Drew w12 w16 → PIf (decide (((IntKind.wrap .i64 (now2 - t20)) : Int) ≥ t23)) (PA w16 (.cells #[.int .i64 t15] 3) fun w24 =>
      PRun Try.prog (Builtin.append_ #[23, 23] 23 #[.slice out9a out9n out9c, .slice (some ⟨w16.heap.size, 0, none⟩) 1 1]) w24 (fun v25 w26 => ∃ (t27a : Option Addr) (t27n : Nat) (t27c : Nat), v25 = .slice t27a t27n t27c ∧
      (∃ b28 o29, t1 = some ⟨b28, o29, none⟩ ∧ (∃ (t30 : Option Nat), w26.cell? ⟨b28, o29 + 1, none⟩ = some (.map t30) ∧ PRunU Try.prog (Instr.mapUpdate 49 (.map t30) (.int .i64 t15) (.int .i64 now2)) w26 (fun w31 =>
      (∃ m8, m8 < m7 ∧ I6 m8 t27a t27n t27c (IntKind.wrap .i64 (t10 + 1)) w31)) (fun pv w => R (.panicked [{ v := pv, recovered := false }]) w)))) (fun pv w =>
      R (.panicked [{ v := pv, recovered := false }]) w)) ((∃ m8, m8 < m7 ∧ I6 m8 out9a out9n out9c (IntKind.wrap .i64 (t10 + 1)) w16))))))))))) (R (.returned (.slice out9a out9n out9c)) w12))) (fun ch w =>
      R (.panicked ch) w)) :
    Calls Try.prog 17 #[.pointer t1, .int .i64 now2] w R :=
  D_calls A_session_Table_Due mixed Try.func17 rfl (Nat.le_of_ble_eq_true (by kernel_rfl)) (by kernel_rfl) (Eq.mp (by kernel_rfl) h)
/-- quayside/quaysidekit.SameInts -/
abbrev F_kit_SameInts : Nat := 18
def A_kit_SameInts : Ann := ⟨[(4, [(5, .int .i64 0)])], [], [], []⟩
theorem L_kit_SameInts {a1a : Option Addr} {a1n : Nat} {a1c : Nat} {b2a : Option Addr} {b2n : Nat} {b2c : Nat} {w : World} {R : Ending → World → Prop}
    (h : PIf ((((a1n : Nat) : Int) : Int) != ((b2n : Nat) : Int)) (R (.returned (.bool false)) w) ((∃ I3 : Nat → Int → World → Prop, (∃ m4, I3 m4 0 w) ∧ ∀ (m4 : Nat) (i6 : Int) (B7 : Nat → Value) (w8 : World), I3 m4 i6 w8 → PIf (decide ((i6 : Int) < ((a1n : Nat) : Int))) ((∃ b10 o11, a1a = some ⟨b10, o11, none⟩ ∧
      (0 : Int) ≤ i6 ∧ i6 < ((a1n : Nat) : Int) ∧ (∃ (t12 : Int), w8.cell? ⟨b10, o11 + Int.toNat i6, none⟩ = some (.int .i64 t12) ∧ (∃ b13 o14, b2a = some ⟨b13, o14, none⟩ ∧
      (0 : Int) ≤ i6 ∧ i6 < ((b2n : Nat) : Int) ∧ (∃ (t15 : Int), w8.cell? ⟨b13, o14 + Int.toNat i6, none⟩ = some (.int .i64 t15) ∧ (∀ w9, Drew w8 w9 → PIf ((t12 : Int) != t15) (R (.returned (.bool false)) w9) ((∃ m5, m5 < m4 ∧
      I3 m5 (IntKind.wrap .i64 (i6 + 1)) w9)))))))) (R (.returned (.bool true)) w8)))) :
    Calls Try.prog 18 #[.slice a1a a1n a1c, .slice b2a b2n b2c] w R :=
  D_calls A_kit_SameInts mixed Try.func18 rfl (Nat.le_of_ble_eq_true (by kernel_rfl)) (by kernel_rfl) (Eq.mp (by kernel_rfl) h)
/-- quayside/quaysidekit.Pick -/
abbrev F_kit_Pick : Nat := 19
def A_kit_Pick : Ann := ⟨[], [], [], []⟩
theorem L_kit_Pick {k1 : Int} {n2 : Int} {w : World} {R : Ending → World → Prop}
    (h : PIf (decide ((n2 : Int) < 1)) (R (.returned (.int .i64 0)) w) (PRun Try.prog (do eqGuard .rem 3 (.tmp 7) (.tmp 8) (.int .i64 k1) (.int .i64 n2); binOp .rem 3 (.int .i64 k1) (.int .i64 n2)) w (fun v3 w4 =>
      ∃ (t5 : Int), v3 = .int .i64 t5 ∧ PIf (decide ((t5 : Int) < 0)) (R (.returned (.int .i64 (IntKind.wrap .i64 (t5 + n2)))) w4) (R (.returned (.int .i64 t5)) w4)) (fun pv w =>
      R (.panicked [{ v := pv, recovered := false }]) w))) :
    Calls Try.prog 19 #[.int .i64 k1, .int .i64 n2] w R :=
  D_calls A_kit_Pick mixed Try.func19 rfl (Nat.le_of_ble_eq_true (by kernel_rfl)) (by kernel_rfl) (Eq.mp (by kernel_rfl) h)
/-- quayside/quaysidelaw26.Long -/
abbrev F_law26_Long : Nat := 20
def A_law26_Long : Ann := ⟨[(2, [(3, .int .i64 0)])], [], [], []⟩
theorem L_law26_Long {l1a : Option Addr} {l1n : Nat} {l1c : Nat} {w : World} {R : Ending → World → Prop}
    (h : (∃ I2 : Nat → Int → World → Prop, (∃ m3, I2 m3 0 w) ∧ ∀ (m3 : Nat) (i5 : Int) (B6 : Nat → Value) (w7 : World), I2 m3 i5 w7 → PIf (decide ((i5 : Int) < ((l1n : Nat) : Int))) ((∃ b8 o9, l1a = some ⟨b8, o9, none⟩ ∧
      (0 : Int) ≤ i5 ∧ i5 < ((l1n : Nat) : Int) ∧ (∃ (t10a : Option Addr) (t10n : Nat) (t10c : Nat), w7.cell? ⟨b8, o9 + Int.toNat i5 * 5 + 3, none⟩ = some (.slice t10a t10n t10c) ∧
      PIf (decide ((((t10n : Nat) : Int) : Int) > 100)) (R (.returned (.bool true)) w7) ((∃ b11 o12, l1a = some ⟨b11, o12, none⟩ ∧ (0 : Int) ≤ i5 ∧ i5 < ((l1n : Nat) : Int) ∧
      (∃ (t13a : Option Addr) (t13n : Nat) (t13c : Nat), w7.cell? ⟨b11, o12 + Int.toNat i5 * 5 + 4, none⟩ = some (.slice t13a t13n t13c) ∧ PIf (decide ((((t13n : Nat) : Int) : Int) > 100)) (R (.returned (.bool true)) w7) ((∃ m4, m4 < m3 ∧
      I2 m4 (IntKind.wrap .i64 (i5 + 1)) w7)))))))) (R (.returned (.bool (decide ((((l1n : Nat) : Int) : Int) > 200)))) w7))) :
    Calls Try.prog 20 #[.slice l1a l1n l1c] w R :=
  D_calls A_law26_Long mixed Try.func20 rfl (Nat.le_of_ble_eq_true (by kernel_rfl)) (by kernel_rfl) (Eq.mp (by kernel_rfl) h)
/-- quayside/quaysidelaw26.at -/
abbrev F_law26_at : Nat := 21
def A_law26_at : Ann := ⟨[], [], [], []⟩
theorem L_law26_at {now1 : Int} {w : World} {R : Ending → World → Prop}
    (h : PC Try.prog 19 #[.int .i64 now1, .int .i64 4611686018427387904] w (fun v2 w3 => ∃ (t4 : Int), v2 = .int .i64 t4 ∧ R (.returned (.int .i64 t4)) w3) (fun ch w =>
      R (.panicked ch) w)) :
    Calls Try.prog 21 #[.int .i64 now1] w R :=
  D_calls A_law26_at mixed Try.func21 rfl (Nat.le_of_ble_eq_true (by kernel_rfl)) (by kernel_rfl) (Eq.mp (by kernel_rfl) h)
/-- quayside/quaysideref26.New -/
abbrev F_ref26_New : Nat := 22
def A_ref26_New : Ann := ⟨[], [], [], []⟩
theorem L_ref26_New {retry1 : Int} {w : World} {R : Ending → World → Prop}
    (h : PA w (.cells #[.slice none 0 0, .int .i64 retry1] 61) fun w2 => R (.returned (.pointer (some ⟨w.heap.size, 0, none⟩))) w2) :
    Calls Try.prog 22 #[.int .i64 retry1] w R :=
  D_calls A_ref26_New mixed Try.func22 rfl (Nat.le_of_ble_eq_true (by kernel_rfl)) (by kernel_rfl) (Eq.mp (by kernel_rfl) h)
/-- (*quayside/quaysideref26.Table).Start -/
abbrev F_ref26_Table_Start : Nat := 23
def A_ref26_Table_Start : Ann := ⟨[], [], [], []⟩
theorem L_ref26_Table_Start {t1 : Option Addr} {peer2 : Int} {now3 : Int} {w : World} {R : Ending → World → Prop}
    (h : PC Try.prog 37 #[.pointer t1, .int .i64 peer2] w (fun v4 w5 => ∃ (t6 : Int), v4 = .int .i64 t6 ∧ (∃ b7 o8, t1 = some ⟨b7, o8, none⟩ ∧ (∃ (t9a : Option Addr) (t9n : Nat) (t9c : Nat), w5.cell? ⟨b7, o8, none⟩ = some (.slice t9a t9n t9c) ∧
      (∃ b10 o11, t9a = some ⟨b10, o11, none⟩ ∧ (0 : Int) ≤ t6 ∧ t6 < ((t9n : Nat) : Int) ∧ PS w5 ⟨b10, o11 + Int.toNat t6 * 4 + 2, none⟩ (.bool true) fun w12 =>
      (∃ b13 o14, t1 = some ⟨b13, o14, none⟩ ∧ (∃ (t15a : Option Addr) (t15n : Nat) (t15c : Nat), w12.cell? ⟨b13, o14, none⟩ = some (.slice t15a t15n t15c) ∧
      (∃ b16 o17, t15a = some ⟨b16, o17, none⟩ ∧ (0 : Int) ≤ t6 ∧ t6 < ((t15n : Nat) : Int) ∧ PS w12 ⟨b16, o17 + Int.toNat t6 * 4 + 1, none⟩ (.int .i64 now3) fun w18 =>
      R (.returned (.tuple #[])) w18))))))) (fun ch w => R (.panicked ch) w)) :
    Calls Try.prog 23 #[.pointer t1, .int .i64 peer2, .int .i64 now3] w R :=
  D_calls A_ref26_Table_Start mixed Try.func23 rfl (Nat.le_of_ble_eq_true (by kernel_rfl)) (by kernel_rfl) (Eq.mp (by kernel_rfl) h)
/-- quayside/quaysidekit.LentInts -/
abbrev F_kit_LentInts : Nat := 24
def A_kit_LentInts : Ann := ⟨[(3, [(3, .slice none 0 0), (4, .int .i64 0)])], [], [], []⟩
theorem L_kit_LentInts {l1a : Option Addr} {l1n : Nat} {l1c : Nat} {w : World} {R : Ending → World → Prop}
    (h : PC Try.prog 38 #[.slice l1a l1n l1c] w (fun v2 w3 => ∃ (t4a : Option Addr) (t4n : Nat) (t4c : Nat), v2 = .slice t4a t4n t4c ∧ (∃ I5 : Nat → Option Addr → Nat → Nat → Int → World → Prop, (∃ m6, I5 m6 t4a t4n t4c 0 w3) ∧
      ∀ (m6 : Nat) (all8a : Option Addr) (all8n : Nat) (all8c : Nat) (i9 : Int) (B10 : Nat → Value) (w11 : World), I5 m6 all8a all8n all8c i9 w11 → PIf (decide ((i9 : Int) < 5)) (PC Try.prog 39 #[.int .i64 i9] w11 (fun v12 w13 =>
      ∃ (t14 : Int), v12 = .int .i64 t14 ∧ PA w13 (.cells #[.int .i64 t14] 3) fun w15 => PRun Try.prog (Builtin.append_ #[23, 23] 23 #[.slice all8a all8n all8c, .slice (some ⟨w13.heap.size, 0, none⟩) 1 1]) w15 (fun v16 w17 =>
      ∃ (t18a : Option Addr) (t18n : Nat) (t18c : Nat), v16 = .slice t18a t18n t18c ∧ (∃ m7, m7 < m6 ∧ I5 m7 t18a t18n t18c (IntKind.wrap .i64 (i9 + 1)) w17)) (fun pv w =>
      R (.panicked [{ v := pv, recovered := false }]) w)) (fun ch w => R (.panicked ch) w)) (R (.returned (.slice all8a all8n all8c)) w11))) (fun ch w => R (.panicked ch) w)) :
    Calls Try.prog 24 #[.slice l1a l1n l1c] w R :=
  D_calls A_kit_LentInts mixed Try.func24 rfl (Nat.le_of_ble_eq_true (by kernel_rfl)) (by kernel_rfl) (Eq.mp (by kernel_rfl) h)
/-- (*quayside/quaysideref26.Table).Heard -/
abbrev F_ref26_Table_Heard : Nat := 25
def A_ref26_Table_Heard : Ann := ⟨[], [], [2], [(2, ⟨[0, 1, 2, 4, 0, 0, 32, 64, 128, 0, 768, 1024, 2048, 0, 12288, 32767, 65535, 98303], [262143, 262142, 262141, 262139, 262143, 262143, 262111, 262079, 262015, 262143, 261375, 261119, 260095, 262143, 249855, 262119, 229375, 180223], [0, 0, 0, 1, 0, 0, 0, 0, 1, 0, 0, 0, 1, 0, 2, 0, 0, 2]⟩)]⟩
theorem L_ref26_Table_Heard {t1 : Option Addr} {peer2 : Int} {v3a : Option Addr} {v3n : Nat} {v3c : Nat} {want4a : Option Addr} {want4n : Nat} {want4c : Nat} {w : World} {R : Ending → World → Prop}
    (h : PC Try.prog 37 #[.pointer t1, .int .i64 peer2] w (fun v5 w6 => ∃ (t7 : Int), v5 = .int .i64 t7 ∧ (∀ w9, Drew w6 w9 → ∃ S10 : Nat → Prop, (∃ b11 o12, t1 = some ⟨b11, o12, none⟩ ∧
      (¬ S10 b11 ∧ (∃ (t13a : Option Addr) (t13n : Nat) (t13c : Nat), w9.cell? ⟨b11, o12, none⟩ = some (.slice t13a t13n t13c) ∧ (∃ b14 o15, t1 = some ⟨b14, o15, none⟩ ∧
      (∃ (t16a : Option Addr) (t16n : Nat) (t16c : Nat), w9.cell? ⟨b14, o15, none⟩ = some (.slice t16a t16n t16c) ∧ (∃ b17 o18, t16a = some ⟨b17, o18, none⟩ ∧
      (0 : Int) ≤ t7 ∧ t7 < ((t16n : Nat) : Int) ∧ (∃ (t19a : Option Addr) (t19n : Nat) (t19c : Nat), w9.cell? ⟨b17, o18 + Int.toNat t7 * 4 + 3, none⟩ = some (.slice t19a t19n t19c) ∧
      PC Try.prog 40 #[.slice t19a t19n t19c, .slice v3a v3n v3c] w9 (fun v20 w21 => ∃ (t22a : Option Addr) (t22n : Nat) (t22c : Nat), v20 = .slice t22a t22n t22c ∧
      (Keep S10 w9 w21 ∧ (∃ b23 o24, t13a = some ⟨b23, o24, none⟩ ∧ (0 : Int) ≤ t7 ∧ t7 < ((t13n : Nat) : Int) ∧ PS w21 ⟨b23, o24 + Int.toNat t7 * 4 + 3, none⟩ (.slice t22a t22n t22c) fun w25 =>
      (Keep S10 w21 w25 ∧ (∃ b26 o27, t1 = some ⟨b26, o27, none⟩ ∧ (∃ (t28a : Option Addr) (t28n : Nat) (t28c : Nat), w25.cell? ⟨b26, o27, none⟩ = some (.slice t28a t28n t28c) ∧
      (∃ b29 o30, t28a = some ⟨b29, o30, none⟩ ∧ (0 : Int) ≤ t7 ∧ t7 < ((t28n : Nat) : Int) ∧ (∃ (t31a : Option Addr) (t31n : Nat) (t31c : Nat), w25.cell? ⟨b29, o30 + Int.toNat t7 * 4 + 3, none⟩ = some (.slice t31a t31n t31c) ∧
      PC Try.prog 41 #[.slice t31a t31n t31c, .slice want4a want4n want4c] w25 (fun v32 w33 => ∃ (t34 : Int), v32 = .int .i64 t34 ∧ (∃ b35 o36, t1 = some ⟨b35, o36, none⟩ ∧
      (∃ (t37a : Option Addr) (t37n : Nat) (t37c : Nat), w33.cell? ⟨b35, o36, none⟩ = some (.slice t37a t37n t37c) ∧ (∃ b38 o39, t37a = some ⟨b38, o39, none⟩ ∧
      (0 : Int) ≤ t7 ∧ t7 < ((t37n : Nat) : Int) ∧ (∃ (t40 : Bool), w33.cell? ⟨b38, o39 + Int.toNat t7 * 4 + 2, none⟩ = some (.bool t40) ∧ PIf t40 (PIf ((t34 : Int) == 0) ((∃ b41 o42, t1 = some ⟨b41, o42, none⟩ ∧
      (∃ (t43a : Option Addr) (t43n : Nat) (t43c : Nat), w33.cell? ⟨b41, o42, none⟩ = some (.slice t43a t43n t43c) ∧ (∃ b44 o45, t43a = some ⟨b44, o45, none⟩ ∧
      (0 : Int) ≤ t7 ∧ t7 < ((t43n : Nat) : Int) ∧ PS w33 ⟨b44, o45 + Int.toNat t7 * 4 + 2, none⟩ (.bool false) fun w46 => R (.returned (.bool true)) w46)))) (PIf ((t34 : Int) == 2) ((∃ b47 o48, t1 = some ⟨b47, o48, none⟩ ∧
      (∃ (t49a : Option Addr) (t49n : Nat) (t49c : Nat), w33.cell? ⟨b47, o48, none⟩ = some (.slice t49a t49n t49c) ∧ (∃ b50 o51, t49a = some ⟨b50, o51, none⟩ ∧
      (0 : Int) ≤ t7 ∧ t7 < ((t49n : Nat) : Int) ∧ PS w33 ⟨b50, o51 + Int.toNat t7 * 4 + 2, none⟩ (.bool false) fun w52 => R (.returned (.bool true)) w52)))) (R (.returned (.bool false)) w33))) (R (.returned (.bool false)) w33)))))) (fun ch w =>
      R (.panicked ch) w))))))))) (fun ch w => False)))))))))) (fun ch w => R (.panicked ch) w)) :
    Calls Try.prog 25 #[.pointer t1, .int .i64 peer2, .slice v3a v3n v3c, .slice want4a want4n want4c] w R :=
  D_calls A_ref26_Table_Heard mixed Try.func25 rfl (Nat.le_of_ble_eq_true (by kernel_rfl)) (by kernel_rfl) (Eq.mp (by kernel_rfl) h)
/-- quayside/quaysidekit.KeptInts -/
abbrev F_kit_KeptInts : Nat := 26
def A_kit_KeptInts : Ann := ⟨[(4, [(5, .int .i64 0)])], [], [6], [(6, ⟨[0, 0, 2, 0, 12, 17, 32, 0, 128, 320], [1023, 1023, 1021, 1023, 1011, 1006, 991, 1023, 895, 703], [0, 0, 0, 0, 0, 0, 1, 0, 2, 0]⟩)]⟩
theorem L_kit_KeptInts {all1a : Option Addr} {all1n : Nat} {all1c : Nat} {l2a : Option Addr} {l2n : Nat} {l2c : Nat} {w : World} {R : Ending → World → Prop}
    (h : PIf ((((all1n : Nat) : Int) : Int) != (IntKind.wrap .i64 (((l2n : Nat) : Int) + 5))) (R (.returned (.bool false)) w) (((0 : Int) ≤ ((l2n : Nat) : Int) ∧
      ((l2n : Nat) : Int) ≤ ((all1c : Nat) : Int) ∧ PC Try.prog 18 #[.slice all1a (Int.toNat ((l2n : Nat) : Int)) all1c, .slice l2a l2n l2c] w (fun v3 w4 =>
      ∃ (t5 : Bool), v3 = .bool t5 ∧ PIf (!t5) (R (.returned (.bool false)) w4) ((∃ I6 : Nat → Int → World → Prop, (∃ m7, I6 m7 0 w4) ∧ ∀ (m7 : Nat) (i9 : Int) (B10 : Nat → Value) (w11 : World), I6 m7 i9 w11 → PIf (decide ((i9 : Int) < 5)) ((∀ w13, Drew w11 w13 → ∃ S14 : Nat → Prop, (∃ b15 o16, all1a = some ⟨b15, o16, none⟩ ∧
      (0 : Int) ≤ (IntKind.wrap .i64 (((l2n : Nat) : Int) + i9)) ∧ (IntKind.wrap .i64 (((l2n : Nat) : Int) + i9)) < ((all1n : Nat) : Int) ∧ (¬ S14 b15 ∧ (∃ (t17 : Int), w13.cell? ⟨b15, o16 + Int.toNat (IntKind.wrap .i64 (((l2n : Nat) : Int) + i9)), none⟩ = some (.int .i64 t17) ∧
      PC Try.prog 39 #[.int .i64 i9] w13 (fun v18 w19 => ∃ (t20 : Int), v18 = .int .i64 t20 ∧ (Keep S14 w13 w19 ∧ PIf ((t17 : Int) != t20) (R (.returned (.bool false)) w19) ((∃ m8, m8 < m7 ∧
      I6 m8 (IntKind.wrap .i64 (i9 + 1)) w19)))) (fun ch w => False)))))) (R (.returned (.bool true)) w11)))) (fun ch w => R (.panicked ch) w)))) :
    Calls Try.prog 26 #[.slice all1a all1n all1c, .slice l2a l2n l2c] w R :=
  D_calls A_kit_KeptInts mixed Try.func26 rfl (Nat.le_of_ble_eq_true (by kernel_rfl)) (by kernel_rfl) (Eq.mp (by kernel_rfl) h)
/-- quayside/quaysidekit.SpoilInts -/
abbrev F_kit_SpoilInts : Nat := 27
def A_kit_SpoilInts : Ann := ⟨[(1, [(2, .int .i64 0)])], [], [], []⟩
theorem L_kit_SpoilInts {l1a : Option Addr} {l1n : Nat} {l1c : Nat} {w : World} {R : Ending → World → Prop}
    (h : (∃ I2 : Nat → Int → World → Prop, (∃ m3, I2 m3 0 w) ∧ ∀ (m3 : Nat) (i5 : Int) (B6 : Nat → Value) (w7 : World), I2 m3 i5 w7 → PIf (decide ((i5 : Int) < ((l1n : Nat) : Int))) (PC Try.prog 39 #[.int .i64 (IntKind.wrap .i64 (i5 + 7))] w7 (fun v8 w9 =>
      ∃ (t10 : Int), v8 = .int .i64 t10 ∧ (∃ b11 o12, l1a = some ⟨b11, o12, none⟩ ∧ (0 : Int) ≤ i5 ∧ i5 < ((l1n : Nat) : Int) ∧ PS w9 ⟨b11, o12 + Int.toNat i5, none⟩ (.int .i64 t10) fun w13 =>
      (∃ m4, m4 < m3 ∧ I2 m4 (IntKind.wrap .i64 (i5 + 1)) w13))) (fun ch w => R (.panicked ch) w)) (R (.returned (.tuple #[])) w7))) :
    Calls Try.prog 27 #[.slice l1a l1n l1c] w R :=
  D_calls A_kit_SpoilInts mixed Try.func27 rfl (Nat.le_of_ble_eq_true (by kernel_rfl)) (by kernel_rfl) (Eq.mp (by kernel_rfl) h)
/-- (*quayside/quaysideref26.Table).Due -/
abbrev F_ref26_Table_Due : Nat := 28
def A_ref26_Table_Due : Ann := ⟨[(3, [(5, .slice none 0 0), (6, .int .i64 0)])], [], [], []⟩
theorem L_ref26_Table_Due {t1 : Option Addr} {now2 : Int} {w : World} {R : Ending → World → Prop}
    (h : (∃ I3 : Nat → Option Addr → Nat → Nat → Int → World → Prop, (∃ m4, I3 m4 none 0 0 0 w) ∧ ∀ (m4 : Nat) (out6a : Option Addr) (out6n : Nat) (out6c : Nat) (i7 : Int) (B8 : Nat → Value) (w9 : World), I3 m4 out6a out6n out6c i7 w9 → (∃ b10 o11, t1 = some ⟨b10, o11, none⟩ ∧
      (∃ (t12a : Option Addr) (t12n : Nat) (t12c : Nat), w9.cell? ⟨b10, o11, none⟩ = some (.slice t12a t12n t12c) ∧ PIf (decide ((i7 : Int) < ((t12n : Nat) : Int))) ((∃ b14 o15, t1 = some ⟨b14, o15, none⟩ ∧
      (∃ (t16a : Option Addr) (t16n : Nat) (t16c : Nat), w9.cell? ⟨b14, o15, none⟩ = some (.slice t16a t16n t16c) ∧ (∃ b17 o18, t16a = some ⟨b17, o18, none⟩ ∧
      (0 : Int) ≤ i7 ∧ i7 < ((t16n : Nat) : Int) ∧ (∃ (t19 : Bool), w9.cell? ⟨b17, o18 + Int.toNat i7 * 4 + 2, none⟩ = some (.bool t19) ∧ PIf t19 ((∃ b20 o21, t1 = some ⟨b20, o21, none⟩ ∧
      (∃ (t22a : Option Addr) (t22n : Nat) (t22c : Nat), w9.cell? ⟨b20, o21, none⟩ = some (.slice t22a t22n t22c) ∧ (∃ b23 o24, t22a = some ⟨b23, o24, none⟩ ∧
      (0 : Int) ≤ i7 ∧ i7 < ((t22n : Nat) : Int) ∧ (∃ (t25 : Int), w9.cell? ⟨b23, o24 + Int.toNat i7 * 4 + 1, none⟩ = some (.int .i64 t25) ∧ (∃ b26 o27, t1 = some ⟨b26, o27, none⟩ ∧
      (∃ (t28 : Int), w9.cell? ⟨b26, o27 + 1, none⟩ = some (.int .i64 t28) ∧ (∀ w13, Drew w9 w13 → PIf (decide (((IntKind.wrap .i64 (now2 - t25)) : Int) ≥ t28)) ((∃ b29 o30, t1 = some ⟨b29, o30, none⟩ ∧
      (∃ (t31a : Option Addr) (t31n : Nat) (t31c : Nat), w13.cell? ⟨b29, o30, none⟩ = some (.slice t31a t31n t31c) ∧ (∃ b32 o33, t31a = some ⟨b32, o33, none⟩ ∧
      (0 : Int) ≤ i7 ∧ i7 < ((t31n : Nat) : Int) ∧ PS w13 ⟨b32, o33 + Int.toNat i7 * 4 + 1, none⟩ (.int .i64 now2) fun w34 => (∃ b35 o36, t1 = some ⟨b35, o36, none⟩ ∧
      (∃ (t37a : Option Addr) (t37n : Nat) (t37c : Nat), w34.cell? ⟨b35, o36, none⟩ = some (.slice t37a t37n t37c) ∧ (∃ b38 o39, t37a = some ⟨b38, o39, none⟩ ∧
      (0 : Int) ≤ i7 ∧ i7 < ((t37n : Nat) : Int) ∧ (∃ (t40 : Int), w34.cell? ⟨b38, o39 + Int.toNat i7 * 4, none⟩ = some (.int .i64 t40) ∧ PA w34 (.cells #[.int .i64 t40] 3) fun w41 =>
      PRun Try.prog (Builtin.append_ #[23, 23] 23 #[.slice out6a out6n out6c, .slice (some ⟨w34.heap.size, 0, none⟩) 1 1]) w41 (fun v42 w43 => ∃ (t44a : Option Addr) (t44n : Nat) (t44c : Nat), v42 = .slice t44a t44n t44c ∧
      (∃ m5, m5 < m4 ∧ I3 m5 t44a t44n t44c (IntKind.wrap .i64 (i7 + 1)) w43)) (fun pv w => R (.panicked [{ v := pv, recovered := false }]) w))))))))) ((∃ m5, m5 < m4 ∧
      I3 m5 out6a out6n out6c (IntKind.wrap .i64 (i7 + 1)) w13)))))))))) ((∀ w13, Drew w9 w13 → (∃ m5, m5 < m4 ∧ I3 m5 out6a out6n out6c (IntKind.wrap .i64 (i7 + 1)) w13)))))))) (R (.returned (.slice out6a out6n out6c)) w9))))) :
    Calls Try.prog 28 #[.pointer t1, .int .i64 now2] w R :=
  D_calls A_ref26_Table_Due mixed Try.func28 rfl (Nat.le_of_ble_eq_true (by kernel_rfl)) (by kernel_rfl) (Eq.mp (by kernel_rfl) h)
/-- (*quayside/session.Table).Clear -/
abbrev F_session_Table_Clear : Nat := 29
def A_session_Table_Clear : Ann := ⟨[], [], [], []⟩
theorem L_session_Table_Clear {t1 : Option Addr} {w : World} {R : Ending → World → Prop}
    (h : (∃ b2 o3, t1 = some ⟨b2, o3, none⟩ ∧ (∃ (t4 : Option Nat), w.cell? ⟨b2, o3 + 1, none⟩ = some (.map t4) ∧ PRun Try.prog (Builtin.clear_ #[49] 0 #[.map t4]) w (fun v5 w6 =>
      (∃ b7 o8, t1 = some ⟨b7, o8, none⟩ ∧ (∃ (t9 : Option Nat), w6.cell? ⟨b7, o8 + 2, none⟩ = some (.map t9) ∧ PRun Try.prog (Builtin.clear_ #[50] 0 #[.map t9]) w6 (fun v10 w11 =>
      R (.returned (.tuple #[])) w11) (fun pv w => R (.panicked [{ v := pv, recovered := false }]) w)))) (fun pv w => R (.panicked [{ v := pv, recovered := false }]) w)))) :
    Calls Try.prog 29 #[.pointer t1] w R :=
  D_calls A_session_Table_Clear mixed Try.func29 rfl (Nat.le_of_ble_eq_true (by kernel_rfl)) (by kernel_rfl) (Eq.mp (by kernel_rfl) h)
/-- (*quayside/quaysideref26.Table).Clear -/
abbrev F_ref26_Table_Clear : Nat := 30
def A_ref26_Table_Clear : Ann := ⟨[], [], [], []⟩
theorem L_ref26_Table_Clear {t1 : Option Addr} {w : World} {R : Ending → World → Prop}
    (h : (∃ b2 o3, t1 = some ⟨b2, o3, none⟩ ∧ PS w ⟨b2, o3, none⟩ (.slice none 0 0) fun w4 => R (.returned (.tuple #[])) w4)) :
    Calls Try.prog 30 #[.pointer t1] w R :=
  D_calls A_ref26_Table_Clear mixed Try.func30 rfl (Nat.le_of_ble_eq_true (by kernel_rfl)) (by kernel_rfl) (Eq.mp (by kernel_rfl) h)
/-- (*quayside/quaysideref26.Table).Open -/
abbrev F_ref26_Table_Open : Nat := 31
def A_ref26_Table_Open : Ann := ⟨[(3, [(3, .slice none 0 0), (4, .int .i64 0)])], [], [], []⟩
theorem L_ref26_Table_Open {t1 : Option Addr} {w : World} {R : Ending → World → Prop}
    (h : (∃ I2 : Nat → Option Addr → Nat → Nat → Int → World → Prop, (∃ m3, I2 m3 none 0 0 0 w) ∧ ∀ (m3 : Nat) (out5a : Option Addr) (out5n : Nat) (out5c : Nat) (i6 : Int) (B7 : Nat → Value) (w8 : World), I2 m3 out5a out5n out5c i6 w8 → (∃ b9 o10, t1 = some ⟨b9, o10, none⟩ ∧
      (∃ (t11a : Option Addr) (t11n : Nat) (t11c : Nat), w8.cell? ⟨b9, o10, none⟩ = some (.slice t11a t11n t11c) ∧ PIf (decide ((i6 : Int) < ((t11n : Nat) : Int))) ((∃ b12 o13, t1 = some ⟨b12, o13, none⟩ ∧
      (∃ (t14a : Option Addr) (t14n : Nat) (t14c : Nat), w8.cell? ⟨b12, o13, none⟩ = some (.slice t14a t14n t14c) ∧ (∃ b15 o16, t14a = some ⟨b15, o16, none⟩ ∧
      (0 : Int) ≤ i6 ∧ i6 < ((t14n : Nat) : Int) ∧ (∃ (t17 : Bool), w8.cell? ⟨b15, o16 + Int.toNat i6 * 4 + 2, none⟩ = some (.bool t17) ∧ PIf t17 ((∃ b18 o19, t1 = some ⟨b18, o19, none⟩ ∧
      (∃ (t20a : Option Addr) (t20n : Nat) (t20c : Nat), w8.cell? ⟨b18, o19, none⟩ = some (.slice t20a t20n t20c) ∧ (∃ b21 o22, t20a = some ⟨b21, o22, none⟩ ∧
      (0 : Int) ≤ i6 ∧ i6 < ((t20n : Nat) : Int) ∧ (∃ (t23 : Int), w8.cell? ⟨b21, o22 + Int.toNat i6 * 4, none⟩ = some (.int .i64 t23) ∧ PA w8 (.cells #[.int .i64 t23] 3) fun w24 =>
      PRun Try.prog (Builtin.append_ #[23, 23] 23 #[.slice out5a out5n out5c, .slice (some ⟨w8.heap.size, 0, none⟩) 1 1]) w24 (fun v25 w26 => ∃ (t27a : Option Addr) (t27n : Nat) (t27c : Nat), v25 = .slice t27a t27n t27c ∧
      (∃ m4, m4 < m3 ∧ I2 m4 t27a t27n t27c (IntKind.wrap .i64 (i6 + 1)) w26)) (fun pv w => R (.panicked [{ v := pv, recovered := false }]) w)))))) ((∃ m4, m4 < m3 ∧
      I2 m4 out5a out5n out5c (IntKind.wrap .i64 (i6 + 1)) w8))))))) (R (.returned (.slice out5a out5n out5c)) w8))))) :
    Calls Try.prog 31 #[.pointer t1] w R :=
  D_calls A_ref26_Table_Open mixed Try.func31 rfl (Nat.le_of_ble_eq_true (by kernel_rfl)) (by kernel_rfl) (Eq.mp (by kernel_rfl) h)
/-- (*quayside/quaysideref26.Table).Vec -/
abbrev F_ref26_Table_Vec : Nat := 32
def A_ref26_Table_Vec : Ann := ⟨[(2, [(5, .int .i64 0)])], [], [], []⟩
theorem L_ref26_Table_Vec {t1 : Option Addr} {peer2 : Int} {w : World} {R : Ending → World → Prop}
    (h : (∃ I3 : Nat → Int → World → Prop, (∃ m4, I3 m4 0 w) ∧ ∀ (m4 : Nat) (i6 : Int) (B7 : Nat → Value) (w8 : World), I3 m4 i6 w8 → (∃ b9 o10, t1 = some ⟨b9, o10, none⟩ ∧
      (∃ (t11a : Option Addr) (t11n : Nat) (t11c : Nat), w8.cell? ⟨b9, o10, none⟩ = some (.slice t11a t11n t11c) ∧ PIf (decide ((i6 : Int) < ((t11n : Nat) : Int))) ((∃ b12 o13, t1 = some ⟨b12, o13, none⟩ ∧
      (∃ (t14a : Option Addr) (t14n : Nat) (t14c : Nat), w8.cell? ⟨b12, o13, none⟩ = some (.slice t14a t14n t14c) ∧ (∃ b15 o16, t14a = some ⟨b15, o16, none⟩ ∧
      (0 : Int) ≤ i6 ∧ i6 < ((t14n : Nat) : Int) ∧ (∃ (t17 : Int), w8.cell? ⟨b15, o16 + Int.toNat i6 * 4, none⟩ = some (.int .i64 t17) ∧ PIf ((t17 : Int) == peer2) ((∃ b18 o19, t1 = some ⟨b18, o19, none⟩ ∧
      (∃ (t20a : Option Addr) (t20n : Nat) (t20c : Nat), w8.cell? ⟨b18, o19, none⟩ = some (.slice t20a t20n t20c) ∧ (∃ b21 o22, t20a = some ⟨b21, o22, none⟩ ∧
      (0 : Int) ≤ i6 ∧ i6 < ((t20n : Nat) : Int) ∧ (∃ (t23a : Option Addr) (t23n : Nat) (t23c : Nat), w8.cell? ⟨b21, o22 + Int.toNat i6 * 4 + 3, none⟩ = some (.slice t23a t23n t23c) ∧
      PC Try.prog 40 #[.slice t23a t23n t23c, .slice none 0 0] w8 (fun v24 w25 => ∃ (t26a : Option Addr) (t26n : Nat) (t26c : Nat), v24 = .slice t26a t26n t26c ∧
      R (.returned (.slice t26a t26n t26c)) w25) (fun ch w => R (.panicked ch) w)))))) ((∃ m5, m5 < m4 ∧ I3 m5 (IntKind.wrap .i64 (i6 + 1)) w8))))))) (R (.returned (.slice none 0 0)) w8))))) :
    Calls Try.prog 32 #[.pointer t1, .int .i64 peer2] w R :=
  D_calls A_ref26_Table_Vec mixed Try.func32 rfl (Nat.le_of_ble_eq_true (by kernel_rfl)) (by kernel_rfl) (Eq.mp (by kernel_rfl) h)
/-- quayside/vec.Get -/
abbrev F_vec_Get : Nat := 33
def A_vec_Get : Ann := ⟨[], [], [], []⟩
theorem L_vec_Get {v1a : Option Addr} {v1n : Nat} {v1c : Nat} {origin2 : Int} {w : World} {R : Ending → World → Prop}
    (h : PIf (decide ((origin2 : Int) < 0)) (R (.returned (.int .i64 0)) w) (PIf (decide ((origin2 : Int) ≥ ((v1n : Nat) : Int))) (R (.returned (.int .i64 0)) w) ((∃ b3 o4, v1a = some ⟨b3, o4, none⟩ ∧
      (0 : Int) ≤ origin2 ∧ origin2 < ((v1n : Nat) : Int) ∧ (∃ (t5 : Int), w.cell? ⟨b3, o4 + Int.toNat origin2, none⟩ = some (.int .i64 t5) ∧ R (.returned (.int .i64 (if 0 > t5 then 0 else t5))) w))))) :
    Calls Try.prog 33 #[.slice v1a v1n v1c, .int .i64 origin2] w R :=
  D_calls A_vec_Get mixed Try.func33 rfl (Nat.le_of_ble_eq_true (by kernel_rfl)) (by kernel_rfl) (Eq.mp (by kernel_rfl) h)
/-- slices.Clone[[]int,int] -/
abbrev F_slices_Clone_int_int : Nat := 34
def A_slices_Clone_int_int : Ann := ⟨[], [], [], []⟩
theorem L_slices_Clone_int_int {s1a : Option Addr} {s1n : Nat} {s1c : Nat} {w : World} {R : Ending → World → Prop}
    (h : PRun Try.prog (do eqGuard .eql 23 (.tmp 3) (.const (.slice none 0 0)) (.slice s1a s1n s1c) (.slice none 0 0); binOp .eql 23 (.slice s1a s1n s1c) (.slice none 0 0)) w (fun v2 w3 =>
      ∃ (t4 : Bool), v2 = .bool t4 ∧ PIf t4 (R (.returned (.slice none 0 0)) w3) (PA w3 (.cells #[] 3) fun w5 => PRun Try.prog (Builtin.append_ #[23, 23] 23 #[.slice (some ⟨w3.heap.size, 0, none⟩) 0 0, .slice s1a s1n s1c]) w5 (fun v6 w7 =>
      ∃ (t8a : Option Addr) (t8n : Nat) (t8c : Nat), v6 = .slice t8a t8n t8c ∧ R (.returned (.slice t8a t8n t8c)) w7) (fun pv w => R (.panicked [{ v := pv, recovered := false }]) w))) (fun pv w =>
      R (.panicked [{ v := pv, recovered := false }]) w)) :
    Calls Try.prog 34 #[.slice s1a s1n s1c] w R :=
  D_calls A_slices_Clone_int_int mixed Try.func34 rfl (Nat.le_of_ble_eq_true (by kernel_rfl)) (by kernel_rfl) (Eq.mp (by kernel_rfl) h)
/-- slices.Sorted[int] -/
abbrev F_slices_Sorted_int : Nat := 35
def A_slices_Sorted_int : Ann := ⟨[], [], [], []⟩
theorem L_slices_Sorted_int {seq1 : Value} {w : World} {R : Ending → World → Prop}
    (h : PC Try.prog 42 #[seq1] w (fun v2 w3 => ∃ (t4a : Option Addr) (t4n : Nat) (t4c : Nat), v2 = .slice t4a t4n t4c ∧ PC Try.prog 43 #[.slice t4a t4n t4c] w3 (fun v5 w6 =>
      v5 = .tuple #[] ∧ R (.returned (.slice t4a t4n t4c)) w6) (fun ch w => R (.panicked ch) w)) (fun ch w => R (.panicked ch) w)) :
    Calls Try.prog 35 #[seq1] w R :=
  D_calls A_slices_Sorted_int mixed Try.func35 rfl (Nat.le_of_ble_eq_true (by kernel_rfl)) (by kernel_rfl) (Eq.mp (by kernel_rfl) h)
/-- maps.Keys[map[int]int,int,int] -/
abbrev F_maps_Keys_map_int_int_int_int : Nat := 36
def A_maps_Keys_map_int_int_int_int : Ann := ⟨[], [], [], []⟩
theorem L_maps_Keys_map_int_int_int_int {m1 : Option Nat} {w : World} {R : Ending → World → Prop}
    (h : PA w (.cells #[.map m1] 49) fun w2 => R (.returned (.func (.func 44) #[] #[.pointer (some ⟨w.heap.size, 0, none⟩)])) w2) :
    Calls Try.prog 36 #[.map m1] w R :=
  D_calls A_maps_Keys_map_int_int_int_int mixed Try.func36 rfl (Nat.le_of_ble_eq_true (by kernel_rfl)) (by kernel_rfl) (Eq.mp (by kernel_rfl) h)
/-- (*quayside/quaysideref26.Table).at -/
abbrev F_ref26_Table_at : Nat := 37
def A_ref26_Table_at : Ann := ⟨[(2, [(5, .int .i64 0)]), (8, [(6, .int .i64 0)])], [(4, [(5, .int .i64 0)]), (6, [])], [], [(10, ⟨[0, 1, 2, 4, 0, 0, 32, 64, 128, 0, 512, 1280, 2048, 8191, 16383], [32767, 32766, 32765, 32763, 32767, 32767, 32735, 32703, 32639, 32767, 32255, 31487, 30719, 32743, 20479], [0, 0, 0, 1, 0, 0, 0, 0, 1, 0, 0, 0, 1, 0, 2]⟩)]⟩
theorem L_ref26_Table_at {t1 : Option Addr} {peer2 : Int} {w : World} {R : Ending → World → Prop}
    (h : (∃ J3 : Int → World → Prop, ((∃ I4 : Nat → Int → World → Prop, (∃ m5, I4 m5 0 w) ∧ ∀ (m5 : Nat) (i7 : Int) (B8 : Nat → Value) (w9 : World), I4 m5 i7 w9 → (∃ b10 o11, t1 = some ⟨b10, o11, none⟩ ∧
      (∃ (t12a : Option Addr) (t12n : Nat) (t12c : Nat), w9.cell? ⟨b10, o11, none⟩ = some (.slice t12a t12n t12c) ∧ PIf (decide ((i7 : Int) < ((t12n : Nat) : Int))) ((∃ b13 o14, t1 = some ⟨b13, o14, none⟩ ∧
      (∃ (t15a : Option Addr) (t15n : Nat) (t15c : Nat), w9.cell? ⟨b13, o14, none⟩ = some (.slice t15a t15n t15c) ∧ (∃ b16 o17, t15a = some ⟨b16, o17, none⟩ ∧
      (0 : Int) ≤ i7 ∧ i7 < ((t15n : Nat) : Int) ∧ (∃ (t18 : Int), w9.cell? ⟨b16, o17 + Int.toNat i7 * 4, none⟩ = some (.int .i64 t18) ∧ PIf (decide ((t18 : Int) < peer2)) ((∃ m6, m6 < m5 ∧
      I4 m6 (IntKind.wrap .i64 (i7 + 1)) w9)) (J3 i7 w9)))))) (J3 i7 w9))))) ∧ ∀ (i19 : Int) (B20 : Nat → Value) (w21 : World), J3 i19 w21 → (∃ J22 : World → Prop, ((∃ b23 o24, t1 = some ⟨b23, o24, none⟩ ∧
      (∃ (t25a : Option Addr) (t25n : Nat) (t25c : Nat), w21.cell? ⟨b23, o24, none⟩ = some (.slice t25a t25n t25c) ∧ PIf (decide ((i19 : Int) < ((t25n : Nat) : Int))) ((∃ b26 o27, t1 = some ⟨b26, o27, none⟩ ∧
      (∃ (t28a : Option Addr) (t28n : Nat) (t28c : Nat), w21.cell? ⟨b26, o27, none⟩ = some (.slice t28a t28n t28c) ∧ (∃ b29 o30, t28a = some ⟨b29, o30, none⟩ ∧
      (0 : Int) ≤ i19 ∧ i19 < ((t28n : Nat) : Int) ∧ (∃ (t31 : Int), w21.cell? ⟨b29, o30 + Int.toNat i19 * 4, none⟩ = some (.int .i64 t31) ∧ PIf ((t31 : Int) == peer2) (R (.returned (.int .i64 i19)) w21) (J22  w21)))))) (J22  w21)))) ∧
      ∀  (B32 : Nat → Value) (w33 : World), J22  w33 → (∃ b34 o35, t1 = some ⟨b34, o35, none⟩ ∧ (∃ (t36a : Option Addr) (t36n : Nat) (t36c : Nat), w33.cell? ⟨b34, o35, none⟩ = some (.slice t36a t36n t36c) ∧
      PA w33 (.cells #[.int .i64 0, .int .i64 0, .bool false, .slice none 0 0] 63) fun w37 => PRun Try.prog (Builtin.append_ #[59, 59] 59 #[.slice t36a t36n t36c, .slice (some ⟨w33.heap.size, 0, none⟩) 1 1]) w37 (fun v38 w39 =>
      ∃ (t40a : Option Addr) (t40n : Nat) (t40c : Nat), v38 = .slice t40a t40n t40c ∧ (∃ b41 o42, t1 = some ⟨b41, o42, none⟩ ∧ PS w39 ⟨b41, o42, none⟩ (.slice t40a t40n t40c) fun w43 =>
      (∃ b44 o45, t1 = some ⟨b44, o45, none⟩ ∧ (∃ (t46a : Option Addr) (t46n : Nat) (t46c : Nat), w43.cell? ⟨b44, o45, none⟩ = some (.slice t46a t46n t46c) ∧
      (∃ I47 : Nat → Int → World → Prop, (∃ m48, I47 m48 (IntKind.wrap .i64 (((t46n : Nat) : Int) - 1)) w43) ∧ ∀ (m48 : Nat) (k50 : Int) (B51 : Nat → Value) (w52 : World), I47 m48 k50 w52 → PIf (decide ((k50 : Int) > i19)) ((∀ w54, Drew w52 w54 → (∃ b55 o56, t1 = some ⟨b55, o56, none⟩ ∧
      (∃ (t57a : Option Addr) (t57n : Nat) (t57c : Nat), w54.cell? ⟨b55, o56, none⟩ = some (.slice t57a t57n t57c) ∧ (∃ b58 o59, t1 = some ⟨b58, o59, none⟩ ∧
      (∃ (t60a : Option Addr) (t60n : Nat) (t60c : Nat), w54.cell? ⟨b58, o59, none⟩ = some (.slice t60a t60n t60c) ∧ (∃ b61 o62, t60a = some ⟨b61, o62, none⟩ ∧
      (0 : Int) ≤ (IntKind.wrap .i64 (k50 - 1)) ∧ (IntKind.wrap .i64 (k50 - 1)) < ((t60n : Nat) : Int) ∧ (∃ (t63 : Int), ∃ (t64 : Int), ∃ (t65 : Bool), ∃ (t66a : Option Addr) (t66n : Nat) (t66c : Nat), w54.cell? ⟨b61, o62 + Int.toNat (IntKind.wrap .i64 (k50 - 1)) * 4, none⟩ = some (.int .i64 t63) ∧
      w54.cell? ⟨b61, o62 + Int.toNat (IntKind.wrap .i64 (k50 - 1)) * 4 + 1, none⟩ = some (.int .i64 t64) ∧ w54.cell? ⟨b61, o62 + Int.toNat (IntKind.wrap .i64 (k50 - 1)) * 4 + 2, none⟩ = some (.bool t65) ∧
      w54.cell? ⟨b61, o62 + Int.toNat (IntKind.wrap .i64 (k50 - 1)) * 4 + 3, none⟩ = some (.slice t66a t66n t66c) ∧ (∃ b67 o68, t57a = some ⟨b67, o68, none⟩ ∧
      (0 : Int) ≤ k50 ∧ k50 < ((t57n : Nat) : Int) ∧ PS w54 ⟨b67, o68 + Int.toNat k50 * 4, none⟩ (.int .i64 t63) fun w69 => PS w69 ⟨b67, o68 + Int.toNat k50 * 4 + 1, none⟩ (.int .i64 t64) fun w70 =>
      PS w70 ⟨b67, o68 + Int.toNat k50 * 4 + 2, none⟩ (.bool t65) fun w71 => PS w71 ⟨b67, o68 + Int.toNat k50 * 4 + 3, none⟩ (.slice t66a t66n t66c) fun w72 =>
      (∃ m49, m49 < m48 ∧ I47 m49 (IntKind.wrap .i64 (k50 - 1)) w72)))))))))) ((∃ b73 o74, t1 = some ⟨b73, o74, none⟩ ∧ (∃ (t75a : Option Addr) (t75n : Nat) (t75c : Nat), w52.cell? ⟨b73, o74, none⟩ = some (.slice t75a t75n t75c) ∧
      (∃ b76 o77, t75a = some ⟨b76, o77, none⟩ ∧ (0 : Int) ≤ i19 ∧ i19 < ((t75n : Nat) : Int) ∧ PS w52 ⟨b76, o77 + Int.toNat i19 * 4, none⟩ (.int .i64 peer2) fun w78 =>
      PS w78 ⟨b76, o77 + Int.toNat i19 * 4 + 1, none⟩ (.int .i64 0) fun w79 => PS w79 ⟨b76, o77 + Int.toNat i19 * 4 + 2, none⟩ (.bool false) fun w80 => PS w80 ⟨b76, o77 + Int.toNat i19 * 4 + 3, none⟩ (.slice none 0 0) fun w81 =>
      R (.returned (.int .i64 i19)) w81))))))))) (fun pv w => R (.panicked [{ v := pv, recovered := false }]) w)))))) :
    Calls Try.prog 37 #[.pointer t1, .int .i64 peer2] w R :=
  D_calls A_ref26_Table_at mixed Try.func37 rfl (Nat.le_of_ble_eq_true (by kernel_rfl)) (by kernel_rfl) (Eq.mp (by kernel_rfl) h)
/-- quayside/quaysidekit.CopyInts -/
abbrev F_kit_CopyInts : Nat := 38
def A_kit_CopyInts : Ann := ⟨[(3, [(3, .slice none 0 0), (4, .int .i64 0)])], [], [], []⟩
theorem L_kit_CopyInts {l1a : Option Addr} {l1n : Nat} {l1c : Nat} {w : World} {R : Ending → World → Prop}
    (h : (∃ I2 : Nat → Option Addr → Nat → Nat → Int → World → Prop, (∃ m3, I2 m3 none 0 0 0 w) ∧ ∀ (m3 : Nat) (out5a : Option Addr) (out5n : Nat) (out5c : Nat) (i6 : Int) (B7 : Nat → Value) (w8 : World), I2 m3 out5a out5n out5c i6 w8 → PIf (decide ((i6 : Int) < ((l1n : Nat) : Int))) ((∃ b9 o10, l1a = some ⟨b9, o10, none⟩ ∧
      (0 : Int) ≤ i6 ∧ i6 < ((l1n : Nat) : Int) ∧ (∃ (t11 : Int), w8.cell? ⟨b9, o10 + Int.toNat i6, none⟩ = some (.int .i64 t11) ∧ PA w8 (.cells #[.int .i64 t11] 3) fun w12 =>
      PRun Try.prog (Builtin.append_ #[23, 23] 23 #[.slice out5a out5n out5c, .slice (some ⟨w8.heap.size, 0, none⟩) 1 1]) w12 (fun v13 w14 => ∃ (t15a : Option Addr) (t15n : Nat) (t15c : Nat), v13 = .slice t15a t15n t15c ∧
      (∃ m4, m4 < m3 ∧ I2 m4 t15a t15n t15c (IntKind.wrap .i64 (i6 + 1)) w14)) (fun pv w => R (.panicked [{ v := pv, recovered := false }]) w)))) (R (.returned (.slice out5a out5n out5c)) w8))) :
    Calls Try.prog 38 #[.slice l1a l1n l1c] w R :=
  D_calls A_kit_CopyInts mixed Try.func38 rfl (Nat.le_of_ble_eq_true (by kernel_rfl)) (by kernel_rfl) (Eq.mp (by kernel_rfl) h)
/-- quayside/quaysidekit.markInts -/
abbrev F_kit_markInts : Nat := 39
def A_kit_markInts : Ann := ⟨[], [], [], []⟩
theorem L_kit_markInts {i1 : Int} {w : World} {R : Ending → World → Prop}
    (h : R (.returned (.int .i64 (IntKind.wrap .i64 (7001 + (IntKind.wrap .i64 (13 * i1)))))) w) :
    Calls Try.prog 39 #[.int .i64 i1] w R :=
  D_calls A_kit_markInts mixed Try.func39 rfl (Nat.le_of_ble_eq_true (by kernel_rfl)) (by kernel_rfl) (Eq.mp (by kernel_rfl) h)
/-- quayside/quaysideref04.Join -/
abbrev F_ref04_Join : Nat := 40
def A_ref04_Join : Ann := ⟨[(3, [(5, .slice none 0 0), (6, .int .i64 0)])], [(5, [])], [], []⟩
theorem L_ref04_Join {a1a : Option Addr} {a1n : Nat} {a1c : Nat} {b2a : Option Addr} {b2n : Nat} {b2c : Nat} {w : World} {R : Ending → World → Prop}
    (h : (∃ I3 : Nat → Option Addr → Nat → Nat → Int → World → Prop, (∃ m4, I3 m4 none 0 0 0 w) ∧ ∀ (m4 : Nat) (out6a : Option Addr) (out6n : Nat) (out6c : Nat) (i7 : Int) (B8 : Nat → Value) (w9 : World), I3 m4 out6a out6n out6c i7 w9 → (∃ J10 : World → Prop, (PIf (decide ((i7 : Int) < ((a1n : Nat) : Int))) (J10  w9) (PIf (decide ((i7 : Int) < ((b2n : Nat) : Int))) (J10  w9) (R (.returned (.slice out6a out6n out6c)) w9))) ∧
      ∀  (B11 : Nat → Value) (w12 : World), J10  w12 → PC Try.prog 45 #[.slice a1a a1n a1c, .int .i64 i7] w12 (fun v13 w14 => ∃ (t15 : Int), v13 = .int .i64 t15 ∧
      PC Try.prog 45 #[.slice b2a b2n b2c, .int .i64 i7] w14 (fun v16 w17 => ∃ (t18 : Int), v16 = .int .i64 t18 ∧ PIf (decide ((t18 : Int) > t15)) (PC Try.prog 45 #[.slice b2a b2n b2c, .int .i64 i7] w17 (fun v19 w20 =>
      ∃ (t21 : Int), v19 = .int .i64 t21 ∧ PA w20 (.cells #[.int .i64 t21] 3) fun w22 => PRun Try.prog (Builtin.append_ #[23, 23] 23 #[.slice out6a out6n out6c, .slice (some ⟨w20.heap.size, 0, none⟩) 1 1]) w22 (fun v23 w24 =>
      ∃ (t25a : Option Addr) (t25n : Nat) (t25c : Nat), v23 = .slice t25a t25n t25c ∧ (∃ m5, m5 < m4 ∧ I3 m5 t25a t25n t25c (IntKind.wrap .i64 (i7 + 1)) w24)) (fun pv w =>
      R (.panicked [{ v := pv, recovered := false }]) w)) (fun ch w => R (.panicked ch) w)) (PA w17 (.cells #[.int .i64 t15] 3) fun w26 => PRun Try.prog (Builtin.append_ #[23, 23] 23 #[.slice out6a out6n out6c, .slice (some ⟨w17.heap.size, 0, none⟩) 1 1]) w26 (fun v27 w28 =>
      ∃ (t29a : Option Addr) (t29n : Nat) (t29c : Nat), v27 = .slice t29a t29n t29c ∧ (∃ m5, m5 < m4 ∧ I3 m5 t29a t29n t29c (IntKind.wrap .i64 (i7 + 1)) w28)) (fun pv w =>
      R (.panicked [{ v := pv, recovered := false }]) w))) (fun ch w => R (.panicked ch) w)) (fun ch w => R (.panicked ch) w)))) :
    Calls Try.prog 40 #[.slice a1a a1n a1c, .slice b2a b2n b2c] w R :=
  D_calls A_ref04_Join mixed Try.func40 rfl (Nat.le_of_ble_eq_true (by kernel_rfl)) (by kernel_rfl) (Eq.mp (by kernel_rfl) h)
/-- quayside/quaysideref04.Cmp -/
abbrev F_ref04_Cmp : Nat := 41
def A_ref04_Cmp : Ann := ⟨[], [], [], []⟩
theorem L_ref04_Cmp {a1a : Option Addr} {a1n : Nat} {a1c : Nat} {b2a : Option Addr} {b2n : Nat} {b2c : Nat} {w : World} {R : Ending → World → Prop}
    (h : PC Try.prog 46 #[.slice a1a a1n a1c, .slice b2a b2n b2c] w (fun v3 w4 => ∃ (t5 : Bool), v3 = .bool t5 ∧ PC Try.prog 46 #[.slice b2a b2n b2c, .slice a1a a1n a1c] w4 (fun v6 w7 =>
      ∃ (t8 : Bool), v6 = .bool t8 ∧ PIf t5 (PIf t8 (R (.returned (.int .i64 0)) w7) (PIf t8 (R (.returned (.int .i64 1)) w7) (PIf t5 (R (.returned (.int .i64 2)) w7) (R (.returned (.int .i64 3)) w7)))) (PIf t8 (R (.returned (.int .i64 1)) w7) (PIf t5 (R (.returned (.int .i64 2)) w7) (R (.returned (.int .i64 3)) w7)))) (fun ch w =>
      R (.panicked ch) w)) (fun ch w => R (.panicked ch) w)) :
    Calls Try.prog 41 #[.slice a1a a1n a1c, .slice b2a b2n b2c] w R :=
  D_calls A_ref04_Cmp mixed Try.func41 rfl (Nat.le_of_ble_eq_true (by kernel_rfl)) (by kernel_rfl) (Eq.mp (by kernel_rfl) h)
/-- slices.Collect[int] -/
abbrev F_slices_Collect_int : Nat := 42
def A_slices_Collect_int : Ann := ⟨[], [], [], []⟩
theorem L_slices_Collect_int {seq1 : Value} {w : World} {R : Ending → World → Prop}
    (h : PC Try.prog 47 #[.slice none 0 0, seq1] w (fun v2 w3 => ∃ (t4a : Option Addr) (t4n : Nat) (t4c : Nat), v2 = .slice t4a t4n t4c ∧ R (.returned (.slice t4a t4n t4c)) w3) (fun ch w =>
      R (.panicked ch) w)) :
    Calls Try.prog 42 #[seq1] w R :=
  D_calls A_slices_Collect_int mixed Try.func42 rfl (Nat.le_of_ble_eq_true (by kernel_rfl)) (by kernel_rfl) (Eq.mp (by kernel_rfl) h)
/-- slices.Sort[[]int,int] -/
abbrev F_slices_Sort_int_int : Nat := 43
def A_slices_Sort_int_int : Ann := ⟨[], [], [], []⟩
theorem L_slices_Sort_int_int {x1a : Option Addr} {x1n : Nat} {x1c : Nat} {w : World} {R : Ending → World → Prop}
    (h : PC Try.prog 49 #[.int .u64 (IntKind.wrap .u64 ((x1n : Nat) : Int))] w (fun v2 w3 => ∃ (t4 : Int), v2 = .int .i64 t4 ∧ PC Try.prog 48 #[.slice x1a x1n x1c, .int .i64 0, .int .i64 ((x1n : Nat) : Int), .int .i64 t4] w3 (fun v5 w6 =>
      v5 = .tuple #[] ∧ R (.returned (.tuple #[])) w6) (fun ch w => R (.panicked ch) w)) (fun ch w => R (.panicked ch) w)) :
    Calls Try.prog 43 #[.slice x1a x1n x1c] w R :=
  D_calls A_slices_Sort_int_int mixed Try.func43 rfl (Nat.le_of_ble_eq_true (by kernel_rfl)) (by kernel_rfl) (Eq.mp (by kernel_rfl) h)
/-- quayside/quaysideref04.Get -/
abbrev F_ref04_Get : Nat := 45
def A_ref04_Get : Ann := ⟨[], [], [], []⟩
theorem L_ref04_Get {v1a : Option Addr} {v1n : Nat} {v1c : Nat} {origin2 : Int} {w : World} {R : Ending → World → Prop}
    (h : PIf (decide ((origin2 : Int) ≥ 0)) (PIf (decide ((origin2 : Int) < ((v1n : Nat) : Int))) ((∃ b3 o4, v1a = some ⟨b3, o4, none⟩ ∧ (0 : Int) ≤ origin2 ∧ origin2 < ((v1n : Nat) : Int) ∧
      (∃ (t5 : Int), w.cell? ⟨b3, o4 + Int.toNat origin2, none⟩ = some (.int .i64 t5) ∧ PIf (decide ((t5 : Int) > 0)) ((∃ b6 o7, v1a = some ⟨b6, o7, none⟩ ∧
      (0 : Int) ≤ origin2 ∧ origin2 < ((v1n : Nat) : Int) ∧ (∃ (t8 : Int), w.cell? ⟨b6, o7 + Int.toNat origin2, none⟩ = some (.int .i64 t8) ∧ R (.returned (.int .i64 t8)) w))) (R (.returned (.int .i64 0)) w)))) (R (.returned (.int .i64 0)) w)) (R (.returned (.int .i64 0)) w)) :
    Calls Try.prog 45 #[.slice v1a v1n v1c, .int .i64 origin2] w R :=
  D_calls A_ref04_Get mixed Try.func45 rfl (Nat.le_of_ble_eq_true (by kernel_rfl)) (by kernel_rfl) (Eq.mp (by kernel_rfl) h)
/-- quayside/quaysideref04.covers -/
abbrev F_ref04_covers : Nat := 46
def A_ref04_covers : Ann := ⟨[(2, [(5, .int .i64 0)])], [], [], []⟩
theorem L_ref04_covers {a1a : Option Addr} {a1n : Nat} {a1c : Nat} {b2a : Option Addr} {b2n : Nat} {b2c : Nat} {w : World} {R : Ending → World → Prop}
    (h : (∃ I3 : Nat → Int → World → Prop, (∃ m4, I3 m4 0 w) ∧ ∀ (m4 : Nat) (i6 : Int) (B7 : Nat → Value) (w8 : World), I3 m4 i6 w8 → PIf (decide ((i6 : Int) < ((b2n : Nat) : Int))) (PC Try.prog 45 #[.slice b2a b2n b2c, .int .i64 i6] w8 (fun v9 w10 =>
      ∃ (t11 : Int), v9 = .int .i64 t11 ∧ PC Try.prog 45 #[.slice a1a a1n a1c, .int .i64 i6] w10 (fun v12 w13 => ∃ (t14 : Int), v12 = .int .i64 t14 ∧ PIf (decide ((t11 : Int) > t14)) (R (.returned (.bool false)) w13) ((∃ m5, m5 < m4 ∧
      I3 m5 (IntKind.wrap .i64 (i6 + 1)) w13))) (fun ch w => R (.panicked ch) w)) (fun ch w => R (.panicked ch) w)) (R (.returned (.bool true)) w8))) :
    Calls Try.prog 46 #[.slice a1a a1n a1c, .slice b2a b2n b2c] w R :=
  D_calls A_ref04_covers mixed Try.func46 rfl (Nat.le_of_ble_eq_true (by kernel_rfl)) (by kernel_rfl) (Eq.mp (by kernel_rfl) h)
end Go.Proofs.Ytnfcddhabhbicaa
