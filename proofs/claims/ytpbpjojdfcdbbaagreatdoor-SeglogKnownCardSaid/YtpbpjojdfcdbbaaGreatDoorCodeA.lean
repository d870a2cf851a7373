import Derived.Test.YtpbpjojdfcdbbaaGreatDoorLift
import Derived.Test.YtpbpjojdfcdbbaaGreatDoorRows
import Derived.KernelRfl
namespace Go.Proofs.YtpbpjojdfcdbbaaGreatDoor
open Go.Lift
set_option maxRecDepth 100000
set_option linter.unusedVariables false
theorem mixed : Tryz.prog.follows .mixedOrders = true := by kernel_rfl
abbrev F_law22_SeglogRefuses : Nat := 3
def A_law22_SeglogRefuses : Ann := ⟨[(11, [(14, .slice none 0 0), (15, .int .i64 0)])], [(15, [(14, .slice none 0 0)]), (18, [(14, .slice none 0 0)]), (20, [])], [], [], []⟩
theorem L_law22_SeglogRefuses {n1 size2 ahead3 : Int} {l4a : OA} {l4n l4c : Nat} {w : World} {R : RW}
 (h : PC Tryz.prog 11 #[.slice l4a l4n l4c] w (fun v5 w6 => ∃ t7, v5 = .bool t7 ∧ PIf t7 (PC Tryz.prog 12 #[] w6 (fun v8 w9 => ∃ t10, v8 = .bool t10 ∧
 R (.returned (.bool t10)) w9) (PnC R)) (PC Tryz.prog 14 #[.int .i64 n1] w6 (fun v11 w12 => ∃ t13, v11 = .int .i64 t13 ∧
 PC Tryz.prog 13 #[.int .i64 t13] w12 (fun v14 w15 => ∃ t16 t17, v14 = .tuple #[.pointer t16, .int .i64 t17] ∧ PIf (t17 != 0) (R (.returned (.bool false)) w15) (PRun Tryz.prog (do eqGuard .eql 25 (.tmp 32) (.const (.pointer none)) (.pointer t16) (.pointer none); binOp .eql 25 (.pointer t16) (.pointer none)) w15 (fun v18 w19 =>
 ∃ t20, v18 = .bool t20 ∧ PIf t20 (R (.returned (.bool false)) w19) (PC Tryz.prog 15 #[.pointer t16, .int .i64 size2] w19 (fun v21 w22 => ∃ t23 t24a t24n t24c t25, v21 = .tuple #[.pointer t23, .slice t24a t24n t24c, .int .i64 t25] ∧
 PIf (t25 != 0) (PIf (t25 != 0) (PRun Tryz.prog (do eqGuard .eql 30 (.tmp 51) (.const (.pointer none)) (.pointer t23) (.pointer none); binOp .eql 30 (.pointer t23) (.pointer none)) w22 (fun v26 w27 =>
 ∃ t28, v26 = .bool t28 ∧ PIf t28 (PC Tryz.prog 12 #[] w27 (fun v29 w30 => ∃ t31, v29 = .bool t31 ∧ R (.returned (.bool t31)) w30) (PnC R)) (R (.returned (.bool false)) w27)) (PnV R)) (R (.returned (.bool false)) w22)) (PRun Tryz.prog (do eqGuard .eql 30 (.tmp 45) (.const (.pointer none)) (.pointer t23) (.pointer none); binOp .eql 30 (.pointer t23) (.pointer none)) w22 (fun v32 w33 =>
 ∃ t34, v32 = .bool t34 ∧ PIf t34 (PIf (t25 != 0) (PRun Tryz.prog (do eqGuard .eql 30 (.tmp 51) (.const (.pointer none)) (.pointer t23) (.pointer none); binOp .eql 30 (.pointer t23) (.pointer none)) w33 (fun v35 w36 =>
 ∃ t37, v35 = .bool t37 ∧ PIf t37 (PC Tryz.prog 12 #[] w36 (fun v38 w39 => ∃ t40, v38 = .bool t40 ∧ R (.returned (.bool t40)) w39) (PnC R)) (R (.returned (.bool false)) w36)) (PnV R)) (R (.returned (.bool false)) w33)) ((∃ J41 : OA → Nat → Nat → World → Prop, ((∃ I42 : Nat → OA → Nat → Nat → Int → World → Prop, (∃ m43, I42 m43 none 0 0 0 w33) ∧
 ∀ (m43 : Nat) (want45a : OA) (want45n : Nat) (want45c : Nat) (i46 : Int) (B47 : Nat → Value) (w48 : World), I42 m43 want45a want45n want45c i46 w48 → PC Tryz.prog 16 #[.int .i64 ahead3, .int .i64 201] w48 (fun v49 w50 =>
 ∃ t51, v49 = .int .i64 t51 ∧ PIf (decide (i46 < t51)) (PC Tryz.prog 18 #[.int .i64 (IntKind.wrap .i64 (i46 + 1))] w50 (fun v52 w53 => ∃ t54 t55 t56 t57a t57n t57c t58 t59 t60 t61 t62 t63, v52 = .agg #[.int .i64 t54, .int .i64 t55, .int .i64 t56, .slice t57a t57n t57c, .int .i64 t58, .int .i64 t59, .int .i64 t60, .int .i64 t61, .int .i64 t62, .int .i64 t63] ∧
 PA w53 (.cells #[.int .i64 t54, .int .i64 t55, .int .i64 t56, .slice t57a t57n t57c, .int .i64 t58, .int .i64 t59, .int .i64 t60, .int .i64 t61, .int .i64 t62, .int .i64 t63] 39) fun w64 =>
 PC Tryz.prog 17 #[.pointer t23, .slice (some ⟨w53.heap.size, 0, none⟩) 1 1] w64 (fun v65 w66 => ∃ t67, v65 = .int .i64 t67 ∧ PIf (t67 != 0) (J41 want45a want45n want45c w66) (PC Tryz.prog 18 #[.int .i64 (IntKind.wrap .i64 (i46 + 1))] w66 (fun v68 w69 =>
 ∃ t70 t71 t72 t73a t73n t73c t74 t75 t76 t77 t78 t79, v68 = .agg #[.int .i64 t70, .int .i64 t71, .int .i64 t72, .slice t73a t73n t73c, .int .i64 t74, .int .i64 t75, .int .i64 t76, .int .i64 t77, .int .i64 t78, .int .i64 t79] ∧
 PA w69 (.cells #[.int .i64 t70, .int .i64 t71, .int .i64 t72, .slice t73a t73n t73c, .int .i64 t74, .int .i64 t75, .int .i64 t76, .int .i64 t77, .int .i64 t78, .int .i64 t79] 39) fun w80 =>
 PRun Tryz.prog (Builtin.append_ #[22, 22] 22 #[.slice want45a want45n want45c, .slice (some ⟨w69.heap.size, 0, none⟩) 1 1]) w80 (fun v81 w82 => ∃ t83a t83n t83c, v81 = .slice t83a t83n t83c ∧
 (∃ m44, m44 < m43 ∧ I42 m44 t83a t83n t83c (IntKind.wrap .i64 (i46 + 1)) w82)) (PnV R)) (PnC R))) (PnC R)) (PnC R)) (J41 want45a want45n want45c w50)) (PnC R))) ∧
 ∀ (want84a : OA) (want84n : Nat) (want84c : Nat) (B85 : Nat → Value) (w86 : World), J41 want84a want84n want84c w86 → PC Tryz.prog 17 #[.pointer t23, .slice l4a l4n l4c] w86 (fun v87 w88 =>
 ∃ t89, v87 = .int .i64 t89 ∧ (∃ J90 : OA → Nat → Nat → World → Prop, (PIf (t89 == 0) (PRun Tryz.prog (Builtin.append_ #[22, 22] 22 #[.slice want84a want84n want84c, .slice l4a l4n l4c]) w88 (fun v91 w92 =>
 ∃ t93a t93n t93c, v91 = .slice t93a t93n t93c ∧ J90 t93a t93n t93c w92) (PnV R)) (J90 want84a want84n want84c w88)) ∧
 ∀ (want94a : OA) (want94n : Nat) (want94c : Nat) (B95 : Nat → Value) (w96 : World), J90 want94a want94n want94c w96 → (∃ J97 : World → Prop, (PIf (t89 != 0) (PIf (t89 != 12) (PIf (t89 != 3) (R (.returned (.bool false)) w96) (J97  w96)) (J97  w96)) (J97  w96)) ∧
 ∀  (B98 : Nat → Value) (w99 : World), J97  w99 → PC Tryz.prog 15 #[.pointer t16, .int .i64 size2] w99 (fun v100 w101 => ∃ t102 t103a t103n t103c t104, v100 = .tuple #[.pointer t102, .slice t103a t103n t103c, .int .i64 t104] ∧
 PIf (t104 == 0) (PC Tryz.prog 19 #[.slice t103a t103n t103c, .slice want94a want94n want94c] w101 (fun v105 w106 => ∃ t107, v105 = .bool t107 ∧
 PIf t107 (PC Tryz.prog 12 #[] w106 (fun v108 w109 => ∃ t110, v108 = .bool t110 ∧ R (.returned (.bool t110)) w109) (PnC R)) (R (.returned (.bool false)) w106)) (PnC R)) (R (.returned (.bool false)) w101)) (PnC R)))) (PnC R)))) (PnV R))) (PnC R))) (PnV R))) (PnC R)) (PnC R))) (PnC R)) :
 Calls Tryz.prog 3 #[.int .i64 n1, .int .i64 size2, .int .i64 ahead3, .slice l4a l4n l4c] w R :=
 DC0 A_law22_SeglogRefuses mixed Tryz.func3 rfl (by kernel_rfl) (Eq.mp (by kernel_rfl) h)
abbrev F_law22_SeglogLasts : Nat := 5
def A_law22_SeglogLasts : Ann := ⟨[(16, [(9, .pointer none), (12, .slice none 0 0), (13, .slice none 0 0), (14, .int .i64 0), (15, .bool false), (16, .int .i64 0)]), (23, [(14, .int .i64 0), (18, .slice none 0 0), (19, .int .i64 0)])], [(38, [(106, .bool false)]), (39, []), (42, [(15, .bool false)]), (48, [])], [], [], []⟩
theorem L_law22_SeglogLasts {n1 size2 : Int} {acts3a : OA} {acts3n acts3c : Nat} {w : World} {R : RW}
 (h : PC Tryz.prog 22 #[.slice acts3a acts3n acts3c] w (fun v4 w5 => ∃ t6, v4 = .bool t6 ∧ PIf t6 (PC Tryz.prog 12 #[] w5 (fun v7 w8 => ∃ t9, v7 = .bool t9 ∧
 R (.returned (.bool t9)) w8) (PnC R)) (PC Tryz.prog 14 #[.int .i64 n1] w5 (fun v10 w11 => ∃ t12, v10 = .int .i64 t12 ∧
 PC Tryz.prog 13 #[.int .i64 t12] w11 (fun v13 w14 => ∃ t15 t16, v13 = .tuple #[.pointer t15, .int .i64 t16] ∧ PIf (t16 != 0) (R (.returned (.bool false)) w14) (PRun Tryz.prog (do eqGuard .eql 25 (.tmp 38) (.const (.pointer none)) (.pointer t15) (.pointer none); binOp .eql 25 (.pointer t15) (.pointer none)) w14 (fun v17 w18 =>
 ∃ t19, v17 = .bool t19 ∧ PIf t19 (R (.returned (.bool false)) w18) (PC Tryz.prog 15 #[.pointer t15, .int .i64 size2] w18 (fun v20 w21 => ∃ t22 t23a t23n t23c t24, v20 = .tuple #[.pointer t22, .slice t23a t23n t23c, .int .i64 t24] ∧
 PIf (t24 != 0) (PRun Tryz.prog (do eqGuard .eql 30 (.tmp 50) (.const (.pointer none)) (.pointer t22) (.pointer none); binOp .eql 30 (.pointer t22) (.pointer none)) w21 (fun v25 w26 =>
 ∃ t27, v25 = .bool t27 ∧ PIf t27 (PC Tryz.prog 12 #[] w26 (fun v28 w29 => ∃ t30, v28 = .bool t30 ∧ R (.returned (.bool t30)) w29) (PnC R)) (R (.returned (.bool false)) w26)) (PnV R)) (PRun Tryz.prog (do eqGuard .eql 30 (.tmp 55) (.const (.pointer none)) (.pointer t22) (.pointer none); binOp .eql 30 (.pointer t22) (.pointer none)) w21 (fun v31 w32 =>
 ∃ t33, v31 = .bool t33 ∧ PIf t33 (R (.returned (.bool false)) w32) ((∃ I34 : Nat → OA → OA → Nat → Nat → OA → Nat → Nat → Int → Bool → Int → World → Prop, (∃ m35, I34 m35 t22 none 0 0 none 0 0 1 false 0 w32) ∧
 ∀ (m35 : Nat) (l37 : OA) (synced38a : OA) (synced38n : Nat) (synced38c : Nat) (behind39a : OA) (behind39n : Nat) (behind39c : Nat) (next40 : Int) (dead41 : Bool) (i42 : Int) (B43 : Nat → Value) (w44 : World), I34 m35 l37 synced38a synced38n synced38c behind39a behind39n behind39c next40 dead41 i42 w44 → PIf (decide (i42 < ((acts3n : Nat) : Int))) ((∃ b45 o46, acts3a = some ⟨b45, o46, none⟩ ∧
 (0 : Int) ≤ i42 ∧ i42 < ((acts3n : Nat) : Int) ∧ (∃ t47 t48 t49a t49n t49c t50a t50n t50c, w44.cell? ⟨b45, o46 + Int.toNat i42 * 4, none⟩ = some (.int .i64 t47) ∧
 w44.cell? ⟨b45, o46 + Int.toNat i42 * 4 + 1, none⟩ = some (.int .i64 t48) ∧ w44.cell? ⟨b45, o46 + Int.toNat i42 * 4 + 2, none⟩ = some (.slice t49a t49n t49c) ∧
 w44.cell? ⟨b45, o46 + Int.toNat i42 * 4 + 3, none⟩ = some (.slice t50a t50n t50c) ∧ PA w44 (.cells #[.int .i64 0, .int .i64 0, .slice none 0 0, .slice none 0 0] 51) fun w51 =>
 PS w51 ⟨w44.heap.size, 0, none⟩ (.int .i64 t47) fun w52 => PS w52 ⟨w44.heap.size, 0 + 1, none⟩ (.int .i64 t48) fun w53 => PS w53 ⟨w44.heap.size, 0 + 2, none⟩ (.slice t49a t49n t49c) fun w54 =>
 PS w54 ⟨w44.heap.size, 0 + 3, none⟩ (.slice t50a t50n t50c) fun w55 => (RdI w55 w44.heap.size 0 fun t56 => PIf (t56 == 0) ((∃ I57 : Nat → Int → OA → Nat → Nat → Int → World → Prop, (∃ m58, I57 m58 next40 none 0 0 0 w55) ∧
 ∀ (m58 : Nat) (next60 : Int) (x61a : OA) (x61n : Nat) (x61c : Nat) (k62 : Int) (B63 : Nat → Value) (w64 : World), I57 m58 next60 x61a x61n x61c k62 w64 → (RdL w64 w44.heap.size (0 + 2) fun t65a t65n t65c =>
 PIf (decide (k62 < ((t65n : Nat) : Int))) (PC Tryz.prog 18 #[.int .i64 next60] w64 (fun v66 w67 => ∃ t68 t69 t70 t71a t71n t71c t72 t73 t74 t75 t76 t77, v66 = .agg #[.int .i64 t68, .int .i64 t69, .int .i64 t70, .slice t71a t71n t71c, .int .i64 t72, .int .i64 t73, .int .i64 t74, .int .i64 t75, .int .i64 t76, .int .i64 t77] ∧
 PA w67 (.cells #[.int .i64 t68, .int .i64 t69, .int .i64 t70, .slice t71a t71n t71c, .int .i64 t72, .int .i64 t73, .int .i64 t74, .int .i64 t75, .int .i64 t76, .int .i64 t77] 39) fun w78 =>
 PRun Tryz.prog (Builtin.append_ #[22, 22] 22 #[.slice x61a x61n x61c, .slice (some ⟨w67.heap.size, 0, none⟩) 1 1]) w78 (fun v79 w80 => ∃ t81a t81n t81c, v79 = .slice t81a t81n t81c ∧
 (∃ m59, m59 < m58 ∧ I57 m59 (IntKind.wrap .i64 (next60 + 1)) t81a t81n t81c (IntKind.wrap .i64 (k62 + 1)) w80)) (PnV R)) (PnC R)) (PC Tryz.prog 17 #[.pointer l37, .slice x61a x61n x61c] w64 (fun v82 w83 => ∃ t84, v82 = .int .i64 t84 ∧ PIf (t84 == 0) (PRun Tryz.prog (Builtin.append_ #[22, 22] 22 #[.slice behind39a behind39n behind39c, .slice x61a x61n x61c]) w83 (fun v85 w86 =>
 ∃ t87a t87n t87c, v85 = .slice t87a t87n t87c ∧ (∃ m36, m36 < m35 ∧ I34 m36 l37 synced38a synced38n synced38c t87a t87n t87c next60 dead41 (IntKind.wrap .i64 (i42 + 1)) w86)) (PnV R)) ((∃ m36, m36 < m35 ∧ I34 m36 l37 synced38a synced38n synced38c behind39a behind39n behind39c next60 dead41 (IntKind.wrap .i64 (i42 + 1)) w83))) (PnC R))))) (PIf (t56 == 1) (PC Tryz.prog 20 #[.pointer l37] w55 (fun v88 w89 => ∃ t90, v88 = .int .i64 t90 ∧ PIf (t90 == 0) (PRun Tryz.prog (Builtin.append_ #[22, 22] 22 #[.slice synced38a synced38n synced38c, .slice behind39a behind39n behind39c]) w89 (fun v91 w92 =>
 ∃ t93a t93n t93c, v91 = .slice t93a t93n t93c ∧ (∃ m36, m36 < m35 ∧ I34 m36 l37 t93a t93n t93c none 0 0 next40 dead41 (IntKind.wrap .i64 (i42 + 1)) w92)) (PnV R)) ((∃ m36, m36 < m35 ∧ I34 m36 l37 synced38a synced38n synced38c behind39a behind39n behind39c next40 dead41 (IntKind.wrap .i64 (i42 + 1)) w89))) (PnC R)) (PIf (t56 == 3) ((RdI w55 w44.heap.size (0 + 1) fun t94 => PC Tryz.prog 23 #[.pointer t15, .int .i64 t94] w55 (fun v95 w96 =>
 v95 = .tuple #[] ∧ (∃ m36, m36 < m35 ∧ I34 m36 l37 synced38a synced38n synced38c behind39a behind39n behind39c next40 true (IntKind.wrap .i64 (i42 + 1)) w96)) (PnC R))) ((∃ J97 : Bool → World → Prop, (PIf (t56 == 2) (J97 (t56 == 2) w55) (J97 (t56 == 4) w55)) ∧ ∀ (t98 : Bool) (B99 : Nat → Value) (w100 : World), J97 t98 w100 → PIf t98 ((∃ J101 : World → Prop, ((RdI w100 w44.heap.size 0 fun t102 =>
 PIf (t102 == 4) (PIf dead41 ((∃ m36, m36 < m35 ∧ I34 m36 l37 synced38a synced38n synced38c behind39a behind39n behind39c next40 dead41 (IntKind.wrap .i64 (i42 + 1)) w100)) (J101  w100)) (J101  w100))) ∧
 ∀  (B103 : Nat → Value) (w104 : World), J101  w104 → (∃ J105 : Bool → World → Prop, ((RdI w104 w44.heap.size 0 fun t106 =>
 PIf (t106 == 2) ((RdI w104 w44.heap.size (0 + 1) fun t107 => PC Tryz.prog 21 #[.pointer t15, .int .i64 t107] w104 (fun v108 w109 =>
 v108 = .tuple #[] ∧ J105 false w109) (PnC R))) (J105 dead41 w104))) ∧ ∀ (dead110 : Bool) (B111 : Nat → Value) (w112 : World), J105 dead110 w112 → PC Tryz.prog 15 #[.pointer t15, .int .i64 size2] w112 (fun v113 w114 =>
 ∃ t115 t116a t116n t116c t117, v113 = .tuple #[.pointer t115, .slice t116a t116n t116c, .int .i64 t117] ∧
 PIf (t117 != 0) (R (.returned (.bool false)) w114) (PRun Tryz.prog (do eqGuard .eql 30 (.tmp 132) (.const (.pointer none)) (.pointer t115) (.pointer none); binOp .eql 30 (.pointer t115) (.pointer none)) w114 (fun v118 w119 =>
 ∃ t120, v118 = .bool t120 ∧ PIf t120 (R (.returned (.bool false)) w119) (PC Tryz.prog 24 #[.slice synced38a synced38n synced38c] w119 (fun v121 w122 =>
 ∃ t123a t123n t123c, v121 = .slice t123a t123n t123c ∧ PRun Tryz.prog (Builtin.append_ #[22, 22] 22 #[.slice t123a t123n t123c, .slice behind39a behind39n behind39c]) w122 (fun v124 w125 =>
 ∃ t126a t126n t126c, v124 = .slice t126a t126n t126c ∧ (∃ J127 : World → Prop, (PIf (decide ((((t116n : Nat) : Int) : Int) < ((synced38n : Nat) : Int))) (R (.returned (.bool false)) w125) (PIf (decide ((((t116n : Nat) : Int) : Int) > ((t126n : Nat) : Int))) (R (.returned (.bool false)) w125) (((0 : Int) ≤ ((t116n : Nat) : Int) ∧
 (((t116n : Nat) : Int) : Int) ≤ ((t126c : Nat) : Int) ∧ PC Tryz.prog 19 #[.slice t116a t116n t116c, .slice t126a (Int.toNat ((t116n : Nat) : Int)) t126c] w125 (fun v128 w129 =>
 ∃ t130, v128 = .bool t130 ∧ PIf (!t130) (R (.returned (.bool false)) w129) ((RdI w129 w44.heap.size 0 fun t131 =>
 PIf (t131 == 4) (PIf ((((t116n : Nat) : Int) : Int) != ((t126n : Nat) : Int)) (R (.returned (.bool false)) w129) (J127  w129)) (J127  w129)))) (PnC R))))) ∧ ∀  (B132 : Nat → Value) (w133 : World), J127  w133 → PC Tryz.prog 15 #[.pointer t15, .int .i64 size2] w133 (fun v134 w135 =>
 ∃ t136 t137a t137n t137c t138, v134 = .tuple #[.pointer t136, .slice t137a t137n t137c, .int .i64 t138] ∧
 PIf (t138 != 0) (R (.returned (.bool false)) w135) (PC Tryz.prog 19 #[.slice t137a t137n t137c, .slice t116a t116n t116c] w135 (fun v139 w140 =>
 ∃ t141, v139 = .bool t141 ∧ PIf (!t141) (R (.returned (.bool false)) w140) ((RdI w140 w44.heap.size 0 fun t142 =>
 PIf (t142 == 2) ((∃ m36, m36 < m35 ∧ I34 m36 t115 t116a t116n t116c none 0 0 next40 dead110 (IntKind.wrap .i64 (i42 + 1)) w140)) ((∃ m36, m36 < m35 ∧
 I34 m36 t115 synced38a synced38n synced38c behind39a behind39n behind39c next40 dead110 (IntKind.wrap .i64 (i42 + 1)) w140))))) (PnC R))) (PnC R))) (PnV R)) (PnC R))) (PnV R))) (PnC R)))) ((∃ m36, m36 < m35 ∧ I34 m36 l37 synced38a synced38n synced38c behind39a behind39n behind39c next40 dead41 (IntKind.wrap .i64 (i42 + 1)) w100)))))))))) (PC Tryz.prog 12 #[] w44 (fun v143 w144 =>
 ∃ t145, v143 = .bool t145 ∧ R (.returned (.bool t145)) w144) (PnC R))))) (PnV R))) (PnC R))) (PnV R))) (PnC R)) (PnC R))) (PnC R)) :
 Calls Tryz.prog 5 #[.int .i64 n1, .int .i64 size2, .slice acts3a acts3n acts3c] w R :=
 DC0 A_law22_SeglogLasts mixed Tryz.func5 rfl (by kernel_rfl) (Eq.mp (by kernel_rfl) h)
abbrev F_law22_SeglogSegments : Nat := 6
def A_law22_SeglogSegments : Ann := ⟨[(12, [(12, .int .i64 0), (13, .int .i64 0)]), (30, [(19, .slice none 0 0), (20, .int .i64 0)])], [(17, [(14, .int .i64 0)]), (24, [])], [26], [], [(26, ⟨[0, 1, 2, 4, 12, 20, 36, 68, 128, 384, 128, 1664, 2176, 4224, 10240, 16384, 49152, 16384, 16384, 278528, 540672, 1196032, 2113536, 4276224, 8404992], [33554431, 33554430, 33554429, 33554427, 33554419, 33554411, 33554395, 33554367, 33554303, 33554047, 33554303, 33552767, 33552255, 33550207, 33546239, 33538047, 33505279, 33538047, 33538047, 33275903, 33013759, 32358399, 31440895, 29278207, 25149439], [0, 0, 0, 0, 0, 0, 0, 0, 0, 1, 0, 2, 0, 0, 0, 0, 2, 0, 0, 0, 0, 0, 1, 0, 0]⟩)]⟩
theorem L_law22_SeglogSegments {size1 : Int} {l2a sizes3a : OA} {l2n l2c sizes3n sizes3c : Nat} {w : World} {R : RW}
 (h : PC Tryz.prog 11 #[.slice l2a l2n l2c] w (fun v4 w5 => ∃ t6, v4 = .bool t6 ∧ PIf t6 (PC Tryz.prog 12 #[] w5 (fun v7 w8 => ∃ t9, v7 = .bool t9 ∧
 R (.returned (.bool t9)) w8) (PnC R)) (PIf (decide ((((sizes3n : Nat) : Int) : Int) > 100)) (PC Tryz.prog 12 #[] w5 (fun v10 w11 =>
 ∃ t12, v10 = .bool t12 ∧ R (.returned (.bool t12)) w11) (PnC R)) (PC Tryz.prog 16 #[.int .i64 size1, .int .i64 400] w5 (fun v13 w14 =>
 ∃ t15, v13 = .int .i64 t15 ∧ PC Tryz.prog 13 #[.int .i64 262144] w14 (fun v16 w17 => ∃ t18 t19, v16 = .tuple #[.pointer t18, .int .i64 t19] ∧
 PIf (t19 != 0) (R (.returned (.bool false)) w17) (PRun Tryz.prog (do eqGuard .eql 25 (.tmp 43) (.const (.pointer none)) (.pointer t18) (.pointer none); binOp .eql 25 (.pointer t18) (.pointer none)) w17 (fun v20 w21 =>
 ∃ t22, v20 = .bool t22 ∧ PIf t22 (R (.returned (.bool false)) w21) (PC Tryz.prog 15 #[.pointer t18, .int .i64 (IntKind.wrap .i64 (1 + t15))] w21 (fun v23 w24 =>
 ∃ t25 t26a t26n t26c t27, v23 = .tuple #[.pointer t25, .slice t26a t26n t26c, .int .i64 t27] ∧
 PIf (t27 != 0) (R (.returned (.bool false)) w24) (PRun Tryz.prog (do eqGuard .eql 30 (.tmp 56) (.const (.pointer none)) (.pointer t25) (.pointer none); binOp .eql 30 (.pointer t25) (.pointer none)) w24 (fun v28 w29 =>
 ∃ t30, v28 = .bool t30 ∧ PIf t30 (R (.returned (.bool false)) w29) ((∃ J31 : World → Prop, ((∃ I32 : Nat → Int → Int → World → Prop, (∃ m33, I32 m33 0 0 w29) ∧
 ∀ (m33 : Nat) (at35 : Int) (i36 : Int) (B37 : Nat → Value) (w38 : World), I32 m33 at35 i36 w38 → PIf (decide (at35 < ((l2n : Nat) : Int))) (PIf (decide (i36 < ((l2n : Nat) : Int))) ((∃ J39 : Int → World → Prop, (PIf (decide ((((sizes3n : Nat) : Int) : Int) > 0)) (PRun Tryz.prog (do eqGuard .rem 3 (.tmp 75) (.tmp 77) (.int .i64 i36) (.int .i64 ((sizes3n : Nat) : Int)); binOp .rem 3 (.int .i64 i36) (.int .i64 ((sizes3n : Nat) : Int))) w38 (fun v40 w41 =>
 ∃ t42, v40 = .int .i64 t42 ∧ (∃ b43 o44, sizes3a = some ⟨b43, o44, none⟩ ∧ (0 : Int) ≤ t42 ∧ t42 < ((sizes3n : Nat) : Int) ∧ (RdI w41 b43 (o44 + Int.toNat t42) fun t45 =>
 PC Tryz.prog 16 #[.int .i64 t45, .int .i64 9] w41 (fun v46 w47 => ∃ t48, v46 = .int .i64 t48 ∧ J39 (IntKind.wrap .i64 (1 + t48)) w47) (PnC R)))) (PnV R)) (J39 1 w38)) ∧ ∀ (n49 : Int) (B50 : Nat → Value) (w51 : World), J39 n49 w51 → ((0 : Int) ≤ at35 ∧
 (at35 : Int) ≤ (IntKind.wrap .i64 (at35 + (if (IntKind.wrap .i64 (((l2n : Nat) : Int) - at35)) < n49 then (IntKind.wrap .i64 (((l2n : Nat) : Int) - at35)) else n49))) ∧
 ((IntKind.wrap .i64 (at35 + (if (IntKind.wrap .i64 (((l2n : Nat) : Int) - at35)) < n49 then (IntKind.wrap .i64 (((l2n : Nat) : Int) - at35)) else n49))) : Int) ≤ ((l2c : Nat) : Int) ∧
 PC Tryz.prog 17 #[.pointer t25, .slice (subA l2a (Int.toNat at35) l2c 10) (Int.toNat (IntKind.wrap .i64 (at35 + (if (IntKind.wrap .i64 (((l2n : Nat) : Int) - at35)) < n49 then (IntKind.wrap .i64 (((l2n : Nat) : Int) - at35)) else n49))) - Int.toNat at35) (l2c - Int.toNat at35)] w51 (fun v52 w53 =>
 ∃ t54, v52 = .int .i64 t54 ∧ PIf (t54 == 3) (PC Tryz.prog 12 #[] w53 (fun v55 w56 => ∃ t57, v55 = .bool t57 ∧ R (.returned (.bool t57)) w56) (PnC R)) (PIf (t54 == 12) (PC Tryz.prog 12 #[] w53 (fun v58 w59 => ∃ t60, v58 = .bool t60 ∧ R (.returned (.bool t60)) w59) (PnC R)) (PIf (t54 != 0) (R (.returned (.bool false)) w53) ((∃ m34, m34 < m33 ∧ I32 m34 (IntKind.wrap .i64 (at35 + (if (IntKind.wrap .i64 (((l2n : Nat) : Int) - at35)) < n49 then (IntKind.wrap .i64 (((l2n : Nat) : Int) - at35)) else n49))) (IntKind.wrap .i64 (i36 + 1)) w53))))) (PnC R)))) (J31  w38)) (J31  w38))) ∧ ∀  (B61 : Nat → Value) (w62 : World), J31  w62 → PC Tryz.prog 25 #[.pointer t25] w62 (fun v63 w64 =>
 ∃ t65a t65n t65c, v63 = .slice t65a t65n t65c ∧ PC Tryz.prog 26 #[.pointer t18] w64 (fun v66 w67 => ∃ t68a t68n t68c t69, v66 = .tuple #[.agg #[.slice t68a t68n t68c], .bool t69] ∧
 PA w67 (.cells #[.slice none 0 0] 56) fun w70 => PS w70 ⟨w67.heap.size, 0, none⟩ (.slice t68a t68n t68c) fun w71 => (∀ w73, Drew w71 w73 → ∃ S74 : Nat → Prop, PIf (!t69) (R (.returned (.bool false)) w73) (PIf ((((t65n : Nat) : Int) : Int) == 0) (R (.returned (.bool false)) w73) ((RdL w73 w67.heap.size 0 fun t75a t75n t75c =>
 PC Tryz.prog 27 #[.slice t75a t75n t75c, .slice t65a t65n t65c] w73 (fun v76 w77 => ∃ t78, v76 = .bool t78 ∧ (Keep S74 w73 w77 ∧ PIf (!t78) (R (.returned (.bool false)) w77) ((∃ b79 o80, t65a = some ⟨b79, o80, none⟩ ∧
 (0 : Int) ≤ (IntKind.wrap .i64 (((t65n : Nat) : Int) - 1)) ∧ (IntKind.wrap .i64 (((t65n : Nat) : Int) - 1)) < ((t65n : Nat) : Int) ∧ (¬ S74 b79 ∧ (RdI w77 b79 (o80 + Int.toNat (IntKind.wrap .i64 (((t65n : Nat) : Int) - 1))) fun t81 =>
 PC Tryz.prog 28 #[.pointer t25] w77 (fun v82 w83 => ∃ t84, v82 = .int .i64 t84 ∧ (Keep S74 w77 w83 ∧ PIf (decide (t84 ≤ t81)) (R (.returned (.bool false)) w83) ((∃ I85 : Nat → OA → Nat → Nat → Int → World → Prop, (∃ m86, I85 m86 none 0 0 0 w83) ∧
 ∀ (m86 : Nat) (all88a : OA) (all88n : Nat) (all88c : Nat) (i89 : Int) (B90 : Nat → Value) (w91 : World), I85 m86 all88a all88n all88c i89 w91 → PIf (decide (i89 < ((t65n : Nat) : Int))) ((∃ b92 o93, t65a = some ⟨b92, o93, none⟩ ∧
 (0 : Int) ≤ i89 ∧ i89 < ((t65n : Nat) : Int) ∧ (RdI w91 b92 (o93 + Int.toNat i89) fun t94 => PC Tryz.prog 29 #[.pointer t18, .int .i64 t94] w91 (fun v95 w96 =>
 ∃ t97a t97n t97c t98, v95 = .tuple #[.slice t97a t97n t97c, .int .i64 t98] ∧ (∃ b99 o100, t65a = some ⟨b99, o100, none⟩ ∧
 (0 : Int) ≤ i89 ∧ i89 < ((t65n : Nat) : Int) ∧ (RdI w96 b99 (o100 + Int.toNat i89) fun t101 => PC Tryz.prog 31 #[.int .i64 t101] w96 (fun v102 w103 =>
 ∃ t104, v102 = .string t104 ∧ PC Tryz.prog 30 #[.pointer t18, .string t104] w103 (fun v105 w106 => ∃ t107a t107n t107c t108, v105 = .tuple #[.slice t107a t107n t107c, .int .i64 t108] ∧
 PIf (t108 != 0) ((∀ w109, Drew w106 w109 → R (.returned (.bool false)) w109)) (PIf ((((t107n : Nat) : Int) : Int) != t98) ((∀ w109, Drew w106 w109 → R (.returned (.bool false)) w109)) (PIf (decide (i89 < (IntKind.wrap .i64 (((t65n : Nat) : Int) - 1)))) (PIf (decide (t98 < (IntKind.wrap .i64 (1 + t15)))) ((∀ w109, Drew w106 w109 → R (.returned (.bool false)) w109)) (PIf (decide (i89 > 0)) ((∃ b110 o111, t65a = some ⟨b110, o111, none⟩ ∧
 (0 : Int) ≤ i89 ∧ i89 < ((t65n : Nat) : Int) ∧ (RdI w106 b110 (o111 + Int.toNat i89) fun t112 => (∃ b113 o114, t65a = some ⟨b113, o114, none⟩ ∧
 (0 : Int) ≤ (IntKind.wrap .i64 (i89 - 1)) ∧ (IntKind.wrap .i64 (i89 - 1)) < ((t65n : Nat) : Int) ∧ (RdI w106 b113 (o114 + Int.toNat (IntKind.wrap .i64 (i89 - 1))) fun t115 =>
 (∀ w109, Drew w106 w109 → PIf (decide (t112 ≤ t115)) (R (.returned (.bool false)) w109) (PRun Tryz.prog (Builtin.append_ #[22, 22] 22 #[.slice all88a all88n all88c, .slice t97a t97n t97c]) w109 (fun v116 w117 =>
 ∃ t118a t118n t118c, v116 = .slice t118a t118n t118c ∧ (∃ m87, m87 < m86 ∧ I85 m87 t118a t118n t118c (IntKind.wrap .i64 (i89 + 1)) w117)) (PnV R)))))))) ((∀ w109, Drew w106 w109 → PRun Tryz.prog (Builtin.append_ #[22, 22] 22 #[.slice all88a all88n all88c, .slice t97a t97n t97c]) w109 (fun v119 w120 =>
 ∃ t121a t121n t121c, v119 = .slice t121a t121n t121c ∧ (∃ m87, m87 < m86 ∧ I85 m87 t121a t121n t121c (IntKind.wrap .i64 (i89 + 1)) w120)) (PnV R))))) (PIf (decide (i89 > 0)) ((∃ b122 o123, t65a = some ⟨b122, o123, none⟩ ∧ (0 : Int) ≤ i89 ∧
 i89 < ((t65n : Nat) : Int) ∧ (RdI w106 b122 (o123 + Int.toNat i89) fun t124 => (∃ b125 o126, t65a = some ⟨b125, o126, none⟩ ∧
 (0 : Int) ≤ (IntKind.wrap .i64 (i89 - 1)) ∧ (IntKind.wrap .i64 (i89 - 1)) < ((t65n : Nat) : Int) ∧ (RdI w106 b125 (o126 + Int.toNat (IntKind.wrap .i64 (i89 - 1))) fun t127 =>
 (∀ w109, Drew w106 w109 → PIf (decide (t124 ≤ t127)) (R (.returned (.bool false)) w109) (PRun Tryz.prog (Builtin.append_ #[22, 22] 22 #[.slice all88a all88n all88c, .slice t97a t97n t97c]) w109 (fun v128 w129 =>
 ∃ t130a t130n t130c, v128 = .slice t130a t130n t130c ∧ (∃ m87, m87 < m86 ∧ I85 m87 t130a t130n t130c (IntKind.wrap .i64 (i89 + 1)) w129)) (PnV R)))))))) ((∀ w109, Drew w106 w109 → PRun Tryz.prog (Builtin.append_ #[22, 22] 22 #[.slice all88a all88n all88c, .slice t97a t97n t97c]) w109 (fun v131 w132 =>
 ∃ t133a t133n t133c, v131 = .slice t133a t133n t133c ∧ (∃ m87, m87 < m86 ∧ I85 m87 t133a t133n t133c (IntKind.wrap .i64 (i89 + 1)) w132)) (PnV R))))))) (PnC R)) (PnC R)))) (PnC R)))) (PC Tryz.prog 19 #[.slice all88a all88n all88c, .slice l2a l2n l2c] w91 (fun v134 w135 =>
 ∃ t136, v134 = .bool t136 ∧ PIf t136 (PC Tryz.prog 12 #[] w135 (fun v137 w138 => ∃ t139, v137 = .bool t139 ∧ R (.returned (.bool t139)) w138) (PnC R)) (R (.returned (.bool false)) w135)) (PnC R)))))) (fun ch wpp => ∀ (_ : Base) (_ : Bnd), R (.panicked ch) wpp))))))) (fun ch wpp =>
 ∀ (_ : Base) (_ : Bnd), R (.panicked ch) wpp)))))) (PnC R)) (PnC R)))) (PnV R))) (PnC R))) (PnV R))) (PnC R)) (PnC R)))) (PnC R)) :
 Calls Tryz.prog 6 #[.int .i64 size1, .slice l2a l2n l2c, .slice sizes3a sizes3n sizes3c] w R :=
 DC0 A_law22_SeglogSegments mixed Tryz.func6 rfl (by kernel_rfl) (Eq.mp (by kernel_rfl) h)
abbrev F_law22_SeglogKnown : Nat := 7
def A_law22_SeglogKnown : Ann := ⟨[(5, [(4, .int .i64 0)])], [], [], [], []⟩
theorem L_law22_SeglogKnown  {w : World} {R : Ending → World → Prop}
 (h : PC Tryz.prog 18 #[.int .i64 1] w (fun v1 w2 => ∃ t3 t4 t5 t6a t6n t6c t7 t8 t9 t10 t11 t12, v1 = .agg #[.int .i64 t3, .int .i64 t4, .int .i64 t5, .slice t6a t6n t6c, .int .i64 t7, .int .i64 t8, .int .i64 t9, .int .i64 t10, .int .i64 t11, .int .i64 t12] ∧
 PA w2 (.cells #[.int .i64 t3, .int .i64 t4, .int .i64 t5, .slice t6a t6n t6c, .int .i64 t7, .int .i64 t8, .int .i64 t9, .int .i64 t10, .int .i64 t11, .int .i64 t12] 39) fun w13 =>
 PC Tryz.prog 18 #[.int .i64 2] w13 (fun v14 w15 => ∃ t16 t17 t18 t19a t19n t19c t20 t21 t22 t23 t24 t25, v14 = .agg #[.int .i64 t16, .int .i64 t17, .int .i64 t18, .slice t19a t19n t19c, .int .i64 t20, .int .i64 t21, .int .i64 t22, .int .i64 t23, .int .i64 t24, .int .i64 t25] ∧
 PC Tryz.prog 18 #[.int .i64 3] w15 (fun v26 w27 => ∃ t28 t29 t30 t31a t31n t31c t32 t33 t34 t35 t36 t37, v26 = .agg #[.int .i64 t28, .int .i64 t29, .int .i64 t30, .slice t31a t31n t31c, .int .i64 t32, .int .i64 t33, .int .i64 t34, .int .i64 t35, .int .i64 t36, .int .i64 t37] ∧
 PA w27 (.cells #[.int .i64 t16, .int .i64 t17, .int .i64 t18, .slice t19a t19n t19c, .int .i64 t20, .int .i64 t21, .int .i64 t22, .int .i64 t23, .int .i64 t24, .int .i64 t25, .int .i64 t28, .int .i64 t29, .int .i64 t30, .slice t31a t31n t31c, .int .i64 t32, .int .i64 t33, .int .i64 t34, .int .i64 t35, .int .i64 t36, .int .i64 t37] 39) fun w38 =>
 PC Tryz.prog 18 #[.int .i64 4] w38 (fun v39 w40 => ∃ t41 t42 t43 t44a t44n t44c t45 t46 t47 t48 t49 t50, v39 = .agg #[.int .i64 t41, .int .i64 t42, .int .i64 t43, .slice t44a t44n t44c, .int .i64 t45, .int .i64 t46, .int .i64 t47, .int .i64 t48, .int .i64 t49, .int .i64 t50] ∧
 PC Tryz.prog 18 #[.int .i64 5] w40 (fun v51 w52 => ∃ t53 t54 t55 t56a t56n t56c t57 t58 t59 t60 t61 t62, v51 = .agg #[.int .i64 t53, .int .i64 t54, .int .i64 t55, .slice t56a t56n t56c, .int .i64 t57, .int .i64 t58, .int .i64 t59, .int .i64 t60, .int .i64 t61, .int .i64 t62] ∧
 PC Tryz.prog 18 #[.int .i64 6] w52 (fun v63 w64 => ∃ t65 t66 t67 t68a t68n t68c t69 t70 t71 t72 t73 t74, v63 = .agg #[.int .i64 t65, .int .i64 t66, .int .i64 t67, .slice t68a t68n t68c, .int .i64 t69, .int .i64 t70, .int .i64 t71, .int .i64 t72, .int .i64 t73, .int .i64 t74] ∧
 PA w64 (.cells #[.int .i64 t41, .int .i64 t42, .int .i64 t43, .slice t44a t44n t44c, .int .i64 t45, .int .i64 t46, .int .i64 t47, .int .i64 t48, .int .i64 t49, .int .i64 t50, .int .i64 t53, .int .i64 t54, .int .i64 t55, .slice t56a t56n t56c, .int .i64 t57, .int .i64 t58, .int .i64 t59, .int .i64 t60, .int .i64 t61, .int .i64 t62, .int .i64 t65, .int .i64 t66, .int .i64 t67, .slice t68a t68n t68c, .int .i64 t69, .int .i64 t70, .int .i64 t71, .int .i64 t72, .int .i64 t73, .int .i64 t74] 39) fun w75 =>
 (∃ I76 : Nat → Int → World → Prop, (∃ m77, I76 m77 0 w75) ∧ ∀ (m77 : Nat) (k79 : Int) (B80 : Nat → Value) (w81 : World), I76 m77 k79 w81 → PIf (decide (k79 < 40)) (PA w81 (.cells #[.int .i64 0, .int .i64 0, .slice (some ⟨w2.heap.size, 0, none⟩) 1 1, .slice none 0 0, .int .i64 1, .int .i64 0, .slice none 0 0, .slice none 0 0, .int .i64 3, .int .i64 (Int.tmod k79 20), .slice none 0 0, .slice none 0 0, .int .i64 0, .int .i64 0, .slice (some ⟨w27.heap.size, 0, none⟩) 2 2, .slice none 0 0, .int .i64 1, .int .i64 0, .slice none 0 0, .slice none 0 0, .int .i64 0, .int .i64 0, .slice (some ⟨w64.heap.size, 0, none⟩) 3 3, .slice none 0 0, .int .i64 2, .int .i64 k79, .slice none 0 0, .slice none 0 0, .int .i64 0, .int .i64 0, .slice (some ⟨w27.heap.size, 0, none⟩) 2 2, .slice none 0 0, .int .i64 4, .int .i64 0, .slice none 0 0, .slice none 0 0, .int .i64 1, .int .i64 0, .slice none 0 0, .slice none 0 0, .int .i64 0, .int .i64 0, .slice (some ⟨w2.heap.size, 0, none⟩) 1 1, .slice none 0 0, .int .i64 2, .int .i64 0, .slice none 0 0, .slice none 0 0, .int .i64 3, .int .i64 0, .slice none 0 0, .slice none 0 0, .int .i64 0, .int .i64 0, .slice (some ⟨w2.heap.size, 0, none⟩) 1 1, .slice none 0 0, .int .i64 4, .int .i64 0, .slice none 0 0, .slice none 0 0, .int .i64 2, .int .i64 0, .slice none 0 0, .slice none 0 0, .int .i64 9, .int .i64 0, .slice none 0 0, .slice none 0 0] 51) fun w82 =>
 PC Tryz.prog 32 #[.int .i64 (IntKind.wrap .i64 (400 + k79)), .int .i64 (IntKind.wrap .i64 ((Int.tmod k79 7) * 20)), .slice (some ⟨w81.heap.size, 0, none⟩) 17 17] w82 (fun v83 w84 =>
 ∃ t85, v83 = .bool t85 ∧ PIf (!t85) (R (.returned (.bool false)) w84) (PC Tryz.prog 5 #[.int .i64 (IntKind.wrap .i64 (400 + k79)), .int .i64 (IntKind.wrap .i64 ((Int.tmod k79 7) * 20)), .slice (some ⟨w81.heap.size, 0, none⟩) 17 17] w84 (fun v86 w87 =>
 ∃ t88, v86 = .bool t88 ∧ PIf (!t88) (R (.returned (.bool false)) w87) (PC Tryz.prog 32 #[.int .i64 (IntKind.wrap .i64 (3 * k79)), .int .i64 30, .slice (some ⟨w81.heap.size, 0, none⟩) 17 17] w87 (fun v89 w90 =>
 ∃ t91, v89 = .bool t91 ∧ PIf (!t91) (R (.returned (.bool false)) w90) (PC Tryz.prog 33 #[.int .i64 k79] w90 (fun v92 w93 => ∃ t94a t94n t94c, v92 = .slice t94a t94n t94c ∧
 PA w93 (.cells #[.int .i64 0, .int .i64 0, .slice (some ⟨w27.heap.size, 0, none⟩) 2 2, .slice none 0 0, .int .i64 5, .int .i64 0, .slice none 0 0, .slice t94a t94n t94c, .int .i64 4, .int .i64 0, .slice none 0 0, .slice none 0 0] 51) fun w95 =>
 PRun Tryz.prog (Builtin.append_ #[47, 47] 47 #[.slice (some ⟨w93.heap.size, 0, none⟩) 3 3, .slice (some ⟨w81.heap.size, 0, none⟩) 17 17]) w95 (fun v96 w97 =>
 ∃ t98a t98n t98c, v96 = .slice t98a t98n t98c ∧ PC Tryz.prog 32 #[.int .i64 500, .int .i64 1, .slice t98a t98n t98c] w97 (fun v99 w100 =>
 ∃ t101, v99 = .bool t101 ∧ PIf (!t101) (R (.returned (.bool false)) w100) (PC Tryz.prog 3 #[.int .i64 (IntKind.wrap .i64 (2 * k79)), .int .i64 25, .int .i64 k79, .slice (some ⟨w64.heap.size, 0, none⟩) 3 3] w100 (fun v102 w103 =>
 ∃ t104, v102 = .bool t104 ∧ PIf (!t104) (R (.returned (.bool false)) w103) (PA w103 (.cells #[] 39) fun w105 => PRun Tryz.prog (Builtin.append_ #[22, 22] 22 #[.slice (some ⟨w103.heap.size, 0, none⟩) 0 0, .slice (some ⟨w27.heap.size, 0, none⟩) 2 2]) w105 (fun v106 w107 =>
 ∃ t108a t108n t108c, v106 = .slice t108a t108n t108c ∧ PRun Tryz.prog (Builtin.append_ #[22, 22] 22 #[.slice t108a t108n t108c, .slice (some ⟨w64.heap.size, 0, none⟩) 3 3]) w107 (fun v109 w110 =>
 ∃ t111a t111n t111c, v109 = .slice t111a t111n t111c ∧ PA w110 (.cells #[.int .i64 k79] 3) fun w112 => PC Tryz.prog 6 #[.int .i64 (IntKind.wrap .i64 (5 * k79)), .slice t111a t111n t111c, .slice (some ⟨w110.heap.size, 0, none⟩) 1 1] w112 (fun v113 w114 =>
 ∃ t115, v113 = .bool t115 ∧ PIf (!t115) (R (.returned (.bool false)) w114) ((∃ m78, m78 < m77 ∧ I76 m78 (IntKind.wrap .i64 (k79 + 1)) w114))) (PnC R)) (PnV R)) (PnV R))) (PnC R))) (PnC R)) (PnV R)) (PnC R))) (PnC R))) (PnC R))) (PnC R)) (PC Tryz.prog 12 #[] w81 (fun v116 w117 => ∃ t118, v116 = .bool t118 ∧
 R (.returned (.bool t118)) w117) (PnC R)))) (PnC R)) (PnC R)) (PnC R)) (PnC R)) (PnC R)) (PnC R)) :
 Calls Tryz.prog 7 #[] w R :=
 DC0 A_law22_SeglogKnown mixed Tryz.func7 rfl (by kernel_rfl) (Eq.mp (by kernel_rfl) h)
abbrev F_law10_Long : Nat := 11
def A_law10_Long : Ann := ⟨[(2, [(3, .int .i64 0)])], [], [], [], []⟩
theorem L_law10_Long {l1a : OA} {l1n l1c : Nat} {w : World} {R : RW}
 (h : (∃ I2 : Nat → Int → World → Prop, (∃ m3, I2 m3 0 w) ∧ ∀ (m3 : Nat) (i5 : Int) (B6 : Nat → Value) (w7 : World), I2 m3 i5 w7 → PIf (decide (i5 < ((l1n : Nat) : Int))) ((∃ b8 o9, l1a = some ⟨b8, o9, none⟩ ∧
 (0 : Int) ≤ i5 ∧ i5 < ((l1n : Nat) : Int) ∧ (RdL w7 b8 (o9 + Int.toNat i5 * 10 + 3) fun t10a t10n t10c =>
 PIf (decide ((((t10n : Nat) : Int) : Int) > 100)) (R (.returned (.bool true)) w7) ((∃ m4, m4 < m3 ∧ I2 m4 (IntKind.wrap .i64 (i5 + 1)) w7))))) (R (.returned (.bool (decide ((((l1n : Nat) : Int) : Int) > 200)))) w7))) :
 Calls Tryz.prog 11 #[.slice l1a l1n l1c] w R :=
 DC0 A_law10_Long mixed Tryz.func11 rfl (by kernel_rfl) (Eq.mp (by kernel_rfl) h)
abbrev F_law22_works : Nat := 12
theorem L_law22_works  {w : World} {R : Ending → World → Prop}
 (h : PC Tryz.prog 13 #[.int .i64 1000] w (fun v1 w2 => ∃ t3 t4, v1 = .tuple #[.pointer t3, .int .i64 t4] ∧ PIf (t4 != 0) (R (.returned (.bool false)) w2) (PRun Tryz.prog (do eqGuard .eql 25 (.tmp 20) (.const (.pointer none)) (.pointer t3) (.pointer none); binOp .eql 25 (.pointer t3) (.pointer none)) w2 (fun v5 w6 =>
 ∃ t7, v5 = .bool t7 ∧ PIf t7 (R (.returned (.bool false)) w6) (PC Tryz.prog 15 #[.pointer t3, .int .i64 1] w6 (fun v8 w9 => ∃ t10 t11a t11n t11c t12, v8 = .tuple #[.pointer t10, .slice t11a t11n t11c, .int .i64 t12] ∧
 PIf (t12 != 0) (R (.returned (.bool false)) w9) (PRun Tryz.prog (do eqGuard .eql 30 (.tmp 32) (.const (.pointer none)) (.pointer t10) (.pointer none); binOp .eql 30 (.pointer t10) (.pointer none)) w9 (fun v13 w14 =>
 ∃ t15, v13 = .bool t15 ∧ PIf t15 (R (.returned (.bool false)) w14) (PIf ((((t11n : Nat) : Int) : Int) != 0) (R (.returned (.bool false)) w14) (PC Tryz.prog 25 #[.pointer t10] w14 (fun v16 w17 =>
 ∃ t18a t18n t18c, v16 = .slice t18a t18n t18c ∧ PIf ((((t18n : Nat) : Int) : Int) != 1) (R (.returned (.bool false)) w17) (PC Tryz.prog 18 #[.int .i64 1] w17 (fun v19 w20 =>
 ∃ t21 t22 t23 t24a t24n t24c t25 t26 t27 t28 t29 t30, v19 = .agg #[.int .i64 t21, .int .i64 t22, .int .i64 t23, .slice t24a t24n t24c, .int .i64 t25, .int .i64 t26, .int .i64 t27, .int .i64 t28, .int .i64 t29, .int .i64 t30] ∧
 PC Tryz.prog 18 #[.int .i64 2] w20 (fun v31 w32 => ∃ t33 t34 t35 t36a t36n t36c t37 t38 t39 t40 t41 t42, v31 = .agg #[.int .i64 t33, .int .i64 t34, .int .i64 t35, .slice t36a t36n t36c, .int .i64 t37, .int .i64 t38, .int .i64 t39, .int .i64 t40, .int .i64 t41, .int .i64 t42] ∧
 PA w32 (.cells #[.int .i64 t21, .int .i64 t22, .int .i64 t23, .slice t24a t24n t24c, .int .i64 t25, .int .i64 t26, .int .i64 t27, .int .i64 t28, .int .i64 t29, .int .i64 t30, .int .i64 t33, .int .i64 t34, .int .i64 t35, .slice t36a t36n t36c, .int .i64 t37, .int .i64 t38, .int .i64 t39, .int .i64 t40, .int .i64 t41, .int .i64 t42] 39) fun w43 =>
 PC Tryz.prog 17 #[.pointer t10, .slice (some ⟨w32.heap.size, 0, none⟩) 2 2] w43 (fun v44 w45 => ∃ t46, v44 = .int .i64 t46 ∧ PC Tryz.prog 20 #[.pointer t10] w45 (fun v47 w48 =>
 ∃ t49, v47 = .int .i64 t49 ∧ PC Tryz.prog 18 #[.int .i64 3] w48 (fun v50 w51 => ∃ t52 t53 t54 t55a t55n t55c t56 t57 t58 t59 t60 t61, v50 = .agg #[.int .i64 t52, .int .i64 t53, .int .i64 t54, .slice t55a t55n t55c, .int .i64 t56, .int .i64 t57, .int .i64 t58, .int .i64 t59, .int .i64 t60, .int .i64 t61] ∧
 PA w51 (.cells #[.int .i64 t52, .int .i64 t53, .int .i64 t54, .slice t55a t55n t55c, .int .i64 t56, .int .i64 t57, .int .i64 t58, .int .i64 t59, .int .i64 t60, .int .i64 t61] 39) fun w62 =>
 PC Tryz.prog 17 #[.pointer t10, .slice (some ⟨w51.heap.size, 0, none⟩) 1 1] w62 (fun v63 w64 => ∃ t65, v63 = .int .i64 t65 ∧ PC Tryz.prog 25 #[.pointer t10] w64 (fun v66 w67 =>
 ∃ t68a t68n t68c, v66 = .slice t68a t68n t68c ∧ PC Tryz.prog 21 #[.pointer t3, .int .i64 0] w67 (fun v69 w70 => v69 = .tuple #[] ∧
 PC Tryz.prog 15 #[.pointer t3, .int .i64 1] w70 (fun v71 w72 => ∃ t73 t74a t74n t74c t75, v71 = .tuple #[.pointer t73, .slice t74a t74n t74c, .int .i64 t75] ∧
 PIf (t46 == 0) (PIf (t49 == 0) (PIf (t65 == 0) (PIf ((((t68n : Nat) : Int) : Int) == 2) (PIf (t75 == 0) (PRun Tryz.prog (do eqGuard .neq 30 (.tmp 87) (.const (.pointer none)) (.pointer t73) (.pointer none); binOp .neq 30 (.pointer t73) (.pointer none)) w72 (fun v76 w77 =>
 ∃ t78, v76 = .bool t78 ∧ PIf t78 (PC Tryz.prog 18 #[.int .i64 1] w77 (fun v79 w80 => ∃ t81 t82 t83 t84a t84n t84c t85 t86 t87 t88 t89 t90, v79 = .agg #[.int .i64 t81, .int .i64 t82, .int .i64 t83, .slice t84a t84n t84c, .int .i64 t85, .int .i64 t86, .int .i64 t87, .int .i64 t88, .int .i64 t89, .int .i64 t90] ∧
 PC Tryz.prog 18 #[.int .i64 2] w80 (fun v91 w92 => ∃ t93 t94 t95 t96a t96n t96c t97 t98 t99 t100 t101 t102, v91 = .agg #[.int .i64 t93, .int .i64 t94, .int .i64 t95, .slice t96a t96n t96c, .int .i64 t97, .int .i64 t98, .int .i64 t99, .int .i64 t100, .int .i64 t101, .int .i64 t102] ∧
 PA w92 (.cells #[.int .i64 t81, .int .i64 t82, .int .i64 t83, .slice t84a t84n t84c, .int .i64 t85, .int .i64 t86, .int .i64 t87, .int .i64 t88, .int .i64 t89, .int .i64 t90, .int .i64 t93, .int .i64 t94, .int .i64 t95, .slice t96a t96n t96c, .int .i64 t97, .int .i64 t98, .int .i64 t99, .int .i64 t100, .int .i64 t101, .int .i64 t102] 39) fun w103 =>
 PC Tryz.prog 19 #[.slice t74a t74n t74c, .slice (some ⟨w92.heap.size, 0, none⟩) 2 2] w103 (fun v104 w105 => ∃ t106, v104 = .bool t106 ∧ R (.returned (.bool t106)) w105) (PnC R)) (PnC R)) (PnC R)) (R (.returned (.bool false)) w77)) (PnV R)) (R (.returned (.bool false)) w72)) (R (.returned (.bool false)) w72)) (R (.returned (.bool false)) w72)) (R (.returned (.bool false)) w72)) (R (.returned (.bool false)) w72)) (PnC R)) (PnC R)) (PnC R)) (PnC R)) (PnC R)) (PnC R)) (PnC R)) (PnC R)) (PnC R))) (PnC R)))) (PnV R))) (PnC R))) (PnV R))) (PnC R)) :
 Calls Tryz.prog 12 #[] w R :=
 DC0 ⟨[], [], [], [], []⟩ mixed Tryz.func12 rfl (by kernel_rfl) (Eq.mp (by kernel_rfl) h)
abbrev F_vdisk_New : Nat := 13
theorem L_vdisk_New {n1 : Int} {w : World} {R : RW}
 (h : PIf (decide (n1 < 64)) (R (.returned (.tuple #[.pointer none, .int .i64 1])) w) (PIf (decide (n1 > 262144)) (R (.returned (.tuple #[.pointer none, .int .i64 1])) w) (PA w (.map #[] 0) fun w2 =>
 PA w2 (.cells #[.int .i64 n1, .map (some w.heap.size), .bool false, .int .i64 0, .bool false] 80) fun w3 => R (.returned (.tuple #[.pointer (some ⟨w2.heap.size, 0, none⟩), .int .i64 0])) w3))) :
 Calls Tryz.prog 13 #[.int .i64 n1] w R :=
 DC0 ⟨[], [], [], [], []⟩ mixed Tryz.func13 rfl (by kernel_rfl) (Eq.mp (by kernel_rfl) h)
abbrev F_law22_Size : Nat := 14
theorem L_law22_Size {n1 : Int} {w : World} {R : RW}
 (h : PC Tryz.prog 16 #[.int .i64 n1, .int .i64 16384] w (fun v2 w3 => ∃ t4, v2 = .int .i64 t4 ∧ R (.returned (.int .i64 (IntKind.wrap .i64 (64 + t4)))) w3) (PnC R)) :
 Calls Tryz.prog 14 #[.int .i64 n1] w R :=
 DC0 ⟨[], [], [], [], []⟩ mixed Tryz.func14 rfl (by kernel_rfl) (Eq.mp (by kernel_rfl) h)
abbrev F_seglog_Open : Nat := 15
def A_seglog_Open : Ann := ⟨[], [(9, [(11, .int .i64 0)])], [], [], []⟩
theorem L_seglog_Open {d1 : OA} {size2 : Int} {w : World} {R : RW}
 (h : PC Tryz.prog 45 #[.pointer d1] w (fun v3 w4 => ∃ t5, v3 = .int .i64 t5 ∧ PA w4 (.cells #[.pointer d1, .int .i64 size2, .slice none 0 0, .int .i64 0, .int .i64 t5] 83) fun w6 =>
 PC Tryz.prog 26 #[.pointer d1] w6 (fun v7 w8 => ∃ t9a t9n t9c t10, v7 = .tuple #[.agg #[.slice t9a t9n t9c], .bool t10] ∧
 PA w8 (.cells #[.slice none 0 0] 56) fun w11 => PS w11 ⟨w8.heap.size, 0, none⟩ (.slice t9a t9n t9c) fun w12 => (RdL w12 w8.heap.size 0 fun t13a t13n t13c =>
 PC Tryz.prog 46 #[.pointer (some ⟨w4.heap.size, 0, none⟩), .agg #[.slice t13a t13n t13c]] w12 (fun v14 w15 => ∃ t16a t16n t16c t17, v14 = .tuple #[.slice t16a t16n t16c, .int .i64 t17] ∧
 (∃ J18 : Int → World → Prop, (PIf (t17 != 0) (J18 t17 w15) ((∃ b19 o20, ((some ⟨w4.heap.size, 0, none⟩) : OA) = some ⟨b19, o20, none⟩ ∧
 (RdL w15 b19 (o20 + 2) fun t21a t21n t21c => PIf ((((t21n : Nat) : Int) : Int) == 0) (PC Tryz.prog 47 #[.pointer (some ⟨w4.heap.size, 0, none⟩)] w15 (fun v22 w23 =>
 ∃ t24, v22 = .int .i64 t24 ∧ J18 t24 w23) (PnC R)) ((∃ b26 o27, ((some ⟨w4.heap.size, 0, none⟩) : OA) = some ⟨b26, o27, none⟩ ∧
 (RdL w15 b26 (o27 + 2) fun t28a t28n t28c => (RdL w15 w8.heap.size 0 fun t29a t29n t29c =>
 (∀ w25, Drew w15 w25 → PIf (decide ((((t28n : Nat) : Int) : Int) < ((t29n : Nat) : Int))) ((∃ b30 o31, ((some ⟨w4.heap.size, 0, none⟩) : OA) = some ⟨b30, o31, none⟩ ∧
 (RdL w25 b30 (o31 + 2) fun t32a t32n t32c => PC Tryz.prog 48 #[.pointer d1, .agg #[.slice t32a t32n t32c]] w25 (fun v33 w34 =>
 ∃ t35, v33 = .int .i64 t35 ∧ J18 t35 w34) (PnC R)))) (J18 t17 w25)))))))))) ∧ ∀ (no36 : Int) (B37 : Nat → Value) (w38 : World), J18 no36 w38 → PIf (no36 != 0) (R (.returned (.tuple #[.pointer none, .slice none 0 0, .int .i64 no36])) w38) (R (.returned (.tuple #[.pointer (some ⟨w4.heap.size, 0, none⟩), .slice t16a t16n t16c, .int .i64 0])) w38))) (PnC R))) (PnC R)) (PnC R)) :
 Calls Tryz.prog 15 #[.pointer d1, .int .i64 size2] w R :=
 DC0 A_seglog_Open mixed Tryz.func15 rfl (by kernel_rfl) (Eq.mp (by kernel_rfl) h)
abbrev F_kit_Pick : Nat := 16
theorem L_kit_Pick {k1 n2 : Int} {w : World} {R : RW}
 (h : PIf (decide (n2 < 1)) (R (.returned (.int .i64 0)) w) (PRun Tryz.prog (do eqGuard .rem 3 (.tmp 7) (.tmp 8) (.int .i64 k1) (.int .i64 n2); binOp .rem 3 (.int .i64 k1) (.int .i64 n2)) w (fun v3 w4 =>
 ∃ t5, v3 = .int .i64 t5 ∧ PIf (decide (t5 < 0)) (R (.returned (.int .i64 (IntKind.wrap .i64 (t5 + n2)))) w4) (R (.returned (.int .i64 t5)) w4)) (PnV R))) :
 Calls Tryz.prog 16 #[.int .i64 k1, .int .i64 n2] w R :=
 DC0 ⟨[], [], [], [], []⟩ mixed Tryz.func16 rfl (by kernel_rfl) (Eq.mp (by kernel_rfl) h)
abbrev F_seglog_Log_Append : Nat := 17
def A_seglog_Log_Append : Ann := ⟨[(3, [(5, .slice none 0 0), (14, .int .i64 0)])], [(16, [])], [16], [], []⟩
theorem L_seglog_Log_Append {l1 events2a : OA} {events2n events2c : Nat} {w : World} {R : RW}
 (h : (∃ I3 : Nat → OA → Nat → Nat → Int → World → Prop, (∃ m4, I3 m4 none 0 0 0 w) ∧ ∀ (m4 : Nat) (b6a : OA) (b6n : Nat) (b6c : Nat) (t7 : Int) (B8 : Nat → Value) (w9 : World), I3 m4 b6a b6n b6c t7 w9 → PIf (decide (t7 < ((events2n : Nat) : Int))) ((∃ b10 o11, events2a = some ⟨b10, o11, none⟩ ∧
 (0 : Int) ≤ t7 ∧ t7 < ((events2n : Nat) : Int) ∧ (∃ t12 t13 t14 t15a t15n t15c t16 t17 t18 t19 t20 t21, w9.cell? ⟨b10, o11 + Int.toNat t7 * 10, none⟩ = some (.int .i64 t12) ∧
 w9.cell? ⟨b10, o11 + Int.toNat t7 * 10 + 1, none⟩ = some (.int .i64 t13) ∧ w9.cell? ⟨b10, o11 + Int.toNat t7 * 10 + 2, none⟩ = some (.int .i64 t14) ∧ w9.cell? ⟨b10, o11 + Int.toNat t7 * 10 + 3, none⟩ = some (.slice t15a t15n t15c) ∧
 w9.cell? ⟨b10, o11 + Int.toNat t7 * 10 + 4, none⟩ = some (.int .i64 t16) ∧ w9.cell? ⟨b10, o11 + Int.toNat t7 * 10 + 5, none⟩ = some (.int .i64 t17) ∧ w9.cell? ⟨b10, o11 + Int.toNat t7 * 10 + 6, none⟩ = some (.int .i64 t18) ∧
 w9.cell? ⟨b10, o11 + Int.toNat t7 * 10 + 7, none⟩ = some (.int .i64 t19) ∧ w9.cell? ⟨b10, o11 + Int.toNat t7 * 10 + 8, none⟩ = some (.int .i64 t20) ∧ w9.cell? ⟨b10, o11 + Int.toNat t7 * 10 + 9, none⟩ = some (.int .i64 t21) ∧
 PA w9 (.cells #[.int .i64 0, .int .i64 0, .int .i64 0, .slice none 0 0, .int .i64 0, .int .i64 0, .int .i64 0, .int .i64 0, .int .i64 0, .int .i64 0] 39) fun w22 =>
 PS w22 ⟨w9.heap.size, 0, none⟩ (.int .i64 t12) fun w23 => PS w23 ⟨w9.heap.size, 0 + 1, none⟩ (.int .i64 t13) fun w24 => PS w24 ⟨w9.heap.size, 0 + 2, none⟩ (.int .i64 t14) fun w25 =>
 PS w25 ⟨w9.heap.size, 0 + 3, none⟩ (.slice t15a t15n t15c) fun w26 => PS w26 ⟨w9.heap.size, 0 + 4, none⟩ (.int .i64 t16) fun w27 => PS w27 ⟨w9.heap.size, 0 + 5, none⟩ (.int .i64 t17) fun w28 =>
 PS w28 ⟨w9.heap.size, 0 + 6, none⟩ (.int .i64 t18) fun w29 => PS w29 ⟨w9.heap.size, 0 + 7, none⟩ (.int .i64 t19) fun w30 => PS w30 ⟨w9.heap.size, 0 + 8, none⟩ (.int .i64 t20) fun w31 =>
 PS w31 ⟨w9.heap.size, 0 + 9, none⟩ (.int .i64 t21) fun w32 => (∃ t33 t34 t35 t36a t36n t36c t37 t38 t39 t40 t41 t42, w32.cell? ⟨w9.heap.size, 0, none⟩ = some (.int .i64 t33) ∧
 w32.cell? ⟨w9.heap.size, 0 + 1, none⟩ = some (.int .i64 t34) ∧ w32.cell? ⟨w9.heap.size, 0 + 2, none⟩ = some (.int .i64 t35) ∧ w32.cell? ⟨w9.heap.size, 0 + 3, none⟩ = some (.slice t36a t36n t36c) ∧
 w32.cell? ⟨w9.heap.size, 0 + 4, none⟩ = some (.int .i64 t37) ∧ w32.cell? ⟨w9.heap.size, 0 + 5, none⟩ = some (.int .i64 t38) ∧ w32.cell? ⟨w9.heap.size, 0 + 6, none⟩ = some (.int .i64 t39) ∧
 w32.cell? ⟨w9.heap.size, 0 + 7, none⟩ = some (.int .i64 t40) ∧ w32.cell? ⟨w9.heap.size, 0 + 8, none⟩ = some (.int .i64 t41) ∧ w32.cell? ⟨w9.heap.size, 0 + 9, none⟩ = some (.int .i64 t42) ∧
 PC Tryz.prog 49 #[.agg #[.int .i64 t33, .int .i64 t34, .int .i64 t35, .slice t36a t36n t36c, .int .i64 t37, .int .i64 t38, .int .i64 t39, .int .i64 t40, .int .i64 t41, .int .i64 t42]] w32 (fun v43 w44 =>
 ∃ t45a t45n t45c t46, v43 = .tuple #[.slice t45a t45n t45c, .int .i64 t46] ∧ PIf (t46 != 0) (R (.returned (.int .i64 t46)) w44) (PRun Tryz.prog (Builtin.append_ #[49, 49] 49 #[.slice b6a b6n b6c, .slice t45a t45n t45c]) w44 (fun v47 w48 =>
 ∃ t49a t49n t49c, v47 = .slice t49a t49n t49c ∧ (∃ m5, m5 < m4 ∧ I3 m5 t49a t49n t49c (IntKind.wrap .i64 (t7 + 1)) w48)) (PnV R))) (PnC R))))) (PIf ((((events2n : Nat) : Int) : Int) == 0) (R (.returned (.int .i64 0)) w9) ((∃ J50 : World → Prop, ((∃ b52 o53, l1 = some ⟨b52, o53, none⟩ ∧
 (RdI w9 b52 (o53 + 3) fun t54 => (∃ b55 o56, l1 = some ⟨b55, o56, none⟩ ∧ (RdI w9 b55 (o56 + 1) fun t57 =>
 (∀ w51, Drew w9 w51 → PIf (decide (t54 ≥ t57)) (PC Tryz.prog 47 #[.pointer l1] w51 (fun v58 w59 => ∃ t60, v58 = .int .i64 t60 ∧ PIf (t60 != 0) (R (.returned (.int .i64 t60)) w59) (J50  w59)) (PnC R)) (J50  w51))))))) ∧ ∀  (B61 : Nat → Value) (w62 : World), J50  w62 → (∀ w64, Drew w62 w64 → ∃ S65 : Nat → Prop, (∃ b66 o67, l1 = some ⟨b66, o67, none⟩ ∧
 (¬ S65 b66 ∧ (RdP w64 b66 o67 fun t68 => PC Tryz.prog 51 #[.pointer l1] w64 (fun v69 w70 => ∃ t71, v69 = .string t71 ∧
 (Keep S65 w64 w70 ∧ PC Tryz.prog 50 #[.pointer t68, .string t71, .slice b6a b6n b6c] w70 (fun v72 w73 => ∃ t74, v72 = .int .i64 t74 ∧ (Keep S65 w70 w73 ∧
 PIf (t74 != 0) (R (.returned (.int .i64 t74)) w73) ((∃ b75 o76, l1 = some ⟨b75, o76, none⟩ ∧ (RdI w73 b75 (o76 + 3) fun t77 =>
 (∃ b78 o79, l1 = some ⟨b78, o79, none⟩ ∧ PS w73 ⟨b78, o79 + 3, none⟩ (.int .i64 (IntKind.wrap .i64 (t77 + ((b6n : Nat) : Int)))) fun w80 => R (.returned (.int .i64 0)) w80)))))) (fun ch wpp =>
 ∀ (_ : Base) (_ : Bnd), R (.panicked ch) wpp))) (fun ch wpp => ∀ (_ : Base) (_ : Bnd), R (.panicked ch) wpp)))))))))) :
 Calls Tryz.prog 17 #[.pointer l1, .slice events2a events2n events2c] w R :=
 DC0 A_seglog_Log_Append mixed Tryz.func17 rfl (by kernel_rfl) (Eq.mp (by kernel_rfl) h)
abbrev F_law22_some : Nat := 18
theorem L_law22_some {seq1 : Int} {w : World} {R : RW}
 (h : PA w (.cells #[.int .i64 0, .int .i64 0, .int .i64 0, .slice none 0 0, .int .i64 0, .int .i64 0, .int .i64 0, .int .i64 0, .int .i64 0, .int .i64 0] 39) fun w2 =>
 PA w2 (.cells #[.int .i64 (IntKind.wrap .i64 (seq1 - 1))] 3) fun w3 => PS w3 ⟨w.heap.size, 0, none⟩ (.int .i64 0) fun w4 => PS w4 ⟨w.heap.size, 0 + 1, none⟩ (.int .i64 seq1) fun w5 =>
 PS w5 ⟨w.heap.size, 0 + 2, none⟩ (.int .i64 seq1) fun w6 => PS w6 ⟨w.heap.size, 0 + 3, none⟩ (.slice (some ⟨w2.heap.size, 0, none⟩) 1 1) fun w7 => PS w7 ⟨w.heap.size, 0 + 4, none⟩ (.int .i64 0) fun w8 =>
 PS w8 ⟨w.heap.size, 0 + 5, none⟩ (.int .i64 0) fun w9 => PS w9 ⟨w.heap.size, 0 + 6, none⟩ (.int .i64 0) fun w10 => PS w10 ⟨w.heap.size, 0 + 7, none⟩ (.int .i64 1) fun w11 =>
 PS w11 ⟨w.heap.size, 0 + 8, none⟩ (.int .i64 3) fun w12 => PS w12 ⟨w.heap.size, 0 + 9, none⟩ (.int .i64 0) fun w13 => (∃ r14 r15 r16 r17a r17n r17c r18 r19 r20 r21 r22 r23, w13.cell? ⟨w.heap.size, 0, none⟩ = some (.int .i64 r14) ∧
 w13.cell? ⟨w.heap.size, 0 + 1, none⟩ = some (.int .i64 r15) ∧ w13.cell? ⟨w.heap.size, 0 + 2, none⟩ = some (.int .i64 r16) ∧ w13.cell? ⟨w.heap.size, 0 + 3, none⟩ = some (.slice r17a r17n r17c) ∧
 w13.cell? ⟨w.heap.size, 0 + 4, none⟩ = some (.int .i64 r18) ∧ w13.cell? ⟨w.heap.size, 0 + 5, none⟩ = some (.int .i64 r19) ∧ w13.cell? ⟨w.heap.size, 0 + 6, none⟩ = some (.int .i64 r20) ∧
 w13.cell? ⟨w.heap.size, 0 + 7, none⟩ = some (.int .i64 r21) ∧ w13.cell? ⟨w.heap.size, 0 + 8, none⟩ = some (.int .i64 r22) ∧ w13.cell? ⟨w.heap.size, 0 + 9, none⟩ = some (.int .i64 r23) ∧
 R (.returned (.agg #[.int .i64 r14, .int .i64 r15, .int .i64 r16, .slice r17a r17n r17c, .int .i64 r18, .int .i64 r19, .int .i64 r20, .int .i64 r21, .int .i64 r22, .int .i64 r23])) w13)) :
 Calls Tryz.prog 18 #[.int .i64 seq1] w R :=
 DC0 ⟨[], [], [], [], []⟩ mixed Tryz.func18 rfl (by kernel_rfl) (Eq.mp (by kernel_rfl) h)
abbrev F_kit_SameEvents : Nat := 19
def A_kit_SameEvents : Ann := ⟨[(4, [(5, .int .i64 0)])], [], [], [], [(6, ⟨[0, 0, 3, 4, 0, 0, 48, 64, 136, 256], [1023, 1023, 1020, 1019, 1023, 1023, 975, 959, 887, 767], [0, 0, 0, 1, 0, 0, 0, 1, 2, 0]⟩)]⟩
theorem L_kit_SameEvents {a1a b2a : OA} {a1n a1c b2n b2c : Nat} {w : World} {R : RW}
 (h : PIf ((((a1n : Nat) : Int) : Int) != ((b2n : Nat) : Int)) (R (.returned (.bool false)) w) ((∃ I3 : Nat → Int → World → Prop, (∃ m4, I3 m4 0 w) ∧ ∀ (m4 : Nat) (i6 : Int) (B7 : Nat → Value) (w8 : World), I3 m4 i6 w8 → PIf (decide (i6 < ((a1n : Nat) : Int))) ((∀ w10, Drew w8 w10 → (∃ b11 o12, a1a = some ⟨b11, o12, none⟩ ∧
 (0 : Int) ≤ i6 ∧ i6 < ((a1n : Nat) : Int) ∧ (∃ t13 t14 t15 t16a t16n t16c t17 t18 t19 t20 t21 t22, w10.cell? ⟨b11, o12 + Int.toNat i6 * 10, none⟩ = some (.int .i64 t13) ∧
 w10.cell? ⟨b11, o12 + Int.toNat i6 * 10 + 1, none⟩ = some (.int .i64 t14) ∧ w10.cell? ⟨b11, o12 + Int.toNat i6 * 10 + 2, none⟩ = some (.int .i64 t15) ∧
 w10.cell? ⟨b11, o12 + Int.toNat i6 * 10 + 3, none⟩ = some (.slice t16a t16n t16c) ∧ w10.cell? ⟨b11, o12 + Int.toNat i6 * 10 + 4, none⟩ = some (.int .i64 t17) ∧
 w10.cell? ⟨b11, o12 + Int.toNat i6 * 10 + 5, none⟩ = some (.int .i64 t18) ∧ w10.cell? ⟨b11, o12 + Int.toNat i6 * 10 + 6, none⟩ = some (.int .i64 t19) ∧
 w10.cell? ⟨b11, o12 + Int.toNat i6 * 10 + 7, none⟩ = some (.int .i64 t20) ∧ w10.cell? ⟨b11, o12 + Int.toNat i6 * 10 + 8, none⟩ = some (.int .i64 t21) ∧
 w10.cell? ⟨b11, o12 + Int.toNat i6 * 10 + 9, none⟩ = some (.int .i64 t22) ∧ (∃ b23 o24, b2a = some ⟨b23, o24, none⟩ ∧ (0 : Int) ≤ i6 ∧ i6 < ((b2n : Nat) : Int) ∧
 (∃ t25 t26 t27 t28a t28n t28c t29 t30 t31 t32 t33 t34, w10.cell? ⟨b23, o24 + Int.toNat i6 * 10, none⟩ = some (.int .i64 t25) ∧
 w10.cell? ⟨b23, o24 + Int.toNat i6 * 10 + 1, none⟩ = some (.int .i64 t26) ∧ w10.cell? ⟨b23, o24 + Int.toNat i6 * 10 + 2, none⟩ = some (.int .i64 t27) ∧
 w10.cell? ⟨b23, o24 + Int.toNat i6 * 10 + 3, none⟩ = some (.slice t28a t28n t28c) ∧ w10.cell? ⟨b23, o24 + Int.toNat i6 * 10 + 4, none⟩ = some (.int .i64 t29) ∧
 w10.cell? ⟨b23, o24 + Int.toNat i6 * 10 + 5, none⟩ = some (.int .i64 t30) ∧ w10.cell? ⟨b23, o24 + Int.toNat i6 * 10 + 6, none⟩ = some (.int .i64 t31) ∧
 w10.cell? ⟨b23, o24 + Int.toNat i6 * 10 + 7, none⟩ = some (.int .i64 t32) ∧ w10.cell? ⟨b23, o24 + Int.toNat i6 * 10 + 8, none⟩ = some (.int .i64 t33) ∧
 w10.cell? ⟨b23, o24 + Int.toNat i6 * 10 + 9, none⟩ = some (.int .i64 t34) ∧ PC Tryz.prog 52 #[.agg #[.int .i64 t13, .int .i64 t14, .int .i64 t15, .slice t16a t16n t16c, .int .i64 t17, .int .i64 t18, .int .i64 t19, .int .i64 t20, .int .i64 t21, .int .i64 t22], .agg #[.int .i64 t25, .int .i64 t26, .int .i64 t27, .slice t28a t28n t28c, .int .i64 t29, .int .i64 t30, .int .i64 t31, .int .i64 t32, .int .i64 t33, .int .i64 t34]] w10 (fun v35 w36 =>
 ∃ t37, v35 = .bool t37 ∧ PIf (!t37) (R (.returned (.bool false)) w36) ((∃ m5, m5 < m4 ∧ I3 m5 (IntKind.wrap .i64 (i6 + 1)) w36))) (fun ch wpp =>
 ∀ (_ : Base) (_ : Bnd), R (.panicked ch) wpp))))))) (R (.returned (.bool true)) w8)))) :
 Calls Tryz.prog 19 #[.slice a1a a1n a1c, .slice b2a b2n b2c] w R :=
 DC0 A_kit_SameEvents mixed Tryz.func19 rfl (by kernel_rfl) (Eq.mp (by kernel_rfl) h)
abbrev F_seglog_Log_Sync : Nat := 20
def A_seglog_Log_Sync : Ann := ⟨[], [], [1], [], []⟩
theorem L_seglog_Log_Sync {l1 : OA} {w : World} {R : RW}
 (h : (∀ w3, Drew w w3 → ∃ S4 : Nat → Prop, (∃ b5 o6, l1 = some ⟨b5, o6, none⟩ ∧ (¬ S4 b5 ∧ (RdP w3 b5 o6 fun t7 =>
 PC Tryz.prog 51 #[.pointer l1] w3 (fun v8 w9 => ∃ t10, v8 = .string t10 ∧ (Keep S4 w3 w9 ∧ PC Tryz.prog 53 #[.pointer t7, .string t10] w9 (fun v11 w12 =>
 ∃ t13, v11 = .int .i64 t13 ∧ (Keep S4 w9 w12 ∧ R (.returned (.int .i64 t13)) w12)) (fun ch wpp => ∀ (_ : Base) (_ : Bnd), R (.panicked ch) wpp))) (fun ch wpp =>
 ∀ (_ : Base) (_ : Bnd), R (.panicked ch) wpp)))))) :
 Calls Tryz.prog 20 #[.pointer l1] w R :=
 DC0 A_seglog_Log_Sync mixed Tryz.func20 rfl (by kernel_rfl) (Eq.mp (by kernel_rfl) h)
abbrev F_vdisk_Disk_Crash : Nat := 21
def A_vdisk_Disk_Crash : Ann := ⟨[(2, [])], [], [], [], [(4, ⟨[0, 0, 2, 4, 8, 0, 0, 64, 128, 256, 512, 0, 2048, 4096, 8192, 17408, 32800, 65536, 131088, 262145], [1048575, 1048575, 1048573, 1048571, 1048567, 1048575, 1048575, 1048511, 1048447, 1048319, 1048063, 1048575, 1046527, 1044479, 1040383, 1031167, 1015775, 983039, 917487, 786430], [0, 0, 0, 0, 1, 0, 0, 0, 0, 1, 0, 0, 0, 0, 1, 0, 0, 0, 0, 2]⟩)]⟩
theorem L_vdisk_Disk_Crash {d1 : OA} {keep2 : Int} {w : World} {R : RW}
 (h : (∃ b3 o4, d1 = some ⟨b3, o4, none⟩ ∧ (RdM w b3 (o4 + 1) fun t5 => PC Tryz.prog 54 #[.map t5, .func (.func 55) #[] #[]] w (fun v6 w7 =>
 v6 = .tuple #[] ∧ (∃ b8 o9, d1 = some ⟨b8, o9, none⟩ ∧ (RdM w7 b8 (o9 + 1) fun t10 => PRun Tryz.prog (Instr.range 78 (.map t10)) w7 (fun v11 w12 =>
 (∃ I13 : Nat → World → Prop, (∃ m14, I13 m14  w12) ∧ ∀ (m14 : Nat)  (B16 : Nat → Value) (w17 : World), I13 m14  w17 → PRun Tryz.prog (Instr.next v11 false 0) w17 (fun v18 w19 =>
 (v18 = .tuple #[.bool false] ∧ (∃ b20 o21, d1 = some ⟨b20, o21, none⟩ ∧ PS w19 ⟨b20, o21 + 2, none⟩ (.bool false) fun w22 => (∃ b23 o24, d1 = some ⟨b23, o24, none⟩ ∧
 PS w22 ⟨b23, o24 + 4, none⟩ (.bool false) fun w25 => R (.returned (.tuple #[])) w25))) ∨ (∃ k26 x27, v18 = .tuple #[.bool true, k26, x27] ∧ PRun Tryz.prog (Instr.entry v11) w19 (fun v28 w29 =>
 ∃ (k30 : Value), ∃ x31, v28 = .tuple #[k30, .pointer x31] ∧ (∀ w33, Drew w29 w33 → (∃ b34 o35, x31 = some ⟨b34, o35, none⟩ ∧ (RdI w33 b34 (o35 + 1) fun t36 =>
 (∃ b37 o38, x31 = some ⟨b37, o38, none⟩ ∧ (RdL w33 b37 o38 fun t39a t39n t39c =>
 (∃ b40 o41, x31 = some ⟨b40, o41, none⟩ ∧ (RdI w33 b40 (o41 + 1) fun t42 => PC Tryz.prog 56 #[.pointer x31, .int .i64 (IntKind.wrap .i64 (t36 + (if (if (IntKind.wrap .i64 (((t39n : Nat) : Int) - t42)) < keep2 then (IntKind.wrap .i64 (((t39n : Nat) : Int) - t42)) else keep2) > 0 then (if (IntKind.wrap .i64 (((t39n : Nat) : Int) - t42)) < keep2 then (IntKind.wrap .i64 (((t39n : Nat) : Int) - t42)) else keep2) else 0)))] w33 (fun v43 w44 =>
 v43 = .tuple #[] ∧ (∃ m15, m15 < m14 ∧ I13 m15  w44)) (fun ch wpp => ∀ (_ : Base) (_ : Bnd), R (.panicked ch) wpp))))))))) (PnV R))) (PnV R))) (PnV R)))) (PnC R)))) :
 Calls Tryz.prog 21 #[.pointer d1, .int .i64 keep2] w R :=
 DC0 A_vdisk_Disk_Crash mixed Tryz.func21 rfl (by kernel_rfl) (Eq.mp (by kernel_rfl) h)
abbrev F_law22_Long : Nat := 22
def A_law22_Long : Ann := ⟨[(3, [(3, .int .i64 0), (4, .int .i64 0)])], [(8, [(3, .int .i64 0)])], [], [], []⟩
theorem L_law22_Long {l1a : OA} {l1n l1c : Nat} {w : World} {R : RW}
 (h : (∃ J2 : Int → World → Prop, ((∃ I3 : Nat → Int → Int → World → Prop, (∃ m4, I3 m4 0 0 w) ∧ ∀ (m4 : Nat) (n6 : Int) (i7 : Int) (B8 : Nat → Value) (w9 : World), I3 m4 n6 i7 w9 → PIf (decide (i7 < ((l1n : Nat) : Int))) (PIf (decide (i7 < 300)) ((∃ b10 o11, l1a = some ⟨b10, o11, none⟩ ∧
 (0 : Int) ≤ i7 ∧ i7 < ((l1n : Nat) : Int) ∧ (RdL w9 b10 (o11 + Int.toNat i7 * 4 + 2) fun t12a t12n t12c =>
 PC Tryz.prog 11 #[.slice t12a t12n t12c] w9 (fun v13 w14 => ∃ t15, v13 = .bool t15 ∧ PIf t15 (R (.returned (.bool true)) w14) ((∃ b16 o17, l1a = some ⟨b16, o17, none⟩ ∧
 (0 : Int) ≤ i7 ∧ i7 < ((l1n : Nat) : Int) ∧ (RdL w14 b16 (o17 + Int.toNat i7 * 4 + 3) fun t18a t18n t18c =>
 PIf (decide ((((t18n : Nat) : Int) : Int) > 1024)) (R (.returned (.bool true)) w14) ((∃ b19 o20, l1a = some ⟨b19, o20, none⟩ ∧ (0 : Int) ≤ i7 ∧ i7 < ((l1n : Nat) : Int) ∧
 (RdL w14 b19 (o20 + Int.toNat i7 * 4 + 2) fun t21a t21n t21c => (∃ m5, m5 < m4 ∧
 I3 m5 (IntKind.wrap .i64 (n6 + ((t21n : Nat) : Int))) (IntKind.wrap .i64 (i7 + 1)) w14)))))))) (PnC R)))) (J2 n6 w9)) (J2 n6 w9))) ∧
 ∀ (n22 : Int) (B23 : Nat → Value) (w24 : World), J2 n22 w24 → PIf (decide ((((l1n : Nat) : Int) : Int) > 120)) (R (.returned (.bool true)) w24) (R (.returned (.bool (decide (n22 > 600)))) w24))) :
 Calls Tryz.prog 22 #[.slice l1a l1n l1c] w R :=
 DC0 A_law22_Long mixed Tryz.func22 rfl (by kernel_rfl) (Eq.mp (by kernel_rfl) h)
abbrev F_vdisk_Disk_Fuse : Nat := 23
theorem L_vdisk_Disk_Fuse {d1 : OA} {n2 : Int} {w : World} {R : RW}
 (h : (∃ b3 o4, d1 = some ⟨b3, o4, none⟩ ∧ PS w ⟨b3, o4 + 2, none⟩ (.bool true) fun w5 => (∃ b6 o7, d1 = some ⟨b6, o7, none⟩ ∧ PS w5 ⟨b6, o7 + 3, none⟩ (.int .i64 (if n2 > 0 then n2 else 0)) fun w8 =>
 R (.returned (.tuple #[])) w8))) :
 Calls Tryz.prog 23 #[.pointer d1, .int .i64 n2] w R :=
 DC0 ⟨[], [], [], [], []⟩ mixed Tryz.func23 rfl (by kernel_rfl) (Eq.mp (by kernel_rfl) h)
abbrev F_kit_CopyEvents : Nat := 24
def A_kit_CopyEvents : Ann := ⟨[(3, [(3, .slice none 0 0), (4, .int .i64 0)])], [], [], [], []⟩
theorem L_kit_CopyEvents {l1a : OA} {l1n l1c : Nat} {w : World} {R : RW}
 (h : (∃ I2 : Nat → OA → Nat → Nat → Int → World → Prop, (∃ m3, I2 m3 none 0 0 0 w) ∧ ∀ (m3 : Nat) (out5a : OA) (out5n : Nat) (out5c : Nat) (i6 : Int) (B7 : Nat → Value) (w8 : World), I2 m3 out5a out5n out5c i6 w8 → PIf (decide (i6 < ((l1n : Nat) : Int))) ((∃ b9 o10, l1a = some ⟨b9, o10, none⟩ ∧
 (0 : Int) ≤ i6 ∧ i6 < ((l1n : Nat) : Int) ∧ (∃ t11 t12 t13 t14a t14n t14c t15 t16 t17 t18 t19 t20, w8.cell? ⟨b9, o10 + Int.toNat i6 * 10, none⟩ = some (.int .i64 t11) ∧
 w8.cell? ⟨b9, o10 + Int.toNat i6 * 10 + 1, none⟩ = some (.int .i64 t12) ∧ w8.cell? ⟨b9, o10 + Int.toNat i6 * 10 + 2, none⟩ = some (.int .i64 t13) ∧ w8.cell? ⟨b9, o10 + Int.toNat i6 * 10 + 3, none⟩ = some (.slice t14a t14n t14c) ∧
 w8.cell? ⟨b9, o10 + Int.toNat i6 * 10 + 4, none⟩ = some (.int .i64 t15) ∧ w8.cell? ⟨b9, o10 + Int.toNat i6 * 10 + 5, none⟩ = some (.int .i64 t16) ∧ w8.cell? ⟨b9, o10 + Int.toNat i6 * 10 + 6, none⟩ = some (.int .i64 t17) ∧
 w8.cell? ⟨b9, o10 + Int.toNat i6 * 10 + 7, none⟩ = some (.int .i64 t18) ∧ w8.cell? ⟨b9, o10 + Int.toNat i6 * 10 + 8, none⟩ = some (.int .i64 t19) ∧ w8.cell? ⟨b9, o10 + Int.toNat i6 * 10 + 9, none⟩ = some (.int .i64 t20) ∧
 PC Tryz.prog 57 #[.agg #[.int .i64 t11, .int .i64 t12, .int .i64 t13, .slice t14a t14n t14c, .int .i64 t15, .int .i64 t16, .int .i64 t17, .int .i64 t18, .int .i64 t19, .int .i64 t20]] w8 (fun v21 w22 =>
 ∃ t23 t24 t25 t26a t26n t26c t27 t28 t29 t30 t31 t32, v21 = .agg #[.int .i64 t23, .int .i64 t24, .int .i64 t25, .slice t26a t26n t26c, .int .i64 t27, .int .i64 t28, .int .i64 t29, .int .i64 t30, .int .i64 t31, .int .i64 t32] ∧
 PA w22 (.cells #[.int .i64 t23, .int .i64 t24, .int .i64 t25, .slice t26a t26n t26c, .int .i64 t27, .int .i64 t28, .int .i64 t29, .int .i64 t30, .int .i64 t31, .int .i64 t32] 39) fun w33 =>
 PRun Tryz.prog (Builtin.append_ #[22, 22] 22 #[.slice out5a out5n out5c, .slice (some ⟨w22.heap.size, 0, none⟩) 1 1]) w33 (fun v34 w35 => ∃ t36a t36n t36c, v34 = .slice t36a t36n t36c ∧
 (∃ m4, m4 < m3 ∧ I2 m4 t36a t36n t36c (IntKind.wrap .i64 (i6 + 1)) w35)) (PnV R)) (PnC R)))) (R (.returned (.slice out5a out5n out5c)) w8))) :
 Calls Tryz.prog 24 #[.slice l1a l1n l1c] w R :=
 DC0 A_kit_CopyEvents mixed Tryz.func24 rfl (by kernel_rfl) (Eq.mp (by kernel_rfl) h)
abbrev F_seglog_Log_Segments : Nat := 25
theorem L_seglog_Log_Segments {l1 : OA} {w : World} {R : RW}
 (h : (∃ b2 o3, l1 = some ⟨b2, o3, none⟩ ∧ (RdL w b2 (o3 + 2) fun t4a t4n t4c => PC Tryz.prog 58 #[.slice t4a t4n t4c] w (fun v5 w6 =>
 ∃ t7a t7n t7c, v5 = .slice t7a t7n t7c ∧ R (.returned (.slice t7a t7n t7c)) w6) (PnC R)))) :
 Calls Tryz.prog 25 #[.pointer l1] w R :=
 DC0 ⟨[], [], [], [], []⟩ mixed Tryz.func25 rfl (by kernel_rfl) (Eq.mp (by kernel_rfl) h)
abbrev F_manifest_Read : Nat := 26
def A_manifest_Read : Ann := ⟨[(10, [(43, .int .i64 0)])], [], [11], [11], []⟩
theorem L_manifest_Read {d1 : OA} {w : World} {R : RW}
 (h : PA w (.cells #[.slice none 0 0] 56) fun w2 => PC Tryz.prog 30 #[.pointer d1, .string (⟨#[109, 97, 110, 105, 102, 101, 115, 116]⟩ : ByteArray)] w2 (fun v3 w4 =>
 ∃ t5a t5n t5c t6, v3 = .tuple #[.slice t5a t5n t5c, .int .i64 t6] ∧ PIf (t6 != 0) (PS w4 ⟨w.heap.size, 0, none⟩ (.slice none 0 0) fun w7 =>
 (RdL w7 w.heap.size 0 fun r8a r8n r8c => R (.returned (.tuple #[.agg #[.slice r8a r8n r8c], .bool false])) w7)) (PC Tryz.prog 59 #[.slice t5a t5n t5c] w4 (fun v9 w10 =>
 ∃ t11 t12a t12n t12c t13 t14, v9 = .tuple #[.agg #[.int .i64 t11, .slice t12a t12n t12c], .int .i64 t13, .int .i64 t14] ∧
 PA w10 (.cells #[.int .i64 0, .slice none 0 0] 99) fun w15 => PS w15 ⟨w10.heap.size, 0, none⟩ (.int .i64 t11) fun w16 => PS w16 ⟨w10.heap.size, 0 + 1, none⟩ (.slice t12a t12n t12c) fun w17 =>
 PIf (t14 != 0) (PS w17 ⟨w.heap.size, 0, none⟩ (.slice none 0 0) fun w18 => (RdL w18 w.heap.size 0 fun r19a r19n r19c =>
 R (.returned (.tuple #[.agg #[.slice r19a r19n r19c], .bool false])) w18)) (PIf (t13 != ((t5n : Nat) : Int)) (PS w17 ⟨w.heap.size, 0, none⟩ (.slice none 0 0) fun w20 =>
 (RdL w20 w.heap.size 0 fun r21a r21n r21c => R (.returned (.tuple #[.agg #[.slice r21a r21n r21c], .bool false])) w20)) ((RdI w17 w10.heap.size 0 fun t22 =>
 PIf (t22 != 2) (PS w17 ⟨w.heap.size, 0, none⟩ (.slice none 0 0) fun w23 => (RdL w23 w.heap.size 0 fun r24a r24n r24c =>
 R (.returned (.tuple #[.agg #[.slice r24a r24n r24c], .bool false])) w23)) ((RdL w17 w10.heap.size (0 + 1) fun t25a t25n t25c =>
 PC Tryz.prog 60 #[.slice t25a t25n t25c] w17 (fun v26 w27 => ∃ t28, v26 = .pointer t28 ∧ PA w27 (.cells #[.slice none 0 0] 56) fun w29 =>
 PC Tryz.prog 61 #[.pointer t28, .int .i64 64] w29 (fun v30 w31 => ∃ t32, v30 = .int .i64 t32 ∧ (∃ I33 : Nat → Int → World → Prop, (∃ m34, I33 m34 0 w31) ∧
 ∀ (m34 : Nat) (t36 : Int) (B37 : Nat → Value) (w38 : World), I33 m34 t36 w38 → PIf (decide (t36 < t32)) ((∀ w40, Drew w38 w40 → ∃ S41 : Nat → Prop, (¬ S41 w27.heap.size ∧
 (RdL w40 w27.heap.size 0 fun t42a t42n t42c => PC Tryz.prog 62 #[.pointer t28] w40 (fun v43 w44 =>
 ∃ t45, v43 = .int .i64 t45 ∧ (Keep S41 w40 w44 ∧ PA w44 (.cells #[.int .i64 t45] 3) fun w46 => (Keep S41 w44 w46 ∧ PRun Tryz.prog (Builtin.append_ #[37, 37] 37 #[.slice t42a t42n t42c, .slice (some ⟨w44.heap.size, 0, none⟩) 1 1]) w46 (fun v47 w48 =>
 ∃ t49a t49n t49c, v47 = .slice t49a t49n t49c ∧ PS w48 ⟨w27.heap.size, 0, none⟩ (.slice t49a t49n t49c) fun w50 => (∃ m35, m35 < m34 ∧
 I33 m35 (IntKind.wrap .i64 (t36 + 1)) w50)) (fun pv wpp => ∀ (_ : Base) (_ : Bnd), R (.panicked [{ v := pv, recovered := false }]) wpp)))) (fun ch wpp =>
 ∀ (_ : Base) (_ : Bnd), R (.panicked ch) wpp))))) (PC Tryz.prog 63 #[.pointer t28] w38 (fun v51 w52 => ∃ t53, v51 = .int .i64 t53 ∧ PIf (t53 != 0) (PS w52 ⟨w.heap.size, 0, none⟩ (.slice none 0 0) fun w54 =>
 (RdL w54 w.heap.size 0 fun r55a r55n r55c => R (.returned (.tuple #[.agg #[.slice r55a r55n r55c], .bool false])) w54)) ((RdL w52 w27.heap.size 0 fun t56a t56n t56c =>
 PS w52 ⟨w.heap.size, 0, none⟩ (.slice t56a t56n t56c) fun w57 => (RdL w57 w.heap.size 0 fun r58a r58n r58c =>
 R (.returned (.tuple #[.agg #[.slice r58a r58n r58c], .bool true])) w57)))) (PnC R)))) (PnC R)) (PnC R))))))) (PnC R))) (PnC R)) :
 Calls Tryz.prog 26 #[.pointer d1] w R :=
 DC0 A_manifest_Read mixed Tryz.func26 rfl (by kernel_rfl) (Eq.mp (by kernel_rfl) h)
abbrev F_kit_SameInts : Nat := 27
def A_kit_SameInts : Ann := ⟨[(4, [(5, .int .i64 0)])], [], [], [], []⟩
theorem L_kit_SameInts {a1a b2a : OA} {a1n a1c b2n b2c : Nat} {w : World} {R : RW}
 (h : PIf ((((a1n : Nat) : Int) : Int) != ((b2n : Nat) : Int)) (R (.returned (.bool false)) w) ((∃ I3 : Nat → Int → World → Prop, (∃ m4, I3 m4 0 w) ∧ ∀ (m4 : Nat) (i6 : Int) (B7 : Nat → Value) (w8 : World), I3 m4 i6 w8 → PIf (decide (i6 < ((a1n : Nat) : Int))) ((∃ b10 o11, a1a = some ⟨b10, o11, none⟩ ∧
 (0 : Int) ≤ i6 ∧ i6 < ((a1n : Nat) : Int) ∧ (RdI w8 b10 (o11 + Int.toNat i6) fun t12 => (∃ b13 o14, b2a = some ⟨b13, o14, none⟩ ∧
 (0 : Int) ≤ i6 ∧ i6 < ((b2n : Nat) : Int) ∧ (RdI w8 b13 (o14 + Int.toNat i6) fun t15 => (∀ w9, Drew w8 w9 → PIf (t12 != t15) (R (.returned (.bool false)) w9) ((∃ m5, m5 < m4 ∧
 I3 m5 (IntKind.wrap .i64 (i6 + 1)) w9)))))))) (R (.returned (.bool true)) w8)))) :
 Calls Tryz.prog 27 #[.slice a1a a1n a1c, .slice b2a b2n b2c] w R :=
 DC0 A_kit_SameInts mixed Tryz.func27 rfl (by kernel_rfl) (Eq.mp (by kernel_rfl) h)
abbrev F_seglog_Log_Next : Nat := 28
theorem L_seglog_Log_Next {l1 : OA} {w : World} {R : RW}
 (h : (∃ b2 o3, l1 = some ⟨b2, o3, none⟩ ∧ (RdI w b2 (o3 + 4) fun t4 => R (.returned (.int .i64 t4)) w))) :
 Calls Tryz.prog 28 #[.pointer l1] w R :=
 DC0 ⟨[], [], [], [], []⟩ mixed Tryz.func28 rfl (by kernel_rfl) (Eq.mp (by kernel_rfl) h)
abbrev F_segment_Load : Nat := 29
def A_segment_Load : Ann := ⟨[(6, [(8, .slice none 0 0), (9, .int .i64 0)])], [], [], [], []⟩
theorem L_segment_Load {d1 : OA} {no2 : Int} {w : World} {R : RW}
 (h : PC Tryz.prog 31 #[.int .i64 no2] w (fun v3 w4 => ∃ t5, v3 = .string t5 ∧ PC Tryz.prog 30 #[.pointer d1, .string t5] w4 (fun v6 w7 => ∃ t8a t8n t8c t9, v6 = .tuple #[.slice t8a t8n t8c, .int .i64 t9] ∧
 PIf (t9 != 0) (R (.returned (.tuple #[.slice none 0 0, .int .i64 0])) w7) ((∃ I10 : Nat → OA → Nat → Nat → Int → World → Prop, (∃ m11, I10 m11 none 0 0 0 w7) ∧
 ∀ (m11 : Nat) (out13a : OA) (out13n : Nat) (out13c : Nat) (at14 : Int) (B15 : Nat → Value) (w16 : World), I10 m11 out13a out13n out13c at14 w16 → ((0 : Int) ≤ at14 ∧
 (at14 : Int) ≤ ((t8n : Nat) : Int) ∧ PC Tryz.prog 59 #[.slice (subA t8a (Int.toNat at14) t8c 1) (t8n - Int.toNat at14) (t8c - Int.toNat at14)] w16 (fun v17 w18 =>
 ∃ t19 t20a t20n t20c t21 t22, v17 = .tuple #[.agg #[.int .i64 t19, .slice t20a t20n t20c], .int .i64 t21, .int .i64 t22] ∧
 PA w18 (.cells #[.int .i64 0, .slice none 0 0] 99) fun w23 => PS w23 ⟨w18.heap.size, 0, none⟩ (.int .i64 t19) fun w24 => PS w24 ⟨w18.heap.size, 0 + 1, none⟩ (.slice t20a t20n t20c) fun w25 =>
 PIf (t22 != 0) (R (.returned (.tuple #[.slice out13a out13n out13c, .int .i64 at14])) w25) ((RdI w25 w18.heap.size 0 fun t26 =>
 PIf (t26 != 1) (R (.returned (.tuple #[.slice out13a out13n out13c, .int .i64 at14])) w25) ((RdL w25 w18.heap.size (0 + 1) fun t27a t27n t27c =>
 PC Tryz.prog 64 #[.slice t27a t27n t27c] w25 (fun v28 w29 => ∃ t30 t31 t32 t33a t33n t33c t34 t35 t36 t37 t38 t39 t40, v28 = .tuple #[.agg #[.int .i64 t30, .int .i64 t31, .int .i64 t32, .slice t33a t33n t33c, .int .i64 t34, .int .i64 t35, .int .i64 t36, .int .i64 t37, .int .i64 t38, .int .i64 t39], .int .i64 t40] ∧
 PA w29 (.cells #[.int .i64 0, .int .i64 0, .int .i64 0, .slice none 0 0, .int .i64 0, .int .i64 0, .int .i64 0, .int .i64 0, .int .i64 0, .int .i64 0] 39) fun w41 =>
 PS w41 ⟨w29.heap.size, 0, none⟩ (.int .i64 t30) fun w42 => PS w42 ⟨w29.heap.size, 0 + 1, none⟩ (.int .i64 t31) fun w43 => PS w43 ⟨w29.heap.size, 0 + 2, none⟩ (.int .i64 t32) fun w44 =>
 PS w44 ⟨w29.heap.size, 0 + 3, none⟩ (.slice t33a t33n t33c) fun w45 => PS w45 ⟨w29.heap.size, 0 + 4, none⟩ (.int .i64 t34) fun w46 => PS w46 ⟨w29.heap.size, 0 + 5, none⟩ (.int .i64 t35) fun w47 =>
 PS w47 ⟨w29.heap.size, 0 + 6, none⟩ (.int .i64 t36) fun w48 => PS w48 ⟨w29.heap.size, 0 + 7, none⟩ (.int .i64 t37) fun w49 => PS w49 ⟨w29.heap.size, 0 + 8, none⟩ (.int .i64 t38) fun w50 =>
 PS w50 ⟨w29.heap.size, 0 + 9, none⟩ (.int .i64 t39) fun w51 => PIf (t40 != 0) (R (.returned (.tuple #[.slice out13a out13n out13c, .int .i64 at14])) w51) ((∃ t52 t53 t54 t55a t55n t55c t56 t57 t58 t59 t60 t61, w51.cell? ⟨w29.heap.size, 0, none⟩ = some (.int .i64 t52) ∧
 w51.cell? ⟨w29.heap.size, 0 + 1, none⟩ = some (.int .i64 t53) ∧ w51.cell? ⟨w29.heap.size, 0 + 2, none⟩ = some (.int .i64 t54) ∧ w51.cell? ⟨w29.heap.size, 0 + 3, none⟩ = some (.slice t55a t55n t55c) ∧
 w51.cell? ⟨w29.heap.size, 0 + 4, none⟩ = some (.int .i64 t56) ∧ w51.cell? ⟨w29.heap.size, 0 + 5, none⟩ = some (.int .i64 t57) ∧ w51.cell? ⟨w29.heap.size, 0 + 6, none⟩ = some (.int .i64 t58) ∧
 w51.cell? ⟨w29.heap.size, 0 + 7, none⟩ = some (.int .i64 t59) ∧ w51.cell? ⟨w29.heap.size, 0 + 8, none⟩ = some (.int .i64 t60) ∧ w51.cell? ⟨w29.heap.size, 0 + 9, none⟩ = some (.int .i64 t61) ∧
 PA w51 (.cells #[.int .i64 t52, .int .i64 t53, .int .i64 t54, .slice t55a t55n t55c, .int .i64 t56, .int .i64 t57, .int .i64 t58, .int .i64 t59, .int .i64 t60, .int .i64 t61] 39) fun w62 =>
 PRun Tryz.prog (Builtin.append_ #[22, 22] 22 #[.slice out13a out13n out13c, .slice (some ⟨w51.heap.size, 0, none⟩) 1 1]) w62 (fun v63 w64 => ∃ t65a t65n t65c, v63 = .slice t65a t65n t65c ∧
 (∃ m12, m12 < m11 ∧ I10 m12 t65a t65n t65c (IntKind.wrap .i64 (at14 + t21)) w64)) (PnV R)))) (PnC R)))))) (PnC R))))) (PnC R)) (PnC R)) :
 Calls Tryz.prog 29 #[.pointer d1, .int .i64 no2] w R :=
 DC0 A_segment_Load mixed Tryz.func29 rfl (by kernel_rfl) (Eq.mp (by kernel_rfl) h)
abbrev F_vdisk_Disk_Read : Nat := 30
theorem L_vdisk_Disk_Read {d1 : OA} {name2 : ByteArray} {w : World} {R : RW}
 (h : (∃ b3 o4, d1 = some ⟨b3, o4, none⟩ ∧ (RdM w b3 (o4 + 1) fun t5 => PRun Tryz.prog (Instr.lookup 78 (.map t5) (.string name2) false) w (fun v6 w7 =>
 ∃ t8, v6 = .pointer t8 ∧ (∃ b9 o10, d1 = some ⟨b9, o10, none⟩ ∧ (RdB w7 b9 (o10 + 4) fun t11 => PIf t11 (R (.returned (.tuple #[.slice none 0 0, .int .i64 15])) w7) (PRun Tryz.prog (do eqGuard .eql 92 (.tmp 24) (.const (.pointer none)) (.pointer t8) (.pointer none); binOp .eql 92 (.pointer t8) (.pointer none)) w7 (fun v12 w13 =>
 ∃ t14, v12 = .bool t14 ∧ PIf t14 (R (.returned (.tuple #[.slice none 0 0, .int .i64 14])) w13) ((∃ b15 o16, t8 = some ⟨b15, o16, none⟩ ∧ (RdL w13 b15 o16 fun t17a t17n t17c =>
 PC Tryz.prog 65 #[.slice t17a t17n t17c] w13 (fun v18 w19 => ∃ t20a t20n t20c, v18 = .slice t20a t20n t20c ∧ R (.returned (.tuple #[.slice t20a t20n t20c, .int .i64 0])) w19) (PnC R))))) (PnV R))))) (PnV R)))) :
 Calls Tryz.prog 30 #[.pointer d1, .string name2] w R :=
 DC0 ⟨[], [], [], [], []⟩ mixed Tryz.func30 rfl (by kernel_rfl) (Eq.mp (by kernel_rfl) h)
abbrev F_segment_Name : Nat := 31
theorem L_segment_Name {no1 : Int} {w : World} {R : RW}
 (h : PIf (decide (no1 < 0)) (R (.returned (.string (⟨#[]⟩ : ByteArray))) w) (PIf (decide (no1 ≥ 1000000000000)) (R (.returned (.string (⟨#[]⟩ : ByteArray))) w) (PC Tryz.prog 66 #[.int .i64 no1] w (fun v2 w3 =>
 ∃ t4, v2 = .string t4 ∧ PRun Tryz.prog (do eqGuard .add 9 (.const (.string (⟨#[115, 101, 103, 46]⟩ : ByteArray))) (.tmp 10) (.string (⟨#[115, 101, 103, 46]⟩ : ByteArray)) (.string t4); binOp .add 9 (.string (⟨#[115, 101, 103, 46]⟩ : ByteArray)) (.string t4)) w3 (fun v5 w6 =>
 ∃ t7, v5 = .string t7 ∧ R (.returned (.string t7)) w6) (PnV R)) (PnC R)))) :
 Calls Tryz.prog 31 #[.int .i64 no1] w R :=
 DC0 ⟨[], [], [], [], []⟩ mixed Tryz.func31 rfl (by kernel_rfl) (Eq.mp (by kernel_rfl) h)
abbrev F_law22_SeglogRuns : Nat := 32
def A_law22_SeglogRuns : Ann := ⟨[(11, [(12, .int .i64 0)])], [], [15], [], [(15, ⟨[0, 1, 2, 4, 8, 16, 32, 96, 160, 288, 544, 32, 2080, 4128, 8224, 17440, 33824, 65568, 196640, 262144, 786432, 1310720, 2359296, 4456448, 262144, 17039360, 33816576, 67371008, 142868480, 277086208, 537133088, 1073741856, 2415919104, 4294967296, 12884901888, 4294967296, 55834574848, 90194313216, 141733920768], [549755813887, 549755813886, 549755813885, 549755813883, 549755813879, 549755813871, 549755813855, 549755813791, 549755813727, 549755813599, 549755813343, 549755813855, 549755811807, 549755809759, 549755805663, 549755797471, 549755780063, 549755748319, 549755682783, 549755551743, 549755027455, 549754503167, 549753454591, 549751357439, 549755551743, 549738774527, 549721997311, 549688442879, 549621334015, 549478727679, 549218680799, 548682072031, 547608330239, 545460846591, 536870911999, 545460846591, 511101108223, 459561500671, 408021893119], [0, 0, 0, 1, 0, 0, 0, 0, 0, 1, 2, 0, 0, 0, 1, 2, 2, 0, 0, 0, 0, 0, 1, 2, 0, 0, 0, 1, 2, 0, 0, 0, 0, 0, 2, 0, 2, 0, 0]⟩)]⟩
theorem L_law22_SeglogRuns {n1 size2 : Int} {l3a : OA} {l3n l3c : Nat} {w : World} {R : RW}
 (h : PC Tryz.prog 22 #[.slice l3a l3n l3c] w (fun v4 w5 => ∃ t6, v4 = .bool t6 ∧ PIf t6 (PC Tryz.prog 12 #[] w5 (fun v7 w8 => ∃ t9, v7 = .bool t9 ∧
 R (.returned (.bool t9)) w8) (PnC R)) (PC Tryz.prog 14 #[.int .i64 n1] w5 (fun v10 w11 => ∃ t12, v10 = .int .i64 t12 ∧
 PC Tryz.prog 13 #[.int .i64 t12] w11 (fun v13 w14 => ∃ t15 t16, v13 = .tuple #[.pointer t15, .int .i64 t16] ∧ PC Tryz.prog 14 #[.int .i64 n1] w14 (fun v17 w18 =>
 ∃ t19, v17 = .int .i64 t19 ∧ PC Tryz.prog 67 #[.int .i64 t19] w18 (fun v20 w21 => ∃ t22 t23, v20 = .tuple #[.pointer t22, .int .i64 t23] ∧
 PIf (t16 != 0) (R (.returned (.bool false)) w21) (PIf (t23 != 0) (R (.returned (.bool false)) w21) (PRun Tryz.prog (do eqGuard .eql 25 (.tmp 35) (.const (.pointer none)) (.pointer t15) (.pointer none); binOp .eql 25 (.pointer t15) (.pointer none)) w21 (fun v24 w25 =>
 ∃ t26, v24 = .bool t26 ∧ PIf t26 (R (.returned (.bool false)) w25) (PA w25 (.cells #[.pointer t15, .pointer t22, .pointer none, .pointer none, .int .i64 size2] 113) fun w27 =>
 PC Tryz.prog 68 #[.pointer (some ⟨w25.heap.size, 0, none⟩)] w27 (fun v28 w29 => ∃ t30, v28 = .bool t30 ∧ PIf (!t30) (R (.returned (.bool false)) w29) ((∃ I31 : Nat → Int → World → Prop, (∃ m32, I31 m32 0 w29) ∧
 ∀ (m32 : Nat) (i34 : Int) (B35 : Nat → Value) (w36 : World), I31 m32 i34 w36 → PIf (decide (i34 < ((l3n : Nat) : Int))) ((∃ b37 o38, l3a = some ⟨b37, o38, none⟩ ∧
 (0 : Int) ≤ i34 ∧ i34 < ((l3n : Nat) : Int) ∧ (∃ t39 t40 t41a t41n t41c t42a t42n t42c, w36.cell? ⟨b37, o38 + Int.toNat i34 * 4, none⟩ = some (.int .i64 t39) ∧
 w36.cell? ⟨b37, o38 + Int.toNat i34 * 4 + 1, none⟩ = some (.int .i64 t40) ∧ w36.cell? ⟨b37, o38 + Int.toNat i34 * 4 + 2, none⟩ = some (.slice t41a t41n t41c) ∧
 w36.cell? ⟨b37, o38 + Int.toNat i34 * 4 + 3, none⟩ = some (.slice t42a t42n t42c) ∧ PC Tryz.prog 69 #[.pointer (some ⟨w25.heap.size, 0, none⟩), .agg #[.int .i64 t39, .int .i64 t40, .slice t41a t41n t41c, .slice t42a t42n t42c]] w36 (fun v43 w44 =>
 ∃ t45, v43 = .bool t45 ∧ PIf (!t45) (R (.returned (.bool false)) w44) ((∀ w47, Drew w44 w47 → ∃ S48 : Nat → Prop, (∃ b49 o50, ((some ⟨w25.heap.size, 0, none⟩) : OA) = some ⟨b49, o50, none⟩ ∧
 (RdP w47 b49 (o50 + 2) fun t51 => (∃ t52, (∀ w', (do eqGuard .neq 30 (.tmp 62) (.const (.pointer none)) (.pointer t51) (.pointer none); binOp .neq 30 (.pointer t51) (.pointer none)).run Tryz.prog w' = .ok (.bool t52) w') ∧
 PIf t52 ((∃ b53 o54, ((some ⟨w25.heap.size, 0, none⟩) : OA) = some ⟨b53, o54, none⟩ ∧ (RdP w47 b53 (o54 + 2) fun t55 =>
 (∃ b56 o57, ((some ⟨w25.heap.size, 0, none⟩) : OA) = some ⟨b56, o57, none⟩ ∧ (¬ S48 b56 ∧ (RdP w47 b56 (o57 + 3) fun t58 =>
 PC Tryz.prog 25 #[.pointer t55] w47 (fun v59 w60 => ∃ t61a t61n t61c, v59 = .slice t61a t61n t61c ∧ (Keep S48 w47 w60 ∧
 PC Tryz.prog 70 #[.pointer t58] w60 (fun v62 w63 => ∃ t64a t64n t64c, v62 = .slice t64a t64n t64c ∧ (Keep S48 w60 w63 ∧
 PC Tryz.prog 27 #[.slice t61a t61n t61c, .slice t64a t64n t64c] w63 (fun v65 w66 => ∃ t67, v65 = .bool t67 ∧ (Keep S48 w63 w66 ∧ PIf (!t67) (R (.returned (.bool false)) w66) ((∃ b68 o69, ((some ⟨w25.heap.size, 0, none⟩) : OA) = some ⟨b68, o69, none⟩ ∧
 (RdP w66 b68 (o69 + 2) fun t70 => (∃ b71 o72, ((some ⟨w25.heap.size, 0, none⟩) : OA) = some ⟨b71, o72, none⟩ ∧
 (¬ S48 b71 ∧ (RdP w66 b71 (o72 + 3) fun t73 => PC Tryz.prog 28 #[.pointer t70] w66 (fun v74 w75 => ∃ t76, v74 = .int .i64 t76 ∧
 (Keep S48 w66 w75 ∧ PC Tryz.prog 71 #[.pointer t73] w75 (fun v77 w78 => ∃ t79, v77 = .int .i64 t79 ∧ (Keep S48 w75 w78 ∧ PIf (t76 != t79) (R (.returned (.bool false)) w78) (PC Tryz.prog 39 #[.pointer t15] w78 (fun v80 w81 =>
 ∃ t82, v80 = .int .i64 t82 ∧ (Keep S48 w78 w81 ∧ PC Tryz.prog 72 #[.pointer t22] w81 (fun v83 w84 => ∃ t85, v83 = .int .i64 t85 ∧ (Keep S48 w81 w84 ∧
 PIf (t82 != t85) (R (.returned (.bool false)) w84) ((∃ m33, m33 < m32 ∧ I31 m33 (IntKind.wrap .i64 (i34 + 1)) w84)))) (fun ch wpp => ∀ (_ : Base) (_ : Bnd), R (.panicked ch) wpp))) (fun ch wpp =>
 ∀ (_ : Base) (_ : Bnd), R (.panicked ch) wpp)))) (fun ch wpp => ∀ (_ : Base) (_ : Bnd), R (.panicked ch) wpp))) (fun ch wpp => ∀ (_ : Base) (_ : Bnd), R (.panicked ch) wpp))))))))) (fun ch wpp =>
 ∀ (_ : Base) (_ : Bnd), R (.panicked ch) wpp))) (fun ch wpp => ∀ (_ : Base) (_ : Bnd), R (.panicked ch) wpp))) (fun ch wpp => ∀ (_ : Base) (_ : Bnd), R (.panicked ch) wpp))))))) (PC Tryz.prog 39 #[.pointer t15] w47 (fun v86 w87 =>
 ∃ t88, v86 = .int .i64 t88 ∧ (Keep S48 w47 w87 ∧ PC Tryz.prog 72 #[.pointer t22] w87 (fun v89 w90 => ∃ t91, v89 = .int .i64 t91 ∧ (Keep S48 w87 w90 ∧
 PIf (t88 != t91) (R (.returned (.bool false)) w90) ((∃ m33, m33 < m32 ∧ I31 m33 (IntKind.wrap .i64 (i34 + 1)) w90)))) (fun ch wpp => ∀ (_ : Base) (_ : Bnd), R (.panicked ch) wpp))) (fun ch wpp =>
 ∀ (_ : Base) (_ : Bnd), R (.panicked ch) wpp)))))))) (PnC R)))) (PC Tryz.prog 12 #[] w36 (fun v92 w93 => ∃ t94, v92 = .bool t94 ∧
 R (.returned (.bool t94)) w93) (PnC R))))) (PnC R))) (PnV R)))) (PnC R)) (PnC R)) (PnC R)) (PnC R))) (PnC R)) :
 Calls Tryz.prog 32 #[.int .i64 n1, .int .i64 size2, .slice l3a l3n l3c] w R :=
 DC0 A_law22_SeglogRuns mixed Tryz.func32 rfl (by kernel_rfl) (Eq.mp (by kernel_rfl) h)
abbrev F_kit_Row : Nat := 33
def A_kit_Row : Ann := ⟨[(3, [(3, .slice none 0 0), (4, .int .i64 0)])], [], [], [], []⟩
theorem L_kit_Row {n1 : Int} {w : World} {R : RW}
 (h : (∃ I2 : Nat → OA → Nat → Nat → Int → World → Prop, (∃ m3, I2 m3 none 0 0 0 w) ∧ ∀ (m3 : Nat) (out5a : OA) (out5n : Nat) (out5c : Nat) (i6 : Int) (B7 : Nat → Value) (w8 : World), I2 m3 out5a out5n out5c i6 w8 → PIf (decide (i6 < n1)) (PA w8 (.cells #[.int .u8 (IntKind.wrap .u8 (IntKind.wrap .i64 (3 + (IntKind.wrap .i64 (5 * i6)))))] 5) fun w9 =>
 PRun Tryz.prog (Builtin.append_ #[49, 49] 49 #[.slice out5a out5n out5c, .slice (some ⟨w8.heap.size, 0, none⟩) 1 1]) w9 (fun v10 w11 => ∃ t12a t12n t12c, v10 = .slice t12a t12n t12c ∧
 (∃ m4, m4 < m3 ∧ I2 m4 t12a t12n t12c (IntKind.wrap .i64 (i6 + 1)) w11)) (PnV R)) (R (.returned (.slice out5a out5n out5c)) w8))) :
 Calls Tryz.prog 33 #[.int .i64 n1] w R :=
 DC0 A_kit_Row mixed Tryz.func33 rfl (by kernel_rfl) (Eq.mp (by kernel_rfl) h)
abbrev F_vdisk_Disk_List : Nat := 38
theorem L_vdisk_Disk_List {d1 : OA} {w : World} {R : RW}
 (h : (∃ b2 o3, d1 = some ⟨b2, o3, none⟩ ∧ (RdM w b2 (o3 + 1) fun t4 => PC Tryz.prog 78 #[.map t4] w (fun v5 w6 => ∃ (t7 : Value), v5 = t7 ∧
 PC Tryz.prog 77 #[t7] w6 (fun v8 w9 => ∃ t10a t10n t10c, v8 = .slice t10a t10n t10c ∧ R (.returned (.slice t10a t10n t10c)) w9) (PnC R)) (PnC R)))) :
 Calls Tryz.prog 38 #[.pointer d1] w R :=
 DC0 ⟨[], [], [], [], []⟩ mixed Tryz.func38 rfl (by kernel_rfl) (Eq.mp (by kernel_rfl) h)
abbrev F_vdisk_Disk_Room : Nat := 39
def A_vdisk_Disk_Room : Ann := ⟨[(3, [(3, .int .i64 0)])], [], [], [], []⟩
theorem L_vdisk_Disk_Room {d1 : OA} {w : World} {R : RW}
 (h : (∃ b2 o3, d1 = some ⟨b2, o3, none⟩ ∧ (RdI w b2 o3 fun t4 => (∃ b5 o6, d1 = some ⟨b5, o6, none⟩ ∧ (RdM w b5 (o6 + 1) fun t7 =>
 PRun Tryz.prog (Instr.range 78 (.map t7)) w (fun v8 w9 => (∃ I10 : Nat → Int → World → Prop, (∃ m11, I10 m11 t4 w9) ∧ ∀ (m11 : Nat) (n13 : Int) (B14 : Nat → Value) (w15 : World), I10 m11 n13 w15 → PRun Tryz.prog (Instr.next v8 false 0) w15 (fun v16 w17 =>
 (v16 = .tuple #[.bool false] ∧ R (.returned (.int .i64 n13)) w17) ∨ (∃ k18 x19, v16 = .tuple #[.bool true, k18, x19] ∧ PRun Tryz.prog (Instr.entry v8) w17 (fun v20 w21 =>
 ∃ (k22 : Value), ∃ x23, v20 = .tuple #[k22, .pointer x23] ∧ (∃ b24 o25, x23 = some ⟨b24, o25, none⟩ ∧ (RdL w21 b24 o25 fun t26a t26n t26c =>
 (∃ m12, m12 < m11 ∧ I10 m12 (IntKind.wrap .i64 (n13 - ((t26n : Nat) : Int))) w21)))) (PnV R))) (PnV R))) (PnV R)))))) :
 Calls Tryz.prog 39 #[.pointer d1] w R :=
 DC0 A_vdisk_Disk_Room mixed Tryz.func39 rfl (by kernel_rfl) (Eq.mp (by kernel_rfl) h)
abbrev F_vdisk_Disk_Create : Nat := 40
theorem L_vdisk_Disk_Create {d1 : OA} {name2 : ByteArray} {w : World} {R : RW}
 (h : PA w (.cells #[.pointer d1] 25) fun w3 => PA w3 (.cells #[.string name2] 9) fun w4 => (RdP w4 w.heap.size 0 fun t5 =>
 PC Tryz.prog 79 #[.pointer t5, .func (.func 80) #[] #[.pointer (some ⟨w3.heap.size, 0, none⟩), .pointer (some ⟨w.heap.size, 0, none⟩)]] w4 (fun v6 w7 =>
 ∃ t8, v6 = .int .i64 t8 ∧ R (.returned (.int .i64 t8)) w7) (PnC R))) :
 Calls Tryz.prog 40 #[.pointer d1, .string name2] w R :=
 DC0 ⟨[], [], [], [], []⟩ mixed Tryz.func40 rfl (by kernel_rfl) (Eq.mp (by kernel_rfl) h)
abbrev F_segment_Number : Nat := 43
def A_segment_Number : Ann := ⟨[(6, [(6, .int .i64 0)])], [], [], [], []⟩
theorem L_segment_Number {name1 : ByteArray} {w : World} {R : RW}
 (h : PC Tryz.prog 83 #[.string name1, .string (⟨#[115, 101, 103, 46]⟩ : ByteArray)] w (fun v2 w3 => ∃ t4 t5, v2 = .tuple #[.string t4, .bool t5] ∧
 PIf (!t5) (R (.returned (.tuple #[.int .i64 0, .bool false])) w3) (PIf (decide ((((ByteArray.size t4 : Nat) : Int) : Int) > 12)) (R (.returned (.tuple #[.int .i64 0, .bool false])) w3) (PRun Tryz.prog (Instr.range 9 (.string t4)) w3 (fun v6 w7 =>
 (∃ I8 : Nat → Int → World → Prop, (∃ m9, I8 m9 0 w7) ∧ ∀ (m9 : Nat) (no11 : Int) (B12 : Nat → Value) (w13 : World), I8 m9 no11 w13 → PRun Tryz.prog (Instr.next v6 true 0) w13 (fun v14 w15 =>
 (v14 = .tuple #[.bool false] ∧ PC Tryz.prog 31 #[.int .i64 no11] w15 (fun v16 w17 => ∃ t18, v16 = .string t18 ∧ PIf (!((ByteArray.toList t18) == (ByteArray.toList name1))) (R (.returned (.tuple #[.int .i64 0, .bool false])) w17) (R (.returned (.tuple #[.int .i64 no11, .bool true])) w17)) (PnC R)) ∨ (∃ i19 r20, v14 = .tuple #[.bool true, .int .i64 i19, .int .i32 r20] ∧ PIf (decide (r20 < 48)) (R (.returned (.tuple #[.int .i64 0, .bool false])) w15) (PIf (decide (r20 > 57)) (R (.returned (.tuple #[.int .i64 0, .bool false])) w15) ((∃ m10, m10 < m9 ∧
 I8 m10 (IntKind.wrap .i64 ((IntKind.wrap .i64 (10 * no11)) + (IntKind.wrap .i64 (IntKind.wrap .i32 (r20 - 48))))) w15))))) (PnV R))) (PnV R)))) (PnC R)) :
 Calls Tryz.prog 43 #[.string name1] w R :=
 DC0 A_segment_Number mixed Tryz.func43 rfl (by kernel_rfl) (Eq.mp (by kernel_rfl) h)
abbrev F_seglog_next : Nat := 45
def A_seglog_next : Ann := ⟨[(3, [(3, .int .i64 0), (11, .int .i64 0)])], [], [], [], []⟩
theorem L_seglog_next {d1 : OA} {w : World} {R : RW}
 (h : PC Tryz.prog 38 #[.pointer d1] w (fun v2 w3 => ∃ t4a t4n t4c, v2 = .slice t4a t4n t4c ∧ (∃ I5 : Nat → Int → Int → World → Prop, (∃ m6, I5 m6 1 0 w3) ∧
 ∀ (m6 : Nat) (n8 : Int) (t9 : Int) (B10 : Nat → Value) (w11 : World), I5 m6 n8 t9 w11 → PIf (decide (t9 < ((t4n : Nat) : Int))) ((∃ b12 o13, t4a = some ⟨b12, o13, none⟩ ∧
 (0 : Int) ≤ t9 ∧ t9 < ((t4n : Nat) : Int) ∧ (RdT w11 b12 (o13 + Int.toNat t9) fun t14 => PC Tryz.prog 43 #[.string t14] w11 (fun v15 w16 =>
 ∃ t17 t18, v15 = .tuple #[.int .i64 t17, .bool t18] ∧ PIf t18 ((∃ m7, m7 < m6 ∧ I5 m7 (if (IntKind.wrap .i64 (t17 + 1)) > n8 then (IntKind.wrap .i64 (t17 + 1)) else n8) (IntKind.wrap .i64 (t9 + 1)) w16)) ((∃ m7, m7 < m6 ∧
 I5 m7 n8 (IntKind.wrap .i64 (t9 + 1)) w16))) (PnC R)))) (R (.returned (.int .i64 n8)) w11))) (PnC R)) :
 Calls Tryz.prog 45 #[.pointer d1] w R :=
 DC0 A_seglog_next mixed Tryz.func45 rfl (by kernel_rfl) (Eq.mp (by kernel_rfl) h)
abbrev F_seglog_Log_load : Nat := 46
def A_seglog_Log_load : Ann := ⟨[(3, [(6, .slice none 0 0), (16, .int .i64 0)])], [], [5, 12], [], [(5, ⟨[0, 1, 2, 4, 0, 16, 40, 64, 128, 128, 511, 2047], [4095, 4094, 4093, 4091, 4095, 4079, 4055, 4031, 3967, 3967, 3839, 3583], [0, 0, 0, 1, 0, 2, 2, 0, 0, 0, 0, 0]⟩), (12, ⟨[0, 0, 2, 4, 8, 0, 32, 0, 208, 257, 1023], [2047, 2047, 2045, 2043, 2039, 2047, 2015, 2047, 1839, 2046, 1791], [0, 0, 0, 0, 1, 0, 2, 0, 2, 0, 0]⟩)]⟩
theorem L_seglog_Log_load {l1 m3a : OA} {m3n m3c : Nat} {w : World} {R : RW}
 (h : PA w (.cells #[.slice m3a m3n m3c] 56) fun w4 => (RdL w4 w.heap.size 0 fun t5a t5n t5c =>
 (∃ I6 : Nat → OA → Nat → Nat → Int → World → Prop, (∃ m7, I6 m7 none 0 0 0 w4) ∧ ∀ (m7 : Nat) (out9a : OA) (out9n : Nat) (out9c : Nat) (t10 : Int) (B11 : Nat → Value) (w12 : World), I6 m7 out9a out9n out9c t10 w12 → PIf (decide (t10 < ((t5n : Nat) : Int))) ((∃ b13 o14, t5a = some ⟨b13, o14, none⟩ ∧
 (0 : Int) ≤ t10 ∧ t10 < ((t5n : Nat) : Int) ∧ (RdI w12 b13 (o14 + Int.toNat t10) fun t15 => (∀ w17, Drew w12 w17 → ∃ S18 : Nat → Prop, (∃ b19 o20, l1 = some ⟨b19, o20, none⟩ ∧
 (¬ S18 b19 ∧ (RdP w17 b19 o20 fun t21 => PC Tryz.prog 31 #[.int .i64 t15] w17 (fun v22 w23 => ∃ t24, v22 = .string t24 ∧
 (Keep S18 w17 w23 ∧ PC Tryz.prog 30 #[.pointer t21, .string t24] w23 (fun v25 w26 => ∃ t27a t27n t27c t28, v25 = .tuple #[.slice t27a t27n t27c, .int .i64 t28] ∧
 (Keep S18 w23 w26 ∧ PIf (t28 != 0) (R (.returned (.tuple #[.slice out9a out9n out9c, .int .i64 0])) w26) ((∃ b29 o30, l1 = some ⟨b29, o30, none⟩ ∧
 (RdP w26 b29 o30 fun t31 => PC Tryz.prog 29 #[.pointer t31, .int .i64 t15] w26 (fun v32 w33 => ∃ t34a t34n t34c t35, v32 = .tuple #[.slice t34a t34n t34c, .int .i64 t35] ∧
 PRun Tryz.prog (Builtin.append_ #[22, 22] 22 #[.slice out9a out9n out9c, .slice t34a t34n t34c]) w33 (fun v36 w37 => ∃ t38a t38n t38c, v36 = .slice t38a t38n t38c ∧
 (∃ b39 o40, l1 = some ⟨b39, o40, none⟩ ∧ (RdL w37 b39 (o40 + 2) fun t41a t41n t41c =>
 PA w37 (.cells #[.int .i64 t15] 3) fun w42 => PRun Tryz.prog (Builtin.append_ #[37, 37] 37 #[.slice t41a t41n t41c, .slice (some ⟨w37.heap.size, 0, none⟩) 1 1]) w42 (fun v43 w44 =>
 ∃ t45a t45n t45c, v43 = .slice t45a t45n t45c ∧ (∃ b46 o47, l1 = some ⟨b46, o47, none⟩ ∧ PS w44 ⟨b46, o47 + 2, none⟩ (.slice t45a t45n t45c) fun w48 =>
 (∃ b49 o50, l1 = some ⟨b49, o50, none⟩ ∧ PS w48 ⟨b49, o50 + 3, none⟩ (.int .i64 t35) fun w51 => PIf (decide (t35 < ((t27n : Nat) : Int))) ((∀ w53, Drew w51 w53 → ∃ S54 : Nat → Prop, (∃ b55 o56, l1 = some ⟨b55, o56, none⟩ ∧
 (¬ S54 b55 ∧ (RdP w53 b55 o56 fun t57 => PC Tryz.prog 31 #[.int .i64 t15] w53 (fun v58 w59 => ∃ t60, v58 = .string t60 ∧
 (Keep S54 w53 w59 ∧ PC Tryz.prog 84 #[.pointer t57, .string t60, .int .i64 t35] w59 (fun v61 w62 => ∃ t63, v61 = .int .i64 t63 ∧ (Keep S54 w59 w62 ∧
 R (.returned (.tuple #[.slice t38a t38n t38c, .int .i64 t63])) w62)) (fun ch wpp => ∀ (_ : Base) (_ : Bnd), R (.panicked ch) wpp))) (fun ch wpp => ∀ (_ : Base) (_ : Bnd), R (.panicked ch) wpp)))))) ((∃ m8, m8 < m7 ∧
 I6 m8 t38a t38n t38c (IntKind.wrap .i64 (t10 + 1)) w51))))) (PnV R)))) (PnV R)) (PnC R)))))) (fun ch wpp => ∀ (_ : Base) (_ : Bnd), R (.panicked ch) wpp))) (fun ch wpp => ∀ (_ : Base) (_ : Bnd), R (.panicked ch) wpp)))))))) (R (.returned (.tuple #[.slice out9a out9n out9c, .int .i64 0])) w12)))) :
 Calls Tryz.prog 46 #[.pointer l1, .agg #[.slice m3a m3n m3c]] w R :=
 DC0 A_seglog_Log_load mixed Tryz.func46 rfl (by kernel_rfl) (Eq.mp (by kernel_rfl) h)
abbrev F_seglog_Log_begin : Nat := 47
def A_seglog_Log_begin : Ann := ⟨[], [(5, []), (14, [(7, .slice none 0 0)])], [13, 17], [], [(13, ⟨[0, 1, 2, 4, 8, 0, 32, 64, 128, 256, 528, 2047], [4095, 4094, 4093, 4091, 4087, 4095, 4063, 4031, 3967, 3839, 3567, 3071], [1, 0, 0, 1, 2, 1, 0, 0, 1, 2, 2, 0]⟩)]⟩
theorem L_seglog_Log_begin {l1 : OA} {w : World} {R : RW}
 (h : PA w (.cells #[.pointer l1] 30) fun w2 => PA w2 (.cells #[.int .i64 0] 26) fun w3 => (∃ J4 : World → Prop, ((RdP w3 w.heap.size 0 fun t5 =>
 (∃ b6 o7, t5 = some ⟨b6, o7, none⟩ ∧ (RdL w3 b6 (o7 + 2) fun t8a t8n t8c => PIf (decide ((((t8n : Nat) : Int) : Int) > 0)) ((RdP w3 w.heap.size 0 fun t9 =>
 PC Tryz.prog 20 #[.pointer t9] w3 (fun v10 w11 => ∃ t12, v10 = .int .i64 t12 ∧ PIf (t12 != 0) (PS w11 ⟨w2.heap.size, 0, none⟩ (.int .i64 t12) fun w13 =>
 (RdI w13 w2.heap.size 0 fun r14 => R (.returned (.int .i64 r14)) w13)) (J4  w11)) (PnC R))) (J4  w3))))) ∧
 ∀  (B15 : Nat → Value) (w16 : World), J4  w16 → (RdP w16 w.heap.size 0 fun t17 => (∃ b18 o19, t17 = some ⟨b18, o19, none⟩ ∧
 (RdI w16 b18 (o19 + 4) fun t20 => PC Tryz.prog 31 #[.int .i64 t20] w16 (fun v21 w22 => ∃ t23, v21 = .string t23 ∧
 PA w22 (.cells #[.string (⟨#[]⟩ : ByteArray)] 9) fun w24 => PS w24 ⟨w22.heap.size, 0, none⟩ (.string t23) fun w25 => (∀ w27, Drew w25 w27 → (RdP w27 w.heap.size 0 fun t28 =>
 (∃ b29 o30, t28 = some ⟨b29, o30, none⟩ ∧ (RdP w27 b29 o30 fun t31 => (RdT w27 w22.heap.size 0 fun t32 =>
 PC Tryz.prog 40 #[.pointer t31, .string t32] w27 (fun v33 w34 => ∃ t35, v33 = .int .i64 t35 ∧ PIf (t35 != 0) (PS w34 ⟨w2.heap.size, 0, none⟩ (.int .i64 t35) fun w36 =>
 (RdI w36 w2.heap.size 0 fun r37 => R (.returned (.int .i64 r37)) w36)) ((∀ w39, Drew w34 w39 → (RdP w39 w.heap.size 0 fun t40 =>
 (∃ b41 o42, t40 = some ⟨b41, o42, none⟩ ∧ (RdP w39 b41 o42 fun t43 => (RdT w39 w22.heap.size 0 fun t44 =>
 PC Tryz.prog 53 #[.pointer t43, .string t44] w39 (fun v45 w46 => ∃ t47, v45 = .int .i64 t47 ∧ PIf (t47 != 0) (PS w46 ⟨w2.heap.size, 0, none⟩ (.int .i64 t47) fun w48 =>
 Lv Tryz.prog (fun w49 => (RdI w49 w2.heap.size 0 fun r50 => R (.returned (.int .i64 r50)) w49)) (PnC R) ([{ target := .fn (.func 85) #[.pointer (some ⟨w2.heap.size, 0, none⟩), .pointer (some ⟨w.heap.size, 0, none⟩), .pointer (some ⟨w22.heap.size, 0, none⟩)], args := #[] }] : List Deferred) .returning w48) ((∃ J51 : OA → Nat → Nat → World → Prop, ((∀ w53, Drew w46 w53 → ∃ S54 : Nat → Prop, (¬ S54 w.heap.size ∧
 (RdP w53 w.heap.size 0 fun t55 => (∃ b56 o57, t55 = some ⟨b56, o57, none⟩ ∧ (¬ S54 b56 ∧ (RdL w53 b56 (o57 + 2) fun t58a t58n t58c =>
 (¬ S54 w.heap.size ∧ (RdP w53 w.heap.size 0 fun t59 => (∃ b60 o61, t59 = some ⟨b60, o61, none⟩ ∧ (¬ S54 b60 ∧
 (RdI w53 b60 (o61 + 4) fun t62 => ((PC Tryz.prog 58 #[.slice t58a t58n t58c] w53 (fun v63 w64 => ∃ t65a t65n t65c, v63 = .slice t65a t65n t65c ∧
 (Keep S54 w53 w64 ∧ PA w64 (.cells #[.int .i64 t62] 3) fun w66 => (Keep S54 w64 w66 ∧ PRun Tryz.prog (Builtin.append_ #[37, 37] 37 #[.slice t65a t65n t65c, .slice (some ⟨w64.heap.size, 0, none⟩) 1 1]) w66 (fun v67 w68 =>
 ∃ t69a t69n t69c, v67 = .slice t69a t69n t69c ∧ (Keep S54 w66 w68 ∧ (([{ target := .fn (.func 85) #[.pointer (some ⟨w2.heap.size, 0, none⟩), .pointer (some ⟨w.heap.size, 0, none⟩), .pointer (some ⟨w22.heap.size, 0, none⟩)], args := #[] }] : List Deferred) = ([{ target := .fn (.func 85) #[.pointer (some ⟨w2.heap.size, 0, none⟩), .pointer (some ⟨w.heap.size, 0, none⟩), .pointer (some ⟨w22.heap.size, 0, none⟩)], args := #[] }] : List Deferred) ∧
 J51 t69a t69n t69c w68))) (fun pv wpp => ∀ (B : Base) (e : Bnd), LeavesE Tryz.prog Tryz.f47 B e R ([{ target := .fn (.func 85) #[.pointer (some ⟨w2.heap.size, 0, none⟩), .pointer (some ⟨w.heap.size, 0, none⟩), .pointer (some ⟨w22.heap.size, 0, none⟩)], args := #[] }] : List Deferred) (.panicking [{ v := pv, recovered := false }]) wpp)))) (fun ch wpp =>
 ∀ (B : Base) (e : Bnd), LeavesE Tryz.prog Tryz.f47 B e R ([{ target := .fn (.func 85) #[.pointer (some ⟨w2.heap.size, 0, none⟩), .pointer (some ⟨w.heap.size, 0, none⟩), .pointer (some ⟨w22.heap.size, 0, none⟩)], args := #[] }] : List Deferred) (.panicking ch) wpp)) ∧
 (PA w53 (.cells #[.int .i64 t62] 3) fun w70 => (Keep S54 w53 w70 ∧ PC Tryz.prog 58 #[.slice t58a t58n t58c] w70 (fun v71 w72 => ∃ t73a t73n t73c, v71 = .slice t73a t73n t73c ∧
 (Keep S54 w70 w72 ∧ PRun Tryz.prog (Builtin.append_ #[37, 37] 37 #[.slice t73a t73n t73c, .slice (some ⟨w53.heap.size, 0, none⟩) 1 1]) w72 (fun v74 w75 =>
 ∃ t76a t76n t76c, v74 = .slice t76a t76n t76c ∧ (Keep S54 w72 w75 ∧ (([{ target := .fn (.func 85) #[.pointer (some ⟨w2.heap.size, 0, none⟩), .pointer (some ⟨w.heap.size, 0, none⟩), .pointer (some ⟨w22.heap.size, 0, none⟩)], args := #[] }] : List Deferred) = ([{ target := .fn (.func 85) #[.pointer (some ⟨w2.heap.size, 0, none⟩), .pointer (some ⟨w.heap.size, 0, none⟩), .pointer (some ⟨w22.heap.size, 0, none⟩)], args := #[] }] : List Deferred) ∧
 J51 t76a t76n t76c w75))) (fun pv wpp => ∀ (B : Base) (e : Bnd), LeavesE Tryz.prog Tryz.f47 B e R ([{ target := .fn (.func 85) #[.pointer (some ⟨w2.heap.size, 0, none⟩), .pointer (some ⟨w.heap.size, 0, none⟩), .pointer (some ⟨w22.heap.size, 0, none⟩)], args := #[] }] : List Deferred) (.panicking [{ v := pv, recovered := false }]) wpp))) (fun ch wpp =>
 ∀ (B : Base) (e : Bnd), LeavesE Tryz.prog Tryz.f47 B e R ([{ target := .fn (.func 85) #[.pointer (some ⟨w2.heap.size, 0, none⟩), .pointer (some ⟨w.heap.size, 0, none⟩), .pointer (some ⟨w22.heap.size, 0, none⟩)], args := #[] }] : List Deferred) (.panicking ch) wpp)))))))))))))))) ∧
 ∀ (all77a : OA) (all77n : Nat) (all77c : Nat) (B78 : Nat → Value) (w79 : World), J51 all77a all77n all77c w79 → (RdP w79 w.heap.size 0 fun t80 =>
 (∃ b81 o82, t80 = some ⟨b81, o82, none⟩ ∧ (RdP w79 b81 o82 fun t83 => PC Tryz.prog 48 #[.pointer t83, .agg #[.slice all77a all77n all77c]] w79 (fun v84 w85 =>
 ∃ t86, v84 = .int .i64 t86 ∧ PIf (t86 != 0) (PS w85 ⟨w2.heap.size, 0, none⟩ (.int .i64 t86) fun w87 => Lv Tryz.prog (fun w88 => (RdI w88 w2.heap.size 0 fun r89 =>
 R (.returned (.int .i64 r89)) w88)) (PnC R) ([{ target := .fn (.func 85) #[.pointer (some ⟨w2.heap.size, 0, none⟩), .pointer (some ⟨w.heap.size, 0, none⟩), .pointer (some ⟨w22.heap.size, 0, none⟩)], args := #[] }] : List Deferred) .returning w87) ((∀ w91, Drew w85 w91 → ∃ S92 : Nat → Prop, (RdP w91 w.heap.size 0 fun t93 =>
 (¬ S92 w.heap.size ∧ (RdP w91 w.heap.size 0 fun t94 => (∃ b95 o96, t93 = some ⟨b95, o96, none⟩ ∧ PS w91 ⟨b95, o96 + 2, none⟩ (.slice all77a all77n all77c) fun w97 =>
 (Keep S92 w91 w97 ∧ (∃ b98 o99, t94 = some ⟨b98, o99, none⟩ ∧ PS w97 ⟨b98, o99 + 3, none⟩ (.int .i64 0) fun w100 => (Keep S92 w97 w100 ∧ (RdP w100 w.heap.size 0 fun t101 =>
 (∃ b102 o103, t101 = some ⟨b102, o103, none⟩ ∧ (RdI w100 b102 (o103 + 4) fun t104 => (∃ b105 o106, t101 = some ⟨b105, o106, none⟩ ∧
 PS w100 ⟨b105, o106 + 4, none⟩ (.int .i64 (IntKind.wrap .i64 (t104 + 1))) fun w107 => PS w107 ⟨w2.heap.size, 0, none⟩ (.int .i64 0) fun w108 => Lv Tryz.prog (fun w109 =>
 (RdI w109 w2.heap.size 0 fun r110 => R (.returned (.int .i64 r110)) w109)) (PnC R) ([{ target := .fn (.func 85) #[.pointer (some ⟨w2.heap.size, 0, none⟩), .pointer (some ⟨w.heap.size, 0, none⟩), .pointer (some ⟨w22.heap.size, 0, none⟩)], args := #[] }] : List Deferred) .returning w108)))))))))))))) (fun ch wpp =>
 Lv Tryz.prog (fun w111 => (RdI w111 w2.heap.size 0 fun r112 => R (.returned (.int .i64 r112)) w111)) (PnC R) ([{ target := .fn (.func 85) #[.pointer (some ⟨w2.heap.size, 0, none⟩), .pointer (some ⟨w.heap.size, 0, none⟩), .pointer (some ⟨w22.heap.size, 0, none⟩)], args := #[] }] : List Deferred) (.panicking ch) wpp))))))) (fun ch wpp =>
 ∀ (B : Base) (e : Bnd), LeavesE Tryz.prog Tryz.f47 B e R ([{ target := .fn (.func 85) #[.pointer (some ⟨w2.heap.size, 0, none⟩), .pointer (some ⟨w.heap.size, 0, none⟩), .pointer (some ⟨w22.heap.size, 0, none⟩)], args := #[] }] : List Deferred) (.panicking ch) wpp)))))))) (fun ch wpp =>
 ∀ (_ : Base) (_ : Bnd), R (.panicked ch) wpp))))))) (PnC R)))))) :
 Calls Tryz.prog 47 #[.pointer l1] w R :=
 DC0 A_seglog_Log_begin mixed Tryz.func47 rfl (by kernel_rfl) (Eq.mp (by kernel_rfl) h)
abbrev F_manifest_Write : Nat := 48
def A_manifest_Write : Ann := ⟨[(5, [(19, .int .i64 0)])], [], [], [], []⟩
theorem L_manifest_Write {d1 m3a : OA} {m3n m3c : Nat} {w : World} {R : RW}
 (h : PA w (.cells #[.pointer d1] 25) fun w4 => PA w4 (.cells #[.slice m3a m3n m3c] 56) fun w5 => PA w5 (.cells #[.int .i64 0] 26) fun w6 => (RdL w6 w4.heap.size 0 fun t7a t7n t7c =>
 PIf (decide ((((t7n : Nat) : Int) : Int) > 64)) (PS w6 ⟨w5.heap.size, 0, none⟩ (.int .i64 3) fun w8 => (RdI w8 w5.heap.size 0 fun r9 =>
 R (.returned (.int .i64 r9)) w8)) (PA w6 (.cells #[.func (.func 88) #[] #[.pointer (some ⟨w.heap.size, 0, none⟩)], .func (.func 89) #[] #[.pointer (some ⟨w.heap.size, 0, none⟩)], .func (.func 90) #[] #[.pointer (some ⟨w.heap.size, 0, none⟩), .pointer (some ⟨w4.heap.size, 0, none⟩)], .func (.func 92) #[] #[.pointer (some ⟨w.heap.size, 0, none⟩)], .func (.func 93) #[] #[.pointer (some ⟨w.heap.size, 0, none⟩)]] 44) fun w10 =>
 (∃ I11 : Nat → Int → World → Prop, (∃ m12, I11 m12 0 w10) ∧ ∀ (m12 : Nat) (t14 : Int) (B15 : Nat → Value) (w16 : World), I11 m12 t14 w16 → PIf (decide (t14 < ((5 : Nat) : Int))) ((∃ b17 o18, ((some ⟨w6.heap.size, 0, none⟩) : OA) = some ⟨b17, o18, none⟩ ∧
 (0 : Int) ≤ t14 ∧ t14 < ((5 : Nat) : Int) ∧ (∃ (t19 : Value), w16.cell? ⟨b17, o18 + Int.toNat t14, none⟩ = some t19 ∧ (∃ g22 fi23 ca24, (t19 : Value) = .func (.func g22) fi23 ca24 ∧
 enters Tryz.prog g22 = true ∧ PC Tryz.prog g22 (fi23 ++ #[] ++ ca24) w16 (fun v20 w21 => ∃ t25, v20 = .int .i64 t25 ∧ PS w21 ⟨w5.heap.size, 0, none⟩ (.int .i64 t25) fun w26 =>
 (RdI w26 w5.heap.size 0 fun t27 => PIf (t27 != 0) ((RdI w26 w5.heap.size 0 fun t28 =>
 PS w26 ⟨w5.heap.size, 0, none⟩ (.int .i64 t28) fun w29 => Lv Tryz.prog (fun w30 => (RdI w30 w5.heap.size 0 fun r31 =>
 R (.returned (.int .i64 r31)) w30)) (PnC R) ([{ target := .fn (.func 86) #[.pointer (some ⟨w5.heap.size, 0, none⟩), .pointer (some ⟨w.heap.size, 0, none⟩)], args := #[] }] : List Deferred) .returning w29)) ((([{ target := .fn (.func 86) #[.pointer (some ⟨w5.heap.size, 0, none⟩), .pointer (some ⟨w.heap.size, 0, none⟩)], args := #[] }] : List Deferred) = ([{ target := .fn (.func 86) #[.pointer (some ⟨w5.heap.size, 0, none⟩), .pointer (some ⟨w.heap.size, 0, none⟩)], args := #[] }] : List Deferred) ∧
 ∃ m13, m13 < m12 ∧ I11 m13 (IntKind.wrap .i64 (t14 + 1)) w26)))) (fun ch wpp => Lv Tryz.prog (fun w32 => (RdI w32 w5.heap.size 0 fun r33 =>
 R (.returned (.int .i64 r33)) w32)) (PnC R) ([{ target := .fn (.func 86) #[.pointer (some ⟨w5.heap.size, 0, none⟩), .pointer (some ⟨w.heap.size, 0, none⟩)], args := #[] }] : List Deferred) (.panicking ch) wpp))))) ((RdI w16 w5.heap.size 0 fun t34 =>
 PS w16 ⟨w5.heap.size, 0, none⟩ (.int .i64 t34) fun w35 => Lv Tryz.prog (fun w36 => (RdI w36 w5.heap.size 0 fun r37 =>
 R (.returned (.int .i64 r37)) w36)) (PnC R) ([{ target := .fn (.func 86) #[.pointer (some ⟨w5.heap.size, 0, none⟩), .pointer (some ⟨w.heap.size, 0, none⟩)], args := #[] }] : List Deferred) .returning w35)))))) :
 Calls Tryz.prog 48 #[.pointer d1, .agg #[.slice m3a m3n m3c]] w R :=
 DC0 A_manifest_Write mixed Tryz.func48 rfl (by kernel_rfl) (Eq.mp (by kernel_rfl) h)
abbrev F_segment_Frame : Nat := 49
theorem L_segment_Frame {e2 e3 e4 e6 e7 e8 e9 e10 e11 : Int} {e5a : OA} {e5n e5c : Nat} {w : World} {R : RW}
 (h : PA w (.cells #[.int .i64 e2, .int .i64 e3, .int .i64 e4, .slice e5a e5n e5c, .int .i64 e6, .int .i64 e7, .int .i64 e8, .int .i64 e9, .int .i64 e10, .int .i64 e11] 39) fun w12 =>
 (∃ t13 t14 t15 t16a t16n t16c t17 t18 t19 t20 t21 t22, w12.cell? ⟨w.heap.size, 0, none⟩ = some (.int .i64 t13) ∧
 w12.cell? ⟨w.heap.size, 0 + 1, none⟩ = some (.int .i64 t14) ∧ w12.cell? ⟨w.heap.size, 0 + 2, none⟩ = some (.int .i64 t15) ∧ w12.cell? ⟨w.heap.size, 0 + 3, none⟩ = some (.slice t16a t16n t16c) ∧
 w12.cell? ⟨w.heap.size, 0 + 4, none⟩ = some (.int .i64 t17) ∧ w12.cell? ⟨w.heap.size, 0 + 5, none⟩ = some (.int .i64 t18) ∧ w12.cell? ⟨w.heap.size, 0 + 6, none⟩ = some (.int .i64 t19) ∧
 w12.cell? ⟨w.heap.size, 0 + 7, none⟩ = some (.int .i64 t20) ∧ w12.cell? ⟨w.heap.size, 0 + 8, none⟩ = some (.int .i64 t21) ∧ w12.cell? ⟨w.heap.size, 0 + 9, none⟩ = some (.int .i64 t22) ∧
 PC Tryz.prog 95 #[.agg #[.int .i64 t13, .int .i64 t14, .int .i64 t15, .slice t16a t16n t16c, .int .i64 t17, .int .i64 t18, .int .i64 t19, .int .i64 t20, .int .i64 t21, .int .i64 t22]] w12 (fun v23 w24 =>
 ∃ t25a t25n t25c t26, v23 = .tuple #[.slice t25a t25n t25c, .int .i64 t26] ∧ PIf (t26 != 0) (R (.returned (.tuple #[.slice none 0 0, .int .i64 t26])) w24) (PC Tryz.prog 96 #[.agg #[.int .i64 1, .slice t25a t25n t25c]] w24 (fun v27 w28 =>
 ∃ t29a t29n t29c t30, v27 = .tuple #[.slice t29a t29n t29c, .int .i64 t30] ∧ R (.returned (.tuple #[.slice t29a t29n t29c, .int .i64 t30])) w28) (PnC R))) (PnC R))) :
 Calls Tryz.prog 49 #[.agg #[.int .i64 e2, .int .i64 e3, .int .i64 e4, .slice e5a e5n e5c, .int .i64 e6, .int .i64 e7, .int .i64 e8, .int .i64 e9, .int .i64 e10, .int .i64 e11]] w R :=
 DC0 ⟨[], [], [], [], []⟩ mixed Tryz.func49 rfl (by kernel_rfl) (Eq.mp (by kernel_rfl) h)
abbrev F_vdisk_Disk_Append : Nat := 50
theorem L_vdisk_Disk_Append {d1 b3a : OA} {name2 : ByteArray} {b3n b3c : Nat} {w : World} {R : RW}
 (h : PA w (.cells #[.pointer d1] 25) fun w4 => PA w4 (.cells #[.slice b3a b3n b3c] 49) fun w5 => (RdP w5 w.heap.size 0 fun t6 =>
 PC Tryz.prog 97 #[.pointer t6, .string name2, .func (.func 98) #[] #[.pointer (some ⟨w4.heap.size, 0, none⟩), .pointer (some ⟨w.heap.size, 0, none⟩)]] w5 (fun v7 w8 =>
 ∃ t9, v7 = .int .i64 t9 ∧ R (.returned (.int .i64 t9)) w8) (PnC R))) :
 Calls Tryz.prog 50 #[.pointer d1, .string name2, .slice b3a b3n b3c] w R :=
 DC0 ⟨[], [], [], [], []⟩ mixed Tryz.func50 rfl (by kernel_rfl) (Eq.mp (by kernel_rfl) h)
abbrev F_seglog_Log_name : Nat := 51
def A_seglog_Log_name : Ann := ⟨[], [], [], [], [(1, ⟨[0, 1, 2, 4, 0, 16, 32, 64, 128, 256, 520, 1024, 2048, 8191], [16383, 16382, 16381, 16379, 16383, 16367, 16351, 16319, 16255, 16127, 15863, 15359, 14335, 12287], [0, 0, 0, 1, 0, 0, 0, 1, 0, 0, 0, 1, 2, 0]⟩)]⟩
theorem L_seglog_Log_name {l1 : OA} {w : World} {R : RW}
 (h : (∀ w3, Drew w w3 → (∃ b4 o5, l1 = some ⟨b4, o5, none⟩ ∧ (RdL w3 b4 (o5 + 2) fun t6a t6n t6c =>
 (∃ b7 o8, l1 = some ⟨b7, o8, none⟩ ∧ (RdL w3 b7 (o8 + 2) fun t9a t9n t9c => (∃ b10 o11, t6a = some ⟨b10, o11, none⟩ ∧
 (0 : Int) ≤ (IntKind.wrap .i64 (((t9n : Nat) : Int) - 1)) ∧ (IntKind.wrap .i64 (((t9n : Nat) : Int) - 1)) < ((t6n : Nat) : Int) ∧ (RdI w3 b10 (o11 + Int.toNat (IntKind.wrap .i64 (((t9n : Nat) : Int) - 1))) fun t12 =>
 PC Tryz.prog 31 #[.int .i64 t12] w3 (fun v13 w14 => ∃ t15, v13 = .string t15 ∧ R (.returned (.string t15)) w14) (fun ch wpp => ∀ (_ : Base) (_ : Bnd), R (.panicked ch) wpp))))))))) :
 Calls Tryz.prog 51 #[.pointer l1] w R :=
 DC0 A_seglog_Log_name mixed Tryz.func51 rfl (by kernel_rfl) (Eq.mp (by kernel_rfl) h)
abbrev F_kit_SameEvent : Nat := 52
theorem L_kit_SameEvent {a2 a3 a4 a6 a7 a8 a9 a10 a11 b13 b14 b15 b17 b18 b19 b20 b21 b22 : Int} {a5a b16a : OA} {a5n a5c b16n b16c : Nat} {w : World} {R : RW}
 (h : PA w (.cells #[.int .i64 a2, .int .i64 a3, .int .i64 a4, .slice a5a a5n a5c, .int .i64 a6, .int .i64 a7, .int .i64 a8, .int .i64 a9, .int .i64 a10, .int .i64 a11] 39) fun w23 =>
 PA w23 (.cells #[.int .i64 b13, .int .i64 b14, .int .i64 b15, .slice b16a b16n b16c, .int .i64 b17, .int .i64 b18, .int .i64 b19, .int .i64 b20, .int .i64 b21, .int .i64 b22] 39) fun w24 =>
 (∃ t25 t26, w24.cell? ⟨w.heap.size, 0, none⟩ = some (.int .i64 t25) ∧ w24.cell? ⟨w.heap.size, 0 + 1, none⟩ = some (.int .i64 t26) ∧
 (∃ t27 t28, w24.cell? ⟨w23.heap.size, 0, none⟩ = some (.int .i64 t27) ∧ w24.cell? ⟨w23.heap.size, 0 + 1, none⟩ = some (.int .i64 t28) ∧
 PRun Tryz.prog (do eqGuard .eql 36 (.tmp 6) (.tmp 8) (.agg #[.int .i64 t25, .int .i64 t26]) (.agg #[.int .i64 t27, .int .i64 t28]); binOp .eql 36 (.agg #[.int .i64 t25, .int .i64 t26]) (.agg #[.int .i64 t27, .int .i64 t28])) w24 (fun v29 w30 =>
 ∃ t31, v29 = .bool t31 ∧ PIf t31 ((RdI w30 w.heap.size (0 + 2) fun t32 => (RdI w30 w23.heap.size (0 + 2) fun t33 =>
 PIf (t32 == t33) ((RdL w30 w.heap.size (0 + 3) fun t34a t34n t34c => (RdL w30 w23.heap.size (0 + 3) fun t35a t35n t35c =>
 PC Tryz.prog 27 #[.slice t34a t34n t34c, .slice t35a t35n t35c] w30 (fun v36 w37 => ∃ t38, v36 = .bool t38 ∧ PIf t38 ((RdI w37 w.heap.size (0 + 4) fun t39 =>
 (RdI w37 w23.heap.size (0 + 4) fun t40 => PIf (t39 == t40) ((RdI w37 w.heap.size (0 + 5) fun t41 =>
 (RdI w37 w23.heap.size (0 + 5) fun t42 => PIf (t41 == t42) ((RdI w37 w.heap.size (0 + 6) fun t43 =>
 (RdI w37 w23.heap.size (0 + 6) fun t44 => PIf (t43 == t44) ((RdI w37 w.heap.size (0 + 7) fun t45 =>
 (RdI w37 w23.heap.size (0 + 7) fun t46 => PIf (t45 == t46) ((RdI w37 w.heap.size (0 + 8) fun t47 =>
 (RdI w37 w23.heap.size (0 + 8) fun t48 => PIf (t47 == t48) ((RdI w37 w.heap.size (0 + 9) fun t49 =>
 (RdI w37 w23.heap.size (0 + 9) fun t50 => R (.returned (.bool (t49 == t50))) w37))) (R (.returned (.bool false)) w37)))) (R (.returned (.bool false)) w37)))) (R (.returned (.bool false)) w37)))) (R (.returned (.bool false)) w37)))) (R (.returned (.bool false)) w37)))) (R (.returned (.bool false)) w37)) (PnC R)))) (R (.returned (.bool false)) w30)))) (R (.returned (.bool false)) w30)) (PnV R)))) :
 Calls Tryz.prog 52 #[.agg #[.int .i64 a2, .int .i64 a3, .int .i64 a4, .slice a5a a5n a5c, .int .i64 a6, .int .i64 a7, .int .i64 a8, .int .i64 a9, .int .i64 a10, .int .i64 a11], .agg #[.int .i64 b13, .int .i64 b14, .int .i64 b15, .slice b16a b16n b16c, .int .i64 b17, .int .i64 b18, .int .i64 b19, .int .i64 b20, .int .i64 b21, .int .i64 b22]] w R :=
 DC0 ⟨[], [], [], [], []⟩ mixed Tryz.func52 rfl (by kernel_rfl) (Eq.mp (by kernel_rfl) h)
abbrev F_vdisk_Disk_Sync : Nat := 53
theorem L_vdisk_Disk_Sync {d1 : OA} {name2 : ByteArray} {w : World} {R : RW}
 (h : PC Tryz.prog 97 #[.pointer d1, .string name2, .func (.func 99) #[] #[]] w (fun v3 w4 => ∃ t5, v3 = .int .i64 t5 ∧ R (.returned (.int .i64 t5)) w4) (PnC R)) :
 Calls Tryz.prog 53 #[.pointer d1, .string name2] w R :=
 DC0 ⟨[], [], [], [], []⟩ mixed Tryz.func53 rfl (by kernel_rfl) (Eq.mp (by kernel_rfl) h)
abbrev F_maps_DeleteFunc_map_string_vdisk_file_string_vdisk_file : Nat := 54
def A_maps_DeleteFunc_map_string_vdisk_file_string_vdisk_file : Ann := ⟨[(1, [])], [], [], [], []⟩
theorem L_maps_DeleteFunc_map_string_vdisk_file_string_vdisk_file {m1 : Option Nat} {del2g : FuncId} {del2i del2c : Array Value} {w : World} {R : RW}
 (h : PRun Tryz.prog (Instr.range 78 (.map m1)) w (fun v3 w4 => (∃ I5 : Nat → World → Prop, (∃ m6, I5 m6  w4) ∧ ∀ (m6 : Nat)  (B8 : Nat → Value) (w9 : World), I5 m6  w9 → PRun Tryz.prog (Instr.next v3 false 0) w9 (fun v10 w11 =>
 (v10 = .tuple #[.bool false] ∧ R (.returned (.tuple #[])) w11) ∨ (∃ k12 x13, v10 = .tuple #[.bool true, k12, x13] ∧ PRun Tryz.prog (Instr.entry v3) w11 (fun v14 w15 =>
 ∃ k16 x17, v14 = .tuple #[.string k16, .pointer x17] ∧ (∃ g20 fi21 ca22, (.func (.func del2g) del2i del2c : Value) = .func (.func g20) fi21 ca22 ∧
 enters Tryz.prog g20 = true ∧ PC Tryz.prog g20 (fi21 ++ #[.string k16, .pointer x17] ++ ca22) w15 (fun v18 w19 => ∃ t23, v18 = .bool t23 ∧ PIf t23 (PRun Tryz.prog (Builtin.delete_ #[78, 9] 0 #[.map m1, .string k16]) w19 (fun v24 w25 =>
 (∃ m7, m7 < m6 ∧ I5 m7  w25)) (PnV R)) ((∃ m7, m7 < m6 ∧ I5 m7  w19))) (PnC R))) (PnV R))) (PnV R))) (PnV R)) :
 Calls Tryz.prog 54 #[.map m1, .func (.func del2g) del2i del2c] w R :=
 DC0 A_maps_DeleteFunc_map_string_vdisk_file_string_vdisk_file mixed Tryz.func54 rfl (by kernel_rfl) (Eq.mp (by kernel_rfl) h)
theorem L_vdisk_Disk_Crash_1 {_1 : ByteArray} {f2 : OA} {w : World} {R : RW}
 (h : (∃ b3 o4, f2 = some ⟨b3, o4, none⟩ ∧ (RdB w b3 (o4 + 2) fun t5 => R (.returned (.bool (!t5))) w))) :
 Calls Tryz.prog 55 #[.string _1, .pointer f2] w R :=
 DC0 ⟨[], [], [], [], []⟩ mixed Tryz.func55 rfl (by kernel_rfl) (Eq.mp (by kernel_rfl) h)
abbrev F_vdisk_file_cut : Nat := 56
def A_vdisk_file_cut : Ann := ⟨[], [], [], [], [(0, ⟨[0, 0, 2, 4, 8, 0, 0, 64, 128, 256, 512, 1056, 2048, 4112, 8192, 32767, 65535, 98303], [262143, 262143, 262141, 262139, 262135, 262143, 262143, 262079, 262015, 261887, 261631, 261087, 260095, 258031, 253951, 262142, 229375, 180223], [0, 0, 0, 0, 1, 0, 0, 0, 0, 1, 0, 0, 0, 0, 2, 0, 0, 2]⟩)]⟩
theorem L_vdisk_file_cut {f1 : OA} {n2 : Int} {w : World} {R : RW}
 (h : (∀ w4, Drew w w4 → (∃ b5 o6, f1 = some ⟨b5, o6, none⟩ ∧ (RdL w4 b5 o6 fun t7a t7n t7c =>
 (∃ b8 o9, f1 = some ⟨b8, o9, none⟩ ∧ (RdL w4 b8 o9 fun t10a t10n t10c => ((0 : Int) ≤ (if (if ((t10n : Nat) : Int) < n2 then ((t10n : Nat) : Int) else n2) > 0 then (if ((t10n : Nat) : Int) < n2 then ((t10n : Nat) : Int) else n2) else 0) ∧
 ((if (if ((t10n : Nat) : Int) < n2 then ((t10n : Nat) : Int) else n2) > 0 then (if ((t10n : Nat) : Int) < n2 then ((t10n : Nat) : Int) else n2) else 0) : Int) ≤ ((t7c : Nat) : Int) ∧
 PC Tryz.prog 65 #[.slice t7a (Int.toNat (if (if ((t10n : Nat) : Int) < n2 then ((t10n : Nat) : Int) else n2) > 0 then (if ((t10n : Nat) : Int) < n2 then ((t10n : Nat) : Int) else n2) else 0)) t7c] w4 (fun v11 w12 =>
 ∃ t13a t13n t13c, v11 = .slice t13a t13n t13c ∧ (∃ b14 o15, f1 = some ⟨b14, o15, none⟩ ∧ PS w12 ⟨b14, o15, none⟩ (.slice t13a t13n t13c) fun w16 =>
 (∃ b17 o18, f1 = some ⟨b17, o18, none⟩ ∧ (RdL w16 b17 o18 fun t19a t19n t19c =>
 (∃ b20 o21, f1 = some ⟨b20, o21, none⟩ ∧ PS w16 ⟨b20, o21 + 1, none⟩ (.int .i64 ((t19n : Nat) : Int)) fun w22 => (∃ b23 o24, f1 = some ⟨b23, o24, none⟩ ∧
 PS w22 ⟨b23, o24 + 2, none⟩ (.bool true) fun w25 => R (.returned (.tuple #[])) w25)))))) (fun ch wpp => ∀ (_ : Base) (_ : Bnd), R (.panicked ch) wpp)))))))) :
 Calls Tryz.prog 56 #[.pointer f1, .int .i64 n2] w R :=
 DC0 A_vdisk_file_cut mixed Tryz.func56 rfl (by kernel_rfl) (Eq.mp (by kernel_rfl) h)
abbrev F_kit_CopyEvent : Nat := 57
theorem L_kit_CopyEvent {e2 e3 e4 e6 e7 e8 e9 e10 e11 : Int} {e5a : OA} {e5n e5c : Nat} {w : World} {R : RW}
 (h : PA w (.cells #[.int .i64 e2, .int .i64 e3, .int .i64 e4, .slice e5a e5n e5c, .int .i64 e6, .int .i64 e7, .int .i64 e8, .int .i64 e9, .int .i64 e10, .int .i64 e11] 39) fun w12 =>
 PA w12 (.cells #[.int .i64 0, .int .i64 0, .int .i64 0, .slice none 0 0, .int .i64 0, .int .i64 0, .int .i64 0, .int .i64 0, .int .i64 0, .int .i64 0] 39) fun w13 =>
 (RdL w13 w.heap.size (0 + 3) fun t14a t14n t14c => PC Tryz.prog 100 #[.slice t14a t14n t14c] w13 (fun v15 w16 =>
 ∃ t17a t17n t17c, v15 = .slice t17a t17n t17c ∧ PS w16 ⟨w.heap.size, 0 + 3, none⟩ (.slice t17a t17n t17c) fun w18 => (∃ t19 t20 t21 t22a t22n t22c t23 t24 t25 t26 t27 t28, w18.cell? ⟨w.heap.size, 0, none⟩ = some (.int .i64 t19) ∧
 w18.cell? ⟨w.heap.size, 0 + 1, none⟩ = some (.int .i64 t20) ∧ w18.cell? ⟨w.heap.size, 0 + 2, none⟩ = some (.int .i64 t21) ∧ w18.cell? ⟨w.heap.size, 0 + 3, none⟩ = some (.slice t22a t22n t22c) ∧
 w18.cell? ⟨w.heap.size, 0 + 4, none⟩ = some (.int .i64 t23) ∧ w18.cell? ⟨w.heap.size, 0 + 5, none⟩ = some (.int .i64 t24) ∧ w18.cell? ⟨w.heap.size, 0 + 6, none⟩ = some (.int .i64 t25) ∧
 w18.cell? ⟨w.heap.size, 0 + 7, none⟩ = some (.int .i64 t26) ∧ w18.cell? ⟨w.heap.size, 0 + 8, none⟩ = some (.int .i64 t27) ∧ w18.cell? ⟨w.heap.size, 0 + 9, none⟩ = some (.int .i64 t28) ∧
 PS w18 ⟨w12.heap.size, 0, none⟩ (.int .i64 t19) fun w29 => PS w29 ⟨w12.heap.size, 0 + 1, none⟩ (.int .i64 t20) fun w30 => PS w30 ⟨w12.heap.size, 0 + 2, none⟩ (.int .i64 t21) fun w31 =>
 PS w31 ⟨w12.heap.size, 0 + 3, none⟩ (.slice t22a t22n t22c) fun w32 => PS w32 ⟨w12.heap.size, 0 + 4, none⟩ (.int .i64 t23) fun w33 => PS w33 ⟨w12.heap.size, 0 + 5, none⟩ (.int .i64 t24) fun w34 =>
 PS w34 ⟨w12.heap.size, 0 + 6, none⟩ (.int .i64 t25) fun w35 => PS w35 ⟨w12.heap.size, 0 + 7, none⟩ (.int .i64 t26) fun w36 => PS w36 ⟨w12.heap.size, 0 + 8, none⟩ (.int .i64 t27) fun w37 =>
 PS w37 ⟨w12.heap.size, 0 + 9, none⟩ (.int .i64 t28) fun w38 => (∃ r39 r40 r41 r42a r42n r42c r43 r44 r45 r46 r47 r48, w38.cell? ⟨w12.heap.size, 0, none⟩ = some (.int .i64 r39) ∧
 w38.cell? ⟨w12.heap.size, 0 + 1, none⟩ = some (.int .i64 r40) ∧ w38.cell? ⟨w12.heap.size, 0 + 2, none⟩ = some (.int .i64 r41) ∧ w38.cell? ⟨w12.heap.size, 0 + 3, none⟩ = some (.slice r42a r42n r42c) ∧
 w38.cell? ⟨w12.heap.size, 0 + 4, none⟩ = some (.int .i64 r43) ∧ w38.cell? ⟨w12.heap.size, 0 + 5, none⟩ = some (.int .i64 r44) ∧ w38.cell? ⟨w12.heap.size, 0 + 6, none⟩ = some (.int .i64 r45) ∧
 w38.cell? ⟨w12.heap.size, 0 + 7, none⟩ = some (.int .i64 r46) ∧ w38.cell? ⟨w12.heap.size, 0 + 8, none⟩ = some (.int .i64 r47) ∧ w38.cell? ⟨w12.heap.size, 0 + 9, none⟩ = some (.int .i64 r48) ∧
 R (.returned (.agg #[.int .i64 r39, .int .i64 r40, .int .i64 r41, .slice r42a r42n r42c, .int .i64 r43, .int .i64 r44, .int .i64 r45, .int .i64 r46, .int .i64 r47, .int .i64 r48])) w38))) (PnC R))) :
 Calls Tryz.prog 57 #[.agg #[.int .i64 e2, .int .i64 e3, .int .i64 e4, .slice e5a e5n e5c, .int .i64 e6, .int .i64 e7, .int .i64 e8, .int .i64 e9, .int .i64 e10, .int .i64 e11]] w R :=
 DC0 ⟨[], [], [], [], []⟩ mixed Tryz.func57 rfl (by kernel_rfl) (Eq.mp (by kernel_rfl) h)
theorem L_slices_Clone_int_int {s1a : OA} {s1n s1c : Nat} {w : World} {R : RW}
 (h : PRun Tryz.prog (do eqGuard .eql 37 (.tmp 3) (.const (.slice none 0 0)) (.slice s1a s1n s1c) (.slice none 0 0); binOp .eql 37 (.slice s1a s1n s1c) (.slice none 0 0)) w (fun v2 w3 =>
 ∃ t4, v2 = .bool t4 ∧ PIf t4 (R (.returned (.slice none 0 0)) w3) (PA w3 (.cells #[] 3) fun w5 => PRun Tryz.prog (Builtin.append_ #[37, 37] 37 #[.slice (some ⟨w3.heap.size, 0, none⟩) 0 0, .slice s1a s1n s1c]) w5 (fun v6 w7 =>
 ∃ t8a t8n t8c, v6 = .slice t8a t8n t8c ∧ R (.returned (.slice t8a t8n t8c)) w7) (PnV R))) (PnV R)) :
 Calls Tryz.prog 58 #[.slice s1a s1n s1c] w R :=
 DC0 ⟨[], [], [], [], []⟩ mixed Tryz.func58 rfl (by kernel_rfl) (Eq.mp (by kernel_rfl) h)
abbrev F_frame_Get : Nat := 59
def A_frame_Get : Ann := ⟨[], [], [4], [], [(4, ⟨[0, 1, 2, 4, 0, 0, 32, 80, 128, 264, 0, 1024, 2048, 1023, 16383, 32767], [65535, 65534, 65533, 65531, 65535, 65535, 65503, 65455, 65407, 65271, 65535, 64511, 63487, 65023, 61439, 65535], [0, 0, 1, 0, 0, 0, 0, 0, 2, 0, 0, 0, 0, 2, 0, 0]⟩)]⟩
theorem L_frame_Get {b1a : OA} {b1n b1c : Nat} {w : World} {R : RW}
 (h : PA w (.cells #[.int .i64 0, .slice none 0 0] 99) fun w2 => PC Tryz.prog 101 #[.slice b1a b1n b1c] w2 (fun v3 w4 => ∃ t5 t6, v3 = .tuple #[.int .i64 t5, .int .i64 t6] ∧
 PIf (t6 != 0) (PS w4 ⟨w.heap.size, 0, none⟩ (.int .i64 0) fun w7 => PS w7 ⟨w.heap.size, 0 + 1, none⟩ (.slice none 0 0) fun w8 => (∃ r9 r10a r10n r10c, w8.cell? ⟨w.heap.size, 0, none⟩ = some (.int .i64 r9) ∧
 w8.cell? ⟨w.heap.size, 0 + 1, none⟩ = some (.slice r10a r10n r10c) ∧ R (.returned (.tuple #[.agg #[.int .i64 r9, .slice r10a r10n r10c], .int .i64 0, .int .i64 t6])) w8)) ((∀ w12, Drew w4 w12 → ∃ S13 : Nat → Prop, (∃ b14 o15, b1a = some ⟨b14, o15, none⟩ ∧
 (0 : Int) ≤ 0 ∧ 0 < ((b1n : Nat) : Int) ∧ (¬ S13 b14 ∧ (∃ t16, w12.cell? ⟨b14, o15 + Int.toNat 0, none⟩ = some (.int .u8 t16) ∧ ((0 : Int) ≤ 4 ∧
 (4 : Int) ≤ (IntKind.wrap .i64 (4 + t5)) ∧ ((IntKind.wrap .i64 (4 + t5)) : Int) ≤ ((b1c : Nat) : Int) ∧ PC Tryz.prog 65 #[.slice (subA b1a (Int.toNat 4) b1c 1) (Int.toNat (IntKind.wrap .i64 (4 + t5)) - Int.toNat 4) (b1c - Int.toNat 4)] w12 (fun v17 w18 =>
 ∃ t19a t19n t19c, v17 = .slice t19a t19n t19c ∧ (Keep S13 w12 w18 ∧ PS w18 ⟨w.heap.size, 0, none⟩ (.int .i64 (IntKind.wrap .i64 t16)) fun w20 =>
 PS w20 ⟨w.heap.size, 0 + 1, none⟩ (.slice t19a t19n t19c) fun w21 => (Keep S13 w18 w21 ∧ (∃ r22 r23a r23n r23c, w21.cell? ⟨w.heap.size, 0, none⟩ = some (.int .i64 r22) ∧
 w21.cell? ⟨w.heap.size, 0 + 1, none⟩ = some (.slice r23a r23n r23c) ∧ R (.returned (.tuple #[.agg #[.int .i64 r22, .slice r23a r23n r23c], .int .i64 (IntKind.wrap .i64 ((IntKind.wrap .i64 (4 + t5)) + 5)), .int .i64 0])) w21)))) (fun ch wpp =>
 ∀ (_ : Base) (_ : Bnd), R (.panicked ch) wpp)))))))) (PnC R)) :
 Calls Tryz.prog 59 #[.slice b1a b1n b1c] w R :=
 DC0 A_frame_Get mixed Tryz.func59 rfl (by kernel_rfl) (Eq.mp (by kernel_rfl) h)
abbrev F_pack_From : Nat := 60
theorem L_pack_From {b1a : OA} {b1n b1c : Nat} {w : World} {R : RW}
 (h : PRun Tryz.prog (Builtin.append_ #[49, 49] 49 #[.slice none 0 0, .slice b1a b1n b1c]) w (fun v2 w3 => ∃ t4a t4n t4c, v2 = .slice t4a t4n t4c ∧
 PA w3 (.cells #[.slice t4a t4n t4c, .int .i64 0, .int .i64 0] 137) fun w5 => R (.returned (.pointer (some ⟨w3.heap.size, 0, none⟩))) w5) (PnV R)) :
 Calls Tryz.prog 60 #[.slice b1a b1n b1c] w R :=
 DC0 ⟨[], [], [], [], []⟩ mixed Tryz.func60 rfl (by kernel_rfl) (Eq.mp (by kernel_rfl) h)
abbrev F_pack_Reader_Count : Nat := 61
theorem L_pack_Reader_Count {r1 : OA} {most2 : Int} {w : World} {R : RW}
 (h : PA w (.cells #[.pointer r1] 102) fun w3 => PA w3 (.cells #[.int .i64 most2] 3) fun w4 => PA w4 (.cells #[.int .i64 0] 3) fun w5 => (RdP w5 w.heap.size 0 fun t6 =>
 PC Tryz.prog 102 #[.pointer t6, .func (.func 103) #[] #[.pointer (some ⟨w.heap.size, 0, none⟩), .pointer (some ⟨w3.heap.size, 0, none⟩), .pointer (some ⟨w4.heap.size, 0, none⟩)]] w5 (fun v7 w8 =>
 v7 = .tuple #[] ∧ (RdI w8 w4.heap.size 0 fun t9 => PS w8 ⟨w4.heap.size, 0, none⟩ (.int .i64 t9) fun w10 => (RdI w10 w4.heap.size 0 fun r11 =>
 R (.returned (.int .i64 r11)) w10))) (PnC R))) :
 Calls Tryz.prog 61 #[.pointer r1, .int .i64 most2] w R :=
 DC0 ⟨[], [], [], [], []⟩ mixed Tryz.func61 rfl (by kernel_rfl) (Eq.mp (by kernel_rfl) h)
abbrev F_pack_Reader_Int : Nat := 62
theorem L_pack_Reader_Int {r1 : OA} {w : World} {R : RW}
 (h : PA w (.cells #[.pointer r1] 102) fun w2 => PA w2 (.cells #[.int .i64 0] 3) fun w3 => (RdP w3 w.heap.size 0 fun t4 =>
 PC Tryz.prog 102 #[.pointer t4, .func (.func 105) #[] #[.pointer (some ⟨w.heap.size, 0, none⟩), .pointer (some ⟨w2.heap.size, 0, none⟩)]] w3 (fun v5 w6 =>
 v5 = .tuple #[] ∧ (RdI w6 w2.heap.size 0 fun t7 => PS w6 ⟨w2.heap.size, 0, none⟩ (.int .i64 t7) fun w8 => (RdI w8 w2.heap.size 0 fun r9 =>
 R (.returned (.int .i64 r9)) w8))) (PnC R))) :
 Calls Tryz.prog 62 #[.pointer r1] w R :=
 DC0 ⟨[], [], [], [], []⟩ mixed Tryz.func62 rfl (by kernel_rfl) (Eq.mp (by kernel_rfl) h)
abbrev F_pack_Reader_Done : Nat := 63
theorem L_pack_Reader_Done {r1 : OA} {w : World} {R : RW}
 (h : (∃ b3 o4, r1 = some ⟨b3, o4, none⟩ ∧ (RdI w b3 (o4 + 2) fun t5 => PIf (t5 == 0) ((∃ b6 o7, r1 = some ⟨b6, o7, none⟩ ∧
 (RdI w b6 (o7 + 1) fun t8 => (∃ b9 o10, r1 = some ⟨b9, o10, none⟩ ∧ (RdL w b9 o10 fun t11a t11n t11c =>
 (∀ w2, Drew w w2 → PIf (decide (t8 < ((t11n : Nat) : Int))) (R (.returned (.int .i64 5)) w2) ((∃ b12 o13, r1 = some ⟨b12, o13, none⟩ ∧ (RdI w2 b12 (o13 + 2) fun t14 =>
 R (.returned (.int .i64 t14)) w2))))))))) ((∀ w2, Drew w w2 → (∃ b15 o16, r1 = some ⟨b15, o16, none⟩ ∧ (RdI w2 b15 (o16 + 2) fun t17 =>
 R (.returned (.int .i64 t17)) w2))))))) :
 Calls Tryz.prog 63 #[.pointer r1] w R :=
 DC0 ⟨[], [], [], [], []⟩ mixed Tryz.func63 rfl (by kernel_rfl) (Eq.mp (by kernel_rfl) h)
abbrev F_event_Get : Nat := 64
def A_event_Get : Ann := ⟨[(4, [(20, .int .i64 0)]), (9, [(31, .int .i64 0)]), (13, [(49, .int .i64 0)])], [], [10], [10], []⟩
theorem L_event_Get {b1a : OA} {b1n b1c : Nat} {w : World} {R : RW}
 (h : PA w (.cells #[.int .i64 0, .int .i64 0, .int .i64 0, .slice none 0 0, .int .i64 0, .int .i64 0, .int .i64 0, .int .i64 0, .int .i64 0, .int .i64 0] 39) fun w2 =>
 PC Tryz.prog 60 #[.slice b1a b1n b1c] w2 (fun v3 w4 => ∃ t5, v3 = .pointer t5 ∧ PA w4 (.cells #[.int .i64 0, .int .i64 0, .int .i64 0, .slice none 0 0, .int .i64 0, .int .i64 0, .int .i64 0, .int .i64 0, .int .i64 0, .int .i64 0] 39) fun w6 =>
 PA w6 (.cells #[.pointer (some ⟨w4.heap.size, 0, none⟩), .pointer (some ⟨w4.heap.size, 0 + 1, none⟩), .pointer (some ⟨w4.heap.size, 0 + 2, none⟩)] 139) fun w7 =>
 (∃ I8 : Nat → Int → World → Prop, (∃ m9, I8 m9 0 w7) ∧ ∀ (m9 : Nat) (t11 : Int) (B12 : Nat → Value) (w13 : World), I8 m9 t11 w13 → PIf (decide (t11 < ((3 : Nat) : Int))) ((∃ b14 o15, ((some ⟨w6.heap.size, 0, none⟩) : OA) = some ⟨b14, o15, none⟩ ∧
 (0 : Int) ≤ t11 ∧ t11 < ((3 : Nat) : Int) ∧ (RdP w13 b14 (o15 + Int.toNat t11) fun t16 => PC Tryz.prog 62 #[.pointer t5] w13 (fun v17 w18 =>
 ∃ t19, v17 = .int .i64 t19 ∧ (∃ b20 o21, t16 = some ⟨b20, o21, none⟩ ∧ PS w18 ⟨b20, o21, none⟩ (.int .i64 t19) fun w22 => (∃ m10, m10 < m9 ∧ I8 m10 (IntKind.wrap .i64 (t11 + 1)) w22))) (PnC R)))) (PC Tryz.prog 61 #[.pointer t5, .int .i64 64] w13 (fun v23 w24 => ∃ t25, v23 = .int .i64 t25 ∧ (∃ I26 : Nat → Int → World → Prop, (∃ m27, I26 m27 0 w24) ∧
 ∀ (m27 : Nat) (t29 : Int) (B30 : Nat → Value) (w31 : World), I26 m27 t29 w31 → PIf (decide (t29 < t25)) ((∀ w33, Drew w31 w33 → ∃ S34 : Nat → Prop, (¬ S34 w4.heap.size ∧
 (RdL w33 w4.heap.size (0 + 3) fun t35a t35n t35c => PC Tryz.prog 62 #[.pointer t5] w33 (fun v36 w37 =>
 ∃ t38, v36 = .int .i64 t38 ∧ (Keep S34 w33 w37 ∧ PA w37 (.cells #[.int .i64 t38] 3) fun w39 => (Keep S34 w37 w39 ∧ PRun Tryz.prog (Builtin.append_ #[37, 37] 37 #[.slice t35a t35n t35c, .slice (some ⟨w37.heap.size, 0, none⟩) 1 1]) w39 (fun v40 w41 =>
 ∃ t42a t42n t42c, v40 = .slice t42a t42n t42c ∧ PS w41 ⟨w4.heap.size, 0 + 3, none⟩ (.slice t42a t42n t42c) fun w43 => (∃ m28, m28 < m27 ∧
 I26 m28 (IntKind.wrap .i64 (t29 + 1)) w43)) (fun pv wpp => ∀ (_ : Base) (_ : Bnd), R (.panicked [{ v := pv, recovered := false }]) wpp)))) (fun ch wpp =>
 ∀ (_ : Base) (_ : Bnd), R (.panicked ch) wpp))))) (PA w31 (.cells #[.pointer (some ⟨w4.heap.size, 0 + 4, none⟩), .pointer (some ⟨w4.heap.size, 0 + 5, none⟩), .pointer (some ⟨w4.heap.size, 0 + 6, none⟩), .pointer (some ⟨w4.heap.size, 0 + 7, none⟩), .pointer (some ⟨w4.heap.size, 0 + 8, none⟩), .pointer (some ⟨w4.heap.size, 0 + 9, none⟩)] 139) fun w44 =>
 (∃ I45 : Nat → Int → World → Prop, (∃ m46, I45 m46 0 w44) ∧ ∀ (m46 : Nat) (t48 : Int) (B49 : Nat → Value) (w50 : World), I45 m46 t48 w50 → PIf (decide (t48 < ((6 : Nat) : Int))) ((∃ b51 o52, ((some ⟨w31.heap.size, 0, none⟩) : OA) = some ⟨b51, o52, none⟩ ∧
 (0 : Int) ≤ t48 ∧ t48 < ((6 : Nat) : Int) ∧ (RdP w50 b51 (o52 + Int.toNat t48) fun t53 => PC Tryz.prog 62 #[.pointer t5] w50 (fun v54 w55 =>
 ∃ t56, v54 = .int .i64 t56 ∧ (∃ b57 o58, t53 = some ⟨b57, o58, none⟩ ∧ PS w55 ⟨b57, o58, none⟩ (.int .i64 t56) fun w59 => (∃ m47, m47 < m46 ∧ I45 m47 (IntKind.wrap .i64 (t48 + 1)) w59))) (PnC R)))) (PC Tryz.prog 63 #[.pointer t5] w50 (fun v60 w61 => ∃ t62, v60 = .int .i64 t62 ∧ PIf (t62 != 0) (PS w61 ⟨w.heap.size, 0, none⟩ (.int .i64 0) fun w63 =>
 PS w63 ⟨w.heap.size, 0 + 1, none⟩ (.int .i64 0) fun w64 => PS w64 ⟨w.heap.size, 0 + 2, none⟩ (.int .i64 0) fun w65 => PS w65 ⟨w.heap.size, 0 + 3, none⟩ (.slice none 0 0) fun w66 =>
 PS w66 ⟨w.heap.size, 0 + 4, none⟩ (.int .i64 0) fun w67 => PS w67 ⟨w.heap.size, 0 + 5, none⟩ (.int .i64 0) fun w68 => PS w68 ⟨w.heap.size, 0 + 6, none⟩ (.int .i64 0) fun w69 =>
 PS w69 ⟨w.heap.size, 0 + 7, none⟩ (.int .i64 0) fun w70 => PS w70 ⟨w.heap.size, 0 + 8, none⟩ (.int .i64 0) fun w71 => PS w71 ⟨w.heap.size, 0 + 9, none⟩ (.int .i64 0) fun w72 =>
 (∃ r73 r74 r75 r76a r76n r76c r77 r78 r79 r80 r81 r82, w72.cell? ⟨w.heap.size, 0, none⟩ = some (.int .i64 r73) ∧
 w72.cell? ⟨w.heap.size, 0 + 1, none⟩ = some (.int .i64 r74) ∧ w72.cell? ⟨w.heap.size, 0 + 2, none⟩ = some (.int .i64 r75) ∧ w72.cell? ⟨w.heap.size, 0 + 3, none⟩ = some (.slice r76a r76n r76c) ∧
 w72.cell? ⟨w.heap.size, 0 + 4, none⟩ = some (.int .i64 r77) ∧ w72.cell? ⟨w.heap.size, 0 + 5, none⟩ = some (.int .i64 r78) ∧ w72.cell? ⟨w.heap.size, 0 + 6, none⟩ = some (.int .i64 r79) ∧
 w72.cell? ⟨w.heap.size, 0 + 7, none⟩ = some (.int .i64 r80) ∧ w72.cell? ⟨w.heap.size, 0 + 8, none⟩ = some (.int .i64 r81) ∧ w72.cell? ⟨w.heap.size, 0 + 9, none⟩ = some (.int .i64 r82) ∧
 R (.returned (.tuple #[.agg #[.int .i64 r73, .int .i64 r74, .int .i64 r75, .slice r76a r76n r76c, .int .i64 r77, .int .i64 r78, .int .i64 r79, .int .i64 r80, .int .i64 r81, .int .i64 r82], .int .i64 t62])) w72)) ((∃ t83 t84 t85 t86a t86n t86c t87 t88 t89 t90 t91 t92, w61.cell? ⟨w4.heap.size, 0, none⟩ = some (.int .i64 t83) ∧
 w61.cell? ⟨w4.heap.size, 0 + 1, none⟩ = some (.int .i64 t84) ∧ w61.cell? ⟨w4.heap.size, 0 + 2, none⟩ = some (.int .i64 t85) ∧ w61.cell? ⟨w4.heap.size, 0 + 3, none⟩ = some (.slice t86a t86n t86c) ∧
 w61.cell? ⟨w4.heap.size, 0 + 4, none⟩ = some (.int .i64 t87) ∧ w61.cell? ⟨w4.heap.size, 0 + 5, none⟩ = some (.int .i64 t88) ∧ w61.cell? ⟨w4.heap.size, 0 + 6, none⟩ = some (.int .i64 t89) ∧
 w61.cell? ⟨w4.heap.size, 0 + 7, none⟩ = some (.int .i64 t90) ∧ w61.cell? ⟨w4.heap.size, 0 + 8, none⟩ = some (.int .i64 t91) ∧ w61.cell? ⟨w4.heap.size, 0 + 9, none⟩ = some (.int .i64 t92) ∧
 PS w61 ⟨w.heap.size, 0, none⟩ (.int .i64 t83) fun w93 => PS w93 ⟨w.heap.size, 0 + 1, none⟩ (.int .i64 t84) fun w94 => PS w94 ⟨w.heap.size, 0 + 2, none⟩ (.int .i64 t85) fun w95 =>
 PS w95 ⟨w.heap.size, 0 + 3, none⟩ (.slice t86a t86n t86c) fun w96 => PS w96 ⟨w.heap.size, 0 + 4, none⟩ (.int .i64 t87) fun w97 => PS w97 ⟨w.heap.size, 0 + 5, none⟩ (.int .i64 t88) fun w98 =>
 PS w98 ⟨w.heap.size, 0 + 6, none⟩ (.int .i64 t89) fun w99 => PS w99 ⟨w.heap.size, 0 + 7, none⟩ (.int .i64 t90) fun w100 => PS w100 ⟨w.heap.size, 0 + 8, none⟩ (.int .i64 t91) fun w101 =>
 PS w101 ⟨w.heap.size, 0 + 9, none⟩ (.int .i64 t92) fun w102 => (∃ r103 r104 r105 r106a r106n r106c r107 r108 r109 r110 r111 r112, w102.cell? ⟨w.heap.size, 0, none⟩ = some (.int .i64 r103) ∧
 w102.cell? ⟨w.heap.size, 0 + 1, none⟩ = some (.int .i64 r104) ∧ w102.cell? ⟨w.heap.size, 0 + 2, none⟩ = some (.int .i64 r105) ∧ w102.cell? ⟨w.heap.size, 0 + 3, none⟩ = some (.slice r106a r106n r106c) ∧
 w102.cell? ⟨w.heap.size, 0 + 4, none⟩ = some (.int .i64 r107) ∧ w102.cell? ⟨w.heap.size, 0 + 5, none⟩ = some (.int .i64 r108) ∧ w102.cell? ⟨w.heap.size, 0 + 6, none⟩ = some (.int .i64 r109) ∧
 w102.cell? ⟨w.heap.size, 0 + 7, none⟩ = some (.int .i64 r110) ∧ w102.cell? ⟨w.heap.size, 0 + 8, none⟩ = some (.int .i64 r111) ∧ w102.cell? ⟨w.heap.size, 0 + 9, none⟩ = some (.int .i64 r112) ∧
 R (.returned (.tuple #[.agg #[.int .i64 r103, .int .i64 r104, .int .i64 r105, .slice r106a r106n r106c, .int .i64 r107, .int .i64 r108, .int .i64 r109, .int .i64 r110, .int .i64 r111, .int .i64 r112], .int .i64 0])) w102)))) (PnC R)))))) (PnC R)))) (PnC R)) :
 Calls Tryz.prog 64 #[.slice b1a b1n b1c] w R :=
 DC0 A_event_Get mixed Tryz.func64 rfl (by kernel_rfl) (Eq.mp (by kernel_rfl) h)
theorem L_slices_Clone_byte_byte {s1a : OA} {s1n s1c : Nat} {w : World} {R : RW}
 (h : PRun Tryz.prog (do eqGuard .eql 49 (.tmp 3) (.const (.slice none 0 0)) (.slice s1a s1n s1c) (.slice none 0 0); binOp .eql 49 (.slice s1a s1n s1c) (.slice none 0 0)) w (fun v2 w3 =>
 ∃ t4, v2 = .bool t4 ∧ PIf t4 (R (.returned (.slice none 0 0)) w3) (PA w3 (.cells #[] 5) fun w5 => PRun Tryz.prog (Builtin.append_ #[49, 49] 49 #[.slice (some ⟨w3.heap.size, 0, none⟩) 0 0, .slice s1a s1n s1c]) w5 (fun v6 w7 =>
 ∃ t8a t8n t8c, v6 = .slice t8a t8n t8c ∧ R (.returned (.slice t8a t8n t8c)) w7) (PnV R))) (PnV R)) :
 Calls Tryz.prog 65 #[.slice s1a s1n s1c] w R :=
 DC0 ⟨[], [], [], [], []⟩ mixed Tryz.func65 rfl (by kernel_rfl) (Eq.mp (by kernel_rfl) h)
abbrev F_ref19_New : Nat := 67
theorem L_ref19_New {n1 : Int} {w : World} {R : RW}
 (h : PIf (decide (n1 < 64)) (R (.returned (.tuple #[.pointer none, .int .i64 1])) w) (PIf (decide (n1 > 262144)) (R (.returned (.tuple #[.pointer none, .int .i64 1])) w) (PA w (.cells #[.int .i64 n1, .int .i64 (-1), .slice none 0 0, .bool false] 143) fun w2 =>
 R (.returned (.tuple #[.pointer (some ⟨w.heap.size, 0, none⟩), .int .i64 0])) w2))) :
 Calls Tryz.prog 67 #[.int .i64 n1] w R :=
 DC0 ⟨[], [], [], [], []⟩ mixed Tryz.func67 rfl (by kernel_rfl) (Eq.mp (by kernel_rfl) h)
abbrev F_law22_pair_open : Nat := 68
def A_law22_pair_open : Ann := ⟨[], [], [], [], [(1, ⟨[0, 1, 2, 4, 0, 16, 32, 64, 136, 256, 512, 512, 512, 2047, 12287, 32767], [65535, 65534, 65533, 65531, 65535, 65519, 65503, 65471, 65399, 65279, 65023, 65023, 65023, 64511, 63487, 61439], [0, 0, 0, 1, 0, 0, 0, 1, 2, 0, 0, 0, 0, 0, 0, 0]⟩), (2, ⟨[0, 1, 2, 4, 0, 16, 32, 64, 136, 256, 512, 512, 512, 2047, 12287, 32767], [65535, 65534, 65533, 65531, 65535, 65519, 65503, 65471, 65399, 65279, 65023, 65023, 65023, 64511, 63487, 61439], [0, 0, 0, 1, 0, 0, 0, 1, 2, 0, 0, 0, 0, 0, 0, 0]⟩)]⟩
theorem L_law22_pair_open {p1 : OA} {w : World} {R : RW}
 (h : (∀ w3, Drew w w3 → (∃ b4 o5, p1 = some ⟨b4, o5, none⟩ ∧ (RdP w3 b4 o5 fun t6 => (∃ b7 o8, p1 = some ⟨b7, o8, none⟩ ∧
 (RdI w3 b7 (o8 + 4) fun t9 => PC Tryz.prog 15 #[.pointer t6, .int .i64 t9] w3 (fun v10 w11 => ∃ t12 t13a t13n t13c t14, v10 = .tuple #[.pointer t12, .slice t13a t13n t13c, .int .i64 t14] ∧
 (∀ w16, Drew w11 w16 → (∃ b17 o18, p1 = some ⟨b17, o18, none⟩ ∧ (RdP w16 b17 (o18 + 1) fun t19 => (∃ b20 o21, p1 = some ⟨b20, o21, none⟩ ∧
 (RdI w16 b20 (o21 + 4) fun t22 => PC Tryz.prog 108 #[.pointer t19, .int .i64 t22] w16 (fun v23 w24 => ∃ t25 t26a t26n t26c t27, v23 = .tuple #[.pointer t25, .slice t26a t26n t26c, .int .i64 t27] ∧
 (∃ b28 o29, p1 = some ⟨b28, o29, none⟩ ∧ PS w24 ⟨b28, o29 + 2, none⟩ (.pointer t12) fun w30 => (∃ b31 o32, p1 = some ⟨b31, o32, none⟩ ∧ PS w30 ⟨b31, o32 + 3, none⟩ (.pointer t25) fun w33 =>
 PIf (t14 == t27) (PC Tryz.prog 19 #[.slice t13a t13n t13c, .slice t26a t26n t26c] w33 (fun v34 w35 => ∃ t36, v34 = .bool t36 ∧ PIf t36 (PRun Tryz.prog (do eqGuard .eql 30 (.tmp 53) (.const (.pointer none)) (.pointer t12) (.pointer none); binOp .eql 30 (.pointer t12) (.pointer none)) w35 (fun v37 w38 =>
 ∃ t39, v37 = .bool t39 ∧ PIf (t39 == (t14 != 0)) (PRun Tryz.prog (do eqGuard .eql 111 (.tmp 60) (.const (.pointer none)) (.pointer t25) (.pointer none); binOp .eql 111 (.pointer t25) (.pointer none)) w38 (fun v40 w41 =>
 ∃ t42, v40 = .bool t42 ∧ PC Tryz.prog 109 #[.slice t13a t13n t13c] w41 (fun v43 w44 => v43 = .tuple #[] ∧ R (.returned (.bool (t42 == (t27 != 0)))) w44) (PnC R)) (PnV R)) (PC Tryz.prog 109 #[.slice t13a t13n t13c] w38 (fun v45 w46 => v45 = .tuple #[] ∧
 R (.returned (.bool false)) w46) (PnC R))) (PnV R)) (PC Tryz.prog 109 #[.slice t13a t13n t13c] w35 (fun v47 w48 =>
 v47 = .tuple #[] ∧ R (.returned (.bool false)) w48) (PnC R))) (PnC R)) (PC Tryz.prog 109 #[.slice t13a t13n t13c] w33 (fun v49 w50 =>
 v49 = .tuple #[] ∧ R (.returned (.bool false)) w50) (PnC R))))) (fun ch wpp => ∀ (_ : Base) (_ : Bnd), R (.panicked ch) wpp))))))) (fun ch wpp =>
 ∀ (_ : Base) (_ : Bnd), R (.panicked ch) wpp))))))) :
 Calls Tryz.prog 68 #[.pointer p1] w R :=
 DC0 A_law22_pair_open mixed Tryz.func68 rfl (by kernel_rfl) (Eq.mp (by kernel_rfl) h)
abbrev F_law22_pair_do : Nat := 69
def A_law22_pair_do : Ann := ⟨[], [(11, []), (12, [(59, .bool false)])], [21, 23], [23], [(19, ⟨[0, 0, 2, 4, 8, 0, 32, 80, 129, 384, 512, 1536, 4095], [8191, 8191, 8189, 8187, 8183, 8191, 8159, 8111, 8062, 7935, 7679, 6655, 6143], [0, 0, 0, 0, 1, 0, 1, 2, 0, 0, 0, 0, 0]⟩), (21, ⟨[0, 1, 2, 4, 8, 0, 32, 64, 128, 272, 528, 2047], [4095, 4094, 4093, 4091, 4087, 4095, 4063, 4031, 3967, 3839, 3567, 3071], [0, 0, 0, 1, 2, 0, 0, 0, 1, 2, 0, 0]⟩), (23, ⟨[0, 1, 2, 4, 0, 16, 32, 64, 128, 0, 512, 1288, 0, 4096, 8192, 16384, 0, 65536, 131072, 262144, 526336, 0, 2097152, 5275648, 8390656, 25165824, 33554432, 100663296, 167772160, 536870911], [1073741823, 1073741822, 1073741821, 1073741819, 1073741823, 1073741807, 1073741791, 1073741759, 1073741695, 1073741823, 1073741311, 1073740535, 1073741823, 1073737727, 1073733631, 1073725439, 1073741823, 1073676287, 1073610751, 1073479679, 1073217535, 1073741823, 1071644671, 1068466175, 1065351167, 1056964607, 1040187391, 973078527, 905969663, 805306367], [0, 0, 0, 1, 0, 0, 0, 1, 2, 0, 1, 2, 0, 0, 0, 1, 0, 0, 0, 1, 2, 0, 1, 2, 0, 0, 0, 2, 0, 0]⟩)]⟩
theorem L_law22_pair_do {p1 a5a a6a : OA} {a3 a4 : Int} {a5n a5c a6n a6c : Nat} {w : World} {R : RW}
 (h : PA w (.cells #[.int .i64 a3, .int .i64 a4, .slice a5a a5n a5c, .slice a6a a6n a6c] 51) fun w7 => (∃ J8 : World → Prop, ((RdI w7 w.heap.size 0 fun t9 =>
 PIf (t9 == 2) ((∀ w11, Drew w7 w11 → (∃ b12 o13, p1 = some ⟨b12, o13, none⟩ ∧ (RdP w11 b12 o13 fun t14 =>
 (RdI w11 w.heap.size (0 + 1) fun t15 => PC Tryz.prog 21 #[.pointer t14, .int .i64 t15] w11 (fun v16 w17 => v16 = .tuple #[] ∧
 (∀ w19, Drew w17 w19 → (∃ b20 o21, p1 = some ⟨b20, o21, none⟩ ∧ (RdP w19 b20 (o21 + 1) fun t22 => (RdI w19 w.heap.size (0 + 1) fun t23 =>
 PC Tryz.prog 110 #[.pointer t22, .int .i64 t23] w19 (fun v24 w25 => v24 = .tuple #[] ∧ PC Tryz.prog 68 #[.pointer p1] w25 (fun v26 w27 => ∃ t28, v26 = .bool t28 ∧
 R (.returned (.bool t28)) w27) (PnC R)) (fun ch wpp => ∀ (_ : Base) (_ : Bnd), R (.panicked ch) wpp)))))) (fun ch wpp => ∀ (_ : Base) (_ : Bnd), R (.panicked ch) wpp)))))) (PIf (t9 == 3) ((∀ w30, Drew w7 w30 → (∃ b31 o32, p1 = some ⟨b31, o32, none⟩ ∧
 (RdP w30 b31 o32 fun t33 => (RdI w30 w.heap.size (0 + 1) fun t34 =>
 PC Tryz.prog 23 #[.pointer t33, .int .i64 t34] w30 (fun v35 w36 => v35 = .tuple #[] ∧ (∀ w38, Drew w36 w38 → (∃ b39 o40, p1 = some ⟨b39, o40, none⟩ ∧ (RdP w38 b39 (o40 + 1) fun t41 =>
 (RdI w38 w.heap.size (0 + 1) fun t42 => PC Tryz.prog 111 #[.pointer t41, .int .i64 t42] w38 (fun v43 w44 => v43 = .tuple #[] ∧
 J8  w44) (fun ch wpp => ∀ (_ : Base) (_ : Bnd), R (.panicked ch) wpp)))))) (fun ch wpp => ∀ (_ : Base) (_ : Bnd), R (.panicked ch) wpp)))))) (PIf (t9 == 4) (PC Tryz.prog 68 #[.pointer p1] w7 (fun v45 w46 =>
 ∃ t47, v45 = .bool t47 ∧ R (.returned (.bool t47)) w46) (PnC R)) (J8  w7))))) ∧ ∀  (B48 : Nat → Value) (w49 : World), J8  w49 → (∃ J50 : Bool → World → Prop, ((∃ b51 o52, p1 = some ⟨b51, o52, none⟩ ∧
 (RdP w49 b51 (o52 + 2) fun t53 => PRun Tryz.prog (do eqGuard .eql 30 (.tmp 51) (.const (.pointer none)) (.pointer t53) (.pointer none); binOp .eql 30 (.pointer t53) (.pointer none)) w49 (fun v54 w55 =>
 ∃ t56, v54 = .bool t56 ∧ PIf t56 (J50 true w55) ((∃ b57 o58, p1 = some ⟨b57, o58, none⟩ ∧ (RdP w55 b57 (o58 + 3) fun t59 =>
 PRun Tryz.prog (do eqGuard .eql 111 (.tmp 57) (.const (.pointer none)) (.pointer t59) (.pointer none); binOp .eql 111 (.pointer t59) (.pointer none)) w55 (fun v60 w61 =>
 ∃ t62, v60 = .bool t62 ∧ J50 t62 w61) (PnV R))))) (PnV R)))) ∧
 ∀ (t63 : Bool) (B64 : Nat → Value) (w65 : World), J50 t63 w65 → PIf t63 ((∃ b66 o67, p1 = some ⟨b66, o67, none⟩ ∧ (RdP w65 b66 (o67 + 2) fun t68 =>
 PRun Tryz.prog (do eqGuard .eql 30 (.tmp 63) (.const (.pointer none)) (.pointer t68) (.pointer none); binOp .eql 30 (.pointer t68) (.pointer none)) w65 (fun v69 w70 =>
 ∃ t71, v69 = .bool t71 ∧ PIf t71 ((∃ b72 o73, p1 = some ⟨b72, o73, none⟩ ∧ (RdP w70 b72 (o73 + 3) fun t74 =>
 PRun Tryz.prog (do eqGuard .eql 111 (.tmp 69) (.const (.pointer none)) (.pointer t74) (.pointer none); binOp .eql 111 (.pointer t74) (.pointer none)) w70 (fun v75 w76 =>
 ∃ t77, v75 = .bool t77 ∧ R (.returned (.bool t77)) w76) (PnV R)))) (R (.returned (.bool false)) w70)) (PnV R)))) ((RdI w65 w.heap.size 0 fun t78 => PIf (t78 == 0) ((RdL w65 w.heap.size (0 + 2) fun t79a t79n t79c =>
 PC Tryz.prog 24 #[.slice t79a t79n t79c] w65 (fun v80 w81 => ∃ t82a t82n t82c, v80 = .slice t82a t82n t82c ∧ (∃ b83 o84, p1 = some ⟨b83, o84, none⟩ ∧
 (RdP w81 b83 (o84 + 2) fun t85 => PC Tryz.prog 17 #[.pointer t85, .slice t82a t82n t82c] w81 (fun v86 w87 =>
 ∃ t88, v86 = .int .i64 t88 ∧ (RdL w87 w.heap.size (0 + 2) fun t89a t89n t89c =>
 PC Tryz.prog 19 #[.slice t82a t82n t82c, .slice t89a t89n t89c] w87 (fun v90 w91 => ∃ t92, v90 = .bool t92 ∧ PC Tryz.prog 109 #[.slice t82a t82n t82c] w91 (fun v93 w94 =>
 v93 = .tuple #[] ∧ (∀ w96, Drew w94 w96 → (∃ b97 o98, p1 = some ⟨b97, o98, none⟩ ∧ (RdP w96 b97 (o98 + 3) fun t99 =>
 (RdL w96 w.heap.size (0 + 2) fun t100a t100n t100c => PC Tryz.prog 112 #[.pointer t99, .slice t100a t100n t100c] w96 (fun v101 w102 =>
 ∃ t103, v101 = .int .i64 t103 ∧ PIf (t88 == t103) (R (.returned (.bool t92)) w102) (R (.returned (.bool false)) w102)) (fun ch wpp => ∀ (_ : Base) (_ : Bnd), R (.panicked ch) wpp)))))) (PnC R)) (PnC R))) (PnC R)))) (PnC R))) (PIf (t78 == 1) ((∀ w105, Drew w65 w105 → ∃ S106 : Nat → Prop, (∃ b107 o108, p1 = some ⟨b107, o108, none⟩ ∧
 (RdP w105 b107 (o108 + 2) fun t109 => (∃ b110 o111, p1 = some ⟨b110, o111, none⟩ ∧ (¬ S106 b110 ∧ (RdP w105 b110 (o111 + 3) fun t112 =>
 PC Tryz.prog 20 #[.pointer t109] w105 (fun v113 w114 => ∃ t115, v113 = .int .i64 t115 ∧ (Keep S106 w105 w114 ∧ PC Tryz.prog 113 #[.pointer t112] w114 (fun v116 w117 =>
 ∃ t118, v116 = .int .i64 t118 ∧ (Keep S106 w114 w117 ∧ R (.returned (.bool (t115 == t118))) w117)) (fun ch wpp => ∀ (_ : Base) (_ : Bnd), R (.panicked ch) wpp))) (fun ch wpp =>
 ∀ (_ : Base) (_ : Bnd), R (.panicked ch) wpp)))))))) (PIf (t78 == 5) ((∀ w120, Drew w65 w120 → ∃ S121 : Nat → Prop, (∃ b122 o123, p1 = some ⟨b122, o123, none⟩ ∧
 (¬ S121 b122 ∧ (RdP w120 b122 o123 fun t124 => (∃ b125 o126, p1 = some ⟨b125, o126, none⟩ ∧ (RdP w120 b125 (o126 + 3) fun t127 =>
 (¬ S121 w.heap.size ∧ (RdL w120 w.heap.size (0 + 3) fun t128a t128n t128c => (∃ b129 o130, p1 = some ⟨b129, o130, none⟩ ∧
 (¬ S121 b129 ∧ (RdP w120 b129 (o130 + 1) fun t131 => (∃ b132 o133, p1 = some ⟨b132, o133, none⟩ ∧ (¬ S121 b132 ∧
 (RdP w120 b132 (o133 + 3) fun t134 => (¬ S121 w.heap.size ∧ (RdL w120 w.heap.size (0 + 3) fun t135a t135n t135c =>
 PC Tryz.prog 114 #[.pointer t127] w120 (fun v136 w137 => ∃ t138, v136 = .string t138 ∧ (Keep S121 w120 w137 ∧ PC Tryz.prog 50 #[.pointer t124, .string t138, .slice t128a t128n t128c] w137 (fun v139 w140 =>
 ∃ t141, v139 = .int .i64 t141 ∧ (Keep S121 w137 w140 ∧ PC Tryz.prog 114 #[.pointer t134] w140 (fun v142 w143 => ∃ t144, v142 = .string t144 ∧
 (Keep S121 w140 w143 ∧ PC Tryz.prog 115 #[.pointer t131, .string t144, .slice t135a t135n t135c] w143 (fun v145 w146 => ∃ t147, v145 = .int .i64 t147 ∧
 PIf (t141 == t147) (PC Tryz.prog 68 #[.pointer p1] w146 (fun v148 w149 => ∃ t150, v148 = .bool t150 ∧ R (.returned (.bool t150)) w149) (fun ch wpp =>
 ∀ (_ : Base) (_ : Bnd), R (.panicked ch) wpp)) (R (.returned (.bool false)) w146)) (fun ch wpp => ∀ (_ : Base) (_ : Bnd), R (.panicked ch) wpp))) (fun ch wpp =>
 ∀ (_ : Base) (_ : Bnd), R (.panicked ch) wpp))) (fun ch wpp => ∀ (_ : Base) (_ : Bnd), R (.panicked ch) wpp))) (fun ch wpp => ∀ (_ : Base) (_ : Bnd), R (.panicked ch) wpp)))))))))))))))))) (R (.returned (.bool true)) w65)))))))) :
 Calls Tryz.prog 69 #[.pointer p1, .agg #[.int .i64 a3, .int .i64 a4, .slice a5a a5n a5c, .slice a6a a6n a6c]] w R :=
 DC0 A_law22_pair_do mixed Tryz.func69 rfl (by kernel_rfl) (Eq.mp (by kernel_rfl) h)
abbrev F_ref22_Log_Segments : Nat := 70
def A_ref22_Log_Segments : Ann := ⟨[(3, [(3, .slice none 0 0), (4, .int .i64 0)])], [], [], [], []⟩
theorem L_ref22_Log_Segments {l1 : OA} {w : World} {R : RW}
 (h : (∃ I2 : Nat → OA → Nat → Nat → Int → World → Prop, (∃ m3, I2 m3 none 0 0 0 w) ∧ ∀ (m3 : Nat) (out5a : OA) (out5n : Nat) (out5c : Nat) (i6 : Int) (B7 : Nat → Value) (w8 : World), I2 m3 out5a out5n out5c i6 w8 → (∃ b9 o10, l1 = some ⟨b9, o10, none⟩ ∧
 (RdL w8 b9 (o10 + 2) fun t11a t11n t11c => PIf (decide (i6 < ((t11n : Nat) : Int))) ((∃ b12 o13, l1 = some ⟨b12, o13, none⟩ ∧
 (RdL w8 b12 (o13 + 2) fun t14a t14n t14c => (∃ b15 o16, t14a = some ⟨b15, o16, none⟩ ∧
 (0 : Int) ≤ i6 ∧ i6 < ((t14n : Nat) : Int) ∧ (RdI w8 b15 (o16 + Int.toNat i6) fun t17 => PA w8 (.cells #[.int .i64 t17] 3) fun w18 =>
 PRun Tryz.prog (Builtin.append_ #[37, 37] 37 #[.slice out5a out5n out5c, .slice (some ⟨w8.heap.size, 0, none⟩) 1 1]) w18 (fun v19 w20 => ∃ t21a t21n t21c, v19 = .slice t21a t21n t21c ∧
 (∃ m4, m4 < m3 ∧ I2 m4 t21a t21n t21c (IntKind.wrap .i64 (i6 + 1)) w20)) (PnV R)))))) (R (.returned (.slice out5a out5n out5c)) w8))))) :
 Calls Tryz.prog 70 #[.pointer l1] w R :=
 DC0 A_ref22_Log_Segments mixed Tryz.func70 rfl (by kernel_rfl) (Eq.mp (by kernel_rfl) h)
abbrev F_ref22_Log_Next : Nat := 71
theorem L_ref22_Log_Next {l1 : OA} {w : World} {R : RW}
 (h : (∃ b2 o3, l1 = some ⟨b2, o3, none⟩ ∧ (RdI w b2 (o3 + 4) fun t4 => R (.returned (.int .i64 t4)) w))) :
 Calls Tryz.prog 71 #[.pointer l1] w R :=
 DC0 ⟨[], [], [], [], []⟩ mixed Tryz.func71 rfl (by kernel_rfl) (Eq.mp (by kernel_rfl) h)
abbrev F_ref19_Disk_Room : Nat := 72
def A_ref19_Disk_Room : Ann := ⟨[(3, [(3, .int .i64 0), (4, .int .i64 0)])], [], [], [], []⟩
theorem L_ref19_Disk_Room {d1 : OA} {w : World} {R : RW}
 (h : (∃ b2 o3, d1 = some ⟨b2, o3, none⟩ ∧ (RdI w b2 o3 fun t4 => (∃ I5 : Nat → Int → Int → World → Prop, (∃ m6, I5 m6 t4 0 w) ∧
 ∀ (m6 : Nat) (n8 : Int) (i9 : Int) (B10 : Nat → Value) (w11 : World), I5 m6 n8 i9 w11 → (∃ b12 o13, d1 = some ⟨b12, o13, none⟩ ∧ (RdL w11 b12 (o13 + 2) fun t14a t14n t14c =>
 PIf (decide (i9 < ((t14n : Nat) : Int))) ((∃ b15 o16, d1 = some ⟨b15, o16, none⟩ ∧ (RdL w11 b15 (o16 + 2) fun t17a t17n t17c =>
 (∃ b18 o19, t17a = some ⟨b18, o19, none⟩ ∧ (0 : Int) ≤ i9 ∧ i9 < ((t17n : Nat) : Int) ∧ (RdL w11 b18 (o19 + Int.toNat i9 * 4 + 1) fun t20a t20n t20c =>
 (∃ m7, m7 < m6 ∧ I5 m7 (IntKind.wrap .i64 (n8 - ((t20n : Nat) : Int))) (IntKind.wrap .i64 (i9 + 1)) w11)))))) (R (.returned (.int .i64 n8)) w11))))))) :
 Calls Tryz.prog 72 #[.pointer d1] w R :=
 DC0 A_ref19_Disk_Room mixed Tryz.func72 rfl (by kernel_rfl) (Eq.mp (by kernel_rfl) h)
end Go.Proofs.YtpbpjojdfcdbbaaGreatDoor
