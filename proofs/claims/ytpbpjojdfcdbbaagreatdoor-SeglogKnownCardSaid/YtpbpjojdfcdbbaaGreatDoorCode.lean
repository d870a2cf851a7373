import Derived.Test.YtpbpjojdfcdbbaaGreatDoorCodeA
import Derived.Test.YtpbpjojdfcdbbaaGreatDoorLift
import Derived.Test.YtpbpjojdfcdbbaaGreatDoorRows
import Derived.KernelRfl
namespace Go.Proofs.YtpbpjojdfcdbbaaGreatDoor
open Go.Lift
set_option maxRecDepth 100000
set_option linter.unusedVariables false
abbrev F_vdisk_Disk_Delete : Nat := 76
theorem L_vdisk_Disk_Delete {d1 : OA} {name2 : ByteArray} {w : World} {R : RW}
 (h : PA w (.cells #[.pointer d1] 25) fun w3 => PA w3 (.cells #[.string name2] 9) fun w4 => (RdP w4 w.heap.size 0 fun t5 =>
 (RdT w4 w3.heap.size 0 fun t6 => PC Tryz.prog 97 #[.pointer t5, .string t6, .func (.func 117) #[] #[.pointer (some ⟨w.heap.size, 0, none⟩), .pointer (some ⟨w3.heap.size, 0, none⟩)]] w4 (fun v7 w8 =>
 ∃ t9, v7 = .int .i64 t9 ∧ R (.returned (.int .i64 t9)) w8) (PnC R)))) :
 Calls Tryz.prog 76 #[.pointer d1, .string name2] w R :=
 DC0 ⟨[], [], [], [], []⟩ mixed Tryz.func76 rfl (by kernel_rfl) (Eq.mp (by kernel_rfl) h)
theorem L_maps_Keys_map_string_vdisk_file_string_vdisk_file {m1 : Option Nat} {w : World} {R : RW}
 (h : PA w (.cells #[.map m1] 78) fun w2 => R (.returned (.func (.func 120) #[] #[.pointer (some ⟨w.heap.size, 0, none⟩)])) w2) :
 Calls Tryz.prog 78 #[.map m1] w R :=
 DC0 ⟨[], [], [], [], []⟩ mixed Tryz.func78 rfl (by kernel_rfl) (Eq.mp (by kernel_rfl) h)
abbrev F_vdisk_Disk_write : Nat := 79
def A_vdisk_Disk_write : Ann := ⟨[], [(4, [])], [], [], []⟩
theorem L_vdisk_Disk_write {d1 : OA} {f2g : FuncId} {f2i f2c : Array Value} {w : World} {R : RW}
 (h : (∃ J3 : World → Prop, ((∃ b4 o5, d1 = some ⟨b4, o5, none⟩ ∧ (RdB w b4 (o5 + 4) fun t6 => PIf t6 ((∃ b7 o8, d1 = some ⟨b7, o8, none⟩ ∧
 PS w ⟨b7, o8 + 4, none⟩ (.bool true) fun w9 => (∃ b10 o11, d1 = some ⟨b10, o11, none⟩ ∧ (RdB w9 b10 (o11 + 4) fun t12 =>
 PIf t12 (R (.returned (.int .i64 15)) w9) (J3  w9))))) ((∃ b13 o14, d1 = some ⟨b13, o14, none⟩ ∧ (RdB w b13 (o14 + 2) fun t15 =>
 PIf t15 ((∃ b16 o17, d1 = some ⟨b16, o17, none⟩ ∧ (RdI w b16 (o17 + 3) fun t18 => (∃ b19 o20, d1 = some ⟨b19, o20, none⟩ ∧
 PS w ⟨b19, o20 + 4, none⟩ (.bool (t18 == 0)) fun w21 => (∃ b22 o23, d1 = some ⟨b22, o23, none⟩ ∧ (RdB w21 b22 (o23 + 4) fun t24 =>
 PIf t24 (R (.returned (.int .i64 15)) w21) (J3  w21))))))) ((∃ b25 o26, d1 = some ⟨b25, o26, none⟩ ∧ PS w ⟨b25, o26 + 4, none⟩ (.bool false) fun w27 =>
 (∃ b28 o29, d1 = some ⟨b28, o29, none⟩ ∧ (RdB w27 b28 (o29 + 4) fun t30 => PIf t30 (R (.returned (.int .i64 15)) w27) (J3  w27))))))))))) ∧
 ∀  (B31 : Nat → Value) (w32 : World), J3  w32 → (∃ b33 o34, d1 = some ⟨b33, o34, none⟩ ∧ (RdB w32 b33 (o34 + 2) fun t35 =>
 PIf t35 ((∃ b36 o37, d1 = some ⟨b36, o37, none⟩ ∧ (RdI w32 b36 (o37 + 3) fun t38 => (∃ b39 o40, d1 = some ⟨b39, o40, none⟩ ∧
 PS w32 ⟨b39, o40 + 3, none⟩ (.int .i64 (IntKind.wrap .i64 (t38 - 1))) fun w41 => (∃ g44 fi45 ca46, (.func (.func f2g) f2i f2c : Value) = .func (.func g44) fi45 ca46 ∧
 enters Tryz.prog g44 = true ∧ PC Tryz.prog g44 (fi45 ++ #[] ++ ca46) w41 (fun v42 w43 => ∃ t47, v42 = .int .i64 t47 ∧ R (.returned (.int .i64 t47)) w43) (PnC R)))))) ((∃ g50 fi51 ca52, (.func (.func f2g) f2i f2c : Value) = .func (.func g50) fi51 ca52 ∧ enters Tryz.prog g50 = true ∧ PC Tryz.prog g50 (fi51 ++ #[] ++ ca52) w32 (fun v48 w49 =>
 ∃ t53, v48 = .int .i64 t53 ∧ R (.returned (.int .i64 t53)) w49) (PnC R))))))) :
 Calls Tryz.prog 79 #[.pointer d1, .func (.func f2g) f2i f2c] w R :=
 DC0 A_vdisk_Disk_write mixed Tryz.func79 rfl (by kernel_rfl) (Eq.mp (by kernel_rfl) h)
def A_vdisk_Disk_Create_1 : Ann := ⟨[], [], [7], [], []⟩
theorem L_vdisk_Disk_Create_1 {b1 o2 b3 o4 : Nat} {w : World} {R : RW}
 (h : (RdT w b1 o2 fun t5 => PC Tryz.prog 81 #[.string t5] w (fun v6 w7 => ∃ t8, v6 = .bool t8 ∧ PIf (!t8) (R (.returned (.int .i64 1)) w7) ((RdP w7 b3 o4 fun t10 =>
 (∃ b11 o12, t10 = some ⟨b11, o12, none⟩ ∧ (RdM w7 b11 (o12 + 1) fun t13 => (RdT w7 b1 o2 fun t14 =>
 (∃ t15, (∀ m, (Instr.lookup 78 (.map t13) (.string t14) false).run Tryz.prog (w7.drewN m) = .ok (.pointer t15) (w7.drewN m)) ∧ (∃ t16, (∀ m, (do eqGuard .neq 92 (.tmp 13) (.const (.pointer none)) (.pointer t15) (.pointer none); binOp .neq 92 (.pointer t15) (.pointer none)).run Tryz.prog (w7.drewN m) = .ok (.bool t16) (w7.drewN m)) ∧
 (∀ w9, Drew w7 w9 → PIf t16 (R (.returned (.int .i64 16)) w9) ((RdP w9 b3 o4 fun t17 => (∃ b18 o19, t17 = some ⟨b18, o19, none⟩ ∧
 (RdM w9 b18 (o19 + 1) fun t20 => PRun Tryz.prog (Builtin.len_ #[78] 3 #[.map t20]) w9 (fun v21 w22 => ∃ t23, v21 = .int .i64 t23 ∧
 PIf (decide (t23 ≥ 64)) (R (.returned (.int .i64 12)) w22) ((∀ w25, Drew w22 w25 → ∃ S26 : Nat → Prop, (¬ S26 b3 ∧ (RdP w25 b3 o4 fun t27 =>
 (∃ b28 o29, t27 = some ⟨b28, o29, none⟩ ∧ (¬ S26 b28 ∧ (RdM w25 b28 (o29 + 1) fun t30 => (¬ S26 b1 ∧ (RdT w25 b1 o2 fun t31 =>
 PA w25 (.cells #[.slice none 0 0, .int .i64 0, .bool false] 94) fun w32 => (Keep S26 w25 w32 ∧ PRunU Tryz.prog (Instr.mapUpdate 78 (.map t30) (.string t31) (.pointer (some ⟨w25.heap.size, 0, none⟩))) w32 (fun w33 =>
 (Keep S26 w32 w33 ∧ R (.returned (.int .i64 0)) w33)) (fun pv wpp => ∀ (_ : Base) (_ : Bnd), R (.panicked [{ v := pv, recovered := false }]) wpp)))))))))))) (PnV R)))))))))))))) (PnC R))) :
 Calls Tryz.prog 80 #[.pointer (some ⟨b1, o2, none⟩), .pointer (some ⟨b3, o4, none⟩)] w R :=
 DC0 A_vdisk_Disk_Create_1 mixed Tryz.func80 rfl (by kernel_rfl) (Eq.mp (by kernel_rfl) h)
abbrev F_vdisk_isName : Nat := 81
theorem L_vdisk_isName {s1 : ByteArray} {w : World} {R : RW}
 (h : PIf (!((ByteArray.toList s1) == (ByteArray.toList (⟨#[]⟩ : ByteArray)))) (PIf (decide ((((ByteArray.size s1 : Nat) : Int) : Int) ≤ 16)) (PC Tryz.prog 123 #[.string s1, .func (.func 121) #[] #[]] w (fun v2 w3 =>
 ∃ t4, v2 = .bool t4 ∧ R (.returned (.bool (!t4))) w3) (PnC R)) (R (.returned (.bool false)) w)) (R (.returned (.bool false)) w)) :
 Calls Tryz.prog 81 #[.string s1] w R :=
 DC0 ⟨[], [], [], [], []⟩ mixed Tryz.func81 rfl (by kernel_rfl) (Eq.mp (by kernel_rfl) h)
abbrev F_strings_CutPrefix : Nat := 83
theorem L_strings_CutPrefix {s1 prefix2 : ByteArray} {w : World} {R : RW}
 (h : PC Tryz.prog 126 #[.string s1, .string prefix2] w (fun v3 w4 => ∃ t5 t6, v3 = .tuple #[.string t5, .bool t6] ∧ R (.returned (.tuple #[.string t5, .bool t6])) w4) (PnC R)) :
 Calls Tryz.prog 83 #[.string s1, .string prefix2] w R :=
 DC0 ⟨[], [], [], [], []⟩ mixed Tryz.func83 rfl (by kernel_rfl) (Eq.mp (by kernel_rfl) h)
abbrev F_vdisk_Disk_Cut : Nat := 84
theorem L_vdisk_Disk_Cut {d1 : OA} {name2 : ByteArray} {n3 : Int} {w : World} {R : RW}
 (h : PA w (.cells #[.int .i64 n3] 3) fun w4 => PC Tryz.prog 97 #[.pointer d1, .string name2, .func (.func 127) #[] #[.pointer (some ⟨w.heap.size, 0, none⟩)]] w4 (fun v5 w6 =>
 ∃ t7, v5 = .int .i64 t7 ∧ R (.returned (.int .i64 t7)) w6) (PnC R)) :
 Calls Tryz.prog 84 #[.pointer d1, .string name2, .int .i64 n3] w R :=
 DC0 ⟨[], [], [], [], []⟩ mixed Tryz.func84 rfl (by kernel_rfl) (Eq.mp (by kernel_rfl) h)
theorem LD_seglog_Log_begin_1 {b1 o2 b3 o4 b5 o6 : Nat} {u : FrameMode} {w : World} {R : RW}
 (h : (RdI w b1 o2 fun t7 => PIf (t7 != 0) ((∀ w9, Drew w w9 → (RdP w9 b3 o4 fun t10 =>
 (∃ b11 o12, t10 = some ⟨b11, o12, none⟩ ∧ (RdP w9 b11 o12 fun t13 => (RdT w9 b5 o6 fun t14 =>
 PC Tryz.prog 76 #[.pointer t13, .string t14] w9 (fun v15 w16 => ∃ t17, v15 = .int .i64 t17 ∧ R (.returned (.tuple #[])) w16) (fun ch wpp => ∀ (_ : Base) (_ : Bnd), R (.panicked ch) wpp))))))) (R (.returned (.tuple #[])) w))) :
 CallsD Tryz.prog 85 #[.pointer (some ⟨b1, o2, none⟩), .pointer (some ⟨b3, o4, none⟩), .pointer (some ⟨b5, o6, none⟩)] u w fun e u' w' => u' = u ∧ R e w' :=
 D_callsD ⟨[], [], [], [], []⟩ mixed Tryz.func85 rfl (Nat.le_of_ble_eq_true (by kernel_rfl)) (by kernel_rfl) (Eq.mp (by kernel_rfl) h)
theorem LD_manifest_Write_1 {b1 o2 b3 o4 : Nat} {u : FrameMode} {w : World} {R : RW}
 (h : (RdI w b1 o2 fun t5 => PIf (t5 != 0) ((RdP w b3 o4 fun t6 =>
 PC Tryz.prog 87 #[.pointer t6] w (fun v7 w8 => ∃ t9, v7 = .int .i64 t9 ∧ R (.returned (.tuple #[])) w8) (PnC R))) (R (.returned (.tuple #[])) w))) :
 CallsD Tryz.prog 86 #[.pointer (some ⟨b1, o2, none⟩), .pointer (some ⟨b3, o4, none⟩)] u w fun e u' w' => u' = u ∧ R e w' :=
 D_callsD ⟨[], [], [], [], []⟩ mixed Tryz.func86 rfl (Nat.le_of_ble_eq_true (by kernel_rfl)) (by kernel_rfl) (Eq.mp (by kernel_rfl) h)
abbrev F_manifest_clean : Nat := 87
theorem L_manifest_clean {d1 : OA} {w : World} {R : RW}
 (h : PC Tryz.prog 38 #[.pointer d1] w (fun v2 w3 => ∃ t4a t4n t4c, v2 = .slice t4a t4n t4c ∧ PC Tryz.prog 128 #[.slice t4a t4n t4c, .string (⟨#[109, 97, 110, 105, 102, 101, 115, 116, 46, 116, 109, 112]⟩ : ByteArray)] w3 (fun v5 w6 =>
 ∃ t7, v5 = .bool t7 ∧ PIf t7 (PC Tryz.prog 76 #[.pointer d1, .string (⟨#[109, 97, 110, 105, 102, 101, 115, 116, 46, 116, 109, 112]⟩ : ByteArray)] w6 (fun v8 w9 =>
 ∃ t10, v8 = .int .i64 t10 ∧ R (.returned (.int .i64 t10)) w9) (PnC R)) (R (.returned (.int .i64 0)) w6)) (PnC R)) (PnC R)) :
 Calls Tryz.prog 87 #[.pointer d1] w R :=
 DC0 ⟨[], [], [], [], []⟩ mixed Tryz.func87 rfl (by kernel_rfl) (Eq.mp (by kernel_rfl) h)
theorem L_manifest_Write_2 {b1 o2 : Nat} {w : World} {R : RW}
 (h : (RdP w b1 o2 fun t3 => PC Tryz.prog 87 #[.pointer t3] w (fun v4 w5 => ∃ t6, v4 = .int .i64 t6 ∧ R (.returned (.int .i64 t6)) w5) (PnC R))) :
 Calls Tryz.prog 88 #[.pointer (some ⟨b1, o2, none⟩)] w R :=
 DC0 ⟨[], [], [], [], []⟩ mixed Tryz.func88 rfl (by kernel_rfl) (Eq.mp (by kernel_rfl) h)
theorem L_manifest_Write_3 {b1 o2 : Nat} {w : World} {R : RW}
 (h : (RdP w b1 o2 fun t3 => PC Tryz.prog 40 #[.pointer t3, .string (⟨#[109, 97, 110, 105, 102, 101, 115, 116, 46, 116, 109, 112]⟩ : ByteArray)] w (fun v4 w5 =>
 ∃ t6, v4 = .int .i64 t6 ∧ R (.returned (.int .i64 t6)) w5) (PnC R))) :
 Calls Tryz.prog 89 #[.pointer (some ⟨b1, o2, none⟩)] w R :=
 DC0 ⟨[], [], [], [], []⟩ mixed Tryz.func89 rfl (by kernel_rfl) (Eq.mp (by kernel_rfl) h)
def A_manifest_Write_4 : Ann := ⟨[], [], [1], [], []⟩
theorem L_manifest_Write_4 {b1 o2 b3 o4 : Nat} {w : World} {R : RW}
 (h : (∀ w6, Drew w w6 → ∃ S7 : Nat → Prop, (¬ S7 b1 ∧ (RdP w6 b1 o2 fun t8 => (RdL w6 b3 o4 fun t9a t9n t9c =>
 PC Tryz.prog 91 #[.agg #[.slice t9a t9n t9c]] w6 (fun v10 w11 => ∃ t12a t12n t12c, v10 = .slice t12a t12n t12c ∧ (Keep S7 w6 w11 ∧
 PC Tryz.prog 50 #[.pointer t8, .string (⟨#[109, 97, 110, 105, 102, 101, 115, 116, 46, 116, 109, 112]⟩ : ByteArray), .slice t12a t12n t12c] w11 (fun v13 w14 =>
 ∃ t15, v13 = .int .i64 t15 ∧ (Keep S7 w11 w14 ∧ R (.returned (.int .i64 t15)) w14)) (fun ch wpp => ∀ (_ : Base) (_ : Bnd), R (.panicked ch) wpp))) (fun ch wpp =>
 ∀ (_ : Base) (_ : Bnd), R (.panicked ch) wpp)))))) :
 Calls Tryz.prog 90 #[.pointer (some ⟨b1, o2, none⟩), .pointer (some ⟨b3, o4, none⟩)] w R :=
 DC0 A_manifest_Write_4 mixed Tryz.func90 rfl (by kernel_rfl) (Eq.mp (by kernel_rfl) h)
abbrev F_manifest_bytes : Nat := 91
def A_manifest_bytes : Ann := ⟨[(3, [(3, .slice none 0 0), (15, .int .i64 0)])], [], [], [], []⟩
theorem L_manifest_bytes {m2a : OA} {m2n m2c : Nat} {w : World} {R : RW}
 (h : PA w (.cells #[.slice m2a m2n m2c] 56) fun w3 => (RdL w3 w.heap.size 0 fun t4a t4n t4c =>
 PC Tryz.prog 129 #[.slice none 0 0, .int .i64 ((t4n : Nat) : Int)] w3 (fun v5 w6 => ∃ t7a t7n t7c, v5 = .slice t7a t7n t7c ∧
 (RdL w6 w.heap.size 0 fun t8a t8n t8c => (∃ I9 : Nat → OA → Nat → Nat → Int → World → Prop, (∃ m10, I9 m10 t7a t7n t7c 0 w6) ∧
 ∀ (m10 : Nat) (b12a : OA) (b12n : Nat) (b12c : Nat) (t13 : Int) (B14 : Nat → Value) (w15 : World), I9 m10 b12a b12n b12c t13 w15 → PIf (decide (t13 < ((t8n : Nat) : Int))) ((∃ b16 o17, t8a = some ⟨b16, o17, none⟩ ∧
 (0 : Int) ≤ t13 ∧ t13 < ((t8n : Nat) : Int) ∧ (RdI w15 b16 (o17 + Int.toNat t13) fun t18 => PC Tryz.prog 129 #[.slice b12a b12n b12c, .int .i64 t18] w15 (fun v19 w20 =>
 ∃ t21a t21n t21c, v19 = .slice t21a t21n t21c ∧ (∃ m11, m11 < m10 ∧ I9 m11 t21a t21n t21c (IntKind.wrap .i64 (t13 + 1)) w20)) (PnC R)))) (PC Tryz.prog 96 #[.agg #[.int .i64 2, .slice b12a b12n b12c]] w15 (fun v22 w23 => ∃ t24a t24n t24c t25, v22 = .tuple #[.slice t24a t24n t24c, .int .i64 t25] ∧
 R (.returned (.slice t24a t24n t24c)) w23) (PnC R))))) (PnC R))) :
 Calls Tryz.prog 91 #[.agg #[.slice m2a m2n m2c]] w R :=
 DC0 A_manifest_bytes mixed Tryz.func91 rfl (by kernel_rfl) (Eq.mp (by kernel_rfl) h)
theorem L_manifest_Write_5 {b1 o2 : Nat} {w : World} {R : RW}
 (h : (RdP w b1 o2 fun t3 => PC Tryz.prog 53 #[.pointer t3, .string (⟨#[109, 97, 110, 105, 102, 101, 115, 116, 46, 116, 109, 112]⟩ : ByteArray)] w (fun v4 w5 =>
 ∃ t6, v4 = .int .i64 t6 ∧ R (.returned (.int .i64 t6)) w5) (PnC R))) :
 Calls Tryz.prog 92 #[.pointer (some ⟨b1, o2, none⟩)] w R :=
 DC0 ⟨[], [], [], [], []⟩ mixed Tryz.func92 rfl (by kernel_rfl) (Eq.mp (by kernel_rfl) h)
theorem L_manifest_Write_6 {b1 o2 : Nat} {w : World} {R : RW}
 (h : (RdP w b1 o2 fun t3 => PC Tryz.prog 94 #[.pointer t3, .string (⟨#[109, 97, 110, 105, 102, 101, 115, 116, 46, 116, 109, 112]⟩ : ByteArray), .string (⟨#[109, 97, 110, 105, 102, 101, 115, 116]⟩ : ByteArray)] w (fun v4 w5 =>
 ∃ t6, v4 = .int .i64 t6 ∧ R (.returned (.int .i64 t6)) w5) (PnC R))) :
 Calls Tryz.prog 93 #[.pointer (some ⟨b1, o2, none⟩)] w R :=
 DC0 ⟨[], [], [], [], []⟩ mixed Tryz.func93 rfl (by kernel_rfl) (Eq.mp (by kernel_rfl) h)
abbrev F_vdisk_Disk_Rename : Nat := 94
theorem L_vdisk_Disk_Rename {d1 : OA} {from2 to3 : ByteArray} {w : World} {R : RW}
 (h : PA w (.cells #[.pointer d1] 25) fun w4 => PA w4 (.cells #[.string from2] 9) fun w5 => PA w5 (.cells #[.string to3] 9) fun w6 => (RdP w6 w.heap.size 0 fun t7 =>
 (RdT w6 w4.heap.size 0 fun t8 => PC Tryz.prog 97 #[.pointer t7, .string t8, .func (.func 130) #[] #[.pointer (some ⟨w5.heap.size, 0, none⟩), .pointer (some ⟨w.heap.size, 0, none⟩), .pointer (some ⟨w4.heap.size, 0, none⟩)]] w6 (fun v9 w10 =>
 ∃ t11, v9 = .int .i64 t11 ∧ R (.returned (.int .i64 t11)) w10) (PnC R)))) :
 Calls Tryz.prog 94 #[.pointer d1, .string from2, .string to3] w R :=
 DC0 ⟨[], [], [], [], []⟩ mixed Tryz.func94 rfl (by kernel_rfl) (Eq.mp (by kernel_rfl) h)
abbrev F_event_Put : Nat := 95
theorem L_event_Put {e2 e3 e4 e6 e7 e8 e9 e10 e11 : Int} {e5a : OA} {e5n e5c : Nat} {w : World} {R : RW}
 (h : PA w (.cells #[.int .i64 e2, .int .i64 e3, .int .i64 e4, .slice e5a e5n e5c, .int .i64 e6, .int .i64 e7, .int .i64 e8, .int .i64 e9, .int .i64 e10, .int .i64 e11] 39) fun w12 =>
 (RdL w12 w.heap.size (0 + 3) fun t13a t13n t13c => PIf (decide ((((t13n : Nat) : Int) : Int) > 64)) (R (.returned (.tuple #[.slice none 0 0, .int .i64 3])) w12) (PA w12 (.cells #[.slice none 0 0] 49) fun w14 =>
 (RdI w14 w.heap.size 0 fun t15 => (RdI w14 w.heap.size (0 + 1) fun t16 =>
 (RdI w14 w.heap.size (0 + 2) fun t17 => (RdL w14 w.heap.size (0 + 3) fun t18a t18n t18c =>
 PA w14 (.cells #[.int .i64 t15, .int .i64 t16, .int .i64 t17, .int .i64 ((t18n : Nat) : Int)] 3) fun w19 => (∃ g25 fi26 ca27, (.func (.func 131) #[] #[.pointer (some ⟨w12.heap.size, 0, none⟩)] : Value) = .func (.func g25) fi26 ca27 ∧
 enters Tryz.prog g25 = true ∧ PC Tryz.prog g25 (fi26 ++ #[.slice (some ⟨w14.heap.size, 0, none⟩) 4 4] ++ ca27) w19 (fun v20 w21 => v20 = .tuple #[] ∧ (RdL w21 w.heap.size (0 + 3) fun t28a t28n t28c =>
 (∃ g34 fi35 ca36, (.func (.func 131) #[] #[.pointer (some ⟨w12.heap.size, 0, none⟩)] : Value) = .func (.func g34) fi35 ca36 ∧ enters Tryz.prog g34 = true ∧
 PC Tryz.prog g34 (fi35 ++ #[.slice t28a t28n t28c] ++ ca36) w21 (fun v29 w30 => v29 = .tuple #[] ∧ (RdI w30 w.heap.size (0 + 4) fun t37 =>
 (RdI w30 w.heap.size (0 + 5) fun t38 => (RdI w30 w.heap.size (0 + 6) fun t39 =>
 (RdI w30 w.heap.size (0 + 7) fun t40 => (RdI w30 w.heap.size (0 + 8) fun t41 =>
 (RdI w30 w.heap.size (0 + 9) fun t42 => PA w30 (.cells #[.int .i64 t37, .int .i64 t38, .int .i64 t39, .int .i64 t40, .int .i64 t41, .int .i64 t42] 3) fun w43 =>
 (∃ g49 fi50 ca51, (.func (.func 131) #[] #[.pointer (some ⟨w12.heap.size, 0, none⟩)] : Value) = .func (.func g49) fi50 ca51 ∧ enters Tryz.prog g49 = true ∧
 PC Tryz.prog g49 (fi50 ++ #[.slice (some ⟨w30.heap.size, 0, none⟩) 6 6] ++ ca51) w43 (fun v44 w45 => v44 = .tuple #[] ∧ (RdL w45 w12.heap.size 0 fun t52a t52n t52c =>
 R (.returned (.tuple #[.slice t52a t52n t52c, .int .i64 0])) w45)) (PnC R))))))))) (PnC R)))) (PnC R))))))))) :
 Calls Tryz.prog 95 #[.agg #[.int .i64 e2, .int .i64 e3, .int .i64 e4, .slice e5a e5n e5c, .int .i64 e6, .int .i64 e7, .int .i64 e8, .int .i64 e9, .int .i64 e10, .int .i64 e11]] w R :=
 DC0 ⟨[], [], [], [], []⟩ mixed Tryz.func95 rfl (by kernel_rfl) (Eq.mp (by kernel_rfl) h)
abbrev F_frame_Put : Nat := 96
theorem L_frame_Put {f2 : Int} {f3a : OA} {f3n f3c : Nat} {w : World} {R : RW}
 (h : PA w (.cells #[.int .i64 f2, .slice f3a f3n f3c] 99) fun w4 => (RdL w4 w.heap.size (0 + 1) fun t5a t5n t5c =>
 (RdI w4 w.heap.size 0 fun t6 => PIf (decide (t6 < 1)) (R (.returned (.tuple #[.slice none 0 0, .int .i64 2])) w4) ((RdI w4 w.heap.size 0 fun t7 =>
 PIf (decide (t7 > 255)) (R (.returned (.tuple #[.slice none 0 0, .int .i64 2])) w4) (PIf (decide ((((t5n : Nat) : Int) : Int) > 65536)) (R (.returned (.tuple #[.slice none 0 0, .int .i64 5])) w4) ((RdI w4 w.heap.size 0 fun t8 =>
 PA w4 (.cells #[.int .u8 (IntKind.wrap .u8 t8), .int .u8 (IntKind.wrap .u8 (iShr .i64 ((t5n : Nat) : Int) 16)), .int .u8 (IntKind.wrap .u8 (iShr .i64 ((t5n : Nat) : Int) 8)), .int .u8 (IntKind.wrap .u8 ((t5n : Nat) : Int))] 5) fun w9 =>
 (RdL w9 w.heap.size (0 + 1) fun t10a t10n t10c => PA w9 (.cells #[.slice (some ⟨w4.heap.size, 0, none⟩) 4 4, .slice t10a t10n t10c] 49) fun w11 =>
 PC Tryz.prog 132 #[.slice (some ⟨w9.heap.size, 0, none⟩) 2 2] w11 (fun v12 w13 => ∃ t14a t14n t14c, v12 = .slice t14a t14n t14c ∧
 PC Tryz.prog 133 #[.slice t14a t14n t14c] w13 (fun v15 w16 => ∃ t17, v15 = .int .u32 t17 ∧ PA w16 (.cells #[.int .u8 (IntKind.wrap .u8 (iShr .u32 t17 24)), .int .u8 (IntKind.wrap .u8 (iShr .u32 t17 16)), .int .u8 (IntKind.wrap .u8 (iShr .u32 t17 8)), .int .u8 (IntKind.wrap .u8 t17), .int .u8 10] 5) fun w18 =>
 PRun Tryz.prog (Builtin.append_ #[49, 49] 49 #[.slice t14a t14n t14c, .slice (some ⟨w16.heap.size, 0, none⟩) 5 5]) w18 (fun v19 w20 => ∃ t21a t21n t21c, v19 = .slice t21a t21n t21c ∧
 R (.returned (.tuple #[.slice t21a t21n t21c, .int .i64 0])) w20) (PnV R)) (PnC R)) (PnC R)))))))))) :
 Calls Tryz.prog 96 #[.agg #[.int .i64 f2, .slice f3a f3n f3c]] w R :=
 DC0 ⟨[], [], [], [], []⟩ mixed Tryz.func96 rfl (by kernel_rfl) (Eq.mp (by kernel_rfl) h)
abbrev F_vdisk_Disk_on : Nat := 97
theorem L_vdisk_Disk_on {d1 : OA} {name2 : ByteArray} {f3g : FuncId} {f3i f3c : Array Value} {w : World} {R : RW}
 (h : PA w (.cells #[.pointer d1] 25) fun w4 => PA w4 (.cells #[.string name2] 9) fun w5 => PA w5 (.cells #[.func (.func f3g) f3i f3c] 133) fun w6 => (RdP w6 w.heap.size 0 fun t7 =>
 PC Tryz.prog 79 #[.pointer t7, .func (.func 134) #[] #[.pointer (some ⟨w.heap.size, 0, none⟩), .pointer (some ⟨w4.heap.size, 0, none⟩), .pointer (some ⟨w5.heap.size, 0, none⟩)]] w6 (fun v8 w9 =>
 ∃ t10, v8 = .int .i64 t10 ∧ R (.returned (.int .i64 t10)) w9) (PnC R))) :
 Calls Tryz.prog 97 #[.pointer d1, .string name2, .func (.func f3g) f3i f3c] w R :=
 DC0 ⟨[], [], [], [], []⟩ mixed Tryz.func97 rfl (by kernel_rfl) (Eq.mp (by kernel_rfl) h)
def A_vdisk_Disk_Append_1 : Ann := ⟨[], [], [1], [], [(3, ⟨[0, 0, 2, 4, 8, 0, 48, 127, 255, 383], [1023, 1023, 1021, 1019, 1015, 1023, 975, 1022, 895, 703], [0, 0, 0, 0, 1, 1, 2, 0, 0, 2]⟩)]⟩
theorem L_vdisk_Disk_Append_1 {f1 : OA} {b2 o3 b4 o5 : Nat} {w : World} {R : RW}
 (h : (∀ w7, Drew w w7 → ∃ S8 : Nat → Prop, (¬ S8 b2 ∧ (RdL w7 b2 o3 fun t9a t9n t9c =>
 (RdP w7 b4 o5 fun t10 => PC Tryz.prog 39 #[.pointer t10] w7 (fun v11 w12 => ∃ t13, v11 = .int .i64 t13 ∧
 (Keep S8 w7 w12 ∧ PIf (decide ((((t9n : Nat) : Int) : Int) > t13)) (R (.returned (.int .i64 12)) w12) ((∀ w15, Drew w12 w15 → (∃ b16 o17, f1 = some ⟨b16, o17, none⟩ ∧
 (RdL w15 b16 o17 fun t18a t18n t18c => (RdL w15 b2 o3 fun t19a t19n t19c =>
 PRun Tryz.prog (Builtin.append_ #[49, 49] 49 #[.slice t18a t18n t18c, .slice t19a t19n t19c]) w15 (fun v20 w21 => ∃ t22a t22n t22c, v20 = .slice t22a t22n t22c ∧
 (∃ b23 o24, f1 = some ⟨b23, o24, none⟩ ∧ PS w21 ⟨b23, o24, none⟩ (.slice t22a t22n t22c) fun w25 => R (.returned (.int .i64 0)) w25)) (fun pv wpp => ∀ (_ : Base) (_ : Bnd), R (.panicked [{ v := pv, recovered := false }]) wpp)))))))) (fun ch wpp =>
 ∀ (_ : Base) (_ : Bnd), R (.panicked ch) wpp)))))) :
 Calls Tryz.prog 98 #[.pointer f1, .pointer (some ⟨b2, o3, none⟩), .pointer (some ⟨b4, o5, none⟩)] w R :=
 DC0 A_vdisk_Disk_Append_1 mixed Tryz.func98 rfl (by kernel_rfl) (Eq.mp (by kernel_rfl) h)
theorem L_vdisk_Disk_Sync_1 {f1 : OA} {w : World} {R : RW}
 (h : (∃ b2 o3, f1 = some ⟨b2, o3, none⟩ ∧ (RdL w b2 o3 fun t4a t4n t4c => PC Tryz.prog 56 #[.pointer f1, .int .i64 ((t4n : Nat) : Int)] w (fun v5 w6 =>
 v5 = .tuple #[] ∧ R (.returned (.int .i64 0)) w6) (PnC R)))) :
 Calls Tryz.prog 99 #[.pointer f1] w R :=
 DC0 ⟨[], [], [], [], []⟩ mixed Tryz.func99 rfl (by kernel_rfl) (Eq.mp (by kernel_rfl) h)
abbrev F_kit_CopyInts : Nat := 100
def A_kit_CopyInts : Ann := ⟨[(3, [(3, .slice none 0 0), (4, .int .i64 0)])], [], [], [], []⟩
theorem L_kit_CopyInts {l1a : OA} {l1n l1c : Nat} {w : World} {R : RW}
 (h : (∃ I2 : Nat → OA → Nat → Nat → Int → World → Prop, (∃ m3, I2 m3 none 0 0 0 w) ∧ ∀ (m3 : Nat) (out5a : OA) (out5n : Nat) (out5c : Nat) (i6 : Int) (B7 : Nat → Value) (w8 : World), I2 m3 out5a out5n out5c i6 w8 → PIf (decide (i6 < ((l1n : Nat) : Int))) ((∃ b9 o10, l1a = some ⟨b9, o10, none⟩ ∧
 (0 : Int) ≤ i6 ∧ i6 < ((l1n : Nat) : Int) ∧ (RdI w8 b9 (o10 + Int.toNat i6) fun t11 => PA w8 (.cells #[.int .i64 t11] 3) fun w12 =>
 PRun Tryz.prog (Builtin.append_ #[37, 37] 37 #[.slice out5a out5n out5c, .slice (some ⟨w8.heap.size, 0, none⟩) 1 1]) w12 (fun v13 w14 => ∃ t15a t15n t15c, v13 = .slice t15a t15n t15c ∧
 (∃ m4, m4 < m3 ∧ I2 m4 t15a t15n t15c (IntKind.wrap .i64 (i6 + 1)) w14)) (PnV R)))) (R (.returned (.slice out5a out5n out5c)) w8))) :
 Calls Tryz.prog 100 #[.slice l1a l1n l1c] w R :=
 DC0 A_kit_CopyInts mixed Tryz.func100 rfl (by kernel_rfl) (Eq.mp (by kernel_rfl) h)
abbrev F_frame_wrong : Nat := 101
def A_frame_wrong : Ann := ⟨[], [], [], [], [(11, ⟨[0, 1, 0, 4, 10, 18, 48, 64, 192, 320, 576, 1088], [4095, 4094, 4095, 4091, 4087, 4077, 4063, 4031, 3903, 3775, 3519, 3007], [0, 2, 0, 0, 2, 0, 0, 0, 0, 1, 0, 0]⟩)]⟩
theorem L_frame_wrong {b1a : OA} {b1n b1c : Nat} {w : World} {R : RW}
 (h : PIf (decide ((((b1n : Nat) : Int) : Int) < 4)) (R (.returned (.tuple #[.int .i64 0, .int .i64 4])) w) (((0 : Int) ≤ 1 ∧ (1 : Int) ≤ 4 ∧ (4 : Int) ≤ ((b1c : Nat) : Int) ∧
 PC Tryz.prog 135 #[.slice (subA b1a (Int.toNat 1) b1c 1) (Int.toNat 4 - Int.toNat 1) (b1c - Int.toNat 1)] w (fun v2 w3 => ∃ t4, v2 = .int .u32 t4 ∧
 (∃ b5 o6, b1a = some ⟨b5, o6, none⟩ ∧ (0 : Int) ≤ 0 ∧ 0 < ((b1n : Nat) : Int) ∧ (∃ t7, w3.cell? ⟨b5, o6 + Int.toNat 0, none⟩ = some (.int .u8 t7) ∧
 PIf (t7 == 0) (R (.returned (.tuple #[.int .i64 0, .int .i64 2])) w3) (PIf (decide (((IntKind.wrap .i64 t4) : Int) > 65536)) (R (.returned (.tuple #[.int .i64 0, .int .i64 5])) w3) (PIf (decide ((((b1n : Nat) : Int) : Int) < (IntKind.wrap .i64 ((IntKind.wrap .i64 (4 + (IntKind.wrap .i64 t4))) + 5)))) (R (.returned (.tuple #[.int .i64 0, .int .i64 4])) w3) (((0 : Int) ≤ (IntKind.wrap .i64 (4 + (IntKind.wrap .i64 t4))) ∧
 ((IntKind.wrap .i64 (4 + (IntKind.wrap .i64 t4))) : Int) ≤ ((b1c : Nat) : Int) ∧ ((0 : Int) ≤ (IntKind.wrap .i64 (4 + (IntKind.wrap .i64 t4))) ∧ ((IntKind.wrap .i64 (4 + (IntKind.wrap .i64 t4))) : Int) ≤ (IntKind.wrap .i64 ((IntKind.wrap .i64 (4 + (IntKind.wrap .i64 t4))) + 5)) ∧
 ((IntKind.wrap .i64 ((IntKind.wrap .i64 (4 + (IntKind.wrap .i64 t4))) + 5)) : Int) ≤ ((b1c : Nat) : Int) ∧ (∀ w8, Drew w3 w8 → (∀ w10, Drew w8 w10 → ((0 : Int) ≤ 4 ∧
 (4 : Int) ≤ (((b1c - Int.toNat (IntKind.wrap .i64 (4 + (IntKind.wrap .i64 t4)))) : Nat) : Int) ∧ PC Tryz.prog 133 #[.slice b1a (Int.toNat (IntKind.wrap .i64 (4 + (IntKind.wrap .i64 t4)))) b1c] w10 (fun v11 w12 =>
 ∃ t13, v11 = .int .u32 t13 ∧ PC Tryz.prog 135 #[.slice (subA b1a (Int.toNat (IntKind.wrap .i64 (4 + (IntKind.wrap .i64 t4)))) b1c 1) (Int.toNat 4) (b1c - Int.toNat (IntKind.wrap .i64 (4 + (IntKind.wrap .i64 t4))))] w12 (fun v14 w15 =>
 ∃ t16, v14 = .int .u32 t16 ∧ PIf (t13 != t16) (R (.returned (.tuple #[.int .i64 0, .int .i64 6])) w15) ((∃ b17 o18, (subA b1a (Int.toNat (IntKind.wrap .i64 (4 + (IntKind.wrap .i64 t4)))) b1c 1) = some ⟨b17, o18, none⟩ ∧
 (0 : Int) ≤ 4 ∧ 4 < ((Int.toNat (IntKind.wrap .i64 ((IntKind.wrap .i64 (4 + (IntKind.wrap .i64 t4))) + 5)) - Int.toNat (IntKind.wrap .i64 (4 + (IntKind.wrap .i64 t4))) : Nat) : Int) ∧
 (∃ t19, w15.cell? ⟨b17, o18 + Int.toNat 4, none⟩ = some (.int .u8 t19) ∧ PIf (t19 != 10) (R (.returned (.tuple #[.int .i64 0, .int .i64 6])) w15) (R (.returned (.tuple #[.int .i64 (IntKind.wrap .i64 t4), .int .i64 0])) w15))))) (fun ch wpp =>
 ∀ (_ : Base) (_ : Bnd), R (.panicked ch) wpp)) (fun ch wpp => ∀ (_ : Base) (_ : Bnd), R (.panicked ch) wpp)))))))))))) (PnC R)))) :
 Calls Tryz.prog 101 #[.slice b1a b1n b1c] w R :=
 DC0 A_frame_wrong mixed Tryz.func101 rfl (by kernel_rfl) (Eq.mp (by kernel_rfl) h)
abbrev F_pack_Reader_reading : Nat := 102
theorem L_pack_Reader_reading {r1 : OA} {do2g : FuncId} {do2i do2c : Array Value} {w : World} {R : RW}
 (h : PA w (.cells #[.pointer r1] 102) fun w3 => (RdP w3 w.heap.size 0 fun t4 => (∃ b5 o6, t4 = some ⟨b5, o6, none⟩ ∧
 (RdI w3 b5 (o6 + 2) fun t7 => PIf (t7 != 0) (R (.returned (.tuple #[])) w3) ((RdP w3 w.heap.size 0 fun t8 =>
 (∃ b9 o10, t8 = some ⟨b9, o10, none⟩ ∧ (RdI w3 b9 (o10 + 1) fun t11 => PA w3 (.cells #[.int .i64 0] 3) fun w12 =>
 PS w12 ⟨w3.heap.size, 0, none⟩ (.int .i64 t11) fun w13 => (∃ g16 fi17 ca18, (.func (.func do2g) do2i do2c : Value) = .func (.func g16) fi17 ca18 ∧ enters Tryz.prog g16 = true ∧
 PC Tryz.prog g16 (fi17 ++ #[] ++ ca18) w13 (fun v14 w15 => v14 = .tuple #[] ∧ Lv Tryz.prog (fun w19 => R (.returned (.tuple #[])) w19) (PnC R) ([{ target := .fn (.func 136) #[.pointer (some ⟨w3.heap.size, 0, none⟩), .pointer (some ⟨w.heap.size, 0, none⟩)], args := #[] }] : List Deferred) .returning w15) (fun ch wpp =>
 Lv Tryz.prog (fun w20 => R (.returned (.tuple #[])) w20) (PnC R) ([{ target := .fn (.func 136) #[.pointer (some ⟨w3.heap.size, 0, none⟩), .pointer (some ⟨w.heap.size, 0, none⟩)], args := #[] }] : List Deferred) (.panicking ch) wpp)))))))))) :
 Calls Tryz.prog 102 #[.pointer r1, .func (.func do2g) do2i do2c] w R :=
 DC0 ⟨[], [], [], [], []⟩ mixed Tryz.func102 rfl (by kernel_rfl) (Eq.mp (by kernel_rfl) h)
theorem L_pack_Reader_Count_1 {b1 o2 b3 o4 b5 o6 : Nat} {w : World} {R : RW}
 (h : (RdP w b1 o2 fun t7 => (RdI w b3 o4 fun t8 => PC Tryz.prog 104 #[.pointer t7, .int .i64 t8] w (fun v9 w10 =>
 ∃ t11, v9 = .int .i64 t11 ∧ PS w10 ⟨b5, o6, none⟩ (.int .i64 t11) fun w12 => R (.returned (.tuple #[])) w12) (PnC R)))) :
 Calls Tryz.prog 103 #[.pointer (some ⟨b1, o2, none⟩), .pointer (some ⟨b3, o4, none⟩), .pointer (some ⟨b5, o6, none⟩)] w R :=
 DC0 ⟨[], [], [], [], []⟩ mixed Tryz.func103 rfl (by kernel_rfl) (Eq.mp (by kernel_rfl) h)
abbrev F_pack_Reader_count : Nat := 104
theorem L_pack_Reader_count {r1 : OA} {most2 : Int} {w : World} {R : RW}
 (h : PC Tryz.prog 106 #[.pointer r1] w (fun v3 w4 => ∃ t5, v3 = .int .i64 t5 ∧ PIf (decide (t5 ≥ 0)) (PC Tryz.prog 137 #[.bool (decide (t5 ≤ most2)), .int .i64 3] w4 (fun v6 w7 =>
 v6 = .tuple #[] ∧ R (.returned (.int .i64 t5)) w7) (PnC R)) (PC Tryz.prog 137 #[.bool false, .int .i64 3] w4 (fun v8 w9 => v8 = .tuple #[] ∧
 R (.returned (.int .i64 t5)) w9) (PnC R))) (PnC R)) :
 Calls Tryz.prog 104 #[.pointer r1, .int .i64 most2] w R :=
 DC0 ⟨[], [], [], [], []⟩ mixed Tryz.func104 rfl (by kernel_rfl) (Eq.mp (by kernel_rfl) h)
theorem L_pack_Reader_Int_1 {b1 o2 b3 o4 : Nat} {w : World} {R : RW}
 (h : (RdP w b1 o2 fun t5 => PC Tryz.prog 106 #[.pointer t5] w (fun v6 w7 => ∃ t8, v6 = .int .i64 t8 ∧
 PS w7 ⟨b3, o4, none⟩ (.int .i64 t8) fun w9 => R (.returned (.tuple #[])) w9) (PnC R))) :
 Calls Tryz.prog 105 #[.pointer (some ⟨b1, o2, none⟩), .pointer (some ⟨b3, o4, none⟩)] w R :=
 DC0 ⟨[], [], [], [], []⟩ mixed Tryz.func105 rfl (by kernel_rfl) (Eq.mp (by kernel_rfl) h)
abbrev F_pack_Reader_number : Nat := 106
def A_pack_Reader_number : Ann := ⟨[(8, [(6, .int .u64 0), (37, .int .i64 0)])], [(4, []), (6, [])], [], [], []⟩
theorem L_pack_Reader_number {r1 : OA} {w : World} {R : RW}
 (h : PC Tryz.prog 138 #[.pointer r1, .int .i64 1] w (fun v2 w3 => ∃ t4a t4n t4c, v2 = .slice t4a t4n t4c ∧ (∃ b5 o6, t4a = some ⟨b5, o6, none⟩ ∧
 (0 : Int) ≤ 0 ∧ 0 < ((t4n : Nat) : Int) ∧ (∃ t7, w3.cell? ⟨b5, o6 + Int.toNat 0, none⟩ = some (.int .u8 t7) ∧ (∃ J8 : World → Prop, (PIf (decide (((IntKind.wrap .i64 (iAndNot .u8 t7 16)) : Int) ≤ 8)) (PC Tryz.prog 137 #[.bool (t7 != 16), .int .i64 5] w3 (fun v9 w10 =>
 v9 = .tuple #[] ∧ J8  w10) (PnC R)) (PC Tryz.prog 137 #[.bool false, .int .i64 5] w3 (fun v11 w12 => v11 = .tuple #[] ∧ J8  w12) (PnC R))) ∧ ∀  (B13 : Nat → Value) (w14 : World), J8  w14 → PC Tryz.prog 138 #[.pointer r1, .int .i64 (IntKind.wrap .i64 (iAndNot .u8 t7 16))] w14 (fun v15 w16 =>
 ∃ t17a t17n t17c, v15 = .slice t17a t17n t17c ∧ (∃ J18 : World → Prop, (PIf (((IntKind.wrap .i64 (iAndNot .u8 t7 16)) : Int) == 0) (PC Tryz.prog 137 #[.bool true, .int .i64 5] w16 (fun v19 w20 =>
 v19 = .tuple #[] ∧ J18  w20) (PnC R)) ((∃ b21 o22, t17a = some ⟨b21, o22, none⟩ ∧ (0 : Int) ≤ 0 ∧ 0 < ((t17n : Nat) : Int) ∧ (∃ t23, w16.cell? ⟨b21, o22 + Int.toNat 0, none⟩ = some (.int .u8 t23) ∧
 PC Tryz.prog 137 #[.bool (t23 != 0), .int .i64 5] w16 (fun v24 w25 => v24 = .tuple #[] ∧ J18  w25) (PnC R))))) ∧ ∀  (B26 : Nat → Value) (w27 : World), J18  w27 → (∃ I28 : Nat → Int → Int → World → Prop, (∃ m29, I28 m29 0 0 w27) ∧
 ∀ (m29 : Nat) (u31 : Int) (t32 : Int) (B33 : Nat → Value) (w34 : World), I28 m29 u31 t32 w34 → PIf (decide (t32 < ((t17n : Nat) : Int))) ((∃ b35 o36, t17a = some ⟨b35, o36, none⟩ ∧
 (0 : Int) ≤ t32 ∧ t32 < ((t17n : Nat) : Int) ∧ (∃ t37, w34.cell? ⟨b35, o36 + Int.toNat t32, none⟩ = some (.int .u8 t37) ∧ (∃ m30, m30 < m29 ∧ I28 m30 (iOr .u64 (iShl .u64 u31 8) (IntKind.wrap .u64 t37)) (IntKind.wrap .i64 (t32 + 1)) w34)))) (PIf (((iAnd .u8 t7 16) : Int) == 0) (PC Tryz.prog 137 #[.bool (decide (u31 < 9223372036854775808)), .int .i64 5] w34 (fun v38 w39 =>
 v38 = .tuple #[] ∧ R (.returned (.int .i64 (IntKind.wrap .i64 u31))) w39) (PnC R)) (PC Tryz.prog 137 #[.bool (decide (u31 ≤ 9223372036854775808)), .int .i64 5] w34 (fun v40 w41 =>
 v40 = .tuple #[] ∧ R (.returned (.int .i64 (IntKind.wrap .i64 (IntKind.wrap .u64 (0 - u31))))) w41) (PnC R)))))) (PnC R))))) (PnC R)) :
 Calls Tryz.prog 106 #[.pointer r1] w R :=
 DC0 A_pack_Reader_number mixed Tryz.func106 rfl (by kernel_rfl) (Eq.mp (by kernel_rfl) h)
abbrev F_ref22_Open : Nat := 108
def A_ref22_Open : Ann := ⟨[(4, [(9, .int .i64 0)]), (12, [(14, .slice none 0 0), (15, .int .i64 0)]), (18, [(14, .slice none 0 0), (20, .int .i64 0)])], [(27, [(14, .slice none 0 0)]), (32, [(21, .int .i64 0)])], [21], [21], [(21, ⟨[0, 0, 2, 4, 8, 0, 32, 0, 192, 256, 512, 1040, 4095, 8191, 12287], [32767, 32767, 32765, 32763, 32759, 32767, 32735, 32767, 32575, 32511, 32255, 31727, 32766, 28671, 22527], [0, 0, 0, 0, 1, 0, 1, 0, 0, 1, 2, 2, 0, 0, 2]⟩)]⟩
theorem L_ref22_Open {d1 : OA} {size2 : Int} {w : World} {R : RW}
 (h : PA w (.cells #[.pointer d1, .int .i64 size2, .slice none 0 0, .int .i64 0, .int .i64 1] 149) fun w3 => PC Tryz.prog 140 #[.pointer d1] w3 (fun v4 w5 =>
 ∃ t6a t6n t6c, v4 = .slice t6a t6n t6c ∧ (∃ I7 : Nat → Int → World → Prop, (∃ m8, I7 m8 0 w5) ∧ ∀ (m8 : Nat) (i10 : Int) (B11 : Nat → Value) (w12 : World), I7 m8 i10 w12 → PIf (decide (i10 < ((t6n : Nat) : Int))) ((∃ b13 o14, t6a = some ⟨b13, o14, none⟩ ∧
 (0 : Int) ≤ i10 ∧ i10 < ((t6n : Nat) : Int) ∧ (RdT w12 b13 (o14 + Int.toNat i10) fun t15 => PC Tryz.prog 141 #[.string t15] w12 (fun v16 w17 =>
 ∃ t18 t19, v16 = .tuple #[.int .i64 t18, .bool t19] ∧ PIf t19 ((∃ b20 o21, ((some ⟨w.heap.size, 0, none⟩) : OA) = some ⟨b20, o21, none⟩ ∧
 (RdI w17 b20 (o21 + 4) fun t22 => PIf (decide (t18 ≥ t22)) ((∃ b23 o24, ((some ⟨w.heap.size, 0, none⟩) : OA) = some ⟨b23, o24, none⟩ ∧
 PS w17 ⟨b23, o24 + 4, none⟩ (.int .i64 (IntKind.wrap .i64 (t18 + 1))) fun w25 => (∃ m9, m9 < m8 ∧ I7 m9 (IntKind.wrap .i64 (i10 + 1)) w25))) ((∃ m9, m9 < m8 ∧
 I7 m9 (IntKind.wrap .i64 (i10 + 1)) w17))))) ((∃ m9, m9 < m8 ∧ I7 m9 (IntKind.wrap .i64 (i10 + 1)) w17))) (PnC R)))) (PC Tryz.prog 142 #[.pointer d1] w12 (fun v26 w27 =>
 ∃ t28a t28n t28c t29, v26 = .tuple #[.agg #[.slice t28a t28n t28c], .bool t29] ∧ PA w27 (.cells #[.slice none 0 0] 56) fun w30 =>
 PS w30 ⟨w27.heap.size, 0, none⟩ (.slice t28a t28n t28c) fun w31 => (∃ J32 : OA → Nat → Nat → World → Prop, ((∃ I33 : Nat → OA → Nat → Nat → Int → World → Prop, (∃ m34, I33 m34 none 0 0 0 w31) ∧
 ∀ (m34 : Nat) (out36a : OA) (out36n : Nat) (out36c : Nat) (i37 : Int) (B38 : Nat → Value) (w39 : World), I33 m34 out36a out36n out36c i37 w39 → (RdL w39 w27.heap.size 0 fun t40a t40n t40c =>
 PIf (decide (i37 < ((t40n : Nat) : Int))) ((RdL w39 w27.heap.size 0 fun t41a t41n t41c =>
 (∃ b42 o43, t41a = some ⟨b42, o43, none⟩ ∧ (0 : Int) ≤ i37 ∧ i37 < ((t41n : Nat) : Int) ∧ (RdI w39 b42 (o43 + Int.toNat i37) fun t44 =>
 PC Tryz.prog 144 #[.int .i64 t44] w39 (fun v45 w46 => ∃ t47, v45 = .string t47 ∧ PC Tryz.prog 143 #[.pointer d1, .string t47] w46 (fun v48 w49 =>
 ∃ t50a t50n t50c t51, v48 = .tuple #[.slice t50a t50n t50c, .int .i64 t51] ∧ PIf (t51 != 0) (J32 out36a out36n out36c w49) ((RdL w49 w27.heap.size 0 fun t52a t52n t52c =>
 (∃ b53 o54, t52a = some ⟨b53, o54, none⟩ ∧ (0 : Int) ≤ i37 ∧ i37 < ((t52n : Nat) : Int) ∧ (RdI w49 b53 (o54 + Int.toNat i37) fun t55 =>
 PC Tryz.prog 145 #[.pointer d1, .int .i64 t55] w49 (fun v56 w57 => ∃ t58a t58n t58c t59, v56 = .tuple #[.slice t58a t58n t58c, .int .i64 t59] ∧
 (∃ I60 : Nat → OA → Nat → Nat → Int → World → Prop, (∃ m61, I60 m61 out36a out36n out36c 0 w57) ∧ ∀ (m61 : Nat) (out63a : OA) (out63n : Nat) (out63c : Nat) (k64 : Int) (B65 : Nat → Value) (w66 : World), I60 m61 out63a out63n out63c k64 w66 → PIf (decide (k64 < ((t58n : Nat) : Int))) ((∃ b67 o68, t58a = some ⟨b67, o68, none⟩ ∧
 (0 : Int) ≤ k64 ∧ k64 < ((t58n : Nat) : Int) ∧ (∃ t69 t70 t71 t72a t72n t72c t73 t74 t75 t76 t77 t78, w66.cell? ⟨b67, o68 + Int.toNat k64 * 10, none⟩ = some (.int .i64 t69) ∧
 w66.cell? ⟨b67, o68 + Int.toNat k64 * 10 + 1, none⟩ = some (.int .i64 t70) ∧ w66.cell? ⟨b67, o68 + Int.toNat k64 * 10 + 2, none⟩ = some (.int .i64 t71) ∧
 w66.cell? ⟨b67, o68 + Int.toNat k64 * 10 + 3, none⟩ = some (.slice t72a t72n t72c) ∧ w66.cell? ⟨b67, o68 + Int.toNat k64 * 10 + 4, none⟩ = some (.int .i64 t73) ∧
 w66.cell? ⟨b67, o68 + Int.toNat k64 * 10 + 5, none⟩ = some (.int .i64 t74) ∧ w66.cell? ⟨b67, o68 + Int.toNat k64 * 10 + 6, none⟩ = some (.int .i64 t75) ∧
 w66.cell? ⟨b67, o68 + Int.toNat k64 * 10 + 7, none⟩ = some (.int .i64 t76) ∧ w66.cell? ⟨b67, o68 + Int.toNat k64 * 10 + 8, none⟩ = some (.int .i64 t77) ∧
 w66.cell? ⟨b67, o68 + Int.toNat k64 * 10 + 9, none⟩ = some (.int .i64 t78) ∧ PA w66 (.cells #[.int .i64 t69, .int .i64 t70, .int .i64 t71, .slice t72a t72n t72c, .int .i64 t73, .int .i64 t74, .int .i64 t75, .int .i64 t76, .int .i64 t77, .int .i64 t78] 39) fun w79 =>
 PRun Tryz.prog (Builtin.append_ #[22, 22] 22 #[.slice out63a out63n out63c, .slice (some ⟨w66.heap.size, 0, none⟩) 1 1]) w79 (fun v80 w81 => ∃ t82a t82n t82c, v80 = .slice t82a t82n t82c ∧
 (∃ m62, m62 < m61 ∧ I60 m62 t82a t82n t82c (IntKind.wrap .i64 (k64 + 1)) w81)) (PnV R)))) ((∀ w84, Drew w66 w84 → ∃ S85 : Nat → Prop, (∃ b86 o87, ((some ⟨w.heap.size, 0, none⟩) : OA) = some ⟨b86, o87, none⟩ ∧
 (¬ S85 b86 ∧ (RdL w84 b86 (o87 + 2) fun t88a t88n t88c => (RdL w84 w27.heap.size 0 fun t89a t89n t89c =>
 (∃ b90 o91, t89a = some ⟨b90, o91, none⟩ ∧ (0 : Int) ≤ i37 ∧ i37 < ((t89n : Nat) : Int) ∧ (RdI w84 b90 (o91 + Int.toNat i37) fun t92 =>
 PA w84 (.cells #[.int .i64 t92] 3) fun w93 => (Keep S85 w84 w93 ∧ PRun Tryz.prog (Builtin.append_ #[37, 37] 37 #[.slice t88a t88n t88c, .slice (some ⟨w84.heap.size, 0, none⟩) 1 1]) w93 (fun v94 w95 =>
 ∃ t96a t96n t96c, v94 = .slice t96a t96n t96c ∧ (∃ b97 o98, ((some ⟨w.heap.size, 0, none⟩) : OA) = some ⟨b97, o98, none⟩ ∧
 PS w95 ⟨b97, o98 + 2, none⟩ (.slice t96a t96n t96c) fun w99 => (∃ b100 o101, ((some ⟨w.heap.size, 0, none⟩) : OA) = some ⟨b100, o101, none⟩ ∧
 PS w99 ⟨b100, o101 + 3, none⟩ (.int .i64 t59) fun w102 => PIf (decide (t59 < ((t50n : Nat) : Int))) ((RdL w102 w27.heap.size 0 fun t103a t103n t103c =>
 (∃ b104 o105, t103a = some ⟨b104, o105, none⟩ ∧ (0 : Int) ≤ i37 ∧ i37 < ((t103n : Nat) : Int) ∧ (RdI w102 b104 (o105 + Int.toNat i37) fun t106 =>
 PC Tryz.prog 144 #[.int .i64 t106] w102 (fun v107 w108 => ∃ t109, v107 = .string t109 ∧ PC Tryz.prog 146 #[.pointer d1, .string t109, .int .i64 t59] w108 (fun v110 w111 =>
 ∃ t112, v110 = .int .i64 t112 ∧ PIf (t112 != 0) (R (.returned (.tuple #[.pointer none, .slice none 0 0, .int .i64 t112])) w111) (J32 out63a out63n out63c w111)) (PnC R)) (PnC R))))) ((∃ m35, m35 < m34 ∧ I33 m35 out63a out63n out63c (IntKind.wrap .i64 (i37 + 1)) w102))))) (fun pv wpp =>
 ∀ (_ : Base) (_ : Bnd), R (.panicked [{ v := pv, recovered := false }]) wpp)))))))))))) (PnC R)))))) (PnC R)) (PnC R))))) (J32 out36a out36n out36c w39)))) ∧ ∀ (out113a : OA) (out113n : Nat) (out113c : Nat) (B114 : Nat → Value) (w115 : World), J32 out113a out113n out113c w115 → (∃ J116 : Int → World → Prop, ((∃ b117 o118, ((some ⟨w.heap.size, 0, none⟩) : OA) = some ⟨b117, o118, none⟩ ∧
 (RdL w115 b117 (o118 + 2) fun t119a t119n t119c => PIf ((((t119n : Nat) : Int) : Int) == 0) (PC Tryz.prog 147 #[.pointer (some ⟨w.heap.size, 0, none⟩)] w115 (fun v120 w121 =>
 ∃ t122, v120 = .int .i64 t122 ∧ J116 t122 w121) (PnC R)) ((∃ b124 o125, ((some ⟨w.heap.size, 0, none⟩) : OA) = some ⟨b124, o125, none⟩ ∧
 (RdL w115 b124 (o125 + 2) fun t126a t126n t126c => (RdL w115 w27.heap.size 0 fun t127a t127n t127c =>
 (∀ w123, Drew w115 w123 → PIf (decide ((((t126n : Nat) : Int) : Int) < ((t127n : Nat) : Int))) ((∃ b128 o129, ((some ⟨w.heap.size, 0, none⟩) : OA) = some ⟨b128, o129, none⟩ ∧
 (RdL w123 b128 (o129 + 2) fun t130a t130n t130c => PC Tryz.prog 148 #[.pointer d1, .agg #[.slice t130a t130n t130c]] w123 (fun v131 w132 =>
 ∃ t133, v131 = .int .i64 t133 ∧ J116 t133 w132) (PnC R)))) (J116 0 w123))))))))) ∧ ∀ (no134 : Int) (B135 : Nat → Value) (w136 : World), J116 no134 w136 → PIf (no134 != 0) (R (.returned (.tuple #[.pointer none, .slice none 0 0, .int .i64 no134])) w136) (R (.returned (.tuple #[.pointer (some ⟨w.heap.size, 0, none⟩), .slice out113a out113n out113c, .int .i64 0])) w136)))) (PnC R)))) (PnC R)) :
 Calls Tryz.prog 108 #[.pointer d1, .int .i64 size2] w R :=
 DC0 A_ref22_Open mixed Tryz.func108 rfl (by kernel_rfl) (Eq.mp (by kernel_rfl) h)
abbrev F_kit_SpoilEvents : Nat := 109
def A_kit_SpoilEvents : Ann := ⟨[(1, [(2, .int .i64 0)])], [], [], [], []⟩
theorem L_kit_SpoilEvents {l1a : OA} {l1n l1c : Nat} {w : World} {R : RW}
 (h : (∃ I2 : Nat → Int → World → Prop, (∃ m3, I2 m3 0 w) ∧ ∀ (m3 : Nat) (i5 : Int) (B6 : Nat → Value) (w7 : World), I2 m3 i5 w7 → PIf (decide (i5 < ((l1n : Nat) : Int))) ((∃ b8 o9, l1a = some ⟨b8, o9, none⟩ ∧
 (0 : Int) ≤ i5 ∧ i5 < ((l1n : Nat) : Int) ∧ (RdL w7 b8 (o9 + Int.toNat i5 * 10 + 3) fun t10a t10n t10c =>
 PC Tryz.prog 149 #[.slice t10a t10n t10c] w7 (fun v11 w12 => v11 = .tuple #[] ∧ (∃ b13 o14, l1a = some ⟨b13, o14, none⟩ ∧ (0 : Int) ≤ i5 ∧ i5 < ((l1n : Nat) : Int) ∧
 PS w12 ⟨b13, o14 + Int.toNat i5 * 10 + 2, none⟩ (.int .i64 77) fun w15 => (∃ b16 o17, l1a = some ⟨b16, o17, none⟩ ∧ (0 : Int) ≤ i5 ∧ i5 < ((l1n : Nat) : Int) ∧
 PS w15 ⟨b16, o17 + Int.toNat i5 * 10 + 8, none⟩ (.int .i64 (-7)) fun w18 => (∃ m4, m4 < m3 ∧ I2 m4 (IntKind.wrap .i64 (i5 + 1)) w18)))) (PnC R)))) (R (.returned (.tuple #[])) w7))) :
 Calls Tryz.prog 109 #[.slice l1a l1n l1c] w R :=
 DC0 A_kit_SpoilEvents mixed Tryz.func109 rfl (by kernel_rfl) (Eq.mp (by kernel_rfl) h)
abbrev F_ref19_Disk_Crash : Nat := 110
def A_ref19_Disk_Crash : Ann := ⟨[(2, [(4, .slice none 0 0), (5, .int .i64 0)])], [], [], [], []⟩
theorem L_ref19_Disk_Crash {d1 : OA} {keep2 : Int} {w : World} {R : RW}
 (h : (∃ I3 : Nat → OA → Nat → Nat → Int → World → Prop, (∃ m4, I3 m4 none 0 0 0 w) ∧ ∀ (m4 : Nat) (out6a : OA) (out6n : Nat) (out6c : Nat) (i7 : Int) (B8 : Nat → Value) (w9 : World), I3 m4 out6a out6n out6c i7 w9 → (∃ b10 o11, d1 = some ⟨b10, o11, none⟩ ∧
 (RdL w9 b10 (o11 + 2) fun t12a t12n t12c => PIf (decide (i7 < ((t12n : Nat) : Int))) ((∃ b13 o14, d1 = some ⟨b13, o14, none⟩ ∧
 (RdL w9 b13 (o14 + 2) fun t15a t15n t15c => (∃ b16 o17, t15a = some ⟨b16, o17, none⟩ ∧
 (0 : Int) ≤ i7 ∧ i7 < ((t15n : Nat) : Int) ∧ (∃ t18 t19a t19n t19c t20 t21, w9.cell? ⟨b16, o17 + Int.toNat i7 * 4, none⟩ = some (.string t18) ∧
 w9.cell? ⟨b16, o17 + Int.toNat i7 * 4 + 1, none⟩ = some (.slice t19a t19n t19c) ∧ w9.cell? ⟨b16, o17 + Int.toNat i7 * 4 + 2, none⟩ = some (.int .i64 t20) ∧
 w9.cell? ⟨b16, o17 + Int.toNat i7 * 4 + 3, none⟩ = some (.bool t21) ∧ PA w9 (.cells #[.string (⟨#[]⟩ : ByteArray), .slice none 0 0, .int .i64 0, .bool false] 151) fun w22 =>
 PS w22 ⟨w9.heap.size, 0, none⟩ (.string t18) fun w23 => PS w23 ⟨w9.heap.size, 0 + 1, none⟩ (.slice t19a t19n t19c) fun w24 => PS w24 ⟨w9.heap.size, 0 + 2, none⟩ (.int .i64 t20) fun w25 =>
 PS w25 ⟨w9.heap.size, 0 + 3, none⟩ (.bool t21) fun w26 => (RdB w26 w9.heap.size (0 + 3) fun t27 => PIf t27 ((RdL w26 w9.heap.size (0 + 1) fun t28a t28n t28c =>
 (RdI w26 w9.heap.size (0 + 2) fun t29 => (RdL w26 w9.heap.size (0 + 1) fun t30a t30n t30c =>
 (RdI w26 w9.heap.size (0 + 2) fun t31 => ((0 : Int) ≤ (IntKind.wrap .i64 (t29 + (if (if (IntKind.wrap .i64 (((t30n : Nat) : Int) - t31)) < keep2 then (IntKind.wrap .i64 (((t30n : Nat) : Int) - t31)) else keep2) > 0 then (if (IntKind.wrap .i64 (((t30n : Nat) : Int) - t31)) < keep2 then (IntKind.wrap .i64 (((t30n : Nat) : Int) - t31)) else keep2) else 0))) ∧
 ((IntKind.wrap .i64 (t29 + (if (if (IntKind.wrap .i64 (((t30n : Nat) : Int) - t31)) < keep2 then (IntKind.wrap .i64 (((t30n : Nat) : Int) - t31)) else keep2) > 0 then (if (IntKind.wrap .i64 (((t30n : Nat) : Int) - t31)) < keep2 then (IntKind.wrap .i64 (((t30n : Nat) : Int) - t31)) else keep2) else 0))) : Int) ≤ ((t28c : Nat) : Int) ∧
 PC Tryz.prog 150 #[.slice t28a (Int.toNat (IntKind.wrap .i64 (t29 + (if (if (IntKind.wrap .i64 (((t30n : Nat) : Int) - t31)) < keep2 then (IntKind.wrap .i64 (((t30n : Nat) : Int) - t31)) else keep2) > 0 then (if (IntKind.wrap .i64 (((t30n : Nat) : Int) - t31)) < keep2 then (IntKind.wrap .i64 (((t30n : Nat) : Int) - t31)) else keep2) else 0)))) t28c] w26 (fun v32 w33 =>
 ∃ t34a t34n t34c, v32 = .slice t34a t34n t34c ∧ PS w33 ⟨w9.heap.size, 0 + 1, none⟩ (.slice t34a t34n t34c) fun w35 => (RdL w35 w9.heap.size (0 + 1) fun t36a t36n t36c =>
 PS w35 ⟨w9.heap.size, 0 + 2, none⟩ (.int .i64 ((t36n : Nat) : Int)) fun w37 => (∃ t38 t39a t39n t39c t40 t41, w37.cell? ⟨w9.heap.size, 0, none⟩ = some (.string t38) ∧
 w37.cell? ⟨w9.heap.size, 0 + 1, none⟩ = some (.slice t39a t39n t39c) ∧ w37.cell? ⟨w9.heap.size, 0 + 2, none⟩ = some (.int .i64 t40) ∧ w37.cell? ⟨w9.heap.size, 0 + 3, none⟩ = some (.bool t41) ∧
 PA w37 (.cells #[.string t38, .slice t39a t39n t39c, .int .i64 t40, .bool t41] 151) fun w42 => PRun Tryz.prog (Builtin.append_ #[141, 141] 141 #[.slice out6a out6n out6c, .slice (some ⟨w37.heap.size, 0, none⟩) 1 1]) w42 (fun v43 w44 =>
 ∃ t45a t45n t45c, v43 = .slice t45a t45n t45c ∧ (∃ m5, m5 < m4 ∧ I3 m5 t45a t45n t45c (IntKind.wrap .i64 (i7 + 1)) w44)) (PnV R)))) (PnC R))))))) ((∃ m5, m5 < m4 ∧ I3 m5 out6a out6n out6c (IntKind.wrap .i64 (i7 + 1)) w26)))))))) ((∃ b46 o47, d1 = some ⟨b46, o47, none⟩ ∧
 PS w9 ⟨b46, o47 + 2, none⟩ (.slice out6a out6n out6c) fun w48 => (∃ b49 o50, d1 = some ⟨b49, o50, none⟩ ∧ PS w48 ⟨b49, o50 + 1, none⟩ (.int .i64 (-1)) fun w51 =>
 (∃ b52 o53, d1 = some ⟨b52, o53, none⟩ ∧ PS w51 ⟨b52, o53 + 3, none⟩ (.bool false) fun w54 => R (.returned (.tuple #[])) w54)))))))) :
 Calls Tryz.prog 110 #[.pointer d1, .int .i64 keep2] w R :=
 DC0 A_ref19_Disk_Crash mixed Tryz.func110 rfl (by kernel_rfl) (Eq.mp (by kernel_rfl) h)
abbrev F_ref19_Disk_Fuse : Nat := 111
theorem L_ref19_Disk_Fuse {d1 : OA} {n2 : Int} {w : World} {R : RW}
 (h : (∃ b3 o4, d1 = some ⟨b3, o4, none⟩ ∧ PS w ⟨b3, o4 + 1, none⟩ (.int .i64 (if n2 > 0 then n2 else 0)) fun w5 => R (.returned (.tuple #[])) w5)) :
 Calls Tryz.prog 111 #[.pointer d1, .int .i64 n2] w R :=
 DC0 ⟨[], [], [], [], []⟩ mixed Tryz.func111 rfl (by kernel_rfl) (Eq.mp (by kernel_rfl) h)
abbrev F_ref22_Log_Append : Nat := 112
def A_ref22_Log_Append : Ann := ⟨[(5, [(5, .slice none 0 0), (6, .int .i64 0)]), (11, [(5, .slice none 0 0), (9, .int .i64 0)])], [(18, [])], [18], [], [(18, ⟨[0, 1, 2, 4, 0, 16, 32, 64, 0, 256, 512, 1024, 2048, 4096, 8320, 16384, 32768, 0, 196616, 524287], [1048575, 1048574, 1048573, 1048571, 1048575, 1048559, 1048543, 1048511, 1048575, 1048319, 1048063, 1047551, 1046527, 1044479, 1040255, 1032191, 1015807, 1048575, 851959, 786431], [0, 0, 0, 1, 0, 0, 0, 1, 0, 0, 0, 1, 0, 0, 0, 1, 2, 0, 2, 0]⟩)]⟩
theorem L_ref22_Log_Append {l1 events2a : OA} {events2n events2c : Nat} {w : World} {R : RW}
 (h : PIf ((((events2n : Nat) : Int) : Int) == 0) (R (.returned (.int .i64 0)) w) ((∃ I3 : Nat → OA → Nat → Nat → Int → World → Prop, (∃ m4, I3 m4 none 0 0 0 w) ∧
 ∀ (m4 : Nat) (all6a : OA) (all6n : Nat) (all6c : Nat) (i7 : Int) (B8 : Nat → Value) (w9 : World), I3 m4 all6a all6n all6c i7 w9 → PIf (decide (i7 < ((events2n : Nat) : Int))) ((∃ b10 o11, events2a = some ⟨b10, o11, none⟩ ∧
 (0 : Int) ≤ i7 ∧ i7 < ((events2n : Nat) : Int) ∧ (∃ t12 t13 t14 t15a t15n t15c t16 t17 t18 t19 t20 t21, w9.cell? ⟨b10, o11 + Int.toNat i7 * 10, none⟩ = some (.int .i64 t12) ∧
 w9.cell? ⟨b10, o11 + Int.toNat i7 * 10 + 1, none⟩ = some (.int .i64 t13) ∧ w9.cell? ⟨b10, o11 + Int.toNat i7 * 10 + 2, none⟩ = some (.int .i64 t14) ∧ w9.cell? ⟨b10, o11 + Int.toNat i7 * 10 + 3, none⟩ = some (.slice t15a t15n t15c) ∧
 w9.cell? ⟨b10, o11 + Int.toNat i7 * 10 + 4, none⟩ = some (.int .i64 t16) ∧ w9.cell? ⟨b10, o11 + Int.toNat i7 * 10 + 5, none⟩ = some (.int .i64 t17) ∧ w9.cell? ⟨b10, o11 + Int.toNat i7 * 10 + 6, none⟩ = some (.int .i64 t18) ∧
 w9.cell? ⟨b10, o11 + Int.toNat i7 * 10 + 7, none⟩ = some (.int .i64 t19) ∧ w9.cell? ⟨b10, o11 + Int.toNat i7 * 10 + 8, none⟩ = some (.int .i64 t20) ∧ w9.cell? ⟨b10, o11 + Int.toNat i7 * 10 + 9, none⟩ = some (.int .i64 t21) ∧
 PC Tryz.prog 151 #[.agg #[.int .i64 t12, .int .i64 t13, .int .i64 t14, .slice t15a t15n t15c, .int .i64 t16, .int .i64 t17, .int .i64 t18, .int .i64 t19, .int .i64 t20, .int .i64 t21]] w9 (fun v22 w23 =>
 ∃ t24a t24n t24c t25, v22 = .tuple #[.slice t24a t24n t24c, .int .i64 t25] ∧ PIf (t25 != 0) (R (.returned (.int .i64 t25)) w23) ((∃ I26 : Nat → OA → Nat → Nat → Int → World → Prop, (∃ m27, I26 m27 all6a all6n all6c 0 w23) ∧
 ∀ (m27 : Nat) (all29a : OA) (all29n : Nat) (all29c : Nat) (k30 : Int) (B31 : Nat → Value) (w32 : World), I26 m27 all29a all29n all29c k30 w32 → PIf (decide (k30 < ((t24n : Nat) : Int))) ((∃ b33 o34, t24a = some ⟨b33, o34, none⟩ ∧
 (0 : Int) ≤ k30 ∧ k30 < ((t24n : Nat) : Int) ∧ (∃ t35, w32.cell? ⟨b33, o34 + Int.toNat k30, none⟩ = some (.int .u8 t35) ∧ PA w32 (.cells #[.int .u8 t35] 5) fun w36 =>
 PRun Tryz.prog (Builtin.append_ #[49, 49] 49 #[.slice all29a all29n all29c, .slice (some ⟨w32.heap.size, 0, none⟩) 1 1]) w36 (fun v37 w38 => ∃ t39a t39n t39c, v37 = .slice t39a t39n t39c ∧
 (∃ m28, m28 < m27 ∧ I26 m28 t39a t39n t39c (IntKind.wrap .i64 (k30 + 1)) w38)) (PnV R)))) ((∃ m5, m5 < m4 ∧
 I3 m5 all29a all29n all29c (IntKind.wrap .i64 (i7 + 1)) w32))))) (PnC R)))) ((∃ J40 : World → Prop, ((∃ b42 o43, l1 = some ⟨b42, o43, none⟩ ∧
 (RdI w9 b42 (o43 + 3) fun t44 => (∃ b45 o46, l1 = some ⟨b45, o46, none⟩ ∧ (RdI w9 b45 (o46 + 1) fun t47 =>
 (∀ w41, Drew w9 w41 → PIf (decide (t44 ≥ t47)) (PC Tryz.prog 147 #[.pointer l1] w41 (fun v48 w49 => ∃ t50, v48 = .int .i64 t50 ∧ PIf (t50 != 0) (R (.returned (.int .i64 t50)) w49) (J40  w49)) (PnC R)) (J40  w41))))))) ∧ ∀  (B51 : Nat → Value) (w52 : World), J40  w52 → (∀ w54, Drew w52 w54 → ∃ S55 : Nat → Prop, (∃ b56 o57, l1 = some ⟨b56, o57, none⟩ ∧
 (¬ S55 b56 ∧ (RdP w54 b56 o57 fun t58 => (∃ b59 o60, l1 = some ⟨b59, o60, none⟩ ∧ (RdL w54 b59 (o60 + 2) fun t61a t61n t61c =>
 (∃ b62 o63, l1 = some ⟨b62, o63, none⟩ ∧ (RdL w54 b62 (o63 + 2) fun t64a t64n t64c =>
 (∃ b65 o66, t61a = some ⟨b65, o66, none⟩ ∧ (0 : Int) ≤ (IntKind.wrap .i64 (((t64n : Nat) : Int) - 1)) ∧ (IntKind.wrap .i64 (((t64n : Nat) : Int) - 1)) < ((t61n : Nat) : Int) ∧
 (RdI w54 b65 (o66 + Int.toNat (IntKind.wrap .i64 (((t64n : Nat) : Int) - 1))) fun t67 => PC Tryz.prog 144 #[.int .i64 t67] w54 (fun v68 w69 =>
 ∃ t70, v68 = .string t70 ∧ (Keep S55 w54 w69 ∧ PC Tryz.prog 115 #[.pointer t58, .string t70, .slice all6a all6n all6c] w69 (fun v71 w72 =>
 ∃ t73, v71 = .int .i64 t73 ∧ (Keep S55 w69 w72 ∧ PIf (t73 != 0) (R (.returned (.int .i64 t73)) w72) ((∃ b74 o75, l1 = some ⟨b74, o75, none⟩ ∧
 (RdI w72 b74 (o75 + 3) fun t76 => (∃ b77 o78, l1 = some ⟨b77, o78, none⟩ ∧ PS w72 ⟨b77, o78 + 3, none⟩ (.int .i64 (IntKind.wrap .i64 (t76 + ((all6n : Nat) : Int)))) fun w79 =>
 R (.returned (.int .i64 0)) w79)))))) (fun ch wpp => ∀ (_ : Base) (_ : Bnd), R (.panicked ch) wpp))) (fun ch wpp => ∀ (_ : Base) (_ : Bnd), R (.panicked ch) wpp)))))))))))))))) :
 Calls Tryz.prog 112 #[.pointer l1, .slice events2a events2n events2c] w R :=
 DC0 A_ref22_Log_Append mixed Tryz.func112 rfl (by kernel_rfl) (Eq.mp (by kernel_rfl) h)
abbrev F_ref22_Log_Sync : Nat := 113
def A_ref22_Log_Sync : Ann := ⟨[], [], [1], [], [(1, ⟨[0, 1, 2, 4, 0, 16, 32, 64, 0, 256, 512, 1024, 2048, 4096, 8320, 16384, 32768, 65544, 262143], [524287, 524286, 524285, 524283, 524287, 524271, 524255, 524223, 524287, 524031, 523775, 523263, 522239, 520191, 515967, 507903, 491519, 458743, 393215], [0, 0, 0, 1, 0, 0, 0, 1, 0, 0, 0, 1, 0, 0, 0, 1, 2, 2, 0]⟩)]⟩
theorem L_ref22_Log_Sync {l1 : OA} {w : World} {R : RW}
 (h : (∀ w3, Drew w w3 → ∃ S4 : Nat → Prop, (∃ b5 o6, l1 = some ⟨b5, o6, none⟩ ∧ (¬ S4 b5 ∧ (RdP w3 b5 o6 fun t7 =>
 (∃ b8 o9, l1 = some ⟨b8, o9, none⟩ ∧ (RdL w3 b8 (o9 + 2) fun t10a t10n t10c => (∃ b11 o12, l1 = some ⟨b11, o12, none⟩ ∧
 (RdL w3 b11 (o12 + 2) fun t13a t13n t13c => (∃ b14 o15, t10a = some ⟨b14, o15, none⟩ ∧
 (0 : Int) ≤ (IntKind.wrap .i64 (((t13n : Nat) : Int) - 1)) ∧ (IntKind.wrap .i64 (((t13n : Nat) : Int) - 1)) < ((t10n : Nat) : Int) ∧ (RdI w3 b14 (o15 + Int.toNat (IntKind.wrap .i64 (((t13n : Nat) : Int) - 1))) fun t16 =>
 PC Tryz.prog 144 #[.int .i64 t16] w3 (fun v17 w18 => ∃ t19, v17 = .string t19 ∧ (Keep S4 w3 w18 ∧ PC Tryz.prog 152 #[.pointer t7, .string t19] w18 (fun v20 w21 =>
 ∃ t22, v20 = .int .i64 t22 ∧ (Keep S4 w18 w21 ∧ R (.returned (.int .i64 t22)) w21)) (fun ch wpp => ∀ (_ : Base) (_ : Bnd), R (.panicked ch) wpp))) (fun ch wpp =>
 ∀ (_ : Base) (_ : Bnd), R (.panicked ch) wpp)))))))))))) :
 Calls Tryz.prog 113 #[.pointer l1] w R :=
 DC0 A_ref22_Log_Sync mixed Tryz.func113 rfl (by kernel_rfl) (Eq.mp (by kernel_rfl) h)
abbrev F_law22_last : Nat := 114
def A_law22_last : Ann := ⟨[], [], [], [], [(3, ⟨[0, 1, 2, 4, 0, 16, 32, 64, 128, 256, 520, 1024, 2048, 8191], [16383, 16382, 16381, 16379, 16383, 16367, 16351, 16319, 16255, 16127, 15863, 15359, 14335, 12287], [0, 0, 0, 1, 0, 0, 0, 1, 0, 0, 0, 1, 2, 0]⟩)]⟩
theorem L_law22_last {l1 : OA} {w : World} {R : RW}
 (h : (∃ b2 o3, l1 = some ⟨b2, o3, none⟩ ∧ (RdL w b2 (o3 + 2) fun t4a t4n t4c => PIf (decide ((((t4n : Nat) : Int) : Int) > 0)) ((∀ w6, Drew w w6 → (∃ b7 o8, l1 = some ⟨b7, o8, none⟩ ∧
 (RdL w6 b7 (o8 + 2) fun t9a t9n t9c => (∃ b10 o11, l1 = some ⟨b10, o11, none⟩ ∧ (RdL w6 b10 (o11 + 2) fun t12a t12n t12c =>
 (∃ b13 o14, t9a = some ⟨b13, o14, none⟩ ∧ (0 : Int) ≤ (IntKind.wrap .i64 (((t12n : Nat) : Int) - 1)) ∧ (IntKind.wrap .i64 (((t12n : Nat) : Int) - 1)) < ((t9n : Nat) : Int) ∧
 (RdI w6 b13 (o14 + Int.toNat (IntKind.wrap .i64 (((t12n : Nat) : Int) - 1))) fun t15 => PC Tryz.prog 153 #[.int .i64 t15] w6 (fun v16 w17 =>
 ∃ t18, v16 = .string t18 ∧ R (.returned (.string t18)) w17) (fun ch wpp => ∀ (_ : Base) (_ : Bnd), R (.panicked ch) wpp))))))))) (R (.returned (.string (⟨#[]⟩ : ByteArray))) w)))) :
 Calls Tryz.prog 114 #[.pointer l1] w R :=
 DC0 A_law22_last mixed Tryz.func114 rfl (by kernel_rfl) (Eq.mp (by kernel_rfl) h)
abbrev F_ref19_Disk_Append : Nat := 115
def A_ref19_Disk_Append : Ann := ⟨[], [], [8], [], [(8, ⟨[0, 1, 2, 4, 0, 0, 32, 64, 128, 0, 768, 1024, 2048, 0, 12288, 32767, 65535, 98303], [262143, 262142, 262141, 262139, 262143, 262143, 262111, 262079, 262015, 262143, 261375, 261119, 260095, 262143, 249855, 262119, 229375, 180223], [0, 0, 0, 1, 0, 0, 0, 0, 1, 0, 0, 0, 1, 0, 2, 0, 0, 2]⟩)]⟩
theorem L_ref19_Disk_Append {d1 b3a : OA} {name2 : ByteArray} {b3n b3c : Nat} {w : World} {R : RW}
 (h : PC Tryz.prog 154 #[.pointer d1] w (fun v4 w5 => ∃ t6, v4 = .bool t6 ∧ PIf t6 (R (.returned (.int .i64 15)) w5) (PC Tryz.prog 155 #[.pointer d1, .string name2] w5 (fun v7 w8 =>
 ∃ t9, v7 = .int .i64 t9 ∧ PIf (decide (t9 < 0)) (R (.returned (.int .i64 14)) w8) (PC Tryz.prog 72 #[.pointer d1] w8 (fun v10 w11 => ∃ t12, v10 = .int .i64 t12 ∧
 PIf (decide ((((b3n : Nat) : Int) : Int) > t12)) (R (.returned (.int .i64 12)) w11) ((∀ w14, Drew w11 w14 → ∃ S15 : Nat → Prop, (∃ b16 o17, d1 = some ⟨b16, o17, none⟩ ∧
 (¬ S15 b16 ∧ (RdL w14 b16 (o17 + 2) fun t18a t18n t18c => (∃ b19 o20, d1 = some ⟨b19, o20, none⟩ ∧
 (RdL w14 b19 (o20 + 2) fun t21a t21n t21c => (∃ b22 o23, t21a = some ⟨b22, o23, none⟩ ∧
 (0 : Int) ≤ t9 ∧ t9 < ((t21n : Nat) : Int) ∧ (RdL w14 b22 (o23 + Int.toNat t9 * 4 + 1) fun t24a t24n t24c =>
 PRun Tryz.prog (Builtin.append_ #[49, 49] 49 #[.slice t24a t24n t24c, .slice b3a b3n b3c]) w14 (fun v25 w26 => ∃ t27a t27n t27c, v25 = .slice t27a t27n t27c ∧
 (Keep S15 w14 w26 ∧ (∃ b28 o29, t18a = some ⟨b28, o29, none⟩ ∧ (0 : Int) ≤ t9 ∧ t9 < ((t18n : Nat) : Int) ∧ PS w26 ⟨b28, o29 + Int.toNat t9 * 4 + 1, none⟩ (.slice t27a t27n t27c) fun w30 =>
 (Keep S15 w26 w30 ∧ R (.returned (.int .i64 0)) w30)))) (fun pv wpp => ∀ (_ : Base) (_ : Bnd), R (.panicked [{ v := pv, recovered := false }]) wpp))))))))))) (PnC R))) (PnC R))) (PnC R)) :
 Calls Tryz.prog 115 #[.pointer d1, .string name2, .slice b3a b3n b3c] w R :=
 DC0 A_ref19_Disk_Append mixed Tryz.func115 rfl (by kernel_rfl) (Eq.mp (by kernel_rfl) h)
theorem L_vdisk_Disk_Delete_1 {t1 : OA} {b2 o3 b4 o5 : Nat} {w : World} {R : RW}
 (h : (∀ w7, Drew w w7 → (RdP w7 b2 o3 fun t8 => (∃ b9 o10, t8 = some ⟨b9, o10, none⟩ ∧ (RdM w7 b9 (o10 + 1) fun t11 =>
 (RdT w7 b4 o5 fun t12 => PRun Tryz.prog (Builtin.delete_ #[78, 9] 0 #[.map t11, .string t12]) w7 (fun v13 w14 =>
 R (.returned (.int .i64 0)) w14) (fun pv wpp => ∀ (_ : Base) (_ : Bnd), R (.panicked [{ v := pv, recovered := false }]) wpp))))))) :
 Calls Tryz.prog 117 #[.pointer t1, .pointer (some ⟨b2, o3, none⟩), .pointer (some ⟨b4, o5, none⟩)] w R :=
 DC0 ⟨[], [], [], [], []⟩ mixed Tryz.func117 rfl (by kernel_rfl) (Eq.mp (by kernel_rfl) h)
theorem L_vdisk_isName_1 {r1 : Int} {w : World} {R : RW}
 (h : PC Tryz.prog 122 #[.string (⟨#[97, 98, 99, 100, 101, 102, 103, 104, 105, 106, 107, 108, 109, 110, 111, 112, 113, 114, 115, 116, 117, 118, 119, 120, 121, 122, 48, 49, 50, 51, 52, 53, 54, 55, 56, 57, 46]⟩ : ByteArray), .int .i32 r1] w (fun v2 w3 =>
 ∃ t4, v2 = .bool t4 ∧ R (.returned (.bool (!t4))) w3) (PnC R)) :
 Calls Tryz.prog 121 #[.int .i32 r1] w R :=
 DC0 ⟨[], [], [], [], []⟩ mixed Tryz.func121 rfl (by kernel_rfl) (Eq.mp (by kernel_rfl) h)
theorem L_strings_ContainsRune {s1 : ByteArray} {r2 : Int} {w : World} {R : RW}
 (h : PC Tryz.prog 159 #[.string s1, .int .i32 r2] w (fun v3 w4 => ∃ t5, v3 = .int .i64 t5 ∧ R (.returned (.bool (decide (t5 ≥ 0)))) w4) (PnC R)) :
 Calls Tryz.prog 122 #[.string s1, .int .i32 r2] w R :=
 DC0 ⟨[], [], [], [], []⟩ mixed Tryz.func122 rfl (by kernel_rfl) (Eq.mp (by kernel_rfl) h)
abbrev F_strings_ContainsFunc : Nat := 123
theorem L_strings_ContainsFunc {s1 : ByteArray} {f2g : FuncId} {f2i f2c : Array Value} {w : World} {R : RW}
 (h : PC Tryz.prog 160 #[.string s1, .func (.func f2g) f2i f2c] w (fun v3 w4 => ∃ t5, v3 = .int .i64 t5 ∧ R (.returned (.bool (decide (t5 ≥ 0)))) w4) (PnC R)) :
 Calls Tryz.prog 123 #[.string s1, .func (.func f2g) f2i f2c] w R :=
 DC0 ⟨[], [], [], [], []⟩ mixed Tryz.func123 rfl (by kernel_rfl) (Eq.mp (by kernel_rfl) h)
theorem L_internal_stringslite_CutPrefix {s1 prefix2 : ByteArray} {w : World} {R : RW}
 (h : PC Tryz.prog 162 #[.string s1, .string prefix2] w (fun v3 w4 => ∃ t5, v3 = .bool t5 ∧ PIf (!t5) (R (.returned (.tuple #[.string s1, .bool false])) w4) (((0 : Int) ≤ ((ByteArray.size prefix2 : Nat) : Int) ∧
 (((ByteArray.size prefix2 : Nat) : Int) : Int) ≤ ((ByteArray.size s1 : Nat) : Int) ∧ R (.returned (.tuple #[.string (ByteArray.extract s1 (Int.toNat ((ByteArray.size prefix2 : Nat) : Int)) (ByteArray.size s1)), .bool true])) w4))) (PnC R)) :
 Calls Tryz.prog 126 #[.string s1, .string prefix2] w R :=
 DC0 ⟨[], [], [], [], []⟩ mixed Tryz.func126 rfl (by kernel_rfl) (Eq.mp (by kernel_rfl) h)
theorem L_vdisk_Disk_Cut_1 {f1 : OA} {b2 o3 : Nat} {w : World} {R : RW}
 (h : (RdI w b2 o3 fun t4 => PC Tryz.prog 56 #[.pointer f1, .int .i64 t4] w (fun v5 w6 => v5 = .tuple #[] ∧ R (.returned (.int .i64 0)) w6) (PnC R))) :
 Calls Tryz.prog 127 #[.pointer f1, .pointer (some ⟨b2, o3, none⟩)] w R :=
 DC0 ⟨[], [], [], [], []⟩ mixed Tryz.func127 rfl (by kernel_rfl) (Eq.mp (by kernel_rfl) h)
abbrev F_slices_Contains_string_string : Nat := 128
theorem L_slices_Contains_string_string {s1a : OA} {s1n s1c : Nat} {v2 : ByteArray} {w : World} {R : RW}
 (h : PC Tryz.prog 163 #[.slice s1a s1n s1c, .string v2] w (fun v3 w4 => ∃ t5, v3 = .int .i64 t5 ∧ R (.returned (.bool (decide (t5 ≥ 0)))) w4) (PnC R)) :
 Calls Tryz.prog 128 #[.slice s1a s1n s1c, .string v2] w R :=
 DC0 ⟨[], [], [], [], []⟩ mixed Tryz.func128 rfl (by kernel_rfl) (Eq.mp (by kernel_rfl) h)
abbrev F_pack_Int : Nat := 129
def A_pack_Int : Ann := ⟨[(7, [(8, .slice none 0 0), (9, .int .i64 0)])], [], [], [], []⟩
theorem L_pack_Int {b1a : OA} {b1n b1c : Nat} {n2 : Int} {w : World} {R : RW}
 (h : PC Tryz.prog 164 #[.int .i64 n2] w (fun v3 w4 => ∃ t5 t6, v3 = .tuple #[.int .u64 t5, .int .u8 t6] ∧ PC Tryz.prog 165 #[.int .u64 t5] w4 (fun v7 w8 =>
 ∃ t9, v7 = .int .i64 t9 ∧ PRun Tryz.prog (Instr.makeSlice 49 (.int .i64 ((b1n : Nat) : Int)) (.int .i64 (IntKind.wrap .i64 ((IntKind.wrap .i64 (((b1n : Nat) : Int) + 1)) + (IntKind.wrap .i64 (Int.tdiv (IntKind.wrap .i64 (t9 + 7)) 8)))))) w8 (fun v10 w11 =>
 ∃ t12a t12n t12c, v10 = .slice t12a t12n t12c ∧ PRun Tryz.prog (Builtin.copy_ #[49, 49] 3 #[.slice t12a t12n t12c, .slice b1a b1n b1c]) w11 (fun v13 w14 =>
 ∃ t15, v13 = .int .i64 t15 ∧ PA w14 (.cells #[.int .u8 (iOr .u8 t6 (IntKind.wrap .u8 (IntKind.wrap .i64 (Int.tdiv (IntKind.wrap .i64 (t9 + 7)) 8))))] 5) fun w16 =>
 PRun Tryz.prog (Builtin.append_ #[49, 49] 49 #[.slice t12a t12n t12c, .slice (some ⟨w14.heap.size, 0, none⟩) 1 1]) w16 (fun v17 w18 => ∃ t19a t19n t19c, v17 = .slice t19a t19n t19c ∧
 (∃ I20 : Nat → OA → Nat → Nat → Int → World → Prop, (∃ m21, I20 m21 t19a t19n t19c (IntKind.wrap .i64 ((IntKind.wrap .i64 (Int.tdiv (IntKind.wrap .i64 (t9 + 7)) 8)) - 1)) w18) ∧
 ∀ (m21 : Nat) (out23a : OA) (out23n : Nat) (out23c : Nat) (i24 : Int) (B25 : Nat → Value) (w26 : World), I20 m21 out23a out23n out23c i24 w26 → PIf (decide (i24 ≥ 0)) (PRun Tryz.prog (do eqGuard .shr 167 (.tmp 44) (.tmp 46) (.int .u64 t5) (.int .i64 (IntKind.wrap .i64 (8 * i24))); binOp .shr 167 (.int .u64 t5) (.int .i64 (IntKind.wrap .i64 (8 * i24)))) w26 (fun v27 w28 =>
 ∃ t29, v27 = .int .u64 t29 ∧ PA w28 (.cells #[.int .u8 (IntKind.wrap .u8 t29)] 5) fun w30 => PRun Tryz.prog (Builtin.append_ #[49, 49] 49 #[.slice out23a out23n out23c, .slice (some ⟨w28.heap.size, 0, none⟩) 1 1]) w30 (fun v31 w32 =>
 ∃ t33a t33n t33c, v31 = .slice t33a t33n t33c ∧ (∃ m22, m22 < m21 ∧ I20 m22 t33a t33n t33c (IntKind.wrap .i64 (i24 - 1)) w32)) (PnV R)) (PnV R)) (R (.returned (.slice out23a out23n out23c)) w26))) (PnV R)) (PnV R)) (PnV R)) (PnC R)) (PnC R)) :
 Calls Tryz.prog 129 #[.slice b1a b1n b1c, .int .i64 n2] w R :=
 DC0 A_pack_Int mixed Tryz.func129 rfl (by kernel_rfl) (Eq.mp (by kernel_rfl) h)
theorem L_vdisk_Disk_Rename_1 {f1 : OA} {b2 o3 b4 o5 b6 o7 : Nat} {w : World} {R : RW}
 (h : (RdT w b2 o3 fun t8 => PC Tryz.prog 81 #[.string t8] w (fun v9 w10 => ∃ t11, v9 = .bool t11 ∧ PIf (!t11) (R (.returned (.int .i64 1)) w10) ((∀ w13, Drew w10 w13 → (RdP w13 b4 o5 fun t14 =>
 (∃ b15 o16, t14 = some ⟨b15, o16, none⟩ ∧ (RdM w13 b15 (o16 + 1) fun t17 => (RdT w13 b6 o7 fun t18 =>
 PRun Tryz.prog (Builtin.delete_ #[78, 9] 0 #[.map t17, .string t18]) w13 (fun v19 w20 => (∀ w22, Drew w20 w22 → (RdP w22 b4 o5 fun t23 =>
 (∃ b24 o25, t23 = some ⟨b24, o25, none⟩ ∧ (RdM w22 b24 (o25 + 1) fun t26 => (RdT w22 b2 o3 fun t27 =>
 PRunU Tryz.prog (Instr.mapUpdate 78 (.map t26) (.string t27) (.pointer f1)) w22 (fun w28 => (∃ b29 o30, f1 = some ⟨b29, o30, none⟩ ∧ PS w28 ⟨b29, o30 + 2, none⟩ (.bool true) fun w31 =>
 R (.returned (.int .i64 0)) w31)) (fun pv wpp => ∀ (_ : Base) (_ : Bnd), R (.panicked [{ v := pv, recovered := false }]) wpp))))))) (fun pv wpp => ∀ (_ : Base) (_ : Bnd), R (.panicked [{ v := pv, recovered := false }]) wpp)))))))) (PnC R))) :
 Calls Tryz.prog 130 #[.pointer f1, .pointer (some ⟨b2, o3, none⟩), .pointer (some ⟨b4, o5, none⟩), .pointer (some ⟨b6, o7, none⟩)] w R :=
 DC0 ⟨[], [], [], [], []⟩ mixed Tryz.func130 rfl (by kernel_rfl) (Eq.mp (by kernel_rfl) h)
abbrev F_event_Put_1 : Nat := 131
def A_event_Put_1 : Ann := ⟨[(1, [(7, .int .i64 0)])], [], [], [], []⟩
theorem L_event_Put_1 {l1a : OA} {l1n l1c b2 o3 : Nat} {w : World} {R : RW}
 (h : (∃ I4 : Nat → Int → World → Prop, (∃ m5, I4 m5 0 w) ∧ ∀ (m5 : Nat) (t7 : Int) (B8 : Nat → Value) (w9 : World), I4 m5 t7 w9 → PIf (decide (t7 < ((l1n : Nat) : Int))) ((∃ b10 o11, l1a = some ⟨b10, o11, none⟩ ∧
 (0 : Int) ≤ t7 ∧ t7 < ((l1n : Nat) : Int) ∧ (RdI w9 b10 (o11 + Int.toNat t7) fun t12 => (RdL w9 b2 o3 fun t13a t13n t13c =>
 PC Tryz.prog 129 #[.slice t13a t13n t13c, .int .i64 t12] w9 (fun v14 w15 => ∃ t16a t16n t16c, v14 = .slice t16a t16n t16c ∧
 PS w15 ⟨b2, o3, none⟩ (.slice t16a t16n t16c) fun w17 => (∃ m6, m6 < m5 ∧ I4 m6 (IntKind.wrap .i64 (t7 + 1)) w17)) (PnC R))))) (R (.returned (.tuple #[])) w9))) :
 Calls Tryz.prog 131 #[.slice l1a l1n l1c, .pointer (some ⟨b2, o3, none⟩)] w R :=
 DC0 A_event_Put_1 mixed Tryz.func131 rfl (by kernel_rfl) (Eq.mp (by kernel_rfl) h)
def A_slices_Concat_byte_byte : Ann := ⟨[(3, [(3, .int .i64 0), (11, .int .i64 0)]), (11, [(6, .slice none 0 0), (27, .int .i64 0)])], [], [], [], []⟩
theorem L_slices_Concat_byte_byte {slices1a : OA} {slices1n slices1c : Nat} {w : World} {R : RW}
 (h : (∃ I2 : Nat → Int → Int → World → Prop, (∃ m3, I2 m3 0 0 w) ∧ ∀ (m3 : Nat) (size5 : Int) (t6 : Int) (B7 : Nat → Value) (w8 : World), I2 m3 size5 t6 w8 → PIf (decide (t6 < ((slices1n : Nat) : Int))) ((∃ b9 o10, slices1a = some ⟨b9, o10, none⟩ ∧
 (0 : Int) ≤ t6 ∧ t6 < ((slices1n : Nat) : Int) ∧ (RdL w8 b9 (o10 + Int.toNat t6) fun t11a t11n t11c =>
 PIf (decide (((IntKind.wrap .i64 (size5 + ((t11n : Nat) : Int))) : Int) < 0)) (PRun Tryz.prog (Instr.panic (.iface 9 (.string (⟨#[108, 101, 110, 32, 111, 117, 116, 32, 111, 102, 32, 114, 97, 110, 103, 101]⟩ : ByteArray)))) w8 (fun v12 w13 =>
 (∃ m4, m4 < m3 ∧ I2 m4 (IntKind.wrap .i64 (size5 + ((t11n : Nat) : Int))) (IntKind.wrap .i64 (t6 + 1)) w13)) (PnV R)) ((∃ m4, m4 < m3 ∧
 I2 m4 (IntKind.wrap .i64 (size5 + ((t11n : Nat) : Int))) (IntKind.wrap .i64 (t6 + 1)) w8))))) (PC Tryz.prog 166 #[.slice none 0 0, .int .i64 size5] w8 (fun v14 w15 =>
 ∃ t16a t16n t16c, v14 = .slice t16a t16n t16c ∧ (∃ I17 : Nat → OA → Nat → Nat → Int → World → Prop, (∃ m18, I17 m18 t16a t16n t16c 0 w15) ∧
 ∀ (m18 : Nat) (newslice20a : OA) (newslice20n : Nat) (newslice20c : Nat) (t21 : Int) (B22 : Nat → Value) (w23 : World), I17 m18 newslice20a newslice20n newslice20c t21 w23 → PIf (decide (t21 < ((slices1n : Nat) : Int))) ((∃ b24 o25, slices1a = some ⟨b24, o25, none⟩ ∧
 (0 : Int) ≤ t21 ∧ t21 < ((slices1n : Nat) : Int) ∧ (RdL w23 b24 (o25 + Int.toNat t21) fun t26a t26n t26c =>
 PRun Tryz.prog (Builtin.append_ #[49, 49] 49 #[.slice newslice20a newslice20n newslice20c, .slice t26a t26n t26c]) w23 (fun v27 w28 => ∃ t29a t29n t29c, v27 = .slice t29a t29n t29c ∧
 (∃ m19, m19 < m18 ∧ I17 m19 t29a t29n t29c (IntKind.wrap .i64 (t21 + 1)) w28)) (PnV R)))) (R (.returned (.slice newslice20a newslice20n newslice20c)) w23))) (PnC R)))) :
 Calls Tryz.prog 132 #[.slice slices1a slices1n slices1c] w R :=
 DC0 A_slices_Concat_byte_byte mixed Tryz.func132 rfl (by kernel_rfl) (Eq.mp (by kernel_rfl) h)
abbrev F_crc_Sum : Nat := 133
theorem L_crc_Sum {b1a : OA} {b1n b1c : Nat} {w : World} {R : RW}
 (h : PC Tryz.prog 167 #[.int .u32 0, .slice b1a b1n b1c] w (fun v2 w3 => ∃ t4, v2 = .int .u32 t4 ∧ R (.returned (.int .u32 t4)) w3) (PnC R)) :
 Calls Tryz.prog 133 #[.slice b1a b1n b1c] w R :=
 DC0 ⟨[], [], [], [], []⟩ mixed Tryz.func133 rfl (by kernel_rfl) (Eq.mp (by kernel_rfl) h)
theorem L_vdisk_Disk_on_1 {b1 o2 b3 o4 b5 o6 : Nat} {w : World} {R : RW}
 (h : (RdP w b1 o2 fun t8 => (∃ b9 o10, t8 = some ⟨b9, o10, none⟩ ∧ (RdM w b9 (o10 + 1) fun t11 =>
 (RdT w b3 o4 fun t12 => (∃ t13, (∀ m, (Instr.lookup 78 (.map t11) (.string t12) false).run Tryz.prog (w.drewN m) = .ok (.pointer t13) (w.drewN m)) ∧
 (∀ w7, Drew w w7 → PRun Tryz.prog (do eqGuard .neq 92 (.tmp 11) (.const (.pointer none)) (.pointer t13) (.pointer none); binOp .neq 92 (.pointer t13) (.pointer none)) w7 (fun v14 w15 =>
 ∃ t16, v14 = .bool t16 ∧ PIf t16 ((∃ (t17 : Value), w15.cell? ⟨b5, o6, none⟩ = some t17 ∧ (∃ g20 fi21 ca22, (t17 : Value) = .func (.func g20) fi21 ca22 ∧
 enters Tryz.prog g20 = true ∧ PC Tryz.prog g20 (fi21 ++ #[.pointer t13] ++ ca22) w15 (fun v18 w19 => ∃ t23, v18 = .int .i64 t23 ∧ R (.returned (.int .i64 t23)) w19) (PnC R)))) (R (.returned (.int .i64 14)) w15)) (PnV R)))))))) :
 Calls Tryz.prog 134 #[.pointer (some ⟨b1, o2, none⟩), .pointer (some ⟨b3, o4, none⟩), .pointer (some ⟨b5, o6, none⟩)] w R :=
 DC0 ⟨[], [], [], [], []⟩ mixed Tryz.func134 rfl (by kernel_rfl) (Eq.mp (by kernel_rfl) h)
abbrev F_frame_number : Nat := 135
def A_frame_number : Ann := ⟨[(2, [(2, .int .u32 0), (7, .int .i64 0)])], [], [], [], []⟩
theorem L_frame_number {b1a : OA} {b1n b1c : Nat} {w : World} {R : RW}
 (h : (∃ I2 : Nat → Int → Int → World → Prop, (∃ m3, I2 m3 0 0 w) ∧ ∀ (m3 : Nat) (n5 : Int) (t6 : Int) (B7 : Nat → Value) (w8 : World), I2 m3 n5 t6 w8 → PIf (decide (t6 < ((b1n : Nat) : Int))) ((∃ b9 o10, b1a = some ⟨b9, o10, none⟩ ∧
 (0 : Int) ≤ t6 ∧ t6 < ((b1n : Nat) : Int) ∧ (∃ t11, w8.cell? ⟨b9, o10 + Int.toNat t6, none⟩ = some (.int .u8 t11) ∧ (∃ m4, m4 < m3 ∧ I2 m4 (iOr .u32 (iShl .u32 n5 8) (IntKind.wrap .u32 t11)) (IntKind.wrap .i64 (t6 + 1)) w8)))) (R (.returned (.int .u32 n5)) w8))) :
 Calls Tryz.prog 135 #[.slice b1a b1n b1c] w R :=
 DC0 A_frame_number mixed Tryz.func135 rfl (by kernel_rfl) (Eq.mp (by kernel_rfl) h)
theorem LR_pack_Reader_reading_1 {b1 o2 b3 o4 : Nat} {rv : Value} {u : FrameMode} (hrv : recVal u = rv) {w : World} {R : Ending → FrameMode → World → Prop}
 (h : PRun Tryz.prog (do eqGuard .eql 20 (.tmp 5) (.const .nilIface) rv .nilIface; binOp .eql 20 rv .nilIface) w (fun v5 w6 => ∃ t7, v5 = .bool t7 ∧
 PIf t7 ((fun e w => R e (recMode u) w) (.returned (.tuple #[])) w6) (PRun Tryz.prog (Instr.typeAssert rv 20 165 true) w6 (fun v8 w9 => ∃ t11 b10, v8 = .tuple #[.int .i64 t11, .bool b10] ∧
 PIf b10 ((RdP w9 b3 o4 fun t12 => (RdP w9 b3 o4 fun t13 =>
 (RdI w9 b1 o2 fun t14 => (∃ b15 o16, t12 = some ⟨b15, o16, none⟩ ∧ PS w9 ⟨b15, o16 + 1, none⟩ (.int .i64 t14) fun w17 =>
 (∃ b18 o19, t13 = some ⟨b18, o19, none⟩ ∧ PS w17 ⟨b18, o19 + 2, none⟩ (.int .i64 t11) fun w20 => (fun e w => R e (recMode u) w) (.returned (.tuple #[])) w20)))))) (PRun Tryz.prog (Instr.panic rv) w9 (fun v21 w22 =>
 (fun e w => R e (recMode u) w) (.returned (.tuple #[])) w22) (fun pv w => (fun e w => R e (recMode u) w) (.panicked [{ v := pv, recovered := false }]) w))) (fun pv w =>
 (fun e w => R e (recMode u) w) (.panicked [{ v := pv, recovered := false }]) w))) (fun pv w => (fun e w => R e (recMode u) w) (.panicked [{ v := pv, recovered := false }]) w)) :
 CallsD Tryz.prog 136 #[.pointer (some ⟨b1, o2, none⟩), .pointer (some ⟨b3, o4, none⟩)] u w R := by
 subst hrv
 exact D_callsR ⟨[], [], [], [], []⟩ mixed Tryz.func136 rfl rfl rfl rfl (by kernel_rfl) (Nat.le_of_ble_eq_true (by kernel_rfl)) (by kernel_rfl) (Eq.mp (by kernel_rfl) h)
abbrev F_pack_must : Nat := 137
theorem L_pack_must {is1 : Bool} {why2 : Int} {w : World} {R : RW}
 (h : PIf (!is1) (PRun Tryz.prog (Instr.panic (.iface 165 (.int .i64 why2))) w (fun v3 w4 => R (.returned (.tuple #[])) w4) (PnV R)) (R (.returned (.tuple #[])) w)) :
 Calls Tryz.prog 137 #[.bool is1, .int .i64 why2] w R :=
 DC0 ⟨[], [], [], [], []⟩ mixed Tryz.func137 rfl (by kernel_rfl) (Eq.mp (by kernel_rfl) h)
abbrev F_pack_Reader_take : Nat := 138
def A_pack_Reader_take : Ann := ⟨[], [], [], [], [(1, ⟨[0, 0, 2, 4, 8, 16, 0, 64, 128, 256, 544, 1025, 2048], [8191, 8191, 8189, 8187, 8183, 8175, 8191, 8127, 8063, 7935, 7647, 7166, 6143], [0, 0, 0, 0, 1, 0, 0, 0, 0, 1, 0, 0, 2]⟩)]⟩
theorem L_pack_Reader_take {r1 : OA} {n2 : Int} {w : World} {R : RW}
 (h : (∀ w4, Drew w w4 → (∃ b5 o6, r1 = some ⟨b5, o6, none⟩ ∧ (RdL w4 b5 o6 fun t7a t7n t7c =>
 (∃ b8 o9, r1 = some ⟨b8, o9, none⟩ ∧ (RdI w4 b8 (o9 + 1) fun t10 => PC Tryz.prog 137 #[.bool (decide (n2 ≤ (IntKind.wrap .i64 (((t7n : Nat) : Int) - t10)))), .int .i64 4] w4 (fun v11 w12 =>
 v11 = .tuple #[] ∧ (∃ b13 o14, r1 = some ⟨b13, o14, none⟩ ∧ (RdI w12 b13 (o14 + 1) fun t15 => (∃ b16 o17, r1 = some ⟨b16, o17, none⟩ ∧
 PS w12 ⟨b16, o17 + 1, none⟩ (.int .i64 (IntKind.wrap .i64 (t15 + n2))) fun w18 => (∃ b20 o21, r1 = some ⟨b20, o21, none⟩ ∧ (RdL w18 b20 o21 fun t22a t22n t22c =>
 (∃ b23 o24, r1 = some ⟨b23, o24, none⟩ ∧ (RdI w18 b23 (o24 + 1) fun t25 => (∃ b26 o27, r1 = some ⟨b26, o27, none⟩ ∧
 (RdI w18 b26 (o27 + 1) fun t28 => ((0 : Int) ≤ (IntKind.wrap .i64 (t25 - n2)) ∧ ((IntKind.wrap .i64 (t25 - n2)) : Int) ≤ t28 ∧
 (t28 : Int) ≤ ((t22c : Nat) : Int) ∧ (∀ w19, Drew w18 w19 → R (.returned (.slice (subA t22a (Int.toNat (IntKind.wrap .i64 (t25 - n2))) t22c 1) (Int.toNat t28 - Int.toNat (IntKind.wrap .i64 (t25 - n2))) (t22c - Int.toNat (IntKind.wrap .i64 (t25 - n2))))) w19)))))))))))) (fun ch wpp =>
 ∀ (_ : Base) (_ : Bnd), R (.panicked ch) wpp))))))) :
 Calls Tryz.prog 138 #[.pointer r1, .int .i64 n2] w R :=
 DC0 A_pack_Reader_take mixed Tryz.func138 rfl (by kernel_rfl) (Eq.mp (by kernel_rfl) h)
abbrev F_ref19_Disk_List : Nat := 140
def A_ref19_Disk_List : Ann := ⟨[(3, [(3, .slice none 0 0), (4, .int .i64 0)])], [], [], [], []⟩
theorem L_ref19_Disk_List {d1 : OA} {w : World} {R : RW}
 (h : (∃ I2 : Nat → OA → Nat → Nat → Int → World → Prop, (∃ m3, I2 m3 none 0 0 0 w) ∧ ∀ (m3 : Nat) (out5a : OA) (out5n : Nat) (out5c : Nat) (i6 : Int) (B7 : Nat → Value) (w8 : World), I2 m3 out5a out5n out5c i6 w8 → (∃ b9 o10, d1 = some ⟨b9, o10, none⟩ ∧
 (RdL w8 b9 (o10 + 2) fun t11a t11n t11c => PIf (decide (i6 < ((t11n : Nat) : Int))) ((∃ b12 o13, d1 = some ⟨b12, o13, none⟩ ∧
 (RdL w8 b12 (o13 + 2) fun t14a t14n t14c => (∃ b15 o16, t14a = some ⟨b15, o16, none⟩ ∧
 (0 : Int) ≤ i6 ∧ i6 < ((t14n : Nat) : Int) ∧ (RdT w8 b15 (o16 + Int.toNat i6 * 4) fun t17 => PA w8 (.cells #[.string t17] 9) fun w18 =>
 PRun Tryz.prog (Builtin.append_ #[70, 70] 70 #[.slice out5a out5n out5c, .slice (some ⟨w8.heap.size, 0, none⟩) 1 1]) w18 (fun v19 w20 => ∃ t21a t21n t21c, v19 = .slice t21a t21n t21c ∧
 (∃ m4, m4 < m3 ∧ I2 m4 t21a t21n t21c (IntKind.wrap .i64 (i6 + 1)) w20)) (PnV R)))))) (R (.returned (.slice out5a out5n out5c)) w8))))) :
 Calls Tryz.prog 140 #[.pointer d1] w R :=
 DC0 A_ref19_Disk_List mixed Tryz.func140 rfl (by kernel_rfl) (Eq.mp (by kernel_rfl) h)
abbrev F_ref20_Number : Nat := 141
def A_ref20_Number : Ann := ⟨[(5, [(4, .int .i64 0), (5, .int .i64 0)])], [(3, [])], [], [], []⟩
theorem L_ref20_Number {name1 : ByteArray} {w : World} {R : RW}
 (h : (∃ J2 : World → Prop, (PIf (decide ((((ByteArray.size name1 : Nat) : Int) : Int) < 5)) (R (.returned (.tuple #[.int .i64 0, .bool false])) w) (PIf (decide ((((ByteArray.size name1 : Nat) : Int) : Int) > 16)) (R (.returned (.tuple #[.int .i64 0, .bool false])) w) (((0 : Int) ≤ 4 ∧
 (4 : Int) ≤ ((ByteArray.size name1 : Nat) : Int) ∧ PIf (!((ByteArray.toList (ByteArray.extract name1 0 (Int.toNat 4))) == (ByteArray.toList (⟨#[115, 101, 103, 46]⟩ : ByteArray)))) (R (.returned (.tuple #[.int .i64 0, .bool false])) w) (((0 : Int) ≤ 4 ∧
 ∃ c3, name1[Int.toNat 4]? = some c3 ∧ PIf ((((c3.toNat : Nat) : Int) : Int) == 48) (PIf (decide ((((ByteArray.size name1 : Nat) : Int) : Int) > 5)) (R (.returned (.tuple #[.int .i64 0, .bool false])) w) (J2  w)) (J2  w))))))) ∧
 ∀  (B4 : Nat → Value) (w5 : World), J2  w5 → (∃ I6 : Nat → Int → Int → World → Prop, (∃ m7, I6 m7 0 4 w5) ∧ ∀ (m7 : Nat) (no9 : Int) (i10 : Int) (B11 : Nat → Value) (w12 : World), I6 m7 no9 i10 w12 → PIf (decide (i10 < ((ByteArray.size name1 : Nat) : Int))) (((0 : Int) ≤ i10 ∧
 ∃ c13, name1[Int.toNat i10]? = some c13 ∧ PIf (decide ((((c13.toNat : Nat) : Int) : Int) < 48)) (R (.returned (.tuple #[.int .i64 0, .bool false])) w12) (((0 : Int) ≤ i10 ∧
 ∃ c14, name1[Int.toNat i10]? = some c14 ∧ PIf (decide ((((c14.toNat : Nat) : Int) : Int) > 57)) (R (.returned (.tuple #[.int .i64 0, .bool false])) w12) (((0 : Int) ≤ i10 ∧
 ∃ c15, name1[Int.toNat i10]? = some c15 ∧ (∃ m8, m8 < m7 ∧ I6 m8 (IntKind.wrap .i64 ((IntKind.wrap .i64 ((IntKind.wrap .i64 (10 * no9)) + (IntKind.wrap .i64 ((c15.toNat : Nat) : Int)))) - 48)) (IntKind.wrap .i64 (i10 + 1)) w12))))))) (R (.returned (.tuple #[.int .i64 no9, .bool true])) w12)))) :
 Calls Tryz.prog 141 #[.string name1] w R :=
 DC0 A_ref20_Number mixed Tryz.func141 rfl (by kernel_rfl) (Eq.mp (by kernel_rfl) h)
abbrev F_ref21_Read : Nat := 142
def A_ref21_Read : Ann := ⟨[(9, [(11, .slice none 0 0), (12, .int .i64 0)])], [], [], [], []⟩
theorem L_ref21_Read {d1 : OA} {w : World} {R : RW}
 (h : PA w (.cells #[.slice none 0 0] 56) fun w2 => PC Tryz.prog 143 #[.pointer d1, .string (⟨#[109, 97, 110, 105, 102, 101, 115, 116]⟩ : ByteArray)] w2 (fun v3 w4 =>
 ∃ t5a t5n t5c t6, v3 = .tuple #[.slice t5a t5n t5c, .int .i64 t6] ∧ PC Tryz.prog 172 #[.slice t5a t5n t5c] w4 (fun v7 w8 =>
 ∃ t9 t10a t10n t10c t11 t12, v7 = .tuple #[.agg #[.int .i64 t9, .slice t10a t10n t10c], .int .i64 t11, .int .i64 t12] ∧
 PA w8 (.cells #[.int .i64 0, .slice none 0 0] 99) fun w13 => PS w13 ⟨w8.heap.size, 0, none⟩ (.int .i64 t9) fun w14 => PS w14 ⟨w8.heap.size, 0 + 1, none⟩ (.slice t10a t10n t10c) fun w15 =>
 PIf (t6 != 0) (PS w15 ⟨w.heap.size, 0, none⟩ (.slice none 0 0) fun w16 => (RdL w16 w.heap.size 0 fun r17a r17n r17c =>
 R (.returned (.tuple #[.agg #[.slice r17a r17n r17c], .bool false])) w16)) (PIf (t12 != 0) (PS w15 ⟨w.heap.size, 0, none⟩ (.slice none 0 0) fun w18 =>
 (RdL w18 w.heap.size 0 fun r19a r19n r19c => R (.returned (.tuple #[.agg #[.slice r19a r19n r19c], .bool false])) w18)) (PIf (t11 != ((t5n : Nat) : Int)) (PS w15 ⟨w.heap.size, 0, none⟩ (.slice none 0 0) fun w20 =>
 (RdL w20 w.heap.size 0 fun r21a r21n r21c => R (.returned (.tuple #[.agg #[.slice r21a r21n r21c], .bool false])) w20)) ((RdI w15 w8.heap.size 0 fun t22 =>
 PIf (t22 != 2) (PS w15 ⟨w.heap.size, 0, none⟩ (.slice none 0 0) fun w23 => (RdL w23 w.heap.size 0 fun r24a r24n r24c =>
 R (.returned (.tuple #[.agg #[.slice r24a r24n r24c], .bool false])) w23)) ((RdL w15 w8.heap.size (0 + 1) fun t25a t25n t25c =>
 PC Tryz.prog 173 #[.slice t25a t25n t25c] w15 (fun v26 w27 => ∃ t28, v26 = .pointer t28 ∧ PC Tryz.prog 174 #[.pointer t28, .int .i64 64] w27 (fun v29 w30 =>
 ∃ t31, v29 = .int .i64 t31 ∧ (∃ I32 : Nat → OA → Nat → Nat → Int → World → Prop, (∃ m33, I32 m33 none 0 0 0 w30) ∧ ∀ (m33 : Nat) (l35a : OA) (l35n : Nat) (l35c : Nat) (i36 : Int) (B37 : Nat → Value) (w38 : World), I32 m33 l35a l35n l35c i36 w38 → PIf (decide (i36 < t31)) (PC Tryz.prog 175 #[.pointer t28] w38 (fun v39 w40 =>
 ∃ t41, v39 = .int .i64 t41 ∧ PA w40 (.cells #[.int .i64 t41] 3) fun w42 => PRun Tryz.prog (Builtin.append_ #[37, 37] 37 #[.slice l35a l35n l35c, .slice (some ⟨w40.heap.size, 0, none⟩) 1 1]) w42 (fun v43 w44 =>
 ∃ t45a t45n t45c, v43 = .slice t45a t45n t45c ∧ (∃ m34, m34 < m33 ∧ I32 m34 t45a t45n t45c (IntKind.wrap .i64 (i36 + 1)) w44)) (PnV R)) (PnC R)) (PC Tryz.prog 176 #[.pointer t28] w38 (fun v46 w47 => ∃ t48, v46 = .int .i64 t48 ∧
 PIf (t48 != 0) (PS w47 ⟨w.heap.size, 0, none⟩ (.slice none 0 0) fun w49 => (RdL w49 w.heap.size 0 fun r50a r50n r50c =>
 R (.returned (.tuple #[.agg #[.slice r50a r50n r50c], .bool false])) w49)) (PS w47 ⟨w.heap.size, 0, none⟩ (.slice l35a l35n l35c) fun w51 => (RdL w51 w.heap.size 0 fun r52a r52n r52c =>
 R (.returned (.tuple #[.agg #[.slice r52a r52n r52c], .bool true])) w51))) (PnC R)))) (PnC R)) (PnC R)))))))) (PnC R)) (PnC R)) :
 Calls Tryz.prog 142 #[.pointer d1] w R :=
 DC0 A_ref21_Read mixed Tryz.func142 rfl (by kernel_rfl) (Eq.mp (by kernel_rfl) h)
abbrev F_ref19_Disk_Read : Nat := 143
theorem L_ref19_Disk_Read {d1 : OA} {name2 : ByteArray} {w : World} {R : RW}
 (h : (∃ b3 o4, d1 = some ⟨b3, o4, none⟩ ∧ (RdB w b3 (o4 + 3) fun t5 => PIf t5 (R (.returned (.tuple #[.slice none 0 0, .int .i64 15])) w) (PC Tryz.prog 155 #[.pointer d1, .string name2] w (fun v6 w7 =>
 ∃ t8, v6 = .int .i64 t8 ∧ PIf (decide (t8 < 0)) (R (.returned (.tuple #[.slice none 0 0, .int .i64 14])) w7) ((∃ b9 o10, d1 = some ⟨b9, o10, none⟩ ∧
 (RdL w7 b9 (o10 + 2) fun t11a t11n t11c => (∃ b12 o13, t11a = some ⟨b12, o13, none⟩ ∧
 (0 : Int) ≤ t8 ∧ t8 < ((t11n : Nat) : Int) ∧ (RdL w7 b12 (o13 + Int.toNat t8 * 4 + 1) fun t14a t14n t14c =>
 PC Tryz.prog 150 #[.slice t14a t14n t14c] w7 (fun v15 w16 => ∃ t17a t17n t17c, v15 = .slice t17a t17n t17c ∧ R (.returned (.tuple #[.slice t17a t17n t17c, .int .i64 0])) w16) (PnC R))))))) (PnC R))))) :
 Calls Tryz.prog 143 #[.pointer d1, .string name2] w R :=
 DC0 ⟨[], [], [], [], []⟩ mixed Tryz.func143 rfl (by kernel_rfl) (Eq.mp (by kernel_rfl) h)
abbrev F_ref20_Name : Nat := 144
def A_ref20_Name : Ann := ⟨[(4, [(0, .int .i64 0), (3, .slice none 0 0)]), (9, [(4, .slice none 0 0), (5, .int .i64 0)])], [], [], [], []⟩
theorem L_ref20_Name {no1 : Int} {w : World} {R : RW}
 (h : PIf (decide (no1 < 0)) (R (.returned (.string (⟨#[]⟩ : ByteArray))) w) (PIf (decide (no1 > 999999999999)) (R (.returned (.string (⟨#[]⟩ : ByteArray))) w) ((∃ I2 : Nat → Int → OA → Nat → Nat → World → Prop, (∃ m3, I2 m3 no1 none 0 0 w) ∧
 ∀ (m3 : Nat) (no5 : Int) (digits6a : OA) (digits6n : Nat) (digits6c : Nat) (B7 : Nat → Value) (w8 : World), I2 m3 no5 digits6a digits6n digits6c w8 → PA w8 (.cells #[.int .u8 (IntKind.wrap .u8 (IntKind.wrap .i64 (48 + (Int.tmod no5 10))))] 5) fun w9 =>
 PRun Tryz.prog (Builtin.append_ #[49, 49] 49 #[.slice digits6a digits6n digits6c, .slice (some ⟨w8.heap.size, 0, none⟩) 1 1]) w9 (fun v10 w11 => ∃ t12a t12n t12c, v10 = .slice t12a t12n t12c ∧
 PIf (((IntKind.wrap .i64 (Int.tdiv no5 10)) : Int) == 0) (PA w11 (.cells #[.int .u8 115, .int .u8 101, .int .u8 103, .int .u8 46] 5) fun w13 => PRun Tryz.prog (convert 49 49 (.slice (some ⟨w11.heap.size, 0, none⟩) 4 4)) w13 (fun v14 w15 =>
 ∃ t16a t16n t16c, v14 = .slice t16a t16n t16c ∧ (∃ I17 : Nat → OA → Nat → Nat → Int → World → Prop, (∃ m18, I17 m18 t16a t16n t16c (IntKind.wrap .i64 (((t12n : Nat) : Int) - 1)) w15) ∧
 ∀ (m18 : Nat) (out20a : OA) (out20n : Nat) (out20c : Nat) (i21 : Int) (B22 : Nat → Value) (w23 : World), I17 m18 out20a out20n out20c i21 w23 → PIf (decide (i21 ≥ 0)) ((∃ b24 o25, t12a = some ⟨b24, o25, none⟩ ∧
 (0 : Int) ≤ i21 ∧ i21 < ((t12n : Nat) : Int) ∧ (∃ t26, w23.cell? ⟨b24, o25 + Int.toNat i21, none⟩ = some (.int .u8 t26) ∧ PA w23 (.cells #[.int .u8 t26] 5) fun w27 =>
 PRun Tryz.prog (Builtin.append_ #[49, 49] 49 #[.slice out20a out20n out20c, .slice (some ⟨w23.heap.size, 0, none⟩) 1 1]) w27 (fun v28 w29 => ∃ t30a t30n t30c, v28 = .slice t30a t30n t30c ∧
 (∃ m19, m19 < m18 ∧ I17 m19 t30a t30n t30c (IntKind.wrap .i64 (i21 - 1)) w29)) (PnV R)))) (PRun Tryz.prog (convert 49 9 (.slice out20a out20n out20c)) w23 (fun v31 w32 =>
 ∃ t33, v31 = .string t33 ∧ R (.returned (.string t33)) w32) (PnV R)))) (PnV R)) ((∃ m4, m4 < m3 ∧ I2 m4 (IntKind.wrap .i64 (Int.tdiv no5 10)) t12a t12n t12c w11))) (PnV R))))) :
 Calls Tryz.prog 144 #[.int .i64 no1] w R :=
 DC0 A_ref20_Name mixed Tryz.func144 rfl (by kernel_rfl) (Eq.mp (by kernel_rfl) h)
abbrev F_ref20_Load : Nat := 145
def A_ref20_Load : Ann := ⟨[(6, [(8, .slice none 0 0), (9, .int .i64 0)])], [], [], [], []⟩
theorem L_ref20_Load {d1 : OA} {no2 : Int} {w : World} {R : RW}
 (h : PC Tryz.prog 144 #[.int .i64 no2] w (fun v3 w4 => ∃ t5, v3 = .string t5 ∧ PC Tryz.prog 143 #[.pointer d1, .string t5] w4 (fun v6 w7 => ∃ t8a t8n t8c t9, v6 = .tuple #[.slice t8a t8n t8c, .int .i64 t9] ∧
 PIf (t9 != 0) (R (.returned (.tuple #[.slice none 0 0, .int .i64 0])) w7) ((∃ I10 : Nat → OA → Nat → Nat → Int → World → Prop, (∃ m11, I10 m11 none 0 0 0 w7) ∧
 ∀ (m11 : Nat) (out13a : OA) (out13n : Nat) (out13c : Nat) (at14 : Int) (B15 : Nat → Value) (w16 : World), I10 m11 out13a out13n out13c at14 w16 → PIf (decide (at14 < ((t8n : Nat) : Int))) (((0 : Int) ≤ at14 ∧
 (at14 : Int) ≤ ((t8n : Nat) : Int) ∧ PC Tryz.prog 172 #[.slice (subA t8a (Int.toNat at14) t8c 1) (t8n - Int.toNat at14) (t8c - Int.toNat at14)] w16 (fun v17 w18 =>
 ∃ t19 t20a t20n t20c t21 t22, v17 = .tuple #[.agg #[.int .i64 t19, .slice t20a t20n t20c], .int .i64 t21, .int .i64 t22] ∧
 PA w18 (.cells #[.int .i64 0, .slice none 0 0] 99) fun w23 => PS w23 ⟨w18.heap.size, 0, none⟩ (.int .i64 t19) fun w24 => PS w24 ⟨w18.heap.size, 0 + 1, none⟩ (.slice t20a t20n t20c) fun w25 =>
 PIf (t22 != 0) (R (.returned (.tuple #[.slice out13a out13n out13c, .int .i64 at14])) w25) ((RdI w25 w18.heap.size 0 fun t26 =>
 PIf (t26 != 1) (R (.returned (.tuple #[.slice out13a out13n out13c, .int .i64 at14])) w25) ((RdL w25 w18.heap.size (0 + 1) fun t27a t27n t27c =>
 PC Tryz.prog 177 #[.slice t27a t27n t27c] w25 (fun v28 w29 => ∃ t30 t31 t32 t33a t33n t33c t34 t35 t36 t37 t38 t39 t40, v28 = .tuple #[.agg #[.int .i64 t30, .int .i64 t31, .int .i64 t32, .slice t33a t33n t33c, .int .i64 t34, .int .i64 t35, .int .i64 t36, .int .i64 t37, .int .i64 t38, .int .i64 t39], .int .i64 t40] ∧
 PA w29 (.cells #[.int .i64 0, .int .i64 0, .int .i64 0, .slice none 0 0, .int .i64 0, .int .i64 0, .int .i64 0, .int .i64 0, .int .i64 0, .int .i64 0] 39) fun w41 =>
 PS w41 ⟨w29.heap.size, 0, none⟩ (.int .i64 t30) fun w42 => PS w42 ⟨w29.heap.size, 0 + 1, none⟩ (.int .i64 t31) fun w43 => PS w43 ⟨w29.heap.size, 0 + 2, none⟩ (.int .i64 t32) fun w44 =>
 PS w44 ⟨w29.heap.size, 0 + 3, none⟩ (.slice t33a t33n t33c) fun w45 => PS w45 ⟨w29.heap.size, 0 + 4, none⟩ (.int .i64 t34) fun w46 => PS w46 ⟨w29.heap.size, 0 + 5, none⟩ (.int .i64 t35) fun w47 =>
 PS w47 ⟨w29.heap.size, 0 + 6, none⟩ (.int .i64 t36) fun w48 => PS w48 ⟨w29.heap.size, 0 + 7, none⟩ (.int .i64 t37) fun w49 => PS w49 ⟨w29.heap.size, 0 + 8, none⟩ (.int .i64 t38) fun w50 =>
 PS w50 ⟨w29.heap.size, 0 + 9, none⟩ (.int .i64 t39) fun w51 => PIf (t40 != 0) (R (.returned (.tuple #[.slice out13a out13n out13c, .int .i64 at14])) w51) ((∃ t52 t53 t54 t55a t55n t55c t56 t57 t58 t59 t60 t61, w51.cell? ⟨w29.heap.size, 0, none⟩ = some (.int .i64 t52) ∧
 w51.cell? ⟨w29.heap.size, 0 + 1, none⟩ = some (.int .i64 t53) ∧ w51.cell? ⟨w29.heap.size, 0 + 2, none⟩ = some (.int .i64 t54) ∧ w51.cell? ⟨w29.heap.size, 0 + 3, none⟩ = some (.slice t55a t55n t55c) ∧
 w51.cell? ⟨w29.heap.size, 0 + 4, none⟩ = some (.int .i64 t56) ∧ w51.cell? ⟨w29.heap.size, 0 + 5, none⟩ = some (.int .i64 t57) ∧ w51.cell? ⟨w29.heap.size, 0 + 6, none⟩ = some (.int .i64 t58) ∧
 w51.cell? ⟨w29.heap.size, 0 + 7, none⟩ = some (.int .i64 t59) ∧ w51.cell? ⟨w29.heap.size, 0 + 8, none⟩ = some (.int .i64 t60) ∧ w51.cell? ⟨w29.heap.size, 0 + 9, none⟩ = some (.int .i64 t61) ∧
 PA w51 (.cells #[.int .i64 t52, .int .i64 t53, .int .i64 t54, .slice t55a t55n t55c, .int .i64 t56, .int .i64 t57, .int .i64 t58, .int .i64 t59, .int .i64 t60, .int .i64 t61] 39) fun w62 =>
 PRun Tryz.prog (Builtin.append_ #[22, 22] 22 #[.slice out13a out13n out13c, .slice (some ⟨w51.heap.size, 0, none⟩) 1 1]) w62 (fun v63 w64 => ∃ t65a t65n t65c, v63 = .slice t65a t65n t65c ∧
 (∃ m12, m12 < m11 ∧ I10 m12 t65a t65n t65c (IntKind.wrap .i64 (at14 + t21)) w64)) (PnV R)))) (PnC R)))))) (PnC R))) (R (.returned (.tuple #[.slice out13a out13n out13c, .int .i64 at14])) w16)))) (PnC R)) (PnC R)) :
 Calls Tryz.prog 145 #[.pointer d1, .int .i64 no2] w R :=
 DC0 A_ref20_Load mixed Tryz.func145 rfl (by kernel_rfl) (Eq.mp (by kernel_rfl) h)
abbrev F_ref19_Disk_Cut : Nat := 146
def A_ref19_Disk_Cut : Ann := ⟨[], [], [6], [], [(6, ⟨[0, 1, 2, 4, 0, 0, 32, 64, 128, 0, 768, 1024, 2048, 0, 0, 16384, 32768, 65536, 0, 393216, 524288, 1048576, 2097152, 4202496, 8388608, 16781312, 33554432, 134217727, 268435455, 402653183], [1073741823, 1073741822, 1073741821, 1073741819, 1073741823, 1073741823, 1073741791, 1073741759, 1073741695, 1073741823, 1073741055, 1073740799, 1073739775, 1073741823, 1073741823, 1073725439, 1073709055, 1073676287, 1073741823, 1073348607, 1073217535, 1072693247, 1071644671, 1069539327, 1065353215, 1056960511, 1040187391, 1073741799, 939524095, 738197503], [0, 0, 0, 1, 0, 0, 0, 0, 1, 0, 0, 0, 1, 0, 0, 0, 0, 1, 0, 0, 0, 1, 0, 0, 0, 0, 2, 0, 0, 2]⟩), (7, ⟨[0, 1, 2, 4, 0, 0, 32, 64, 128, 0, 768, 1024, 2048, 4096, 16383, 32767, 49151], [131071, 131070, 131069, 131067, 131071, 131071, 131039, 131007, 130943, 131071, 130303, 130047, 129023, 126975, 131047, 114687, 90111], [0, 0, 0, 1, 0, 0, 0, 0, 1, 0, 0, 0, 1, 0, 0, 0, 2]⟩)]⟩
theorem L_ref19_Disk_Cut {d1 : OA} {name2 : ByteArray} {n3 : Int} {w : World} {R : RW}
 (h : PC Tryz.prog 154 #[.pointer d1] w (fun v4 w5 => ∃ t6, v4 = .bool t6 ∧ PIf t6 (R (.returned (.int .i64 15)) w5) (PC Tryz.prog 155 #[.pointer d1, .string name2] w5 (fun v7 w8 =>
 ∃ t9, v7 = .int .i64 t9 ∧ PIf (decide (t9 < 0)) (R (.returned (.int .i64 14)) w8) ((∀ w11, Drew w8 w11 → ∃ S12 : Nat → Prop, (∃ b13 o14, d1 = some ⟨b13, o14, none⟩ ∧
 (¬ S12 b13 ∧ (RdL w11 b13 (o14 + 2) fun t15a t15n t15c => (∃ b16 o17, d1 = some ⟨b16, o17, none⟩ ∧
 (RdL w11 b16 (o17 + 2) fun t18a t18n t18c => (∃ b19 o20, t18a = some ⟨b19, o20, none⟩ ∧
 (0 : Int) ≤ t9 ∧ t9 < ((t18n : Nat) : Int) ∧ (RdL w11 b19 (o20 + Int.toNat t9 * 4 + 1) fun t21a t21n t21c =>
 (∃ b22 o23, d1 = some ⟨b22, o23, none⟩ ∧ (RdL w11 b22 (o23 + 2) fun t24a t24n t24c =>
 (∃ b25 o26, t24a = some ⟨b25, o26, none⟩ ∧ (0 : Int) ≤ t9 ∧ t9 < ((t24n : Nat) : Int) ∧ (RdL w11 b25 (o26 + Int.toNat t9 * 4 + 1) fun t27a t27n t27c =>
 ((0 : Int) ≤ (if (if ((t27n : Nat) : Int) < n3 then ((t27n : Nat) : Int) else n3) > 0 then (if ((t27n : Nat) : Int) < n3 then ((t27n : Nat) : Int) else n3) else 0) ∧
 ((if (if ((t27n : Nat) : Int) < n3 then ((t27n : Nat) : Int) else n3) > 0 then (if ((t27n : Nat) : Int) < n3 then ((t27n : Nat) : Int) else n3) else 0) : Int) ≤ ((t21c : Nat) : Int) ∧
 PC Tryz.prog 150 #[.slice t21a (Int.toNat (if (if ((t27n : Nat) : Int) < n3 then ((t27n : Nat) : Int) else n3) > 0 then (if ((t27n : Nat) : Int) < n3 then ((t27n : Nat) : Int) else n3) else 0)) t21c] w11 (fun v28 w29 =>
 ∃ t30a t30n t30c, v28 = .slice t30a t30n t30c ∧ (Keep S12 w11 w29 ∧ (∃ b31 o32, t15a = some ⟨b31, o32, none⟩ ∧ (0 : Int) ≤ t9 ∧
 t9 < ((t15n : Nat) : Int) ∧ PS w29 ⟨b31, o32 + Int.toNat t9 * 4 + 1, none⟩ (.slice t30a t30n t30c) fun w33 => (Keep S12 w29 w33 ∧ (∀ w35, Drew w33 w35 → (∃ b36 o37, d1 = some ⟨b36, o37, none⟩ ∧
 (RdL w35 b36 (o37 + 2) fun t38a t38n t38c => (∃ b39 o40, d1 = some ⟨b39, o40, none⟩ ∧
 (RdL w35 b39 (o40 + 2) fun t41a t41n t41c => (∃ b42 o43, t41a = some ⟨b42, o43, none⟩ ∧
 (0 : Int) ≤ t9 ∧ t9 < ((t41n : Nat) : Int) ∧ (RdL w35 b42 (o43 + Int.toNat t9 * 4 + 1) fun t44a t44n t44c =>
 (∃ b45 o46, t38a = some ⟨b45, o46, none⟩ ∧ (0 : Int) ≤ t9 ∧ t9 < ((t38n : Nat) : Int) ∧ PS w35 ⟨b45, o46 + Int.toNat t9 * 4 + 2, none⟩ (.int .i64 ((t44n : Nat) : Int)) fun w47 =>
 (∃ b48 o49, d1 = some ⟨b48, o49, none⟩ ∧ (RdL w47 b48 (o49 + 2) fun t50a t50n t50c =>
 (∃ b51 o52, t50a = some ⟨b51, o52, none⟩ ∧ (0 : Int) ≤ t9 ∧ t9 < ((t50n : Nat) : Int) ∧ PS w47 ⟨b51, o52 + Int.toNat t9 * 4 + 3, none⟩ (.bool true) fun w53 =>
 R (.returned (.int .i64 0)) w53))))))))))))))) (fun ch wpp => ∀ (_ : Base) (_ : Bnd), R (.panicked ch) wpp)))))))))))))))) (PnC R))) (PnC R)) :
 Calls Tryz.prog 146 #[.pointer d1, .string name2, .int .i64 n3] w R :=
 DC0 A_ref19_Disk_Cut mixed Tryz.func146 rfl (by kernel_rfl) (Eq.mp (by kernel_rfl) h)
abbrev F_ref22_Log_begin : Nat := 147
def A_ref22_Log_begin : Ann := ⟨[], [(5, []), (11, [(6, .slice none 0 0)]), (13, [(5, .int .i64 0)])], [10], [], []⟩
theorem L_ref22_Log_begin {l1 : OA} {w : World} {R : RW}
 (h : (∃ J2 : World → Prop, ((∃ b3 o4, l1 = some ⟨b3, o4, none⟩ ∧ (RdL w b3 (o4 + 2) fun t5a t5n t5c =>
 PIf (decide ((((t5n : Nat) : Int) : Int) > 0)) (PC Tryz.prog 113 #[.pointer l1] w (fun v6 w7 => ∃ t8, v6 = .int .i64 t8 ∧ PIf (t8 != 0) (R (.returned (.int .i64 t8)) w7) (J2  w7)) (PnC R)) (J2  w)))) ∧ ∀  (B9 : Nat → Value) (w10 : World), J2  w10 → (∃ b11 o12, l1 = some ⟨b11, o12, none⟩ ∧ (RdI w10 b11 (o12 + 4) fun t13 =>
 PC Tryz.prog 144 #[.int .i64 t13] w10 (fun v14 w15 => ∃ t16, v14 = .string t16 ∧ (∃ b17 o18, l1 = some ⟨b17, o18, none⟩ ∧ (RdP w15 b17 o18 fun t19 =>
 PC Tryz.prog 178 #[.pointer t19, .string t16] w15 (fun v20 w21 => ∃ t22, v20 = .int .i64 t22 ∧ PIf (t22 != 0) (R (.returned (.int .i64 t22)) w21) ((∃ b23 o24, l1 = some ⟨b23, o24, none⟩ ∧
 (RdP w21 b23 o24 fun t25 => PC Tryz.prog 152 #[.pointer t25, .string t16] w21 (fun v26 w27 => ∃ t28, v26 = .int .i64 t28 ∧
 (∃ J29 : OA → Nat → Nat → World → Prop, ((∀ w31, Drew w27 w31 → ∃ S32 : Nat → Prop, (∃ b33 o34, l1 = some ⟨b33, o34, none⟩ ∧ (¬ S32 b33 ∧ (RdI w31 b33 (o34 + 4) fun t35 =>
 ((PC Tryz.prog 70 #[.pointer l1] w31 (fun v36 w37 => ∃ t38a t38n t38c, v36 = .slice t38a t38n t38c ∧ (Keep S32 w31 w37 ∧
 PA w37 (.cells #[.int .i64 t35] 3) fun w39 => (Keep S32 w37 w39 ∧ PRun Tryz.prog (Builtin.append_ #[37, 37] 37 #[.slice t38a t38n t38c, .slice (some ⟨w37.heap.size, 0, none⟩) 1 1]) w39 (fun v40 w41 =>
 ∃ t42a t42n t42c, v40 = .slice t42a t42n t42c ∧ (Keep S32 w39 w41 ∧ J29 t42a t42n t42c w41)) (fun pv wpp => ∀ (_ : Base) (_ : Bnd), R (.panicked [{ v := pv, recovered := false }]) wpp)))) (fun ch wpp =>
 ∀ (_ : Base) (_ : Bnd), R (.panicked ch) wpp)) ∧ (PA w31 (.cells #[.int .i64 t35] 3) fun w43 => (Keep S32 w31 w43 ∧ PC Tryz.prog 70 #[.pointer l1] w43 (fun v44 w45 =>
 ∃ t46a t46n t46c, v44 = .slice t46a t46n t46c ∧ (Keep S32 w43 w45 ∧ PRun Tryz.prog (Builtin.append_ #[37, 37] 37 #[.slice t46a t46n t46c, .slice (some ⟨w31.heap.size, 0, none⟩) 1 1]) w45 (fun v47 w48 =>
 ∃ t49a t49n t49c, v47 = .slice t49a t49n t49c ∧ (Keep S32 w45 w48 ∧ J29 t49a t49n t49c w48)) (fun pv wpp => ∀ (_ : Base) (_ : Bnd), R (.panicked [{ v := pv, recovered := false }]) wpp))) (fun ch wpp =>
 ∀ (_ : Base) (_ : Bnd), R (.panicked ch) wpp))))))))) ∧ ∀ (all50a : OA) (all50n : Nat) (all50c : Nat) (B51 : Nat → Value) (w52 : World), J29 all50a all50n all50c w52 → (∃ J53 : Int → World → Prop, (PIf (t28 == 0) ((∃ b54 o55, l1 = some ⟨b54, o55, none⟩ ∧
 (RdP w52 b54 o55 fun t56 => PC Tryz.prog 148 #[.pointer t56, .agg #[.slice all50a all50n all50c]] w52 (fun v57 w58 =>
 ∃ t59, v57 = .int .i64 t59 ∧ J53 t59 w58) (PnC R)))) (J53 t28 w52)) ∧ ∀ (no60 : Int) (B61 : Nat → Value) (w62 : World), J53 no60 w62 → PIf (no60 != 0) ((∃ b63 o64, l1 = some ⟨b63, o64, none⟩ ∧
 (RdP w62 b63 o64 fun t65 => PC Tryz.prog 179 #[.pointer t65, .string t16] w62 (fun v66 w67 => ∃ t68, v66 = .int .i64 t68 ∧
 R (.returned (.int .i64 no60)) w67) (PnC R)))) ((∃ b69 o70, l1 = some ⟨b69, o70, none⟩ ∧ PS w62 ⟨b69, o70 + 2, none⟩ (.slice all50a all50n all50c) fun w71 =>
 (∃ b72 o73, l1 = some ⟨b72, o73, none⟩ ∧ PS w71 ⟨b72, o73 + 3, none⟩ (.int .i64 0) fun w74 => (∃ b75 o76, l1 = some ⟨b75, o76, none⟩ ∧ (RdI w74 b75 (o76 + 4) fun t77 =>
 (∃ b78 o79, l1 = some ⟨b78, o79, none⟩ ∧ PS w74 ⟨b78, o79 + 4, none⟩ (.int .i64 (IntKind.wrap .i64 (t77 + 1))) fun w80 => R (.returned (.int .i64 0)) w80))))))))) (PnC R))))) (PnC R)))) (PnC R))))) :
 Calls Tryz.prog 147 #[.pointer l1] w R :=
 DC0 A_ref22_Log_begin mixed Tryz.func147 rfl (by kernel_rfl) (Eq.mp (by kernel_rfl) h)
abbrev F_ref21_Write : Nat := 148
def A_ref21_Write : Ann := ⟨[(4, [(5, .int .i64 0)])], [], [], [], []⟩
theorem L_ref21_Write {d1 m3a : OA} {m3n m3c : Nat} {w : World} {R : RW}
 (h : PA w (.cells #[.slice m3a m3n m3c] 56) fun w4 => (RdL w4 w.heap.size 0 fun t5a t5n t5c =>
 PIf (decide ((((t5n : Nat) : Int) : Int) > 64)) (R (.returned (.int .i64 3)) w4) ((∃ I6 : Nat → Int → World → Prop, (∃ m7, I6 m7 0 w4) ∧ ∀ (m7 : Nat) (i9 : Int) (B10 : Nat → Value) (w11 : World), I6 m7 i9 w11 → PIf (decide (i9 < 5)) ((RdL w11 w.heap.size 0 fun t12a t12n t12c =>
 PC Tryz.prog 180 #[.pointer d1, .agg #[.slice t12a t12n t12c], .int .i64 i9] w11 (fun v13 w14 => ∃ t15, v13 = .int .i64 t15 ∧ PIf (t15 != 0) (PC Tryz.prog 181 #[.pointer d1, .string (⟨#[109, 97, 110, 105, 102, 101, 115, 116, 46, 116, 109, 112]⟩ : ByteArray)] w14 (fun v16 w17 =>
 ∃ t18, v16 = .bool t18 ∧ PIf t18 (PC Tryz.prog 179 #[.pointer d1, .string (⟨#[109, 97, 110, 105, 102, 101, 115, 116, 46, 116, 109, 112]⟩ : ByteArray)] w17 (fun v19 w20 =>
 ∃ t21, v19 = .int .i64 t21 ∧ R (.returned (.int .i64 t15)) w20) (PnC R)) (R (.returned (.int .i64 t15)) w17)) (PnC R)) ((∃ m8, m8 < m7 ∧ I6 m8 (IntKind.wrap .i64 (i9 + 1)) w14))) (PnC R))) (R (.returned (.int .i64 0)) w11))))) :
 Calls Tryz.prog 148 #[.pointer d1, .agg #[.slice m3a m3n m3c]] w R :=
 DC0 A_ref21_Write mixed Tryz.func148 rfl (by kernel_rfl) (Eq.mp (by kernel_rfl) h)
abbrev F_kit_SpoilInts : Nat := 149
def A_kit_SpoilInts : Ann := ⟨[(1, [(2, .int .i64 0)])], [], [], [], []⟩
theorem L_kit_SpoilInts {l1a : OA} {l1n l1c : Nat} {w : World} {R : RW}
 (h : (∃ I2 : Nat → Int → World → Prop, (∃ m3, I2 m3 0 w) ∧ ∀ (m3 : Nat) (i5 : Int) (B6 : Nat → Value) (w7 : World), I2 m3 i5 w7 → PIf (decide (i5 < ((l1n : Nat) : Int))) (PC Tryz.prog 182 #[.int .i64 (IntKind.wrap .i64 (i5 + 7))] w7 (fun v8 w9 =>
 ∃ t10, v8 = .int .i64 t10 ∧ (∃ b11 o12, l1a = some ⟨b11, o12, none⟩ ∧ (0 : Int) ≤ i5 ∧ i5 < ((l1n : Nat) : Int) ∧ PS w9 ⟨b11, o12 + Int.toNat i5, none⟩ (.int .i64 t10) fun w13 =>
 (∃ m4, m4 < m3 ∧ I2 m4 (IntKind.wrap .i64 (i5 + 1)) w13))) (PnC R)) (R (.returned (.tuple #[])) w7))) :
 Calls Tryz.prog 149 #[.slice l1a l1n l1c] w R :=
 DC0 A_kit_SpoilInts mixed Tryz.func149 rfl (by kernel_rfl) (Eq.mp (by kernel_rfl) h)
abbrev F_kit_CopyBytes : Nat := 150
def A_kit_CopyBytes : Ann := ⟨[(3, [(3, .slice none 0 0), (4, .int .i64 0)])], [], [], [], []⟩
theorem L_kit_CopyBytes {l1a : OA} {l1n l1c : Nat} {w : World} {R : RW}
 (h : (∃ I2 : Nat → OA → Nat → Nat → Int → World → Prop, (∃ m3, I2 m3 none 0 0 0 w) ∧ ∀ (m3 : Nat) (out5a : OA) (out5n : Nat) (out5c : Nat) (i6 : Int) (B7 : Nat → Value) (w8 : World), I2 m3 out5a out5n out5c i6 w8 → PIf (decide (i6 < ((l1n : Nat) : Int))) ((∃ b9 o10, l1a = some ⟨b9, o10, none⟩ ∧
 (0 : Int) ≤ i6 ∧ i6 < ((l1n : Nat) : Int) ∧ (∃ t11, w8.cell? ⟨b9, o10 + Int.toNat i6, none⟩ = some (.int .u8 t11) ∧ PA w8 (.cells #[.int .u8 t11] 5) fun w12 =>
 PRun Tryz.prog (Builtin.append_ #[49, 49] 49 #[.slice out5a out5n out5c, .slice (some ⟨w8.heap.size, 0, none⟩) 1 1]) w12 (fun v13 w14 => ∃ t15a t15n t15c, v13 = .slice t15a t15n t15c ∧
 (∃ m4, m4 < m3 ∧ I2 m4 t15a t15n t15c (IntKind.wrap .i64 (i6 + 1)) w14)) (PnV R)))) (R (.returned (.slice out5a out5n out5c)) w8))) :
 Calls Tryz.prog 150 #[.slice l1a l1n l1c] w R :=
 DC0 A_kit_CopyBytes mixed Tryz.func150 rfl (by kernel_rfl) (Eq.mp (by kernel_rfl) h)
abbrev F_ref20_Frame : Nat := 151
theorem L_ref20_Frame {e2 e3 e4 e6 e7 e8 e9 e10 e11 : Int} {e5a : OA} {e5n e5c : Nat} {w : World} {R : RW}
 (h : PA w (.cells #[.int .i64 e2, .int .i64 e3, .int .i64 e4, .slice e5a e5n e5c, .int .i64 e6, .int .i64 e7, .int .i64 e8, .int .i64 e9, .int .i64 e10, .int .i64 e11] 39) fun w12 =>
 (∃ t13 t14 t15 t16a t16n t16c t17 t18 t19 t20 t21 t22, w12.cell? ⟨w.heap.size, 0, none⟩ = some (.int .i64 t13) ∧
 w12.cell? ⟨w.heap.size, 0 + 1, none⟩ = some (.int .i64 t14) ∧ w12.cell? ⟨w.heap.size, 0 + 2, none⟩ = some (.int .i64 t15) ∧ w12.cell? ⟨w.heap.size, 0 + 3, none⟩ = some (.slice t16a t16n t16c) ∧
 w12.cell? ⟨w.heap.size, 0 + 4, none⟩ = some (.int .i64 t17) ∧ w12.cell? ⟨w.heap.size, 0 + 5, none⟩ = some (.int .i64 t18) ∧ w12.cell? ⟨w.heap.size, 0 + 6, none⟩ = some (.int .i64 t19) ∧
 w12.cell? ⟨w.heap.size, 0 + 7, none⟩ = some (.int .i64 t20) ∧ w12.cell? ⟨w.heap.size, 0 + 8, none⟩ = some (.int .i64 t21) ∧ w12.cell? ⟨w.heap.size, 0 + 9, none⟩ = some (.int .i64 t22) ∧
 PC Tryz.prog 183 #[.agg #[.int .i64 t13, .int .i64 t14, .int .i64 t15, .slice t16a t16n t16c, .int .i64 t17, .int .i64 t18, .int .i64 t19, .int .i64 t20, .int .i64 t21, .int .i64 t22]] w12 (fun v23 w24 =>
 ∃ t25a t25n t25c t26, v23 = .tuple #[.slice t25a t25n t25c, .int .i64 t26] ∧ PIf (t26 != 0) (R (.returned (.tuple #[.slice none 0 0, .int .i64 t26])) w24) (PC Tryz.prog 184 #[.agg #[.int .i64 1, .slice t25a t25n t25c]] w24 (fun v27 w28 =>
 ∃ t29a t29n t29c t30, v27 = .tuple #[.slice t29a t29n t29c, .int .i64 t30] ∧ R (.returned (.tuple #[.slice t29a t29n t29c, .int .i64 t30])) w28) (PnC R))) (PnC R))) :
 Calls Tryz.prog 151 #[.agg #[.int .i64 e2, .int .i64 e3, .int .i64 e4, .slice e5a e5n e5c, .int .i64 e6, .int .i64 e7, .int .i64 e8, .int .i64 e9, .int .i64 e10, .int .i64 e11]] w R :=
 DC0 ⟨[], [], [], [], []⟩ mixed Tryz.func151 rfl (by kernel_rfl) (Eq.mp (by kernel_rfl) h)
abbrev F_ref19_Disk_Sync : Nat := 152
def A_ref19_Disk_Sync : Ann := ⟨[], [], [], [], [(6, ⟨[0, 1, 2, 4, 0, 0, 32, 64, 128, 0, 768, 1024, 2048, 4096, 16383, 32767, 49151], [131071, 131070, 131069, 131067, 131071, 131071, 131039, 131007, 130943, 131071, 130303, 130047, 129023, 126975, 131047, 114687, 90111], [0, 0, 0, 1, 0, 0, 0, 0, 1, 0, 0, 0, 1, 0, 0, 0, 2]⟩)]⟩
theorem L_ref19_Disk_Sync {d1 : OA} {name2 : ByteArray} {w : World} {R : RW}
 (h : PC Tryz.prog 154 #[.pointer d1] w (fun v3 w4 => ∃ t5, v3 = .bool t5 ∧ PIf t5 (R (.returned (.int .i64 15)) w4) (PC Tryz.prog 155 #[.pointer d1, .string name2] w4 (fun v6 w7 =>
 ∃ t8, v6 = .int .i64 t8 ∧ PIf (decide (t8 < 0)) (R (.returned (.int .i64 14)) w7) ((∀ w10, Drew w7 w10 → (∃ b11 o12, d1 = some ⟨b11, o12, none⟩ ∧
 (RdL w10 b11 (o12 + 2) fun t13a t13n t13c => (∃ b14 o15, d1 = some ⟨b14, o15, none⟩ ∧
 (RdL w10 b14 (o15 + 2) fun t16a t16n t16c => (∃ b17 o18, t16a = some ⟨b17, o18, none⟩ ∧
 (0 : Int) ≤ t8 ∧ t8 < ((t16n : Nat) : Int) ∧ (RdL w10 b17 (o18 + Int.toNat t8 * 4 + 1) fun t19a t19n t19c =>
 (∃ b20 o21, t13a = some ⟨b20, o21, none⟩ ∧ (0 : Int) ≤ t8 ∧ t8 < ((t13n : Nat) : Int) ∧ PS w10 ⟨b20, o21 + Int.toNat t8 * 4 + 2, none⟩ (.int .i64 ((t19n : Nat) : Int)) fun w22 =>
 (∃ b23 o24, d1 = some ⟨b23, o24, none⟩ ∧ (RdL w22 b23 (o24 + 2) fun t25a t25n t25c =>
 (∃ b26 o27, t25a = some ⟨b26, o27, none⟩ ∧ (0 : Int) ≤ t8 ∧ t8 < ((t25n : Nat) : Int) ∧ PS w22 ⟨b26, o27 + Int.toNat t8 * 4 + 3, none⟩ (.bool true) fun w28 =>
 R (.returned (.int .i64 0)) w28))))))))))))) (PnC R))) (PnC R)) :
 Calls Tryz.prog 152 #[.pointer d1, .string name2] w R :=
 DC0 A_ref19_Disk_Sync mixed Tryz.func152 rfl (by kernel_rfl) (Eq.mp (by kernel_rfl) h)
abbrev F_law22_names : Nat := 153
theorem L_law22_names {no1 : Int} {w : World} {R : RW}
 (h : PC Tryz.prog 31 #[.int .i64 no1] w (fun v2 w3 => ∃ t4, v2 = .string t4 ∧ R (.returned (.string t4)) w3) (PnC R)) :
 Calls Tryz.prog 153 #[.int .i64 no1] w R :=
 DC0 ⟨[], [], [], [], []⟩ mixed Tryz.func153 rfl (by kernel_rfl) (Eq.mp (by kernel_rfl) h)
abbrev F_ref19_Disk_dies : Nat := 154
theorem L_ref19_Disk_dies {d1 : OA} {w : World} {R : RW}
 (h : (∃ b2 o3, d1 = some ⟨b2, o3, none⟩ ∧ (RdB w b2 (o3 + 3) fun t4 => PIf t4 (R (.returned (.bool true)) w) ((∃ b5 o6, d1 = some ⟨b5, o6, none⟩ ∧
 (RdI w b5 (o6 + 1) fun t7 => PIf (t7 == 0) ((∃ b8 o9, d1 = some ⟨b8, o9, none⟩ ∧ PS w ⟨b8, o9 + 3, none⟩ (.bool true) fun w10 =>
 R (.returned (.bool true)) w10)) ((∃ b11 o12, d1 = some ⟨b11, o12, none⟩ ∧ (RdI w b11 (o12 + 1) fun t13 => PIf (decide (t13 > 0)) ((∃ b14 o15, d1 = some ⟨b14, o15, none⟩ ∧
 (RdI w b14 (o15 + 1) fun t16 => (∃ b17 o18, d1 = some ⟨b17, o18, none⟩ ∧ PS w ⟨b17, o18 + 1, none⟩ (.int .i64 (IntKind.wrap .i64 (t16 - 1))) fun w19 =>
 R (.returned (.bool false)) w19)))) (R (.returned (.bool false)) w)))))))))) :
 Calls Tryz.prog 154 #[.pointer d1] w R :=
 DC0 ⟨[], [], [], [], []⟩ mixed Tryz.func154 rfl (by kernel_rfl) (Eq.mp (by kernel_rfl) h)
abbrev F_ref19_Disk_at : Nat := 155
def A_ref19_Disk_at : Ann := ⟨[(2, [(5, .int .i64 0)])], [], [], [], []⟩
theorem L_ref19_Disk_at {d1 : OA} {name2 : ByteArray} {w : World} {R : RW}
 (h : (∃ I3 : Nat → Int → World → Prop, (∃ m4, I3 m4 0 w) ∧ ∀ (m4 : Nat) (i6 : Int) (B7 : Nat → Value) (w8 : World), I3 m4 i6 w8 → (∃ b9 o10, d1 = some ⟨b9, o10, none⟩ ∧
 (RdL w8 b9 (o10 + 2) fun t11a t11n t11c => PIf (decide (i6 < ((t11n : Nat) : Int))) ((∃ b12 o13, d1 = some ⟨b12, o13, none⟩ ∧
 (RdL w8 b12 (o13 + 2) fun t14a t14n t14c => (∃ b15 o16, t14a = some ⟨b15, o16, none⟩ ∧
 (0 : Int) ≤ i6 ∧ i6 < ((t14n : Nat) : Int) ∧ (RdT w8 b15 (o16 + Int.toNat i6 * 4) fun t17 => PIf ((ByteArray.toList t17) == (ByteArray.toList name2)) (R (.returned (.int .i64 i6)) w8) ((∃ m5, m5 < m4 ∧
 I3 m5 (IntKind.wrap .i64 (i6 + 1)) w8))))))) (R (.returned (.int .i64 (-1))) w8))))) :
 Calls Tryz.prog 155 #[.pointer d1, .string name2] w R :=
 DC0 A_ref19_Disk_at mixed Tryz.func155 rfl (by kernel_rfl) (Eq.mp (by kernel_rfl) h)
abbrev F_strings_IndexRune : Nat := 159
def A_strings_IndexRune : Ann := ⟨[(5, [(9, .int .i64 0)]), (12, [(12, .int .i64 0)]), (38, [])], [(11, [(9, .int .i64 0)]), (35, [(160, .bool false)])], [], [], []⟩
theorem L_strings_IndexRune {s1 : ByteArray} {r2 : Int} {w : World} {R : RW}
 (h : (∃ J3 : Bool → World → Prop, (PIf (decide ((0 : Int) ≤ r2)) (J3 (decide (r2 < 128)) w) (J3 false w)) ∧ ∀ (t4 : Bool) (B5 : Nat → Value) (w6 : World), J3 t4 w6 → PIf t4 (PC Tryz.prog 195 #[.string s1, .int .u8 (IntKind.wrap .u8 r2)] w6 (fun v7 w8 =>
 ∃ t9, v7 = .int .i64 t9 ∧ R (.returned (.int .i64 t9)) w8) (PnC R)) (PIf (r2 == 65533) (PRun Tryz.prog (Instr.range 9 (.string s1)) w6 (fun v10 w11 =>
 (∃ I12 : Nat → World → Prop, (∃ m13, I12 m13  w11) ∧ ∀ (m13 : Nat)  (B15 : Nat → Value) (w16 : World), I12 m13  w16 → PRun Tryz.prog (Instr.next v10 true 0) w16 (fun v17 w18 =>
 (v17 = .tuple #[.bool false] ∧ R (.returned (.int .i64 (-1))) w18) ∨ (∃ i19 r20, v17 = .tuple #[.bool true, .int .i64 i19, .int .i32 r20] ∧ PIf (r20 == 65533) (R (.returned (.int .i64 i19)) w18) ((∃ m14, m14 < m13 ∧
 I12 m14  w18)))) (PnV R))) (PnV R)) (PC Tryz.prog 196 #[.int .i32 r2] w6 (fun v21 w22 =>
 ∃ t23, v21 = .bool t23 ∧ PIf (!t23) (R (.returned (.int .i64 (-1))) w22) (PRun Tryz.prog (convert 21 9 (.int .i32 r2)) w22 (fun v24 w25 => ∃ t26, v24 = .string t26 ∧
 (∃ I27 : Nat → Int → World → Prop, (∃ m28, I27 m28 (IntKind.wrap .i64 (((ByteArray.size t26 : Nat) : Int) - 1)) w25) ∧ ∀ (m28 : Nat) (i30 : Int) (B31 : Nat → Value) (w32 : World), I27 m28 i30 w32 → PIf (decide (i30 < ((ByteArray.size s1 : Nat) : Int))) ((∃ J33 : Int → World → Prop, (((0 : Int) ≤ i30 ∧
 ∃ c35, s1[Int.toNat i30]? = some c35 ∧ ((0 : Int) ≤ (IntKind.wrap .i64 (((ByteArray.size t26 : Nat) : Int) - 1)) ∧ ∃ c36, t26[Int.toNat (IntKind.wrap .i64 (((ByteArray.size t26 : Nat) : Int) - 1))]? = some c36 ∧
 (∀ w34, Drew w32 w34 → PIf ((((c35.toNat : Nat) : Int) : Int) != ((c36.toNat : Nat) : Int)) ((∀ w38, Drew w34 w38 → ((0 : Int) ≤ (IntKind.wrap .i64 (i30 + 1)) ∧
 ((IntKind.wrap .i64 (i30 + 1)) : Int) ≤ ((ByteArray.size s1 : Nat) : Int) ∧ ((0 : Int) ≤ (IntKind.wrap .i64 (((ByteArray.size t26 : Nat) : Int) - 1)) ∧
 ∃ c39, t26[Int.toNat (IntKind.wrap .i64 (((ByteArray.size t26 : Nat) : Int) - 1))]? = some c39 ∧ PC Tryz.prog 195 #[.string (ByteArray.extract s1 (Int.toNat (IntKind.wrap .i64 (i30 + 1))) (ByteArray.size s1)), .int .u8 ((c39.toNat : Nat) : Int)] w38 (fun v40 w41 =>
 ∃ t42, v40 = .int .i64 t42 ∧ PIf (decide (t42 < 0)) (R (.returned (.int .i64 (-1))) w41) (J33 (IntKind.wrap .i64 (i30 + (IntKind.wrap .i64 (t42 + 1)))) w41)) (fun ch wpp =>
 ∀ (_ : Base) (_ : Bnd), R (.panicked ch) wpp))))) (J33 i30 w34))))) ∧ ∀ (i43 : Int) (B44 : Nat → Value) (w45 : World), J33 i43 w45 → (∃ I46 : Nat → Int → World → Prop, (∃ m47, I46 m47 1 w45) ∧
 ∀ (m47 : Nat) (j49 : Int) (B50 : Nat → Value) (w51 : World), I46 m47 j49 w51 → PIf (decide (j49 < ((ByteArray.size t26 : Nat) : Int))) (((0 : Int) ≤ (IntKind.wrap .i64 (i43 - j49)) ∧
 ∃ c53, s1[Int.toNat (IntKind.wrap .i64 (i43 - j49))]? = some c53 ∧ ((0 : Int) ≤ (IntKind.wrap .i64 ((IntKind.wrap .i64 (((ByteArray.size t26 : Nat) : Int) - 1)) - j49)) ∧
 ∃ c54, t26[Int.toNat (IntKind.wrap .i64 ((IntKind.wrap .i64 (((ByteArray.size t26 : Nat) : Int) - 1)) - j49))]? = some c54 ∧ (∀ w52, Drew w51 w52 → PIf ((((c53.toNat : Nat) : Int) : Int) != ((c54.toNat : Nat) : Int)) (False) ((∃ m48, m48 < m47 ∧
 I46 m48 (IntKind.wrap .i64 (j49 + 1)) w52)))))) (R (.returned (.int .i64 (IntKind.wrap .i64 (i43 - (IntKind.wrap .i64 (((ByteArray.size t26 : Nat) : Int) - 1)))))) w51)))) (R (.returned (.int .i64 (-1))) w32))) (PnV R))) (PnC R))))) :
 Calls Tryz.prog 159 #[.string s1, .int .i32 r2] w R :=
 DC0 A_strings_IndexRune mixed Tryz.func159 rfl (by kernel_rfl) (Eq.mp (by kernel_rfl) h)
theorem L_strings_IndexFunc {s1 : ByteArray} {f2g : FuncId} {f2i f2c : Array Value} {w : World} {R : RW}
 (h : PC Tryz.prog 199 #[.string s1, .func (.func f2g) f2i f2c, .bool true] w (fun v3 w4 => ∃ t5, v3 = .int .i64 t5 ∧ R (.returned (.int .i64 t5)) w4) (PnC R)) :
 Calls Tryz.prog 160 #[.string s1, .func (.func f2g) f2i f2c] w R :=
 DC0 ⟨[], [], [], [], []⟩ mixed Tryz.func160 rfl (by kernel_rfl) (Eq.mp (by kernel_rfl) h)
abbrev F_internal_stringslite_HasPrefix : Nat := 162
theorem L_internal_stringslite_HasPrefix {s1 prefix2 : ByteArray} {w : World} {R : RW}
 (h : PIf (decide ((((ByteArray.size s1 : Nat) : Int) : Int) ≥ ((ByteArray.size prefix2 : Nat) : Int))) (((0 : Int) ≤ ((ByteArray.size prefix2 : Nat) : Int) ∧
 (((ByteArray.size prefix2 : Nat) : Int) : Int) ≤ ((ByteArray.size s1 : Nat) : Int) ∧ R (.returned (.bool ((ByteArray.toList (ByteArray.extract s1 0 (Int.toNat ((ByteArray.size prefix2 : Nat) : Int)))) == (ByteArray.toList prefix2)))) w)) (R (.returned (.bool false)) w)) :
 Calls Tryz.prog 162 #[.string s1, .string prefix2] w R :=
 DC0 ⟨[], [], [], [], []⟩ mixed Tryz.func162 rfl (by kernel_rfl) (Eq.mp (by kernel_rfl) h)
abbrev F_slices_Index_string_string : Nat := 163
def A_slices_Index_string_string : Ann := ⟨[(2, [(8, .int .i64 0)])], [], [], [], []⟩
theorem L_slices_Index_string_string {s1a : OA} {s1n s1c : Nat} {v2 : ByteArray} {w : World} {R : RW}
 (h : (∃ I3 : Nat → Int → World → Prop, (∃ m4, I3 m4 0 w) ∧ ∀ (m4 : Nat) (t6 : Int) (B7 : Nat → Value) (w8 : World), I3 m4 t6 w8 → PIf (decide (t6 < ((s1n : Nat) : Int))) ((∃ b9 o10, s1a = some ⟨b9, o10, none⟩ ∧
 (0 : Int) ≤ t6 ∧ t6 < ((s1n : Nat) : Int) ∧ (RdT w8 b9 (o10 + Int.toNat t6) fun t11 => PIf ((ByteArray.toList v2) == (ByteArray.toList t11)) (R (.returned (.int .i64 t6)) w8) ((∃ m5, m5 < m4 ∧
 I3 m5 (IntKind.wrap .i64 (t6 + 1)) w8))))) (R (.returned (.int .i64 (-1))) w8))) :
 Calls Tryz.prog 163 #[.slice s1a s1n s1c, .string v2] w R :=
 DC0 A_slices_Index_string_string mixed Tryz.func163 rfl (by kernel_rfl) (Eq.mp (by kernel_rfl) h)
abbrev F_pack_size : Nat := 164
theorem L_pack_size {n1 : Int} {w : World} {R : RW}
 (h : PIf (decide (n1 < 0)) (R (.returned (.tuple #[.int .u64 (IntKind.wrap .u64 (0 - (IntKind.wrap .u64 n1))), .int .u8 16])) w) (R (.returned (.tuple #[.int .u64 (IntKind.wrap .u64 n1), .int .u8 0])) w)) :
 Calls Tryz.prog 164 #[.int .i64 n1] w R :=
 DC0 ⟨[], [], [], [], []⟩ mixed Tryz.func164 rfl (by kernel_rfl) (Eq.mp (by kernel_rfl) h)
def A_slices_Grow_byte_byte : Ann := ⟨[], [(3, [])], [], [], []⟩
theorem L_slices_Grow_byte_byte {s1a : OA} {s1n s1c : Nat} {n2 : Int} {w : World} {R : RW}
 (h : (∃ J3 : World → Prop, (PIf (decide (n2 < 0)) (PRun Tryz.prog (Instr.panic (.iface 9 (.string (⟨#[99, 97, 110, 110, 111, 116, 32, 98, 101, 32, 110, 101, 103, 97, 116, 105, 118, 101]⟩ : ByteArray)))) w (fun v4 w5 =>
 J3  w5) (PnV R)) (J3  w)) ∧ ∀  (B6 : Nat → Value) (w7 : World), J3  w7 → PRun Tryz.prog (Builtin.cap_ #[49] 3 #[.slice s1a s1n s1c]) w7 (fun v8 w9 =>
 ∃ t10, v8 = .int .i64 t10 ∧ PIf (decide (((IntKind.wrap .i64 (n2 - (IntKind.wrap .i64 (t10 - ((s1n : Nat) : Int))))) : Int) > 0)) (PRun Tryz.prog (Builtin.cap_ #[49] 3 #[.slice s1a s1n s1c]) w9 (fun v11 w12 =>
 ∃ t13, v11 = .int .i64 t13 ∧ ((0 : Int) ≤ t13 ∧ (t13 : Int) ≤ ((s1c : Nat) : Int) ∧ PRun Tryz.prog (Builtin.append_ #[49, 3] 49 #[.slice s1a (Int.toNat t13) s1c, .int .i64 (IntKind.wrap .i64 (n2 - (IntKind.wrap .i64 (t10 - ((s1n : Nat) : Int)))))]) w12 (fun v14 w15 =>
 ∃ t16a t16n t16c, v14 = .slice t16a t16n t16c ∧ ((0 : Int) ≤ ((s1n : Nat) : Int) ∧ (((s1n : Nat) : Int) : Int) ≤ ((t16c : Nat) : Int) ∧
 R (.returned (.slice t16a (Int.toNat ((s1n : Nat) : Int)) t16c)) w15)) (PnV R))) (PnV R)) (R (.returned (.slice s1a s1n s1c)) w9)) (PnV R))) :
 Calls Tryz.prog 166 #[.slice s1a s1n s1c, .int .i64 n2] w R :=
 DC0 A_slices_Grow_byte_byte mixed Tryz.func166 rfl (by kernel_rfl) (Eq.mp (by kernel_rfl) h)
abbrev F_crc_More : Nat := 167
def A_crc_More : Ann := ⟨[(3, [(5, .int .u32 0), (12, .int .i64 0)])], [], [], [], []⟩
theorem L_crc_More {sum1 : Int} {b2a : OA} {b2n b2c : Nat} {w : World} {R : RW}
 (h : (∃ I3 : Nat → Int → Int → World → Prop, (∃ m4, I3 m4 (iXor .u32 (IntKind.max .u32) sum1) 0 w) ∧ ∀ (m4 : Nat) (r6 : Int) (t7 : Int) (B8 : Nat → Value) (w9 : World), I3 m4 r6 t7 w9 → PIf (decide (t7 < ((b2n : Nat) : Int))) ((∃ b10 o11, b2a = some ⟨b10, o11, none⟩ ∧
 (0 : Int) ≤ t7 ∧ t7 < ((b2n : Nat) : Int) ∧ (∃ t12, w9.cell? ⟨b10, o11 + Int.toNat t7, none⟩ = some (.int .u8 t12) ∧ (∃ b14 o15, ((some ⟨0, 0, none⟩) : OA) = some ⟨b14, o15, none⟩ ∧
 (0 : Int) ≤ (iAnd .u8 (iXor .u8 t12 (IntKind.wrap .u8 r6)) 15) ∧ (iAnd .u8 (iXor .u8 t12 (IntKind.wrap .u8 r6)) 15) < ((16 : Nat) : Int) ∧ (∃ t16, w9.cell? ⟨b14, o15 + Int.toNat (iAnd .u8 (iXor .u8 t12 (IntKind.wrap .u8 r6)) 15), none⟩ = some (.int .u32 t16) ∧
 (∃ b17 o18, ((some ⟨1, 0, none⟩) : OA) = some ⟨b17, o18, none⟩ ∧ (0 : Int) ≤ (iShr .u8 (iXor .u8 t12 (IntKind.wrap .u8 r6)) 4) ∧ (iShr .u8 (iXor .u8 t12 (IntKind.wrap .u8 r6)) 4) < ((16 : Nat) : Int) ∧
 (∃ t19, w9.cell? ⟨b17, o18 + Int.toNat (iShr .u8 (iXor .u8 t12 (IntKind.wrap .u8 r6)) 4), none⟩ = some (.int .u32 t19) ∧ (∀ w13, Drew w9 w13 → (∃ m5, m5 < m4 ∧
 I3 m5 (iXor .u32 (iXor .u32 (iShr .u32 r6 8) t16) t19) (IntKind.wrap .i64 (t7 + 1)) w13))))))))) (R (.returned (.int .u32 (iXor .u32 (IntKind.max .u32) r6))) w9))) :
 Calls Tryz.prog 167 #[.int .u32 sum1, .slice b2a b2n b2c] w R :=
 DC0 A_crc_More mixed Tryz.func167 rfl (by kernel_rfl) (Eq.mp (by kernel_rfl) h)
abbrev F_ref03_Get : Nat := 172
def A_ref03_Get : Ann := ⟨[(15, [(10, .int .i64 0)])], [], [], [], []⟩
theorem L_ref03_Get {b1a : OA} {b1n b1c : Nat} {w : World} {R : RW}
 (h : PA w (.cells #[.int .i64 0, .slice none 0 0] 99) fun w2 => PIf (decide ((((b1n : Nat) : Int) : Int) < 4)) (PS w2 ⟨w.heap.size, 0, none⟩ (.int .i64 0) fun w3 =>
 PS w3 ⟨w.heap.size, 0 + 1, none⟩ (.slice none 0 0) fun w4 => (∃ r5 r6a r6n r6c, w4.cell? ⟨w.heap.size, 0, none⟩ = some (.int .i64 r5) ∧
 w4.cell? ⟨w.heap.size, 0 + 1, none⟩ = some (.slice r6a r6n r6c) ∧ R (.returned (.tuple #[.agg #[.int .i64 r5, .slice r6a r6n r6c], .int .i64 0, .int .i64 4])) w4)) ((∃ b7 o8, b1a = some ⟨b7, o8, none⟩ ∧
 (0 : Int) ≤ 0 ∧ 0 < ((b1n : Nat) : Int) ∧ (∃ t9, w2.cell? ⟨b7, o8 + Int.toNat 0, none⟩ = some (.int .u8 t9) ∧ PIf (t9 == 0) (PS w2 ⟨w.heap.size, 0, none⟩ (.int .i64 0) fun w10 =>
 PS w10 ⟨w.heap.size, 0 + 1, none⟩ (.slice none 0 0) fun w11 => (∃ r12 r13a r13n r13c, w11.cell? ⟨w.heap.size, 0, none⟩ = some (.int .i64 r12) ∧
 w11.cell? ⟨w.heap.size, 0 + 1, none⟩ = some (.slice r13a r13n r13c) ∧ R (.returned (.tuple #[.agg #[.int .i64 r12, .slice r13a r13n r13c], .int .i64 0, .int .i64 2])) w11)) ((∃ b15 o16, b1a = some ⟨b15, o16, none⟩ ∧
 (0 : Int) ≤ 1 ∧ 1 < ((b1n : Nat) : Int) ∧ (∃ t17, w2.cell? ⟨b15, o16 + Int.toNat 1, none⟩ = some (.int .u8 t17) ∧ (∃ b18 o19, b1a = some ⟨b18, o19, none⟩ ∧
 (0 : Int) ≤ 2 ∧ 2 < ((b1n : Nat) : Int) ∧ (∃ t20, w2.cell? ⟨b18, o19 + Int.toNat 2, none⟩ = some (.int .u8 t20) ∧ (∃ b21 o22, b1a = some ⟨b21, o22, none⟩ ∧
 (0 : Int) ≤ 3 ∧ 3 < ((b1n : Nat) : Int) ∧ (∃ t23, w2.cell? ⟨b21, o22 + Int.toNat 3, none⟩ = some (.int .u8 t23) ∧ (∀ w14, Drew w2 w14 → PIf (decide (((IntKind.wrap .i64 ((IntKind.wrap .i64 ((IntKind.wrap .i64 (65536 * (IntKind.wrap .i64 t17))) + (IntKind.wrap .i64 (256 * (IntKind.wrap .i64 t20))))) + (IntKind.wrap .i64 t23))) : Int) > 65536)) (PS w14 ⟨w.heap.size, 0, none⟩ (.int .i64 0) fun w24 =>
 PS w24 ⟨w.heap.size, 0 + 1, none⟩ (.slice none 0 0) fun w25 => (∃ r26 r27a r27n r27c, w25.cell? ⟨w.heap.size, 0, none⟩ = some (.int .i64 r26) ∧
 w25.cell? ⟨w.heap.size, 0 + 1, none⟩ = some (.slice r27a r27n r27c) ∧ R (.returned (.tuple #[.agg #[.int .i64 r26, .slice r27a r27n r27c], .int .i64 0, .int .i64 5])) w25)) (PIf (decide ((((b1n : Nat) : Int) : Int) < (IntKind.wrap .i64 ((IntKind.wrap .i64 ((IntKind.wrap .i64 ((IntKind.wrap .i64 (65536 * (IntKind.wrap .i64 t17))) + (IntKind.wrap .i64 (256 * (IntKind.wrap .i64 t20))))) + (IntKind.wrap .i64 t23))) + 9)))) (PS w14 ⟨w.heap.size, 0, none⟩ (.int .i64 0) fun w28 =>
 PS w28 ⟨w.heap.size, 0 + 1, none⟩ (.slice none 0 0) fun w29 => (∃ r30 r31a r31n r31c, w29.cell? ⟨w.heap.size, 0, none⟩ = some (.int .i64 r30) ∧
 w29.cell? ⟨w.heap.size, 0 + 1, none⟩ = some (.slice r31a r31n r31c) ∧ R (.returned (.tuple #[.agg #[.int .i64 r30, .slice r31a r31n r31c], .int .i64 0, .int .i64 4])) w29)) (((0 : Int) ≤ 4 ∧
 (4 : Int) ≤ (IntKind.wrap .i64 (4 + (IntKind.wrap .i64 ((IntKind.wrap .i64 ((IntKind.wrap .i64 (65536 * (IntKind.wrap .i64 t17))) + (IntKind.wrap .i64 (256 * (IntKind.wrap .i64 t20))))) + (IntKind.wrap .i64 t23))))) ∧
 ((IntKind.wrap .i64 (4 + (IntKind.wrap .i64 ((IntKind.wrap .i64 ((IntKind.wrap .i64 (65536 * (IntKind.wrap .i64 t17))) + (IntKind.wrap .i64 (256 * (IntKind.wrap .i64 t20))))) + (IntKind.wrap .i64 t23))))) : Int) ≤ ((b1c : Nat) : Int) ∧
 PRun Tryz.prog (Builtin.append_ #[49, 49] 49 #[.slice none 0 0, .slice (subA b1a (Int.toNat 4) b1c 1) (Int.toNat (IntKind.wrap .i64 (4 + (IntKind.wrap .i64 ((IntKind.wrap .i64 ((IntKind.wrap .i64 (65536 * (IntKind.wrap .i64 t17))) + (IntKind.wrap .i64 (256 * (IntKind.wrap .i64 t20))))) + (IntKind.wrap .i64 t23))))) - Int.toNat 4) (b1c - Int.toNat 4)]) w14 (fun v32 w33 =>
 ∃ t34a t34n t34c, v32 = .slice t34a t34n t34c ∧ (∃ b35 o36, b1a = some ⟨b35, o36, none⟩ ∧ (0 : Int) ≤ 0 ∧ 0 < ((b1n : Nat) : Int) ∧
 (∃ t37, w33.cell? ⟨b35, o36 + Int.toNat 0, none⟩ = some (.int .u8 t37) ∧ PA w33 (.cells #[.int .i64 0, .slice none 0 0] 99) fun w38 => PS w38 ⟨w33.heap.size, 0, none⟩ (.int .i64 (IntKind.wrap .i64 t37)) fun w39 =>
 PS w39 ⟨w33.heap.size, 0 + 1, none⟩ (.slice t34a t34n t34c) fun w40 => (∃ t41 t42a t42n t42c, w40.cell? ⟨w33.heap.size, 0, none⟩ = some (.int .i64 t41) ∧
 w40.cell? ⟨w33.heap.size, 0 + 1, none⟩ = some (.slice t42a t42n t42c) ∧ PC Tryz.prog 184 #[.agg #[.int .i64 t41, .slice t42a t42n t42c]] w40 (fun v43 w44 =>
 ∃ t45a t45n t45c t46, v43 = .tuple #[.slice t45a t45n t45c, .int .i64 t46] ∧ (∃ I47 : Nat → Int → World → Prop, (∃ m48, I47 m48 0 w44) ∧
 ∀ (m48 : Nat) (i50 : Int) (B51 : Nat → Value) (w52 : World), I47 m48 i50 w52 → PIf (decide (i50 < (IntKind.wrap .i64 ((IntKind.wrap .i64 ((IntKind.wrap .i64 ((IntKind.wrap .i64 (65536 * (IntKind.wrap .i64 t17))) + (IntKind.wrap .i64 (256 * (IntKind.wrap .i64 t20))))) + (IntKind.wrap .i64 t23))) + 9)))) ((∃ b54 o55, b1a = some ⟨b54, o55, none⟩ ∧
 (0 : Int) ≤ i50 ∧ i50 < ((b1n : Nat) : Int) ∧ (∃ t56, w52.cell? ⟨b54, o55 + Int.toNat i50, none⟩ = some (.int .u8 t56) ∧ (∃ b57 o58, t45a = some ⟨b57, o58, none⟩ ∧
 (0 : Int) ≤ i50 ∧ i50 < ((t45n : Nat) : Int) ∧ (∃ t59, w52.cell? ⟨b57, o58 + Int.toNat i50, none⟩ = some (.int .u8 t59) ∧ (∀ w53, Drew w52 w53 → PIf (t56 != t59) (PS w53 ⟨w.heap.size, 0, none⟩ (.int .i64 0) fun w60 =>
 PS w60 ⟨w.heap.size, 0 + 1, none⟩ (.slice none 0 0) fun w61 => (∃ r62 r63a r63n r63c, w61.cell? ⟨w.heap.size, 0, none⟩ = some (.int .i64 r62) ∧
 w61.cell? ⟨w.heap.size, 0 + 1, none⟩ = some (.slice r63a r63n r63c) ∧ R (.returned (.tuple #[.agg #[.int .i64 r62, .slice r63a r63n r63c], .int .i64 0, .int .i64 6])) w61)) ((∃ m49, m49 < m48 ∧
 I47 m49 (IntKind.wrap .i64 (i50 + 1)) w53)))))))) ((∃ t64 t65a t65n t65c, w52.cell? ⟨w33.heap.size, 0, none⟩ = some (.int .i64 t64) ∧
 w52.cell? ⟨w33.heap.size, 0 + 1, none⟩ = some (.slice t65a t65n t65c) ∧ PS w52 ⟨w.heap.size, 0, none⟩ (.int .i64 t64) fun w66 => PS w66 ⟨w.heap.size, 0 + 1, none⟩ (.slice t65a t65n t65c) fun w67 =>
 (∃ r68 r69a r69n r69c, w67.cell? ⟨w.heap.size, 0, none⟩ = some (.int .i64 r68) ∧ w67.cell? ⟨w.heap.size, 0 + 1, none⟩ = some (.slice r69a r69n r69c) ∧
 R (.returned (.tuple #[.agg #[.int .i64 r68, .slice r69a r69n r69c], .int .i64 (IntKind.wrap .i64 ((IntKind.wrap .i64 ((IntKind.wrap .i64 ((IntKind.wrap .i64 (65536 * (IntKind.wrap .i64 t17))) + (IntKind.wrap .i64 (256 * (IntKind.wrap .i64 t20))))) + (IntKind.wrap .i64 t23))) + 9)), .int .i64 0])) w67))))) (PnC R))))) (PnV R)))))))))))))))) :
 Calls Tryz.prog 172 #[.slice b1a b1n b1c] w R :=
 DC0 A_ref03_Get mixed Tryz.func172 rfl (by kernel_rfl) (Eq.mp (by kernel_rfl) h)
abbrev F_ref01_From : Nat := 173
theorem L_ref01_From {b1a : OA} {b1n b1c : Nat} {w : World} {R : RW}
 (h : PRun Tryz.prog (Builtin.append_ #[49, 49] 49 #[.slice none 0 0, .slice b1a b1n b1c]) w (fun v2 w3 => ∃ t4a t4n t4c, v2 = .slice t4a t4n t4c ∧
 PA w3 (.cells #[.slice t4a t4n t4c, .int .i64 0, .int .i64 0] 212) fun w5 => R (.returned (.pointer (some ⟨w3.heap.size, 0, none⟩))) w5) (PnV R)) :
 Calls Tryz.prog 173 #[.slice b1a b1n b1c] w R :=
 DC0 ⟨[], [], [], [], []⟩ mixed Tryz.func173 rfl (by kernel_rfl) (Eq.mp (by kernel_rfl) h)
abbrev F_ref01_Reader_Count : Nat := 174
theorem L_ref01_Reader_Count {r1 : OA} {most2 : Int} {w : World} {R : RW}
 (h : (∃ b3 o4, r1 = some ⟨b3, o4, none⟩ ∧ (RdI w b3 (o4 + 2) fun t5 => PIf (t5 != 0) (R (.returned (.int .i64 0)) w) (PC Tryz.prog 204 #[.pointer r1, .int .i64 most2] w (fun v6 w7 =>
 ∃ t8 t9 t10, v6 = .tuple #[.int .i64 t8, .int .i64 t9, .int .i64 t10] ∧ (∃ b11 o12, r1 = some ⟨b11, o12, none⟩ ∧ (RdI w7 b11 (o12 + 1) fun t13 =>
 (∃ b14 o15, r1 = some ⟨b14, o15, none⟩ ∧ PS w7 ⟨b14, o15 + 1, none⟩ (.int .i64 (IntKind.wrap .i64 (t13 + t9))) fun w16 => (∃ b17 o18, r1 = some ⟨b17, o18, none⟩ ∧
 PS w16 ⟨b17, o18 + 2, none⟩ (.int .i64 t10) fun w19 => R (.returned (.int .i64 t8)) w19))))) (PnC R))))) :
 Calls Tryz.prog 174 #[.pointer r1, .int .i64 most2] w R :=
 DC0 ⟨[], [], [], [], []⟩ mixed Tryz.func174 rfl (by kernel_rfl) (Eq.mp (by kernel_rfl) h)
abbrev F_ref01_Reader_Int : Nat := 175
theorem L_ref01_Reader_Int {r1 : OA} {w : World} {R : RW}
 (h : (∃ b2 o3, r1 = some ⟨b2, o3, none⟩ ∧ (RdI w b2 (o3 + 2) fun t4 => PIf (t4 != 0) (R (.returned (.int .i64 0)) w) ((∃ b5 o6, r1 = some ⟨b5, o6, none⟩ ∧
 (RdI w b5 (o6 + 1) fun t7 => PC Tryz.prog 205 #[.pointer r1, .int .i64 t7] w (fun v8 w9 => ∃ t10 t11 t12, v8 = .tuple #[.int .i64 t10, .int .i64 t11, .int .i64 t12] ∧
 (∃ b13 o14, r1 = some ⟨b13, o14, none⟩ ∧ (RdI w9 b13 (o14 + 1) fun t15 => (∃ b16 o17, r1 = some ⟨b16, o17, none⟩ ∧
 PS w9 ⟨b16, o17 + 1, none⟩ (.int .i64 (IntKind.wrap .i64 (t15 + t11))) fun w18 => (∃ b19 o20, r1 = some ⟨b19, o20, none⟩ ∧ PS w18 ⟨b19, o20 + 2, none⟩ (.int .i64 t12) fun w21 =>
 R (.returned (.int .i64 t10)) w21))))) (PnC R))))))) :
 Calls Tryz.prog 175 #[.pointer r1] w R :=
 DC0 ⟨[], [], [], [], []⟩ mixed Tryz.func175 rfl (by kernel_rfl) (Eq.mp (by kernel_rfl) h)
abbrev F_ref01_Reader_Done : Nat := 176
theorem L_ref01_Reader_Done {r1 : OA} {w : World} {R : RW}
 (h : (∃ b3 o4, r1 = some ⟨b3, o4, none⟩ ∧ (RdI w b3 (o4 + 2) fun t5 => PIf (t5 == 0) ((∃ b6 o7, r1 = some ⟨b6, o7, none⟩ ∧
 (RdI w b6 (o7 + 1) fun t8 => (∃ b9 o10, r1 = some ⟨b9, o10, none⟩ ∧ (RdL w b9 o10 fun t11a t11n t11c =>
 (∀ w2, Drew w w2 → PIf (decide (t8 < ((t11n : Nat) : Int))) (R (.returned (.int .i64 5)) w2) ((∃ b12 o13, r1 = some ⟨b12, o13, none⟩ ∧ (RdI w2 b12 (o13 + 2) fun t14 =>
 R (.returned (.int .i64 t14)) w2))))))))) ((∀ w2, Drew w w2 → (∃ b15 o16, r1 = some ⟨b15, o16, none⟩ ∧ (RdI w2 b15 (o16 + 2) fun t17 =>
 R (.returned (.int .i64 t17)) w2))))))) :
 Calls Tryz.prog 176 #[.pointer r1] w R :=
 DC0 ⟨[], [], [], [], []⟩ mixed Tryz.func176 rfl (by kernel_rfl) (Eq.mp (by kernel_rfl) h)
abbrev F_ref05_Get : Nat := 177
theorem L_ref05_Get {b1a : OA} {b1n b1c : Nat} {w : World} {R : RW}
 (h : PA w (.cells #[.int .i64 0, .int .i64 0, .int .i64 0, .slice none 0 0, .int .i64 0, .int .i64 0, .int .i64 0, .int .i64 0, .int .i64 0, .int .i64 0] 39) fun w2 =>
 PC Tryz.prog 173 #[.slice b1a b1n b1c] w2 (fun v3 w4 => ∃ t5, v3 = .pointer t5 ∧ PC Tryz.prog 206 #[.pointer t5] w4 (fun v6 w7 => ∃ t8 t9 t10 t11a t11n t11c t12 t13 t14 t15 t16 t17, v6 = .agg #[.int .i64 t8, .int .i64 t9, .int .i64 t10, .slice t11a t11n t11c, .int .i64 t12, .int .i64 t13, .int .i64 t14, .int .i64 t15, .int .i64 t16, .int .i64 t17] ∧
 PA w7 (.cells #[.int .i64 0, .int .i64 0, .int .i64 0, .slice none 0 0, .int .i64 0, .int .i64 0, .int .i64 0, .int .i64 0, .int .i64 0, .int .i64 0] 39) fun w18 =>
 PS w18 ⟨w7.heap.size, 0, none⟩ (.int .i64 t8) fun w19 => PS w19 ⟨w7.heap.size, 0 + 1, none⟩ (.int .i64 t9) fun w20 => PS w20 ⟨w7.heap.size, 0 + 2, none⟩ (.int .i64 t10) fun w21 =>
 PS w21 ⟨w7.heap.size, 0 + 3, none⟩ (.slice t11a t11n t11c) fun w22 => PS w22 ⟨w7.heap.size, 0 + 4, none⟩ (.int .i64 t12) fun w23 => PS w23 ⟨w7.heap.size, 0 + 5, none⟩ (.int .i64 t13) fun w24 =>
 PS w24 ⟨w7.heap.size, 0 + 6, none⟩ (.int .i64 t14) fun w25 => PS w25 ⟨w7.heap.size, 0 + 7, none⟩ (.int .i64 t15) fun w26 => PS w26 ⟨w7.heap.size, 0 + 8, none⟩ (.int .i64 t16) fun w27 =>
 PS w27 ⟨w7.heap.size, 0 + 9, none⟩ (.int .i64 t17) fun w28 => PC Tryz.prog 176 #[.pointer t5] w28 (fun v29 w30 => ∃ t31, v29 = .int .i64 t31 ∧
 PIf (t31 != 0) (PC Tryz.prog 176 #[.pointer t5] w30 (fun v32 w33 => ∃ t34, v32 = .int .i64 t34 ∧ PS w33 ⟨w.heap.size, 0, none⟩ (.int .i64 0) fun w35 =>
 PS w35 ⟨w.heap.size, 0 + 1, none⟩ (.int .i64 0) fun w36 => PS w36 ⟨w.heap.size, 0 + 2, none⟩ (.int .i64 0) fun w37 => PS w37 ⟨w.heap.size, 0 + 3, none⟩ (.slice none 0 0) fun w38 =>
 PS w38 ⟨w.heap.size, 0 + 4, none⟩ (.int .i64 0) fun w39 => PS w39 ⟨w.heap.size, 0 + 5, none⟩ (.int .i64 0) fun w40 => PS w40 ⟨w.heap.size, 0 + 6, none⟩ (.int .i64 0) fun w41 =>
 PS w41 ⟨w.heap.size, 0 + 7, none⟩ (.int .i64 0) fun w42 => PS w42 ⟨w.heap.size, 0 + 8, none⟩ (.int .i64 0) fun w43 => PS w43 ⟨w.heap.size, 0 + 9, none⟩ (.int .i64 0) fun w44 =>
 (∃ r45 r46 r47 r48a r48n r48c r49 r50 r51 r52 r53 r54, w44.cell? ⟨w.heap.size, 0, none⟩ = some (.int .i64 r45) ∧
 w44.cell? ⟨w.heap.size, 0 + 1, none⟩ = some (.int .i64 r46) ∧ w44.cell? ⟨w.heap.size, 0 + 2, none⟩ = some (.int .i64 r47) ∧ w44.cell? ⟨w.heap.size, 0 + 3, none⟩ = some (.slice r48a r48n r48c) ∧
 w44.cell? ⟨w.heap.size, 0 + 4, none⟩ = some (.int .i64 r49) ∧ w44.cell? ⟨w.heap.size, 0 + 5, none⟩ = some (.int .i64 r50) ∧ w44.cell? ⟨w.heap.size, 0 + 6, none⟩ = some (.int .i64 r51) ∧
 w44.cell? ⟨w.heap.size, 0 + 7, none⟩ = some (.int .i64 r52) ∧ w44.cell? ⟨w.heap.size, 0 + 8, none⟩ = some (.int .i64 r53) ∧ w44.cell? ⟨w.heap.size, 0 + 9, none⟩ = some (.int .i64 r54) ∧
 R (.returned (.tuple #[.agg #[.int .i64 r45, .int .i64 r46, .int .i64 r47, .slice r48a r48n r48c, .int .i64 r49, .int .i64 r50, .int .i64 r51, .int .i64 r52, .int .i64 r53, .int .i64 r54], .int .i64 t34])) w44)) (PnC R)) ((∃ t55 t56 t57 t58a t58n t58c t59 t60 t61 t62 t63 t64, w30.cell? ⟨w7.heap.size, 0, none⟩ = some (.int .i64 t55) ∧
 w30.cell? ⟨w7.heap.size, 0 + 1, none⟩ = some (.int .i64 t56) ∧ w30.cell? ⟨w7.heap.size, 0 + 2, none⟩ = some (.int .i64 t57) ∧ w30.cell? ⟨w7.heap.size, 0 + 3, none⟩ = some (.slice t58a t58n t58c) ∧
 w30.cell? ⟨w7.heap.size, 0 + 4, none⟩ = some (.int .i64 t59) ∧ w30.cell? ⟨w7.heap.size, 0 + 5, none⟩ = some (.int .i64 t60) ∧ w30.cell? ⟨w7.heap.size, 0 + 6, none⟩ = some (.int .i64 t61) ∧
 w30.cell? ⟨w7.heap.size, 0 + 7, none⟩ = some (.int .i64 t62) ∧ w30.cell? ⟨w7.heap.size, 0 + 8, none⟩ = some (.int .i64 t63) ∧ w30.cell? ⟨w7.heap.size, 0 + 9, none⟩ = some (.int .i64 t64) ∧
 PS w30 ⟨w.heap.size, 0, none⟩ (.int .i64 t55) fun w65 => PS w65 ⟨w.heap.size, 0 + 1, none⟩ (.int .i64 t56) fun w66 => PS w66 ⟨w.heap.size, 0 + 2, none⟩ (.int .i64 t57) fun w67 =>
 PS w67 ⟨w.heap.size, 0 + 3, none⟩ (.slice t58a t58n t58c) fun w68 => PS w68 ⟨w.heap.size, 0 + 4, none⟩ (.int .i64 t59) fun w69 => PS w69 ⟨w.heap.size, 0 + 5, none⟩ (.int .i64 t60) fun w70 =>
 PS w70 ⟨w.heap.size, 0 + 6, none⟩ (.int .i64 t61) fun w71 => PS w71 ⟨w.heap.size, 0 + 7, none⟩ (.int .i64 t62) fun w72 => PS w72 ⟨w.heap.size, 0 + 8, none⟩ (.int .i64 t63) fun w73 =>
 PS w73 ⟨w.heap.size, 0 + 9, none⟩ (.int .i64 t64) fun w74 => (∃ r75 r76 r77 r78a r78n r78c r79 r80 r81 r82 r83 r84, w74.cell? ⟨w.heap.size, 0, none⟩ = some (.int .i64 r75) ∧
 w74.cell? ⟨w.heap.size, 0 + 1, none⟩ = some (.int .i64 r76) ∧ w74.cell? ⟨w.heap.size, 0 + 2, none⟩ = some (.int .i64 r77) ∧ w74.cell? ⟨w.heap.size, 0 + 3, none⟩ = some (.slice r78a r78n r78c) ∧
 w74.cell? ⟨w.heap.size, 0 + 4, none⟩ = some (.int .i64 r79) ∧ w74.cell? ⟨w.heap.size, 0 + 5, none⟩ = some (.int .i64 r80) ∧ w74.cell? ⟨w.heap.size, 0 + 6, none⟩ = some (.int .i64 r81) ∧
 w74.cell? ⟨w.heap.size, 0 + 7, none⟩ = some (.int .i64 r82) ∧ w74.cell? ⟨w.heap.size, 0 + 8, none⟩ = some (.int .i64 r83) ∧ w74.cell? ⟨w.heap.size, 0 + 9, none⟩ = some (.int .i64 r84) ∧
 R (.returned (.tuple #[.agg #[.int .i64 r75, .int .i64 r76, .int .i64 r77, .slice r78a r78n r78c, .int .i64 r79, .int .i64 r80, .int .i64 r81, .int .i64 r82, .int .i64 r83, .int .i64 r84], .int .i64 0])) w74)))) (PnC R)) (PnC R)) (PnC R)) :
 Calls Tryz.prog 177 #[.slice b1a b1n b1c] w R :=
 DC0 ⟨[], [], [], [], []⟩ mixed Tryz.func177 rfl (by kernel_rfl) (Eq.mp (by kernel_rfl) h)
abbrev F_ref19_Disk_Create : Nat := 178
theorem L_ref19_Disk_Create {d1 : OA} {name2 : ByteArray} {w : World} {R : RW}
 (h : PC Tryz.prog 154 #[.pointer d1] w (fun v3 w4 => ∃ t5, v3 = .bool t5 ∧ PIf t5 (R (.returned (.int .i64 15)) w4) (PC Tryz.prog 207 #[.string name2] w4 (fun v6 w7 =>
 ∃ t8, v6 = .bool t8 ∧ PIf (!t8) (R (.returned (.int .i64 1)) w7) (PC Tryz.prog 155 #[.pointer d1, .string name2] w7 (fun v9 w10 => ∃ t11, v9 = .int .i64 t11 ∧
 PIf (decide (t11 ≥ 0)) (R (.returned (.int .i64 16)) w10) ((∃ b12 o13, d1 = some ⟨b12, o13, none⟩ ∧ (RdL w10 b12 (o13 + 2) fun t14a t14n t14c =>
 PIf (decide ((((t14n : Nat) : Int) : Int) ≥ 64)) (R (.returned (.int .i64 12)) w10) (PC Tryz.prog 208 #[.pointer d1, .agg #[.string name2, .slice none 0 0, .int .i64 0, .bool false]] w10 (fun v15 w16 =>
 v15 = .tuple #[] ∧ R (.returned (.int .i64 0)) w16) (PnC R)))))) (PnC R))) (PnC R))) (PnC R)) :
 Calls Tryz.prog 178 #[.pointer d1, .string name2] w R :=
 DC0 ⟨[], [], [], [], []⟩ mixed Tryz.func178 rfl (by kernel_rfl) (Eq.mp (by kernel_rfl) h)
abbrev F_ref19_Disk_Delete : Nat := 179
theorem L_ref19_Disk_Delete {d1 : OA} {name2 : ByteArray} {w : World} {R : RW}
 (h : PC Tryz.prog 154 #[.pointer d1] w (fun v3 w4 => ∃ t5, v3 = .bool t5 ∧ PIf t5 (R (.returned (.int .i64 15)) w4) (PC Tryz.prog 155 #[.pointer d1, .string name2] w4 (fun v6 w7 =>
 ∃ t8, v6 = .int .i64 t8 ∧ PIf (decide (t8 < 0)) (R (.returned (.int .i64 14)) w7) (PC Tryz.prog 209 #[.pointer d1, .string name2] w7 (fun v9 w10 =>
 v9 = .tuple #[] ∧ R (.returned (.int .i64 0)) w10) (PnC R))) (PnC R))) (PnC R)) :
 Calls Tryz.prog 179 #[.pointer d1, .string name2] w R :=
 DC0 ⟨[], [], [], [], []⟩ mixed Tryz.func179 rfl (by kernel_rfl) (Eq.mp (by kernel_rfl) h)
abbrev F_ref21_step : Nat := 180
theorem L_ref21_step {d1 m3a : OA} {m3n m3c : Nat} {i4 : Int} {w : World} {R : RW}
 (h : PA w (.cells #[.slice m3a m3n m3c] 56) fun w5 => PIf (i4 == 0) (PC Tryz.prog 181 #[.pointer d1, .string (⟨#[109, 97, 110, 105, 102, 101, 115, 116, 46, 116, 109, 112]⟩ : ByteArray)] w5 (fun v6 w7 =>
 ∃ t8, v6 = .bool t8 ∧ PIf (!t8) (R (.returned (.int .i64 0)) w7) (PC Tryz.prog 179 #[.pointer d1, .string (⟨#[109, 97, 110, 105, 102, 101, 115, 116, 46, 116, 109, 112]⟩ : ByteArray)] w7 (fun v9 w10 =>
 ∃ t11, v9 = .int .i64 t11 ∧ R (.returned (.int .i64 t11)) w10) (PnC R))) (PnC R)) (PIf (i4 == 1) (PC Tryz.prog 178 #[.pointer d1, .string (⟨#[109, 97, 110, 105, 102, 101, 115, 116, 46, 116, 109, 112]⟩ : ByteArray)] w5 (fun v12 w13 =>
 ∃ t14, v12 = .int .i64 t14 ∧ R (.returned (.int .i64 t14)) w13) (PnC R)) (PIf (i4 == 2) ((RdL w5 w.heap.size 0 fun t15a t15n t15c =>
 PC Tryz.prog 210 #[.agg #[.slice t15a t15n t15c]] w5 (fun v16 w17 => ∃ t18a t18n t18c, v16 = .slice t18a t18n t18c ∧ PC Tryz.prog 115 #[.pointer d1, .string (⟨#[109, 97, 110, 105, 102, 101, 115, 116, 46, 116, 109, 112]⟩ : ByteArray), .slice t18a t18n t18c] w17 (fun v19 w20 =>
 ∃ t21, v19 = .int .i64 t21 ∧ R (.returned (.int .i64 t21)) w20) (PnC R)) (PnC R))) (PIf (i4 == 3) (PC Tryz.prog 152 #[.pointer d1, .string (⟨#[109, 97, 110, 105, 102, 101, 115, 116, 46, 116, 109, 112]⟩ : ByteArray)] w5 (fun v22 w23 =>
 ∃ t24, v22 = .int .i64 t24 ∧ R (.returned (.int .i64 t24)) w23) (PnC R)) (PC Tryz.prog 211 #[.pointer d1, .string (⟨#[109, 97, 110, 105, 102, 101, 115, 116, 46, 116, 109, 112]⟩ : ByteArray), .string (⟨#[109, 97, 110, 105, 102, 101, 115, 116]⟩ : ByteArray)] w5 (fun v25 w26 =>
 ∃ t27, v25 = .int .i64 t27 ∧ R (.returned (.int .i64 t27)) w26) (PnC R)))))) :
 Calls Tryz.prog 180 #[.pointer d1, .agg #[.slice m3a m3n m3c], .int .i64 i4] w R :=
 DC0 ⟨[], [], [], [], []⟩ mixed Tryz.func180 rfl (by kernel_rfl) (Eq.mp (by kernel_rfl) h)
abbrev F_ref21_has : Nat := 181
def A_ref21_has : Ann := ⟨[(3, [(6, .int .i64 0)])], [], [], [], []⟩
theorem L_ref21_has {d1 : OA} {name2 : ByteArray} {w : World} {R : RW}
 (h : PC Tryz.prog 140 #[.pointer d1] w (fun v3 w4 => ∃ t5a t5n t5c, v3 = .slice t5a t5n t5c ∧ (∃ I6 : Nat → Int → World → Prop, (∃ m7, I6 m7 0 w4) ∧
 ∀ (m7 : Nat) (i9 : Int) (B10 : Nat → Value) (w11 : World), I6 m7 i9 w11 → PIf (decide (i9 < ((t5n : Nat) : Int))) ((∃ b12 o13, t5a = some ⟨b12, o13, none⟩ ∧
 (0 : Int) ≤ i9 ∧ i9 < ((t5n : Nat) : Int) ∧ (RdT w11 b12 (o13 + Int.toNat i9) fun t14 => PIf ((ByteArray.toList t14) == (ByteArray.toList name2)) (R (.returned (.bool true)) w11) ((∃ m8, m8 < m7 ∧
 I6 m8 (IntKind.wrap .i64 (i9 + 1)) w11))))) (R (.returned (.bool false)) w11))) (PnC R)) :
 Calls Tryz.prog 181 #[.pointer d1, .string name2] w R :=
 DC0 A_ref21_has mixed Tryz.func181 rfl (by kernel_rfl) (Eq.mp (by kernel_rfl) h)
theorem L_kit_markInts {i1 : Int} {w : World} {R : RW}
 (h : R (.returned (.int .i64 (IntKind.wrap .i64 (7001 + (IntKind.wrap .i64 (13 * i1)))))) w) :
 Calls Tryz.prog 182 #[.int .i64 i1] w R :=
 DC0 ⟨[], [], [], [], []⟩ mixed Tryz.func182 rfl (by kernel_rfl) (Eq.mp (by kernel_rfl) h)
abbrev F_ref05_Put : Nat := 183
def A_ref05_Put : Ann := ⟨[(7, [(5, .slice none 0 0), (6, .int .i64 0)])], [], [], [], []⟩
theorem L_ref05_Put {e2 e3 e4 e6 e7 e8 e9 e10 e11 : Int} {e5a : OA} {e5n e5c : Nat} {w : World} {R : RW}
 (h : PA w (.cells #[.int .i64 e2, .int .i64 e3, .int .i64 e4, .slice e5a e5n e5c, .int .i64 e6, .int .i64 e7, .int .i64 e8, .int .i64 e9, .int .i64 e10, .int .i64 e11] 39) fun w12 =>
 (RdL w12 w.heap.size (0 + 3) fun t13a t13n t13c => PIf (decide ((((t13n : Nat) : Int) : Int) > 64)) (R (.returned (.tuple #[.slice none 0 0, .int .i64 3])) w12) ((RdI w12 w.heap.size 0 fun t14 =>
 (RdI w12 w.heap.size (0 + 1) fun t15 => (RdI w12 w.heap.size (0 + 2) fun t16 =>
 (RdL w12 w.heap.size (0 + 3) fun t17a t17n t17c => PA w12 (.cells #[.int .i64 t14, .int .i64 t15, .int .i64 t16, .int .i64 ((t17n : Nat) : Int)] 3) fun w18 =>
 (RdL w18 w.heap.size (0 + 3) fun t19a t19n t19c => PRun Tryz.prog (Builtin.append_ #[37, 37] 37 #[.slice (some ⟨w12.heap.size, 0, none⟩) 4 4, .slice t19a t19n t19c]) w18 (fun v20 w21 =>
 ∃ t22a t22n t22c, v20 = .slice t22a t22n t22c ∧ (RdI w21 w.heap.size (0 + 4) fun t23 =>
 (RdI w21 w.heap.size (0 + 5) fun t24 => (RdI w21 w.heap.size (0 + 6) fun t25 =>
 (RdI w21 w.heap.size (0 + 7) fun t26 => (RdI w21 w.heap.size (0 + 8) fun t27 =>
 (RdI w21 w.heap.size (0 + 9) fun t28 => PA w21 (.cells #[.int .i64 t23, .int .i64 t24, .int .i64 t25, .int .i64 t26, .int .i64 t27, .int .i64 t28] 3) fun w29 =>
 PRun Tryz.prog (Builtin.append_ #[37, 37] 37 #[.slice t22a t22n t22c, .slice (some ⟨w21.heap.size, 0, none⟩) 6 6]) w29 (fun v30 w31 => ∃ t32a t32n t32c, v30 = .slice t32a t32n t32c ∧
 (∃ I33 : Nat → OA → Nat → Nat → Int → World → Prop, (∃ m34, I33 m34 none 0 0 0 w31) ∧ ∀ (m34 : Nat) (b36a : OA) (b36n : Nat) (b36c : Nat) (i37 : Int) (B38 : Nat → Value) (w39 : World), I33 m34 b36a b36n b36c i37 w39 → PIf (decide (i37 < ((t32n : Nat) : Int))) ((∃ b40 o41, t32a = some ⟨b40, o41, none⟩ ∧
 (0 : Int) ≤ i37 ∧ i37 < ((t32n : Nat) : Int) ∧ (RdI w39 b40 (o41 + Int.toNat i37) fun t42 => PC Tryz.prog 212 #[.slice b36a b36n b36c, .int .i64 t42] w39 (fun v43 w44 =>
 ∃ t45a t45n t45c, v43 = .slice t45a t45n t45c ∧ (∃ m35, m35 < m34 ∧ I33 m35 t45a t45n t45c (IntKind.wrap .i64 (i37 + 1)) w44)) (PnC R)))) (R (.returned (.tuple #[.slice b36a b36n b36c, .int .i64 0])) w39))) (PnV R)))))))) (PnV R))))))))) :
 Calls Tryz.prog 183 #[.agg #[.int .i64 e2, .int .i64 e3, .int .i64 e4, .slice e5a e5n e5c, .int .i64 e6, .int .i64 e7, .int .i64 e8, .int .i64 e9, .int .i64 e10, .int .i64 e11]] w R :=
 DC0 A_ref05_Put mixed Tryz.func183 rfl (by kernel_rfl) (Eq.mp (by kernel_rfl) h)
abbrev F_ref03_Put : Nat := 184
def A_ref03_Put : Ann := ⟨[(8, [(5, .slice none 0 0), (6, .int .i64 0)])], [], [], [], []⟩
theorem L_ref03_Put {f2 : Int} {f3a : OA} {f3n f3c : Nat} {w : World} {R : RW}
 (h : PA w (.cells #[.int .i64 f2, .slice f3a f3n f3c] 99) fun w4 => (RdI w4 w.heap.size 0 fun t5 => PIf (decide (t5 < 1)) (R (.returned (.tuple #[.slice none 0 0, .int .i64 2])) w4) ((RdI w4 w.heap.size 0 fun t6 =>
 PIf (decide (t6 > 255)) (R (.returned (.tuple #[.slice none 0 0, .int .i64 2])) w4) ((RdL w4 w.heap.size (0 + 1) fun t7a t7n t7c =>
 PIf (decide ((((t7n : Nat) : Int) : Int) > 65536)) (R (.returned (.tuple #[.slice none 0 0, .int .i64 5])) w4) ((RdI w4 w.heap.size 0 fun t8 =>
 PA w4 (.cells #[.int .u8 (IntKind.wrap .u8 t8), .int .u8 (IntKind.wrap .u8 (IntKind.wrap .i64 (Int.tdiv ((t7n : Nat) : Int) 65536))), .int .u8 (IntKind.wrap .u8 (Int.tmod (IntKind.wrap .i64 (Int.tdiv ((t7n : Nat) : Int) 256)) 256)), .int .u8 (IntKind.wrap .u8 (Int.tmod ((t7n : Nat) : Int) 256))] 5) fun w9 =>
 (∃ I10 : Nat → OA → Nat → Nat → Int → World → Prop, (∃ m11, I10 m11 (some ⟨w4.heap.size, 0, none⟩) 4 4 0 w9) ∧ ∀ (m11 : Nat) (out13a : OA) (out13n : Nat) (out13c : Nat) (i14 : Int) (B15 : Nat → Value) (w16 : World), I10 m11 out13a out13n out13c i14 w16 → PIf (decide (i14 < ((t7n : Nat) : Int))) ((RdL w16 w.heap.size (0 + 1) fun t17a t17n t17c =>
 (∃ b18 o19, t17a = some ⟨b18, o19, none⟩ ∧ (0 : Int) ≤ i14 ∧ i14 < ((t17n : Nat) : Int) ∧ (∃ t20, w16.cell? ⟨b18, o19 + Int.toNat i14, none⟩ = some (.int .u8 t20) ∧
 PA w16 (.cells #[.int .u8 t20] 5) fun w21 => PRun Tryz.prog (Builtin.append_ #[49, 49] 49 #[.slice out13a out13n out13c, .slice (some ⟨w16.heap.size, 0, none⟩) 1 1]) w21 (fun v22 w23 =>
 ∃ t24a t24n t24c, v22 = .slice t24a t24n t24c ∧ (∃ m12, m12 < m11 ∧ I10 m12 t24a t24n t24c (IntKind.wrap .i64 (i14 + 1)) w23)) (PnV R))))) (PC Tryz.prog 213 #[.slice out13a out13n out13c] w16 (fun v25 w26 => ∃ t27, v25 = .int .u32 t27 ∧
 PA w26 (.cells #[.int .u8 (IntKind.wrap .u8 (IntKind.wrap .u32 (Int.tdiv t27 16777216))), .int .u8 (IntKind.wrap .u8 (Int.tmod (IntKind.wrap .u32 (Int.tdiv t27 65536)) 256)), .int .u8 (IntKind.wrap .u8 (Int.tmod (IntKind.wrap .u32 (Int.tdiv t27 256)) 256)), .int .u8 (IntKind.wrap .u8 (Int.tmod t27 256)), .int .u8 10] 5) fun w28 =>
 PRun Tryz.prog (Builtin.append_ #[49, 49] 49 #[.slice out13a out13n out13c, .slice (some ⟨w26.heap.size, 0, none⟩) 5 5]) w28 (fun v29 w30 => ∃ t31a t31n t31c, v29 = .slice t31a t31n t31c ∧
 R (.returned (.tuple #[.slice t31a t31n t31c, .int .i64 0])) w30) (PnV R)) (PnC R))))))))))) :
 Calls Tryz.prog 184 #[.agg #[.int .i64 f2, .slice f3a f3n f3c]] w R :=
 DC0 A_ref03_Put mixed Tryz.func184 rfl (by kernel_rfl) (Eq.mp (by kernel_rfl) h)
abbrev F_unicode_utf8_ValidRune : Nat := 196
theorem L_unicode_utf8_ValidRune {r1 : Int} {w : World} {R : RW}
 (h : PIf (decide ((0 : Int) ≤ r1)) (PIf (decide (r1 < 55296)) (R (.returned (.bool true)) w) (PIf (decide ((57343 : Int) < r1)) (PIf (decide (r1 ≤ 1114111)) (R (.returned (.bool true)) w) (R (.returned (.bool false)) w)) (R (.returned (.bool false)) w))) (PIf (decide ((57343 : Int) < r1)) (PIf (decide (r1 ≤ 1114111)) (R (.returned (.bool true)) w) (R (.returned (.bool false)) w)) (R (.returned (.bool false)) w))) :
 Calls Tryz.prog 196 #[.int .i32 r1] w R :=
 DC0 ⟨[], [], [], [], []⟩ mixed Tryz.func196 rfl (by kernel_rfl) (Eq.mp (by kernel_rfl) h)
def A_strings_indexFunc : Ann := ⟨[(2, [])], [], [], [], []⟩
theorem L_strings_indexFunc {s1 : ByteArray} {f2g : FuncId} {f2i f2c : Array Value} {truth3 : Bool} {w : World} {R : RW}
 (h : PRun Tryz.prog (Instr.range 9 (.string s1)) w (fun v4 w5 => (∃ I6 : Nat → World → Prop, (∃ m7, I6 m7  w5) ∧ ∀ (m7 : Nat)  (B9 : Nat → Value) (w10 : World), I6 m7  w10 → PRun Tryz.prog (Instr.next v4 true 0) w10 (fun v11 w12 =>
 (v11 = .tuple #[.bool false] ∧ R (.returned (.int .i64 (-1))) w12) ∨ (∃ i13 r14, v11 = .tuple #[.bool true, .int .i64 i13, .int .i32 r14] ∧ (∃ g17 fi18 ca19, (.func (.func f2g) f2i f2c : Value) = .func (.func g17) fi18 ca19 ∧
 enters Tryz.prog g17 = true ∧ PC Tryz.prog g17 (fi18 ++ #[.int .i32 r14] ++ ca19) w12 (fun v15 w16 => ∃ t20, v15 = .bool t20 ∧ PIf (t20 == truth3) (R (.returned (.int .i64 i13)) w16) ((∃ m8, m8 < m7 ∧
 I6 m8  w16))) (PnC R)))) (PnV R))) (PnV R)) :
 Calls Tryz.prog 199 #[.string s1, .func (.func f2g) f2i f2c, .bool truth3] w R :=
 DC0 A_strings_indexFunc mixed Tryz.func199 rfl (by kernel_rfl) (Eq.mp (by kernel_rfl) h)
abbrev F_ref01_Reader_counted : Nat := 204
theorem L_ref01_Reader_counted {r1 : OA} {most2 : Int} {w : World} {R : RW}
 (h : (∃ b3 o4, r1 = some ⟨b3, o4, none⟩ ∧ (RdI w b3 (o4 + 1) fun t5 => PC Tryz.prog 205 #[.pointer r1, .int .i64 t5] w (fun v6 w7 =>
 ∃ t8 t9 t10, v6 = .tuple #[.int .i64 t8, .int .i64 t9, .int .i64 t10] ∧ PIf (t10 == 0) (PIf (decide (t8 < 0)) (R (.returned (.tuple #[.int .i64 0, .int .i64 0, .int .i64 3])) w7) (PIf (decide (t8 > most2)) (R (.returned (.tuple #[.int .i64 0, .int .i64 0, .int .i64 3])) w7) (R (.returned (.tuple #[.int .i64 t8, .int .i64 t9, .int .i64 t10])) w7))) (R (.returned (.tuple #[.int .i64 t8, .int .i64 t9, .int .i64 t10])) w7)) (PnC R)))) :
 Calls Tryz.prog 204 #[.pointer r1, .int .i64 most2] w R :=
 DC0 ⟨[], [], [], [], []⟩ mixed Tryz.func204 rfl (by kernel_rfl) (Eq.mp (by kernel_rfl) h)
abbrev F_ref01_Reader_number : Nat := 205
def A_ref01_Reader_number : Ann := ⟨[(13, [(9, .int .u64 0), (10, .int .i64 0)])], [(7, [(7, .int .i64 0)]), (9, []), (18, [])], [], [], []⟩
theorem L_ref01_Reader_number {r1 : OA} {at2 : Int} {w : World} {R : RW}
 (h : (∃ b3 o4, r1 = some ⟨b3, o4, none⟩ ∧ (RdL w b3 o4 fun t5a t5n t5c => PIf (decide (at2 ≥ ((t5n : Nat) : Int))) (R (.returned (.tuple #[.int .i64 0, .int .i64 0, .int .i64 4])) w) ((∃ b6 o7, r1 = some ⟨b6, o7, none⟩ ∧
 (RdL w b6 o7 fun t8a t8n t8c => (∃ b9 o10, t8a = some ⟨b9, o10, none⟩ ∧ (0 : Int) ≤ at2 ∧
 at2 < ((t8n : Nat) : Int) ∧ (∃ t11, w.cell? ⟨b9, o10 + Int.toNat at2, none⟩ = some (.int .u8 t11) ∧ (∃ J12 : Int → World → Prop, (PIf (decide (((IntKind.wrap .i64 t11) : Int) > 16)) (J12 (IntKind.wrap .i64 ((IntKind.wrap .i64 t11) - 16)) w) (J12 (IntKind.wrap .i64 t11) w)) ∧
 ∀ (head13 : Int) (B14 : Nat → Value) (w15 : World), J12 head13 w15 → (∃ J16 : World → Prop, (PIf (decide (head13 > 8)) (R (.returned (.tuple #[.int .i64 0, .int .i64 0, .int .i64 5])) w15) (PIf (decide (((IntKind.wrap .i64 t11) : Int) > 16)) (PIf (head13 == 0) (R (.returned (.tuple #[.int .i64 0, .int .i64 0, .int .i64 5])) w15) (J16  w15)) (J16  w15))) ∧
 ∀  (B17 : Nat → Value) (w18 : World), J16  w18 → (∃ b19 o20, r1 = some ⟨b19, o20, none⟩ ∧ (RdL w18 b19 o20 fun t21a t21n t21c =>
 PIf (decide (((IntKind.wrap .i64 ((IntKind.wrap .i64 (((t21n : Nat) : Int) - at2)) - 1)) : Int) < head13)) (R (.returned (.tuple #[.int .i64 0, .int .i64 0, .int .i64 4])) w18) ((∃ I22 : Nat → Int → Int → World → Prop, (∃ m23, I22 m23 0 0 w18) ∧
 ∀ (m23 : Nat) (u25 : Int) (i26 : Int) (B27 : Nat → Value) (w28 : World), I22 m23 u25 i26 w28 → PIf (decide (i26 < head13)) ((∃ b29 o30, r1 = some ⟨b29, o30, none⟩ ∧
 (RdL w28 b29 o30 fun t31a t31n t31c => (∃ b32 o33, t31a = some ⟨b32, o33, none⟩ ∧
 (0 : Int) ≤ (IntKind.wrap .i64 ((IntKind.wrap .i64 (at2 + 1)) + i26)) ∧ (IntKind.wrap .i64 ((IntKind.wrap .i64 (at2 + 1)) + i26)) < ((t31n : Nat) : Int) ∧
 (∃ t34, w28.cell? ⟨b32, o33 + Int.toNat (IntKind.wrap .i64 ((IntKind.wrap .i64 (at2 + 1)) + i26)), none⟩ = some (.int .u8 t34) ∧ (∃ m24, m24 < m23 ∧
 I22 m24 (IntKind.wrap .u64 ((IntKind.wrap .u64 (u25 * 256)) + (IntKind.wrap .u64 t34))) (IntKind.wrap .i64 (i26 + 1)) w28)))))) ((∃ J35 : World → Prop, (PIf (decide (head13 > 0)) ((∃ b36 o37, r1 = some ⟨b36, o37, none⟩ ∧
 (RdL w28 b36 o37 fun t38a t38n t38c => (∃ b39 o40, t38a = some ⟨b39, o40, none⟩ ∧
 (0 : Int) ≤ (IntKind.wrap .i64 (at2 + 1)) ∧ (IntKind.wrap .i64 (at2 + 1)) < ((t38n : Nat) : Int) ∧ (∃ t41, w28.cell? ⟨b39, o40 + Int.toNat (IntKind.wrap .i64 (at2 + 1)), none⟩ = some (.int .u8 t41) ∧
 PIf (t41 == 0) (R (.returned (.tuple #[.int .i64 0, .int .i64 0, .int .i64 5])) w28) (PIf (!(decide (((IntKind.wrap .i64 t11) : Int) > 16))) (PIf (decide (u25 > 9223372036854775807)) (R (.returned (.tuple #[.int .i64 0, .int .i64 0, .int .i64 5])) w28) (PIf (decide (((IntKind.wrap .i64 t11) : Int) > 16)) (PIf (decide (u25 > 9223372036854775808)) (R (.returned (.tuple #[.int .i64 0, .int .i64 0, .int .i64 5])) w28) (J35  w28)) (J35  w28))) (PIf (decide (((IntKind.wrap .i64 t11) : Int) > 16)) (PIf (decide (u25 > 9223372036854775808)) (R (.returned (.tuple #[.int .i64 0, .int .i64 0, .int .i64 5])) w28) (J35  w28)) (J35  w28)))))))) (PIf (!(decide (((IntKind.wrap .i64 t11) : Int) > 16))) (PIf (decide (u25 > 9223372036854775807)) (R (.returned (.tuple #[.int .i64 0, .int .i64 0, .int .i64 5])) w28) (PIf (decide (((IntKind.wrap .i64 t11) : Int) > 16)) (PIf (decide (u25 > 9223372036854775808)) (R (.returned (.tuple #[.int .i64 0, .int .i64 0, .int .i64 5])) w28) (J35  w28)) (J35  w28))) (PIf (decide (((IntKind.wrap .i64 t11) : Int) > 16)) (PIf (decide (u25 > 9223372036854775808)) (R (.returned (.tuple #[.int .i64 0, .int .i64 0, .int .i64 5])) w28) (J35  w28)) (J35  w28)))) ∧
 ∀  (B42 : Nat → Value) (w43 : World), J35  w43 → PIf (decide (((IntKind.wrap .i64 t11) : Int) > 16)) (R (.returned (.tuple #[.int .i64 (IntKind.wrap .i64 (IntKind.wrap .u64 (0 - u25))), .int .i64 (IntKind.wrap .i64 (head13 + 1)), .int .i64 0])) w43) (R (.returned (.tuple #[.int .i64 (IntKind.wrap .i64 u25), .int .i64 (IntKind.wrap .i64 (head13 + 1)), .int .i64 0])) w43))))))))))))))))) :
 Calls Tryz.prog 205 #[.pointer r1, .int .i64 at2] w R :=
 DC0 A_ref01_Reader_number mixed Tryz.func205 rfl (by kernel_rfl) (Eq.mp (by kernel_rfl) h)
abbrev F_ref05_Read : Nat := 206
def A_ref05_Read : Ann := ⟨[(7, [(5, .int .i64 0)])], [], [9], [9], []⟩
theorem L_ref05_Read {r1 : OA} {w : World} {R : RW}
 (h : PA w (.cells #[.int .i64 0, .int .i64 0, .int .i64 0, .slice none 0 0, .int .i64 0, .int .i64 0, .int .i64 0, .int .i64 0, .int .i64 0, .int .i64 0] 39) fun w2 =>
 PA w2 (.cells #[.int .i64 0, .int .i64 0, .int .i64 0, .slice none 0 0, .int .i64 0, .int .i64 0, .int .i64 0, .int .i64 0, .int .i64 0, .int .i64 0] 39) fun w3 =>
 PS w3 ⟨w2.heap.size, 0, none⟩ (.int .i64 0) fun w4 => PS w4 ⟨w2.heap.size, 0 + 1, none⟩ (.int .i64 0) fun w5 => PS w5 ⟨w2.heap.size, 0 + 2, none⟩ (.int .i64 0) fun w6 =>
 PS w6 ⟨w2.heap.size, 0 + 3, none⟩ (.slice none 0 0) fun w7 => PS w7 ⟨w2.heap.size, 0 + 4, none⟩ (.int .i64 0) fun w8 => PS w8 ⟨w2.heap.size, 0 + 5, none⟩ (.int .i64 0) fun w9 =>
 PS w9 ⟨w2.heap.size, 0 + 6, none⟩ (.int .i64 0) fun w10 => PS w10 ⟨w2.heap.size, 0 + 7, none⟩ (.int .i64 0) fun w11 => PS w11 ⟨w2.heap.size, 0 + 8, none⟩ (.int .i64 0) fun w12 =>
 PS w12 ⟨w2.heap.size, 0 + 9, none⟩ (.int .i64 0) fun w13 => PC Tryz.prog 175 #[.pointer r1] w13 (fun v14 w15 => ∃ t16, v14 = .int .i64 t16 ∧ PS w15 ⟨w2.heap.size, 0, none⟩ (.int .i64 t16) fun w17 =>
 PC Tryz.prog 175 #[.pointer r1] w17 (fun v18 w19 => ∃ t20, v18 = .int .i64 t20 ∧ PS w19 ⟨w2.heap.size, 0 + 1, none⟩ (.int .i64 t20) fun w21 =>
 PC Tryz.prog 175 #[.pointer r1] w21 (fun v22 w23 => ∃ t24, v22 = .int .i64 t24 ∧ PS w23 ⟨w2.heap.size, 0 + 2, none⟩ (.int .i64 t24) fun w25 =>
 PC Tryz.prog 174 #[.pointer r1, .int .i64 64] w25 (fun v26 w27 => ∃ t28, v26 = .int .i64 t28 ∧ (∃ I29 : Nat → Int → World → Prop, (∃ m30, I29 m30 0 w27) ∧
 ∀ (m30 : Nat) (i32 : Int) (B33 : Nat → Value) (w34 : World), I29 m30 i32 w34 → PIf (decide (i32 < t28)) ((∀ w36, Drew w34 w36 → ∃ S37 : Nat → Prop, (¬ S37 w2.heap.size ∧
 (RdL w36 w2.heap.size (0 + 3) fun t38a t38n t38c => PC Tryz.prog 175 #[.pointer r1] w36 (fun v39 w40 =>
 ∃ t41, v39 = .int .i64 t41 ∧ (Keep S37 w36 w40 ∧ PA w40 (.cells #[.int .i64 t41] 3) fun w42 => (Keep S37 w40 w42 ∧ PRun Tryz.prog (Builtin.append_ #[37, 37] 37 #[.slice t38a t38n t38c, .slice (some ⟨w40.heap.size, 0, none⟩) 1 1]) w42 (fun v43 w44 =>
 ∃ t45a t45n t45c, v43 = .slice t45a t45n t45c ∧ PS w44 ⟨w2.heap.size, 0 + 3, none⟩ (.slice t45a t45n t45c) fun w46 => (∃ m31, m31 < m30 ∧
 I29 m31 (IntKind.wrap .i64 (i32 + 1)) w46)) (fun pv wpp => ∀ (_ : Base) (_ : Bnd), R (.panicked [{ v := pv, recovered := false }]) wpp)))) (fun ch wpp =>
 ∀ (_ : Base) (_ : Bnd), R (.panicked ch) wpp))))) (PC Tryz.prog 175 #[.pointer r1] w34 (fun v47 w48 => ∃ t49, v47 = .int .i64 t49 ∧ PS w48 ⟨w2.heap.size, 0 + 4, none⟩ (.int .i64 t49) fun w50 =>
 PC Tryz.prog 175 #[.pointer r1] w50 (fun v51 w52 => ∃ t53, v51 = .int .i64 t53 ∧ PS w52 ⟨w2.heap.size, 0 + 5, none⟩ (.int .i64 t53) fun w54 =>
 PC Tryz.prog 175 #[.pointer r1] w54 (fun v55 w56 => ∃ t57, v55 = .int .i64 t57 ∧ PS w56 ⟨w2.heap.size, 0 + 6, none⟩ (.int .i64 t57) fun w58 =>
 PC Tryz.prog 175 #[.pointer r1] w58 (fun v59 w60 => ∃ t61, v59 = .int .i64 t61 ∧ PS w60 ⟨w2.heap.size, 0 + 7, none⟩ (.int .i64 t61) fun w62 =>
 PC Tryz.prog 175 #[.pointer r1] w62 (fun v63 w64 => ∃ t65, v63 = .int .i64 t65 ∧ PS w64 ⟨w2.heap.size, 0 + 8, none⟩ (.int .i64 t65) fun w66 =>
 PC Tryz.prog 175 #[.pointer r1] w66 (fun v67 w68 => ∃ t69, v67 = .int .i64 t69 ∧ PS w68 ⟨w2.heap.size, 0 + 9, none⟩ (.int .i64 t69) fun w70 =>
 (∃ t71 t72 t73 t74a t74n t74c t75 t76 t77 t78 t79 t80, w70.cell? ⟨w2.heap.size, 0, none⟩ = some (.int .i64 t71) ∧
 w70.cell? ⟨w2.heap.size, 0 + 1, none⟩ = some (.int .i64 t72) ∧ w70.cell? ⟨w2.heap.size, 0 + 2, none⟩ = some (.int .i64 t73) ∧ w70.cell? ⟨w2.heap.size, 0 + 3, none⟩ = some (.slice t74a t74n t74c) ∧
 w70.cell? ⟨w2.heap.size, 0 + 4, none⟩ = some (.int .i64 t75) ∧ w70.cell? ⟨w2.heap.size, 0 + 5, none⟩ = some (.int .i64 t76) ∧ w70.cell? ⟨w2.heap.size, 0 + 6, none⟩ = some (.int .i64 t77) ∧
 w70.cell? ⟨w2.heap.size, 0 + 7, none⟩ = some (.int .i64 t78) ∧ w70.cell? ⟨w2.heap.size, 0 + 8, none⟩ = some (.int .i64 t79) ∧ w70.cell? ⟨w2.heap.size, 0 + 9, none⟩ = some (.int .i64 t80) ∧
 PS w70 ⟨w.heap.size, 0, none⟩ (.int .i64 t71) fun w81 => PS w81 ⟨w.heap.size, 0 + 1, none⟩ (.int .i64 t72) fun w82 => PS w82 ⟨w.heap.size, 0 + 2, none⟩ (.int .i64 t73) fun w83 =>
 PS w83 ⟨w.heap.size, 0 + 3, none⟩ (.slice t74a t74n t74c) fun w84 => PS w84 ⟨w.heap.size, 0 + 4, none⟩ (.int .i64 t75) fun w85 => PS w85 ⟨w.heap.size, 0 + 5, none⟩ (.int .i64 t76) fun w86 =>
 PS w86 ⟨w.heap.size, 0 + 6, none⟩ (.int .i64 t77) fun w87 => PS w87 ⟨w.heap.size, 0 + 7, none⟩ (.int .i64 t78) fun w88 => PS w88 ⟨w.heap.size, 0 + 8, none⟩ (.int .i64 t79) fun w89 =>
 PS w89 ⟨w.heap.size, 0 + 9, none⟩ (.int .i64 t80) fun w90 => (∃ r91 r92 r93 r94a r94n r94c r95 r96 r97 r98 r99 r100, w90.cell? ⟨w.heap.size, 0, none⟩ = some (.int .i64 r91) ∧
 w90.cell? ⟨w.heap.size, 0 + 1, none⟩ = some (.int .i64 r92) ∧ w90.cell? ⟨w.heap.size, 0 + 2, none⟩ = some (.int .i64 r93) ∧ w90.cell? ⟨w.heap.size, 0 + 3, none⟩ = some (.slice r94a r94n r94c) ∧
 w90.cell? ⟨w.heap.size, 0 + 4, none⟩ = some (.int .i64 r95) ∧ w90.cell? ⟨w.heap.size, 0 + 5, none⟩ = some (.int .i64 r96) ∧ w90.cell? ⟨w.heap.size, 0 + 6, none⟩ = some (.int .i64 r97) ∧
 w90.cell? ⟨w.heap.size, 0 + 7, none⟩ = some (.int .i64 r98) ∧ w90.cell? ⟨w.heap.size, 0 + 8, none⟩ = some (.int .i64 r99) ∧ w90.cell? ⟨w.heap.size, 0 + 9, none⟩ = some (.int .i64 r100) ∧
 R (.returned (.agg #[.int .i64 r91, .int .i64 r92, .int .i64 r93, .slice r94a r94n r94c, .int .i64 r95, .int .i64 r96, .int .i64 r97, .int .i64 r98, .int .i64 r99, .int .i64 r100])) w90))) (PnC R)) (PnC R)) (PnC R)) (PnC R)) (PnC R)) (PnC R)))) (PnC R)) (PnC R)) (PnC R)) (PnC R)) :
 Calls Tryz.prog 206 #[.pointer r1] w R :=
 DC0 A_ref05_Read mixed Tryz.func206 rfl (by kernel_rfl) (Eq.mp (by kernel_rfl) h)
abbrev F_ref19_isName : Nat := 207
def A_ref19_isName : Ann := ⟨[(2, [(3, .int .i64 0)])], [], [], [], []⟩
theorem L_ref19_isName {s1 : ByteArray} {w : World} {R : RW}
 (h : (∃ I2 : Nat → Int → World → Prop, (∃ m3, I2 m3 0 w) ∧ ∀ (m3 : Nat) (i5 : Int) (B6 : Nat → Value) (w7 : World), I2 m3 i5 w7 → PIf (decide (i5 < ((ByteArray.size s1 : Nat) : Int))) (((0 : Int) ≤ i5 ∧
 ∃ c8, s1[Int.toNat i5]? = some c8 ∧ PIf ((((c8.toNat : Nat) : Int) : Int) != 46) (PIf (decide ((((c8.toNat : Nat) : Int) : Int) < 48)) (PIf (decide ((((c8.toNat : Nat) : Int) : Int) < 97)) (R (.returned (.bool false)) w7) (PIf (decide ((((c8.toNat : Nat) : Int) : Int) > 122)) (R (.returned (.bool false)) w7) ((∃ m4, m4 < m3 ∧
 I2 m4 (IntKind.wrap .i64 (i5 + 1)) w7)))) (PIf (decide ((((c8.toNat : Nat) : Int) : Int) > 57)) (PIf (decide ((((c8.toNat : Nat) : Int) : Int) < 97)) (R (.returned (.bool false)) w7) (PIf (decide ((((c8.toNat : Nat) : Int) : Int) > 122)) (R (.returned (.bool false)) w7) ((∃ m4, m4 < m3 ∧
 I2 m4 (IntKind.wrap .i64 (i5 + 1)) w7)))) ((∃ m4, m4 < m3 ∧ I2 m4 (IntKind.wrap .i64 (i5 + 1)) w7)))) ((∃ m4, m4 < m3 ∧ I2 m4 (IntKind.wrap .i64 (i5 + 1)) w7)))) (PIf (decide ((((ByteArray.size s1 : Nat) : Int) : Int) ≥ 1)) (R (.returned (.bool (decide ((((ByteArray.size s1 : Nat) : Int) : Int) ≤ 16)))) w7) (R (.returned (.bool false)) w7)))) :
 Calls Tryz.prog 207 #[.string s1] w R :=
 DC0 A_ref19_isName mixed Tryz.func207 rfl (by kernel_rfl) (Eq.mp (by kernel_rfl) h)
abbrev F_ref19_Disk_lay : Nat := 208
def A_ref19_Disk_lay : Ann := ⟨[(4, [(4, .slice none 0 0), (5, .bool false), (6, .int .i64 0)])], [(9, [(4, .slice none 0 0), (5, .bool false)])], [], [], []⟩
theorem L_ref19_Disk_lay {d1 f4a : OA} {f3 : ByteArray} {f4n f4c : Nat} {f5 : Int} {f6 : Bool} {w : World} {R : RW}
 (h : PA w (.cells #[.string f3, .slice f4a f4n f4c, .int .i64 f5, .bool f6] 151) fun w7 => (∃ I8 : Nat → OA → Nat → Nat → Bool → Int → World → Prop, (∃ m9, I8 m9 none 0 0 false 0 w7) ∧
 ∀ (m9 : Nat) (out11a : OA) (out11n : Nat) (out11c : Nat) (laid12 : Bool) (i13 : Int) (B14 : Nat → Value) (w15 : World), I8 m9 out11a out11n out11c laid12 i13 w15 → (∃ b16 o17, d1 = some ⟨b16, o17, none⟩ ∧
 (RdL w15 b16 (o17 + 2) fun t18a t18n t18c => PIf (decide (i13 < ((t18n : Nat) : Int))) ((∃ J19 : OA → Nat → Nat → Bool → World → Prop, (PIf (!laid12) ((RdT w15 w.heap.size 0 fun t21 =>
 (∃ b22 o23, d1 = some ⟨b22, o23, none⟩ ∧ (RdL w15 b22 (o23 + 2) fun t24a t24n t24c =>
 (∃ b25 o26, t24a = some ⟨b25, o26, none⟩ ∧ (0 : Int) ≤ i13 ∧ i13 < ((t24n : Nat) : Int) ∧ (RdT w15 b25 (o26 + Int.toNat i13 * 4) fun t27 =>
 (∀ w20, Drew w15 w20 → PIf (Op.bytesLess (ByteArray.toList t21) (ByteArray.toList t27)) ((∃ t28 t29a t29n t29c t30 t31, w20.cell? ⟨w.heap.size, 0, none⟩ = some (.string t28) ∧
 w20.cell? ⟨w.heap.size, 0 + 1, none⟩ = some (.slice t29a t29n t29c) ∧ w20.cell? ⟨w.heap.size, 0 + 2, none⟩ = some (.int .i64 t30) ∧ w20.cell? ⟨w.heap.size, 0 + 3, none⟩ = some (.bool t31) ∧
 PA w20 (.cells #[.string t28, .slice t29a t29n t29c, .int .i64 t30, .bool t31] 151) fun w32 => PRun Tryz.prog (Builtin.append_ #[141, 141] 141 #[.slice out11a out11n out11c, .slice (some ⟨w20.heap.size, 0, none⟩) 1 1]) w32 (fun v33 w34 =>
 ∃ t35a t35n t35c, v33 = .slice t35a t35n t35c ∧ J19 t35a t35n t35c true w34) (PnV R))) (J19 out11a out11n out11c laid12 w20)))))))) ((∀ w20, Drew w15 w20 → J19 out11a out11n out11c laid12 w20))) ∧
 ∀ (out36a : OA) (out36n : Nat) (out36c : Nat) (laid37 : Bool) (B38 : Nat → Value) (w39 : World), J19 out36a out36n out36c laid37 w39 → (∃ b41 o42, d1 = some ⟨b41, o42, none⟩ ∧
 (RdL w39 b41 (o42 + 2) fun t43a t43n t43c => (∃ b44 o45, t43a = some ⟨b44, o45, none⟩ ∧
 (0 : Int) ≤ i13 ∧ i13 < ((t43n : Nat) : Int) ∧ (RdT w39 b44 (o45 + Int.toNat i13 * 4) fun t46 => (RdT w39 w.heap.size 0 fun t47 =>
 (∀ w40, Drew w39 w40 → PIf (!((ByteArray.toList t46) == (ByteArray.toList t47))) ((∃ b48 o49, d1 = some ⟨b48, o49, none⟩ ∧ (RdL w40 b48 (o49 + 2) fun t50a t50n t50c =>
 (∃ b51 o52, t50a = some ⟨b51, o52, none⟩ ∧ (0 : Int) ≤ i13 ∧ i13 < ((t50n : Nat) : Int) ∧ (∃ t53 t54a t54n t54c t55 t56, w40.cell? ⟨b51, o52 + Int.toNat i13 * 4, none⟩ = some (.string t53) ∧
 w40.cell? ⟨b51, o52 + Int.toNat i13 * 4 + 1, none⟩ = some (.slice t54a t54n t54c) ∧ w40.cell? ⟨b51, o52 + Int.toNat i13 * 4 + 2, none⟩ = some (.int .i64 t55) ∧
 w40.cell? ⟨b51, o52 + Int.toNat i13 * 4 + 3, none⟩ = some (.bool t56) ∧ PA w40 (.cells #[.string t53, .slice t54a t54n t54c, .int .i64 t55, .bool t56] 151) fun w57 =>
 PRun Tryz.prog (Builtin.append_ #[141, 141] 141 #[.slice out36a out36n out36c, .slice (some ⟨w40.heap.size, 0, none⟩) 1 1]) w57 (fun v58 w59 => ∃ t60a t60n t60c, v58 = .slice t60a t60n t60c ∧
 (∃ m10, m10 < m9 ∧ I8 m10 t60a t60n t60c laid37 (IntKind.wrap .i64 (i13 + 1)) w59)) (PnV R)))))) ((∃ m10, m10 < m9 ∧
 I8 m10 out36a out36n out36c laid37 (IntKind.wrap .i64 (i13 + 1)) w40)))))))))) (PIf (!laid12) ((∃ t61 t62a t62n t62c t63 t64, w15.cell? ⟨w.heap.size, 0, none⟩ = some (.string t61) ∧
 w15.cell? ⟨w.heap.size, 0 + 1, none⟩ = some (.slice t62a t62n t62c) ∧ w15.cell? ⟨w.heap.size, 0 + 2, none⟩ = some (.int .i64 t63) ∧ w15.cell? ⟨w.heap.size, 0 + 3, none⟩ = some (.bool t64) ∧
 PA w15 (.cells #[.string t61, .slice t62a t62n t62c, .int .i64 t63, .bool t64] 151) fun w65 => PRun Tryz.prog (Builtin.append_ #[141, 141] 141 #[.slice out11a out11n out11c, .slice (some ⟨w15.heap.size, 0, none⟩) 1 1]) w65 (fun v66 w67 =>
 ∃ t68a t68n t68c, v66 = .slice t68a t68n t68c ∧ (∃ b69 o70, d1 = some ⟨b69, o70, none⟩ ∧ PS w67 ⟨b69, o70 + 2, none⟩ (.slice t68a t68n t68c) fun w71 =>
 R (.returned (.tuple #[])) w71)) (PnV R))) ((∃ b72 o73, d1 = some ⟨b72, o73, none⟩ ∧ PS w15 ⟨b72, o73 + 2, none⟩ (.slice out11a out11n out11c) fun w74 =>
 R (.returned (.tuple #[])) w74))))))) :
 Calls Tryz.prog 208 #[.pointer d1, .agg #[.string f3, .slice f4a f4n f4c, .int .i64 f5, .bool f6]] w R :=
 DC0 A_ref19_Disk_lay mixed Tryz.func208 rfl (by kernel_rfl) (Eq.mp (by kernel_rfl) h)
abbrev F_ref19_Disk_drop : Nat := 209
def A_ref19_Disk_drop : Ann := ⟨[(2, [(4, .slice none 0 0), (5, .int .i64 0)])], [], [], [], []⟩
theorem L_ref19_Disk_drop {d1 : OA} {name2 : ByteArray} {w : World} {R : RW}
 (h : (∃ I3 : Nat → OA → Nat → Nat → Int → World → Prop, (∃ m4, I3 m4 none 0 0 0 w) ∧ ∀ (m4 : Nat) (out6a : OA) (out6n : Nat) (out6c : Nat) (i7 : Int) (B8 : Nat → Value) (w9 : World), I3 m4 out6a out6n out6c i7 w9 → (∃ b10 o11, d1 = some ⟨b10, o11, none⟩ ∧
 (RdL w9 b10 (o11 + 2) fun t12a t12n t12c => PIf (decide (i7 < ((t12n : Nat) : Int))) ((∃ b13 o14, d1 = some ⟨b13, o14, none⟩ ∧
 (RdL w9 b13 (o14 + 2) fun t15a t15n t15c => (∃ b16 o17, t15a = some ⟨b16, o17, none⟩ ∧
 (0 : Int) ≤ i7 ∧ i7 < ((t15n : Nat) : Int) ∧ (RdT w9 b16 (o17 + Int.toNat i7 * 4) fun t18 => PIf (!((ByteArray.toList t18) == (ByteArray.toList name2))) ((∃ b19 o20, d1 = some ⟨b19, o20, none⟩ ∧
 (RdL w9 b19 (o20 + 2) fun t21a t21n t21c => (∃ b22 o23, t21a = some ⟨b22, o23, none⟩ ∧
 (0 : Int) ≤ i7 ∧ i7 < ((t21n : Nat) : Int) ∧ (∃ t24 t25a t25n t25c t26 t27, w9.cell? ⟨b22, o23 + Int.toNat i7 * 4, none⟩ = some (.string t24) ∧
 w9.cell? ⟨b22, o23 + Int.toNat i7 * 4 + 1, none⟩ = some (.slice t25a t25n t25c) ∧ w9.cell? ⟨b22, o23 + Int.toNat i7 * 4 + 2, none⟩ = some (.int .i64 t26) ∧
 w9.cell? ⟨b22, o23 + Int.toNat i7 * 4 + 3, none⟩ = some (.bool t27) ∧ PA w9 (.cells #[.string t24, .slice t25a t25n t25c, .int .i64 t26, .bool t27] 151) fun w28 =>
 PRun Tryz.prog (Builtin.append_ #[141, 141] 141 #[.slice out6a out6n out6c, .slice (some ⟨w9.heap.size, 0, none⟩) 1 1]) w28 (fun v29 w30 => ∃ t31a t31n t31c, v29 = .slice t31a t31n t31c ∧
 (∃ m5, m5 < m4 ∧ I3 m5 t31a t31n t31c (IntKind.wrap .i64 (i7 + 1)) w30)) (PnV R)))))) ((∃ m5, m5 < m4 ∧
 I3 m5 out6a out6n out6c (IntKind.wrap .i64 (i7 + 1)) w9))))))) ((∃ b32 o33, d1 = some ⟨b32, o33, none⟩ ∧ PS w9 ⟨b32, o33 + 2, none⟩ (.slice out6a out6n out6c) fun w34 =>
 R (.returned (.tuple #[])) w34)))))) :
 Calls Tryz.prog 209 #[.pointer d1, .string name2] w R :=
 DC0 A_ref19_Disk_drop mixed Tryz.func209 rfl (by kernel_rfl) (Eq.mp (by kernel_rfl) h)
abbrev F_ref21_Bytes : Nat := 210
def A_ref21_Bytes : Ann := ⟨[(3, [(3, .slice none 0 0), (4, .int .i64 0)])], [], [], [], []⟩
theorem L_ref21_Bytes {m2a : OA} {m2n m2c : Nat} {w : World} {R : RW}
 (h : PA w (.cells #[.slice m2a m2n m2c] 56) fun w3 => (RdL w3 w.heap.size 0 fun t4a t4n t4c =>
 PC Tryz.prog 212 #[.slice none 0 0, .int .i64 ((t4n : Nat) : Int)] w3 (fun v5 w6 => ∃ t7a t7n t7c, v5 = .slice t7a t7n t7c ∧
 (∃ I8 : Nat → OA → Nat → Nat → Int → World → Prop, (∃ m9, I8 m9 t7a t7n t7c 0 w6) ∧ ∀ (m9 : Nat) (b11a : OA) (b11n : Nat) (b11c : Nat) (i12 : Int) (B13 : Nat → Value) (w14 : World), I8 m9 b11a b11n b11c i12 w14 → (RdL w14 w.heap.size 0 fun t15a t15n t15c =>
 PIf (decide (i12 < ((t15n : Nat) : Int))) ((RdL w14 w.heap.size 0 fun t16a t16n t16c =>
 (∃ b17 o18, t16a = some ⟨b17, o18, none⟩ ∧ (0 : Int) ≤ i12 ∧ i12 < ((t16n : Nat) : Int) ∧ (RdI w14 b17 (o18 + Int.toNat i12) fun t19 =>
 PC Tryz.prog 212 #[.slice b11a b11n b11c, .int .i64 t19] w14 (fun v20 w21 => ∃ t22a t22n t22c, v20 = .slice t22a t22n t22c ∧
 (∃ m10, m10 < m9 ∧ I8 m10 t22a t22n t22c (IntKind.wrap .i64 (i12 + 1)) w21)) (PnC R))))) (PC Tryz.prog 184 #[.agg #[.int .i64 2, .slice b11a b11n b11c]] w14 (fun v23 w24 =>
 ∃ t25a t25n t25c t26, v23 = .tuple #[.slice t25a t25n t25c, .int .i64 t26] ∧ R (.returned (.slice t25a t25n t25c)) w24) (PnC R))))) (PnC R))) :
 Calls Tryz.prog 210 #[.agg #[.slice m2a m2n m2c]] w R :=
 DC0 A_ref21_Bytes mixed Tryz.func210 rfl (by kernel_rfl) (Eq.mp (by kernel_rfl) h)
abbrev F_ref19_Disk_Rename : Nat := 211
theorem L_ref19_Disk_Rename {d1 : OA} {from2 to3 : ByteArray} {w : World} {R : RW}
 (h : PC Tryz.prog 154 #[.pointer d1] w (fun v4 w5 => ∃ t6, v4 = .bool t6 ∧ PIf t6 (R (.returned (.int .i64 15)) w5) (PC Tryz.prog 155 #[.pointer d1, .string from2] w5 (fun v7 w8 =>
 ∃ t9, v7 = .int .i64 t9 ∧ PIf (decide (t9 < 0)) (R (.returned (.int .i64 14)) w8) (PC Tryz.prog 207 #[.string to3] w8 (fun v10 w11 => ∃ t12, v10 = .bool t12 ∧
 PIf (!t12) (R (.returned (.int .i64 1)) w11) ((∃ b13 o14, d1 = some ⟨b13, o14, none⟩ ∧ (RdL w11 b13 (o14 + 2) fun t15a t15n t15c =>
 (∃ b16 o17, t15a = some ⟨b16, o17, none⟩ ∧ (0 : Int) ≤ t9 ∧ t9 < ((t15n : Nat) : Int) ∧ (∃ t18 t19a t19n t19c t20 t21, w11.cell? ⟨b16, o17 + Int.toNat t9 * 4, none⟩ = some (.string t18) ∧
 w11.cell? ⟨b16, o17 + Int.toNat t9 * 4 + 1, none⟩ = some (.slice t19a t19n t19c) ∧ w11.cell? ⟨b16, o17 + Int.toNat t9 * 4 + 2, none⟩ = some (.int .i64 t20) ∧
 w11.cell? ⟨b16, o17 + Int.toNat t9 * 4 + 3, none⟩ = some (.bool t21) ∧ PA w11 (.cells #[.string (⟨#[]⟩ : ByteArray), .slice none 0 0, .int .i64 0, .bool false] 151) fun w22 =>
 PS w22 ⟨w11.heap.size, 0, none⟩ (.string t18) fun w23 => PS w23 ⟨w11.heap.size, 0 + 1, none⟩ (.slice t19a t19n t19c) fun w24 => PS w24 ⟨w11.heap.size, 0 + 2, none⟩ (.int .i64 t20) fun w25 =>
 PS w25 ⟨w11.heap.size, 0 + 3, none⟩ (.bool t21) fun w26 => PC Tryz.prog 209 #[.pointer d1, .string from2] w26 (fun v27 w28 => v27 = .tuple #[] ∧ PS w28 ⟨w11.heap.size, 0, none⟩ (.string to3) fun w29 =>
 PS w29 ⟨w11.heap.size, 0 + 3, none⟩ (.bool true) fun w30 => (∃ t31 t32a t32n t32c t33 t34, w30.cell? ⟨w11.heap.size, 0, none⟩ = some (.string t31) ∧
 w30.cell? ⟨w11.heap.size, 0 + 1, none⟩ = some (.slice t32a t32n t32c) ∧ w30.cell? ⟨w11.heap.size, 0 + 2, none⟩ = some (.int .i64 t33) ∧ w30.cell? ⟨w11.heap.size, 0 + 3, none⟩ = some (.bool t34) ∧
 PC Tryz.prog 208 #[.pointer d1, .agg #[.string t31, .slice t32a t32n t32c, .int .i64 t33, .bool t34]] w30 (fun v35 w36 => v35 = .tuple #[] ∧ R (.returned (.int .i64 0)) w36) (PnC R))) (PnC R))))))) (PnC R))) (PnC R))) (PnC R)) :
 Calls Tryz.prog 211 #[.pointer d1, .string from2, .string to3] w R :=
 DC0 ⟨[], [], [], [], []⟩ mixed Tryz.func211 rfl (by kernel_rfl) (Eq.mp (by kernel_rfl) h)
abbrev F_ref01_Int : Nat := 212
def A_ref01_Int : Ann := ⟨[(3, [(5, .slice none 0 0), (6, .int .u64 0)]), (13, [(8, .slice none 0 0), (9, .int .i64 0)])], [(9, [(7, .int .i64 0)])], [], [], []⟩
theorem L_ref01_Int {b1a : OA} {b1n b1c : Nat} {n2 : Int} {w : World} {R : RW}
 (h : PC Tryz.prog 223 #[.int .i64 n2] w (fun v3 w4 => ∃ t5, v3 = .int .u64 t5 ∧ (∃ I6 : Nat → OA → Nat → Nat → Int → World → Prop, (∃ m7, I6 m7 none 0 0 t5 w4) ∧
 ∀ (m7 : Nat) (low9a : OA) (low9n : Nat) (low9c : Nat) (u10 : Int) (B11 : Nat → Value) (w12 : World), I6 m7 low9a low9n low9c u10 w12 → PIf (decide (u10 > 0)) (PA w12 (.cells #[.int .u8 (IntKind.wrap .u8 (Int.tmod u10 256))] 5) fun w13 =>
 PRun Tryz.prog (Builtin.append_ #[49, 49] 49 #[.slice low9a low9n low9c, .slice (some ⟨w12.heap.size, 0, none⟩) 1 1]) w13 (fun v14 w15 => ∃ t16a t16n t16c, v14 = .slice t16a t16n t16c ∧
 (∃ m8, m8 < m7 ∧ I6 m8 t16a t16n t16c (IntKind.wrap .u64 (Int.tdiv u10 256)) w15)) (PnV R)) ((∃ J17 : Int → World → Prop, (PIf (decide (n2 < 0)) (J17 (IntKind.wrap .i64 (((low9n : Nat) : Int) + 16)) w12) (J17 ((low9n : Nat) : Int) w12)) ∧
 ∀ (head18 : Int) (B19 : Nat → Value) (w20 : World), J17 head18 w20 → PRun Tryz.prog (Builtin.append_ #[49, 49] 49 #[.slice none 0 0, .slice b1a b1n b1c]) w20 (fun v21 w22 =>
 ∃ t23a t23n t23c, v21 = .slice t23a t23n t23c ∧ PA w22 (.cells #[.int .u8 (IntKind.wrap .u8 head18)] 5) fun w24 => PRun Tryz.prog (Builtin.append_ #[49, 49] 49 #[.slice t23a t23n t23c, .slice (some ⟨w22.heap.size, 0, none⟩) 1 1]) w24 (fun v25 w26 =>
 ∃ t27a t27n t27c, v25 = .slice t27a t27n t27c ∧ (∃ I28 : Nat → OA → Nat → Nat → Int → World → Prop, (∃ m29, I28 m29 t27a t27n t27c (IntKind.wrap .i64 (((low9n : Nat) : Int) - 1)) w26) ∧
 ∀ (m29 : Nat) (out31a : OA) (out31n : Nat) (out31c : Nat) (i32 : Int) (B33 : Nat → Value) (w34 : World), I28 m29 out31a out31n out31c i32 w34 → PIf (decide (i32 ≥ 0)) ((∃ b35 o36, low9a = some ⟨b35, o36, none⟩ ∧
 (0 : Int) ≤ i32 ∧ i32 < ((low9n : Nat) : Int) ∧ (∃ t37, w34.cell? ⟨b35, o36 + Int.toNat i32, none⟩ = some (.int .u8 t37) ∧ PA w34 (.cells #[.int .u8 t37] 5) fun w38 =>
 PRun Tryz.prog (Builtin.append_ #[49, 49] 49 #[.slice out31a out31n out31c, .slice (some ⟨w34.heap.size, 0, none⟩) 1 1]) w38 (fun v39 w40 => ∃ t41a t41n t41c, v39 = .slice t41a t41n t41c ∧
 (∃ m30, m30 < m29 ∧ I28 m30 t41a t41n t41c (IntKind.wrap .i64 (i32 - 1)) w40)) (PnV R)))) (R (.returned (.slice out31a out31n out31c)) w34))) (PnV R)) (PnV R))))) (PnC R)) :
 Calls Tryz.prog 212 #[.slice b1a b1n b1c, .int .i64 n2] w R :=
 DC0 A_ref01_Int mixed Tryz.func212 rfl (by kernel_rfl) (Eq.mp (by kernel_rfl) h)
abbrev F_ref02_Sum : Nat := 213
theorem L_ref02_Sum {b1a : OA} {b1n b1c : Nat} {w : World} {R : RW}
 (h : PC Tryz.prog 224 #[.int .u32 0, .slice b1a b1n b1c] w (fun v2 w3 => ∃ t4, v2 = .int .u32 t4 ∧ R (.returned (.int .u32 t4)) w3) (PnC R)) :
 Calls Tryz.prog 213 #[.slice b1a b1n b1c] w R :=
 DC0 ⟨[], [], [], [], []⟩ mixed Tryz.func213 rfl (by kernel_rfl) (Eq.mp (by kernel_rfl) h)
abbrev F_ref01_size : Nat := 223
theorem L_ref01_size {n1 : Int} {w : World} {R : RW}
 (h : PIf (decide (n1 < 0)) (R (.returned (.int .u64 (IntKind.wrap .u64 (0 - (IntKind.wrap .u64 n1))))) w) (R (.returned (.int .u64 (IntKind.wrap .u64 n1))) w)) :
 Calls Tryz.prog 223 #[.int .i64 n1] w R :=
 DC0 ⟨[], [], [], [], []⟩ mixed Tryz.func223 rfl (by kernel_rfl) (Eq.mp (by kernel_rfl) h)
def A_ref02_More : Ann := ⟨[(4, [(5, .int .u32 0), (7, .int .i64 0)])], [], [], [], []⟩
theorem L_ref02_More {sum1 : Int} {b2a : OA} {b2n b2c : Nat} {w : World} {R : RW}
 (h : PC Tryz.prog 227 #[.slice b2a b2n b2c] w (fun v3 w4 => ∃ t5a t5n t5c, v3 = .slice t5a t5n t5c ∧ (∃ I6 : Nat → Int → Int → World → Prop, (∃ m7, I6 m7 (iXor .u32 sum1 4294967295) 0 w4) ∧
 ∀ (m7 : Nat) (r9 : Int) (i10 : Int) (B11 : Nat → Value) (w12 : World), I6 m7 r9 i10 w12 → PIf (decide (i10 < ((t5n : Nat) : Int))) ((∃ b13 o14, t5a = some ⟨b13, o14, none⟩ ∧
 (0 : Int) ≤ i10 ∧ i10 < ((t5n : Nat) : Int) ∧ (RdB w12 b13 (o14 + Int.toNat i10) fun t15 => PC Tryz.prog 228 #[.int .u32 r9, .bool t15] w12 (fun v16 w17 =>
 ∃ t18, v16 = .int .u32 t18 ∧ (∃ m8, m8 < m7 ∧ I6 m8 t18 (IntKind.wrap .i64 (i10 + 1)) w17)) (PnC R)))) (R (.returned (.int .u32 (iXor .u32 r9 4294967295))) w12))) (PnC R)) :
 Calls Tryz.prog 224 #[.int .u32 sum1, .slice b2a b2n b2c] w R :=
 DC0 A_ref02_More mixed Tryz.func224 rfl (by kernel_rfl) (Eq.mp (by kernel_rfl) h)
abbrev F_ref02_bits : Nat := 227
def A_ref02_bits : Ann := ⟨[(3, [(3, .slice none 0 0), (4, .int .i64 0)]), (6, [(3, .slice none 0 0), (5, .int .i64 0)])], [], [], [], []⟩
theorem L_ref02_bits {b1a : OA} {b1n b1c : Nat} {w : World} {R : RW}
 (h : (∃ I2 : Nat → OA → Nat → Nat → Int → World → Prop, (∃ m3, I2 m3 none 0 0 0 w) ∧ ∀ (m3 : Nat) (out5a : OA) (out5n : Nat) (out5c : Nat) (i6 : Int) (B7 : Nat → Value) (w8 : World), I2 m3 out5a out5n out5c i6 w8 → PIf (decide (i6 < ((b1n : Nat) : Int))) ((∃ I9 : Nat → OA → Nat → Nat → Int → World → Prop, (∃ m10, I9 m10 out5a out5n out5c 0 w8) ∧
 ∀ (m10 : Nat) (out12a : OA) (out12n : Nat) (out12c : Nat) (k13 : Int) (B14 : Nat → Value) (w15 : World), I9 m10 out12a out12n out12c k13 w15 → PIf (decide (k13 < 8)) ((∃ b16 o17, b1a = some ⟨b16, o17, none⟩ ∧
 (0 : Int) ≤ i6 ∧ i6 < ((b1n : Nat) : Int) ∧ (∃ t18, w15.cell? ⟨b16, o17 + Int.toNat i6, none⟩ = some (.int .u8 t18) ∧ PRun Tryz.prog (do eqGuard .shr 5 (.tmp 20) (.tmp 22) (.int .u8 t18) (.int .u64 (IntKind.wrap .u64 k13)); binOp .shr 5 (.int .u8 t18) (.int .u64 (IntKind.wrap .u64 k13))) w15 (fun v19 w20 =>
 ∃ t21, v19 = .int .u8 t21 ∧ PA w20 (.cells #[.bool (((Int.tmod t21 2) : Int) == 1)] 4) fun w22 => PRun Tryz.prog (Builtin.append_ #[229, 229] 229 #[.slice out12a out12n out12c, .slice (some ⟨w20.heap.size, 0, none⟩) 1 1]) w22 (fun v23 w24 =>
 ∃ t25a t25n t25c, v23 = .slice t25a t25n t25c ∧ (∃ m11, m11 < m10 ∧ I9 m11 t25a t25n t25c (IntKind.wrap .i64 (k13 + 1)) w24)) (PnV R)) (PnV R)))) ((∃ m4, m4 < m3 ∧ I2 m4 out12a out12n out12c (IntKind.wrap .i64 (i6 + 1)) w15)))) (R (.returned (.slice out5a out5n out5c)) w8))) :
 Calls Tryz.prog 227 #[.slice b1a b1n b1c] w R :=
 DC0 A_ref02_bits mixed Tryz.func227 rfl (by kernel_rfl) (Eq.mp (by kernel_rfl) h)
abbrev F_ref02_halves : Nat := 228
theorem L_ref02_halves {r1 : Int} {bit2 : Bool} {w : World} {R : RW}
 (h : PIf (!((((Int.tmod r1 2) : Int) == 1) == bit2)) (R (.returned (.int .u32 (iXor .u32 (IntKind.wrap .u32 (Int.tdiv r1 2)) 3988292384))) w) (R (.returned (.int .u32 (IntKind.wrap .u32 (Int.tdiv r1 2)))) w)) :
 Calls Tryz.prog 228 #[.int .u32 r1, .bool bit2] w R :=
 DC0 ⟨[], [], [], [], []⟩ mixed Tryz.func228 rfl (by kernel_rfl) (Eq.mp (by kernel_rfl) h)
end Go.Proofs.YtpbpjojdfcdbbaaGreatDoor
