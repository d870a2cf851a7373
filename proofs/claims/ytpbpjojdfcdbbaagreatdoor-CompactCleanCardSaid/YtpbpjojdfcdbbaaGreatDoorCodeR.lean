/- compact's walk over the loose files, lifted -/
import Derived.Test.YtpbpjojdfcdbbaaGreatDoorCode
import Derived.Test.YtpbpjojdfcdbbaaGreatDoorRound
namespace Go.Proofs.YtpbpjojdfcdbbaaGreatDoor
open Go.Lift
set_option maxRecDepth 100000
set_option linter.unusedVariables false
/-- quayside/compact.Clean -/
abbrev F_compact_Clean : Nat := 42
def A_compact_Clean : Ann := ⟨[(3, [(5, .string (⟨#[]⟩ : ByteArray))])], [], [], [], []⟩
theorem L_compact_Clean {d1 : Option Addr} {w : World} {R : Ending → World → Prop}
    (h : PA w (.cells #[.pointer d1] 25) fun w2 => (∃ (t3 : Option Addr), w2.cell? ⟨w.heap.size, 0, none⟩ = some (.pointer t3) ∧ PC Tryz.prog 82 #[.pointer t3] w2 (fun v4 w5 =>
      ∃ (t6 : Value), v4 = t6 ∧ (RangeD Tryz.prog t6 [.string (⟨#[]⟩ : ByteArray)] w5 (fun N7 K8 A9 => ∀ (t10 : ByteArray), N7 [.string t10] → (Keep (OffL w5) A9 A9 ∧
      ∀ w12, Turn (w5.heap.size + 1) A9 w12 → (∃ (t13 : Option Addr), w12.cell? ⟨w.heap.size, 0, none⟩ = some (.pointer t13) ∧ PC Tryz.prog 76 #[.pointer t13, .string t10] w12 (fun v14 w15 =>
      ∃ (t16 : Int), v14 = .int .i64 t16 ∧ (Keep (OffL w5) w12 w15 ∧ K8 [.string t10] .normal w15)) (fun ch w => False)))) (fun A17 => (Marked w5.heap.size A17 ∧
      ∀ w18, Turn w5.heap.size A17 w18 → R (.returned (.tuple #[])) w18)) [])) (fun ch w => R (.panicked ch) w))) :
    Calls Tryz.prog 42 #[.pointer d1] w R :=
  DR_calls A_compact_Clean [] mixed Tryz.func42 rfl (Nat.le_of_ble_eq_true (by kernel_rfl)) (by kernel_rfl) (Eq.mp (by kernel_rfl) h)
/-- quayside/compact.loose -/
abbrev F_compact_loose : Nat := 82
def A_compact_loose : Ann := ⟨[], [], [], [], []⟩
theorem L_compact_loose {d1 : Option Addr} {w : World} {R : Ending → World → Prop}
    (h : PA w (.cells #[.pointer d1] 25) fun w2 => (∃ (t3 : Option Addr), w2.cell? ⟨w.heap.size, 0, none⟩ = some (.pointer t3) ∧ PC Tryz.prog 26 #[.pointer t3] w2 (fun v4 w5 =>
      ∃ (t6a : Option Addr) (t6n : Nat) (t6c : Nat), ∃ (t7 : Bool), v4 = .tuple #[.agg #[.slice t6a t6n t6c], .bool t7] ∧ PA w5 (.cells #[.slice none 0 0] 56) fun w8 =>
      PS w8 ⟨w5.heap.size, 0, none⟩ (.slice t6a t6n t6c) fun w9 => R (.returned (.func (.func 124) #[] #[.pointer (some ⟨w.heap.size, 0, none⟩), .pointer (some ⟨w5.heap.size, 0, none⟩)])) w9) (fun ch w =>
      R (.panicked ch) w))) :
    Calls Tryz.prog 82 #[.pointer d1] w R :=
  D_calls A_compact_loose mixed Tryz.func82 rfl (Nat.le_of_ble_eq_true (by kernel_rfl)) (by kernel_rfl) (Eq.mp (by kernel_rfl) h)
/-- quayside/compact.loose$1 -/
abbrev F_compact_loose_1 : Nat := 124
def A_compact_loose_1 : Ann := ⟨[(1, [(11, .int .i64 0)])], [], [], [], []⟩
theorem L_compact_loose_1 {yield1 : Nat} {b2 : Nat} {o3 : Nat} {b4 : Nat} {o5 : Nat} {w : World} {R : Ending → World → Prop}
    (h : (∃ (t6 : Option Addr), w.cell? ⟨b2, o3, none⟩ = some (.pointer t6) ∧ PC Tryz.prog 38 #[.pointer t6] w (fun v7 w8 => ∃ (t9a : Option Addr) (t9n : Nat) (t9c : Nat), v7 = .slice t9a t9n t9c ∧
      (∃ I10 : Nat → Int → World → Prop, (∃ m11, I10 m11 0 w8) ∧ ∀ (m11 : Nat) (t13 : Int) (B14 : Nat → Value) (w15 : World), I10 m11 t13 w15 → PIf (decide ((t13 : Int) < ((t9n : Nat) : Int))) ((∃ b16 o17, t9a = some ⟨b16, o17, none⟩ ∧
      (0 : Int) ≤ t13 ∧ t13 < ((t9n : Nat) : Int) ∧ (∃ (t18 : ByteArray), w15.cell? ⟨b16, o17 + Int.toNat t13, none⟩ = some (.string t18) ∧ PC Tryz.prog 43 #[.string t18] w15 (fun v19 w20 =>
      ∃ (t21 : Int), ∃ (t22 : Bool), v19 = .tuple #[.int .i64 t21, .bool t22] ∧ PIf ((ByteArray.toList t18) == (ByteArray.toList (⟨#[109, 97, 110, 105, 102, 101, 115, 116, 46, 116, 109, 112]⟩ : ByteArray))) ((∃ l25, (.func (.yield yield1) #[] #[] : Value) = .func (.yield l25) #[] #[] ∧
      YieldW Tryz.prog l25 [.string t18] w20 fun b26 w24 => PIf (!b26) (R (.returned (.tuple #[])) w24) ((∃ m12, m12 < m11 ∧ I10 m12 (IntKind.wrap .i64 (t13 + 1)) w24)))) (PIf t22 ((∃ (t27a : Option Addr) (t27n : Nat) (t27c : Nat), w20.cell? ⟨b4, o5, none⟩ = some (.slice t27a t27n t27c) ∧
      PC Tryz.prog 125 #[.slice t27a t27n t27c, .int .i64 t21] w20 (fun v28 w29 => ∃ (t30 : Bool), v28 = .bool t30 ∧ PIf (!t30) ((∃ l33, (.func (.yield yield1) #[] #[] : Value) = .func (.yield l33) #[] #[] ∧
      YieldW Tryz.prog l33 [.string t18] w29 fun b34 w32 => PIf (!b34) (R (.returned (.tuple #[])) w32) ((∃ m12, m12 < m11 ∧ I10 m12 (IntKind.wrap .i64 (t13 + 1)) w32)))) ((∃ m12, m12 < m11 ∧
      I10 m12 (IntKind.wrap .i64 (t13 + 1)) w29))) (fun ch w => R (.panicked ch) w))) ((∃ m12, m12 < m11 ∧ I10 m12 (IntKind.wrap .i64 (t13 + 1)) w20)))) (fun ch w =>
      R (.panicked ch) w)))) (R (.returned (.tuple #[])) w15))) (fun ch w => R (.panicked ch) w))) :
    Calls Tryz.prog 124 #[.func (.yield yield1) #[] #[], .pointer (some ⟨b2, o3, none⟩), .pointer (some ⟨b4, o5, none⟩)] w R :=
  DR_calls A_compact_loose_1 [4, 5] mixed Tryz.func124 rfl (Nat.le_of_ble_eq_true (by kernel_rfl)) (by kernel_rfl) (Eq.mp (by kernel_rfl) h)
end Go.Proofs.YtpbpjojdfcdbbaaGreatDoor
