/- segment: names, numbers, loading, an event's frame -/
import Derived.Test.YtpbpjojdfcdbbaaGreatDoorFrame2
import Derived.Test.YtpbpjojdfcdbbaaGreatDoorEvent2
import Derived.Test.YtpbpjojdfcdbbaaGreatDoorSegName
import Derived.Test.YtpbpjojdfcdbbaaGreatDoorDiskOps3
import Derived.Lib.AppendIntMem
import Derived.Laws.Concat
namespace Go.Lift
open Go
set_option linter.unusedVariables false
def txt (l : List UInt8) : ByteArray := ⟨l.toArray⟩
theorem txt_list (l : List UInt8) : (txt l).data.toList = l := by simp [txt]
theorem txt_of (s : ByteArray) : txt s.data.toList = s := by simp [txt]
theorem txt_inj {a b : List UInt8} (h : txt a = txt b) : a = b := by rw [← txt_list a, h, txt_list]
theorem txt_size (l : List UInt8) : (txt l).size = l.length := by simp [txt, ByteArray.size]
def segNoV (s : ByteArray) : Int × Bool := match segNo s.data.toList with
  | some k => (k, true)
  | none => (0, false)
theorem addS {P : Program} {t : TypeId} {x y : Operand} {a b : List UInt8} {w : World} {κ ε : Value → World → Prop} (hl : a.length + b.length ≤ 1000000000) (h : κ (.string (txt (a ++ b))) w) :
    PRun P (do eqGuard .add t x y (.string (txt a)) (.string (txt b)); binOp .add t (.string (txt a)) (.string (txt b))) w κ ε := by
  refine PRun.mk (v := .string (txt a ++ txt b)) (w' := w) ?_ ?_
  · rw [Sem.run_bind, show (eqGuard .add t x y (.string (txt a)) (.string (txt b))).run P w = .ok () w from rfl, Result.andThen_ok, binOp_string_add, run_string_add_sum w (txt a) (txt b) (by rw [txt_size, txt_size]; omega)]
  have : txt a ++ txt b = txt (a ++ b) := by
    apply ByteArray.ext
    simp [txt]
  rw [this]; exact h
theorem Grew.of_grow {w : World} {k : Nat} {os : Array Obj} : Grew w (Sort.grow (w.drewN k) os) :=
  ⟨rfl, rfl, rfl, by simp, fun j hj _ => by rw [Sort.heap_grow_old _ _ (by simpa using hj)]; rfl⟩
end Go.Lift
namespace Go.Proofs.YtpbpjojdfcdbbaaGreatDoor
open Go.Lift
set_option linter.unusedVariables false
set_option maxRecDepth 20000

/-- the tables that were laid lie as they were -/
structure Laid (w : World) : Prop where
  tabs : Tabs w
  pow : Lib.TabIs Tryz.prog w "internal/strconv.uint64pow10" .u64 Lib.pow10Tab
theorem Laid.grew {w w' : World} (h : Laid w) (hk : Grew w w') : Laid w' := ⟨h.tabs.grew hk, Lib.tabBelow_of_tabIs h.pow w' hk.below⟩

theorem strconv_Itoa {n : Int} {w : World} (hw : Laid w) (hn : I64 n) : Calls Tryz.prog 66 #[.int .i64 n] w (Ok fun v w' => v = .string (txt (Lib.itoa n)) ∧ Grew w w') := by
  refine (Any.strconv_Itoa Tryz.laysM171 n hn.1 hn.2 w hw.pow).mono ?_
  rintro e w' ⟨rfl, k, os, rfl⟩
  exact Ok.mk ⟨rfl, Grew.of_grow⟩

theorem seg_Name {n : Int} {w : World} (hw : Laid w) (hn : I64 n) : Calls Tryz.prog F_segment_Name #[.int .i64 n] w (Ok fun v w' => v = .string (txt (segName n)) ∧ Grew w w') := by
  refine L_segment_Name (PIf.dec (fun h => ?_) (fun h0 => PIf.dec (fun h => ?_) (fun h1 => PC.ok (strconv_Itoa hw hn) ?_)))
  · exact Ok.mk ⟨by unfold segName; rw [if_pos (.inl h)]; rfl, Keep.refl _⟩
  · exact Ok.mk ⟨by unfold segName; rw [if_pos (.inr h)]; rfl, Keep.refl _⟩
  rintro _ w1 ⟨rfl, hk⟩
  refine ⟨_, rfl, addS (a := segPre) ?_ ⟨_, rfl, Ok.mk ⟨?_, hk⟩⟩⟩
  · have := decDigits_le (u := n.toNat) (by omega)
    unfold Lib.itoa
    rw [if_neg (by omega)]
    show 4 + _ ≤ _
    omega
  · rw [segName_yes (by omega) (by omega)]
    unfold Lib.itoa
    rw [if_neg (by omega)]

theorem lite_HasPrefix {s p : List UInt8} {w : World} : Calls Tryz.prog F_internal_stringslite_HasPrefix #[.string (txt s), .string (txt p)] w (Ok fun v w' => v = .bool (decide (s.take p.length = p)) ∧ w = w') := by
  refine L_internal_stringslite_HasPrefix ?_
  rw [txt_size, txt_size]
  refine PIf.dec (fun h => ⟨by omega, by omega, Ok.mk ⟨?_, rfl⟩⟩) (fun h => Ok.mk ⟨?_, rfl⟩)
  · rw [Int.toNat_natCast]
    have e : ByteArray.toList (ByteArray.extract (txt s) 0 p.length) = s.take p.length := by
      rw [ByteArray.toList_eq, ByteArray.data_extract]
      simp [txt]
    have e2 : ByteArray.toList (txt p) = p := by rw [ByteArray.toList_eq, txt_list]
    rw [e, e2]
    congr 1
    by_cases h : s.take p.length = p <;> simp [h]
  · have : s.take p.length ≠ p := fun e => by have := congrArg List.length e; simp at this; omega
    rw [decide_eq_false this]

theorem str_CutPrefix {s p : List UInt8} {w : World} : Calls Tryz.prog F_strings_CutPrefix #[.string (txt s), .string (txt p)] w (Ok fun v w' => v = .tuple (if s.take p.length = p then #[.string (txt (s.drop p.length)), .bool true] else #[.string (txt s), .bool false]) ∧ w = w') := by
  refine L_strings_CutPrefix (PC.ok (φ := fun v w' => v = .tuple (if s.take p.length = p then #[.string (txt (s.drop p.length)), .bool true] else #[.string (txt s), .bool false]) ∧ w = w') (L_internal_stringslite_CutPrefix (PC.ok lite_HasPrefix ?_)) ?_)
  · rintro _ _ ⟨rfl, rfl⟩
    refine ⟨_, rfl, ?_⟩
    rw [txt_size, txt_size]
    by_cases h : s.take p.length = p
    · rw [if_pos h, decide_eq_true h]
      have hl : p.length ≤ s.length := by have := congrArg List.length h; simp at this; omega
      refine PIf.ff rfl ⟨by omega, by omega, Ok.mk ⟨?_, rfl⟩⟩
      have e : ByteArray.extract (txt s) (Int.toNat ((p.length : Nat) : Int)) s.length = txt (s.drop p.length) := by
        apply ByteArray.ext
        rw [Int.toNat_natCast, ByteArray.data_extract]
        have ht : List.take (s.length - p.length) (List.drop p.length s) = List.drop p.length s := List.take_of_length_le (by simp)
        simp [txt, ht]
      rw [e]
    · rw [if_neg h, decide_eq_false h]
      exact PIf.tt rfl (Ok.mk ⟨rfl, rfl⟩)
  · rintro _ _ ⟨rfl, rfl⟩
    split
    · exact ⟨_, _, rfl, Ok.mk ⟨rfl, rfl⟩⟩
    · exact ⟨_, _, rfl, Ok.mk ⟨rfl, rfl⟩⟩

theorem seg_Number {s : ByteArray} {w : World} (hw : Laid w) : Calls Tryz.prog F_segment_Number #[.string s] w (Ok fun v w' => v = .tuple #[.int .i64 (segNoV s).1, .bool (segNoV s).2] ∧ Grew w w') := by
  rw [← txt_of s]
  generalize s.data.toList = l
  have hp : (⟨#[115, 101, 103, 46]⟩ : ByteArray) = txt segPre := rfl
  unfold segNoV
  rw [txt_list]
  refine L_segment_Number ?_
  rw [hp]
  refine PC.ok str_CutPrefix ?_
  rintro _ _ ⟨rfl, rfl⟩
  have no : ∀ w', segNo l = none → Grew w w' → Ok (fun v w' => v = .tuple #[.int .i64 (match segNo l with | some k => ((k : Int), true) | none => (0, false)).1, .bool (match segNo l with | some k => ((k : Int), true) | none => (0, false)).2] ∧ Grew w w') (.returned (.tuple #[.int .i64 0, .bool false])) w' := fun w' h hk => by
    rw [h]; exact Ok.mk ⟨rfl, hk⟩
  by_cases hpre : l.take segPre.length = segPre
  · rw [if_pos hpre]
    refine ⟨_, _, rfl, PIf.ff rfl ?_⟩
    have hl : l = segPre ++ l.drop 4 := by
      have := List.take_append_drop 4 l
      rw [show l.take 4 = segPre from hpre] at this
      exact this.symm
    change PIf (decide (((ByteArray.size (txt (l.drop 4)) : Nat) : Int) > 12)) _ _
    generalize hd : l.drop 4 = d at hl
    subst hl
    rw [txt_size]
    refine PIf.dec (fun h => no _ (segNo_long (by rw [List.length_append]; show 16 < 4 + _; omega)) (Keep.refl _)) (fun h12 => ?_)
    refine strRange Tryz.underlying9 fun w2 g2 k2 s2 => ⟨fun m x w' => ∃ pos, m = d.length - pos ∧ pos ≤ d.length ∧ x = (digVal (d.take pos) : Int) ∧ w'.heap[w.heap.size]? = some (.stringIter (txt d) pos) ∧ Grew w w' ∧ (d.take pos).all isDig = true, ⟨_, 0, rfl, Nat.zero_le _, rfl, g2, k2, rfl⟩, ?_⟩
    rintro m x B w3 ⟨pos, rfl, hps, rfl, g3, k3, hall⟩
    have hvlt := digVal_lt _ hall
    refine strNext g3 (fun hge => .inl ⟨rfl, ?_⟩) fun hp w4 g4 k4 s4 => .inr ⟨_, _, rfl, ?_⟩
    · rw [txt_size] at hge
      rw [List.take_of_length_le (by omega)] at hall hvlt ⊢
      have h12' : 10 ^ d.length ≤ 10 ^ 12 := Nat.pow_le_pow_right (by omega) (by omega)
      have e12 : (10 : Nat) ^ 12 = 1000000000000 := by decide
      refine PC.ok (seg_Name (hw.grew k3) (by unfold I64; omega)) ?_
      rintro _ w4 ⟨rfl, k4⟩
      have hseg := segNo_digits hall (by omega)
      refine ⟨_, rfl, PIf.neS (fun hne => no _ ?_ (k3.then k4)) (fun he => ?_)⟩
      · rw [hseg, if_neg fun e => hne (by rw [e])]
      · rw [hseg, if_pos (txt_inj he)]
        exact Ok.mk ⟨rfl, k3.then k4⟩
    · have hp' : pos < d.length := by rwa [txt_size] at hp
      have hk4 : Grew w w4 := k3.new k4 fun b hb => .inr (by omega)
      have hgl : d[pos]? = some ((txt d)[pos]'hp) := by
        rw [List.getElem?_eq_getElem hp']
        congr 1
      have nodig : isDig ((txt d)[pos]'hp) = false → segNo (segPre ++ d) = none := fun hx => segNo_nodig (List.all_eq_false.2 ⟨_, List.mem_of_getElem? hgl, by simp [hx]⟩)
      by_cases hb : ((txt d)[pos]'hp).toNat < 128
      · rw [decode_ascii _ pos hp hb] at g4 ⊢
        simp only
        refine PIf.dec (fun hlt => no _ (nodig ?_) hk4) (fun h48 => PIf.dec (fun hgt => no _ (nodig ?_) hk4) (fun h57 => ?_))
        · unfold isDig; exact decide_eq_false (by omega)
        · unfold isDig; exact decide_eq_false (by omega)
        · have h11 : 10 ^ (d.take pos).length ≤ 10 ^ 12 := Nat.pow_le_pow_right (by omega) (by simp; omega)
          have e12 : (10 : Nat) ^ 12 = 1000000000000 := by decide
          refine ⟨_, by omega, pos + 1, rfl, by omega, ?_, g4, hk4, ?_⟩
          · rw [List.take_add_one, hgl]
            show _ = ((digVal (d.take pos ++ [_]) : Nat) : Int)
            rw [digVal_snoc]
            have e32 : IntKind.wrap .i32 ((((txt d)[pos]'hp).toNat : Int) - 48) = (((txt d)[pos]'hp).toNat : Int) - 48 := by
              unfold IntKind.wrap; simp [IntKind.signed, IntKind.bits]; omega
            rw [e32, wrap_i64 (x := (((txt d)[pos]'hp).toNat : Int) - 48) (by unfold I64; omega), wrap_i64 (x := 10 * _) (by unfold I64; omega), wrap_i64 (by unfold I64; omega)]
            omega
          · rw [List.take_add_one, hgl, List.all_append, hall]
            simp [isDig]; omega
      · have hh := (decode_high _ pos hp (by omega)).1
        refine PIf.dec (fun hlt => by omega) (fun h48 => PIf.dec (fun hgt => no _ (nodig ?_) hk4) (fun h57 => by omega))
        unfold isDig; exact decide_eq_false (by omega)
  · rw [if_neg hpre]
    exact ⟨_, _, rfl, PIf.tt rfl (no _ (segNo_pre hpre) (Keep.refl _))⟩
end Go.Proofs.YtpbpjojdfcdbbaaGreatDoor
