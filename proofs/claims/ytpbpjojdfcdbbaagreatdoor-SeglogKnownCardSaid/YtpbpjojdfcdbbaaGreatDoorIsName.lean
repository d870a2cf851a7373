/- vdisk.isName: which texts are names -/
import Derived.Test.YtpbpjojdfcdbbaaGreatDoorShelf
import Derived.Test.YtpbpjojdfcdbbaaGreatDoorBytes8
import Derived.Test.YtpbpjojdfcdbbaaGreatDoorDisk
import Derived.Test.YtpbpjojdfcdbbaaGreatDoorRange
import Derived.Laws.Runes
import Derived.Shelf.Small.Strs
namespace Go.Proofs.YtpbpjojdfcdbbaaGreatDoor
open Go.Lift
set_option linter.unusedVariables false
set_option maxRecDepth 20000

def cs : ByteArray := ⟨#[97, 98, 99, 100, 101, 102, 103, 104, 105, 106, 107, 108, 109, 110, 111, 112, 113, 114, 115, 116, 117, 118, 119, 120, 121, 122, 48, 49, 50, 51, 52, 53, 54, 55, 56, 57, 46]⟩
theorem cs_index : ∀ b : UInt8, decide (0 ≤ Lib.indexByte cs.data.toList b) = okByte b := by
  have h : (List.range 256).all (fun n => decide (0 ≤ Lib.indexByte cs.data.toList (UInt8.ofNat n)) == okByte (UInt8.ofNat n)) = true := by decide +kernel
  intro b
  have := List.all_eq_true.1 h b.toNat (List.mem_range.2 b.toNat_lt)
  simpa using this
theorem cs_high {c : UInt8} (hc : 128 ≤ c.toNat) : okByte c = false := by
  have h : (List.range 128).all (fun n => okByte (UInt8.ofNat (128 + n)) == false) = true := by decide +kernel
  have := List.all_eq_true.1 h (c.toNat - 128) (List.mem_range.2 (by have := c.toNat_lt; omega))
  rw [show 128 + (c.toNat - 128) = c.toNat by omega] at this
  simpa using this
theorem cs_ascii : ∀ b ∈ cs.data.toList, b.toNat < 128 := by decide +kernel
theorem cs_size : cs.size = 37 := by decide +kernel

theorem strings_IndexByte {s : ByteArray} {c : Int} {w : World} : Calls Tryz.prog 195 #[.string s, .int .u8 c] w (Ok fun v w' => v = .int .i64 (Lib.indexByte s.data.toList c.toNat.toUInt8) ∧ w = w') :=
  (Any.strings_IndexByte Tryz.lays137 s c w).mono fun e w' ⟨he, hw⟩ => ⟨_, he, rfl, hw.symm⟩

theorem utf8_ValidRune {r : Int} {w : World} : Calls Tryz.prog F_unicode_utf8_ValidRune #[.int .i32 r] w (Ok fun v w' => v = .bool (Utf8.valid r) ∧ w = w') := by
  have e := validRune_eq r
  unfold validRune at e
  refine L_unicode_utf8_ValidRune (PIf.dec (fun h1 => PIf.dec (fun h2 => ?_) (fun h2 => PIf.dec (fun h3 => PIf.dec (fun h4 => ?_) (fun h4 => ?_)) (fun h3 => ?_))) (fun h1 => PIf.dec (fun h3 => PIf.dec (fun h4 => ?_) (fun h4 => ?_)) (fun h3 => ?_)))
  all_goals
    refine Ok.mk ⟨?_, rfl⟩
    rw [e]
    congr 1
    simp
    omega

theorem getElem_str {s : ByteArray} {i : Nat} (h : i < s.size) : s[i]? = some (s[i]'h) := by simp [h]

theorem indexByte_not : ∀ {l : List UInt8} {c : UInt8}, (∀ b ∈ l, b ≠ c) → Lib.indexByte l c = -1
  | [], _, _ => rfl
  | b :: l, c, h => by
    have h1 : (b == c) = false := beq_false_of_ne (h b (List.mem_cons_self ..))
    have h2 := indexByte_not (l := l) fun x hx => h x (List.mem_cons_of_mem _ hx)
    unfold Lib.indexByte
    rw [h1, h2]; rfl

theorem strings_IndexRune_cs {r : Int} {w : World} (h0 : 0 ≤ r) :
    Calls Tryz.prog F_strings_IndexRune #[.string cs, .int .i32 r] w (Ok fun v w' => (∃ i : Int, v = .int .i64 i ∧ decide (i ≥ 0) = (decide (r < 128) && okByte r.toNat.toUInt8)) ∧ Grew w w') := by
  refine L_strings_IndexRune ⟨fun b w' => b = decide (r < 128) ∧ w' = w, PIf.dec (fun _ => ⟨rfl, rfl⟩) (fun h => absurd h0 h), ?_⟩
  rintro t B w1 ⟨rfl, rfl⟩
  refine PIf.dec (fun h => PC.ok strings_IndexByte ?_) (fun h => PIf.eqI (fun h2 => ?_) (fun h2 => PC.ok utf8_ValidRune ?_))
  · rintro _ _ ⟨rfl, rfl⟩
    refine ⟨_, rfl, Ok.mk ⟨⟨_, rfl, ?_⟩, Keep.refl _⟩⟩
    have hw : IntKind.wrap .u8 r = r := by
      unfold IntKind.wrap; simp [IntKind.signed, IntKind.bits]; omega
    rw [hw, decide_eq_true h, Bool.true_and]
    exact cs_index _
  · have no : ∀ w', Grew w1 w' → Ok (fun v w' => (∃ i : Int, v = .int .i64 i ∧ decide (i ≥ 0) = (decide (r < 128) && okByte r.toNat.toUInt8)) ∧ Grew w1 w') (.returned (.int .i64 (-1))) w' := fun w' hk =>
      Ok.mk ⟨⟨_, rfl, by rw [decide_eq_false h]; rfl⟩, hk⟩
    refine strRange Tryz.underlying9 fun w2 g2 k2 s2 => ⟨fun m w' => ∃ pos, m = cs.size - pos ∧ w'.heap[w1.heap.size]? = some (.stringIter cs pos) ∧ Grew w1 w', ⟨_, 0, rfl, g2, k2⟩, ?_⟩
    rintro m B w3 ⟨pos, rfl, g3, k3⟩
    refine strNext g3 (fun _ => .inl ⟨rfl, no w3 k3⟩) fun hp w4 g4 k4 s4 => .inr ⟨_, _, rfl, ?_⟩
    have hb : (cs[pos]'hp).toNat < 128 := cs_ascii _ (by rw [show cs[pos]'hp = cs.data.toList[pos]'(by simpa using hp) from by simp; rfl]; exact List.getElem_mem _)
    have hd := decode_ascii cs pos hp hb
    rw [hd] at g4 ⊢
    refine PIf.eqI (fun h => by omega) (fun _ => ⟨_, ?_, pos + 1, rfl, g4, k3.new k4 fun b hb => .inr (by omega)⟩)
    omega
  · have no : ∀ w', Grew w1 w' → Ok (fun v w' => (∃ i : Int, v = .int .i64 i ∧ decide (i ≥ 0) = (decide (r < 128) && okByte r.toNat.toUInt8)) ∧ Grew w1 w') (.returned (.int .i64 (-1))) w' := fun w' hk =>
      Ok.mk ⟨⟨_, rfl, by rw [decide_eq_false h]; rfl⟩, hk⟩
    rintro _ _ ⟨rfl, rfl⟩
    refine ⟨_, rfl, PIf.not (PIf.mk (fun hv => ?_) (fun _ => no _ (Keep.refl _)))⟩
    obtain ⟨e1, e2, e3⟩ := encode_facts r hv (by omega)
    refine PRun.mk (run_convert_int_string w1 _ _ .i32 r (by kernel_rfl) Tryz.underlying9) ⟨_, rfl, ?_⟩
    generalize Utf8.encode r = u at e1 e2 e3 ⊢
    have hl : IntKind.wrap .i64 (((u.size : Nat) : Int) - 1) = ((u.size - 1 : Nat) : Int) := by rw [wrap_i64 (by unfold I64; omega)]; omega
    rw [hl]
    refine ⟨fun m i w' => i = ((u.size - 1 : Nat) : Int) ∧ Grew w1 w', ⟨0, rfl, Keep.refl _⟩, ?_⟩
    rintro m i B w2 ⟨rfl, k2⟩
    have hcs := cs_size
    have hu : u.size - 1 < u.size := by omega
    have hc : u.size - 1 < cs.size := by omega
    have hhi := e3 hu
    have hlo : (cs[u.size - 1]'hc).toNat < 128 := cs_ascii _ (by rw [show cs[u.size - 1]'hc = cs.data.toList[u.size - 1]'(by simpa using hc) from by simp; rfl]; exact List.getElem_mem _)
    refine PIf.dec (fun hlt => ⟨fun _ _ => False, ?_, fun i B w h => h.elim⟩) (fun hge => by omega)
    simp only [Int.toNat_natCast]
    rw [wrap_succ (by omega)]
    refine ⟨by omega, _, getElem_str hc, by omega, _, getElem_str hu, fun w3 hd3 => PIf.neI (fun _ => fun w4 hd4 => ⟨by omega, by omega, by omega, _, getElem_str hu, PC.ok strings_IndexByte ?_⟩) (fun he => by omega)⟩
    rintro _ _ ⟨rfl, rfl⟩
    have hm : Lib.indexByte (cs.extract (Int.toNat ((u.size - 1 + 1 : Nat) : Int)) cs.size).data.toList ((((u[u.size - 1]'hu).toNat : Nat) : Int).toNat.toUInt8) = -1 := by
      refine indexByte_not fun b hb he => ?_
      have h1 := cs_ascii b (mem_extract hb)
      rw [he] at h1
      simp at h1
      omega
    refine ⟨_, rfl, PIf.dec (fun _ => no _ ((k2.grew hd3.keep).grew hd4.keep)) (fun h => ?_)⟩
    rw [hm] at h
    omega

theorem vdisk_isName_1 {r : Int} {w : World} (h0 : 0 ≤ r) :
    Calls Tryz.prog 121 #[.int .i32 r] w (Ok fun v w' => v = .bool (!(decide (r < 128) && okByte r.toNat.toUInt8)) ∧ Grew w w') := by
  refine L_vdisk_isName_1 (PC.ok (φ := fun v w' => v = .bool (decide (r < 128) && okByte r.toNat.toUInt8) ∧ Grew w w') (L_strings_ContainsRune (PC.ok (strings_IndexRune_cs h0) ?_)) ?_)
  · rintro _ w1 ⟨⟨i, rfl, hi⟩, hk⟩
    exact ⟨i, rfl, Ok.mk ⟨by rw [hi], hk⟩⟩
  · rintro _ w1 ⟨rfl, hk⟩
    exact ⟨_, rfl, Ok.mk ⟨rfl, hk⟩⟩

theorem strings_ContainsFunc_name {s : ByteArray} {w : World} :
    Calls Tryz.prog F_strings_ContainsFunc #[.string s, .func (.func 121) #[] #[]] w (Ok fun v w' => v = .bool (!s.data.toList.all okByte) ∧ Grew w w') := by
  have hen : enters Tryz.prog 121 = true := by kernel_rfl
  refine L_strings_ContainsFunc (PC.ok (φ := fun v w' => (∃ i : Int, v = .int .i64 i ∧ decide (i ≥ 0) = !s.data.toList.all okByte) ∧ Grew w w') (L_strings_IndexFunc (PC.ok (φ := fun v w' => (∃ i : Int, v = .int .i64 i ∧ decide (i ≥ 0) = !s.data.toList.all okByte) ∧ Grew w w') (L_strings_indexFunc ?_) ?_)) ?_)
  · refine strRange Tryz.underlying9 fun w2 g2 k2 s2 => ⟨fun m w' => ∃ pos, m = s.size - pos ∧ pos ≤ s.size ∧ w'.heap[w.heap.size]? = some (.stringIter s pos) ∧ Grew w w' ∧ (∀ b ∈ s.data.toList.take pos, okByte b = true), ⟨_, 0, rfl, Nat.zero_le _, g2, k2, by simp⟩, ?_⟩
    rintro m B w3 ⟨pos, rfl, hps, g3, k3, hall⟩
    refine strNext g3 (fun hge => .inl ⟨rfl, Ok.mk ⟨⟨_, rfl, ?_⟩, k3⟩⟩) fun hp w4 g4 k4 s4 => .inr ⟨_, _, rfl, _, _, _, rfl, hen, ?_⟩
    · rw [List.take_of_length_le (by simpa using hge)] at hall
      have : s.data.toList.all okByte = true := List.all_eq_true.2 hall
      rw [this]; rfl
    · have hk4 : Grew w w4 := k3.new k4 fun b hb => .inr (by omega)
      have hgl : s.data.toList[pos]? = some (s[pos]'hp) := by
        rw [List.getElem?_eq_getElem (by simpa using hp)]
        simp; rfl
      refine PC.ok (vdisk_isName_1 (Int.natCast_nonneg _)) ?_
      rintro _ w5 ⟨rfl, k5⟩
      refine ⟨_, rfl, PIf.mk (fun hyes => ?_) (fun hno => ?_)⟩
      · -- it is strange
        refine Ok.mk ⟨⟨_, rfl, ?_⟩, hk4.grew k5⟩
        have hx : okByte (s[pos]'hp) = false := by
          by_cases hb : (s[pos]'hp).toNat < 128
          · rw [decode_ascii s pos hp hb] at hyes
            simp at hyes
            exact hyes.resolve_left (by omega)
          · exact cs_high (by omega)
        have : s.data.toList.all okByte = false := List.all_eq_false.2 ⟨_, List.mem_of_getElem? hgl, by simp [hx]⟩
        rw [this]
        simp
      · have hb : (s[pos]'hp).toNat < 128 := by
          by_cases hb : (s[pos]'hp).toNat < 128
          · exact hb
          · have h3 := (decode_high s pos hp (by omega)).1
            have h4 : ¬ (((Utf8.decode s pos).1 : Int) < 128) := by omega
            rw [decide_eq_false h4] at hno
            simp at hno
        rw [decode_ascii s pos hp hb] at g4 hno
        have hx : okByte (s[pos]'hp) = true := by
          simp at hno
          exact hno.2
        refine ⟨_, ?_, pos + 1, rfl, by omega, k5.get g4 id, hk4.grew k5, fun b hb => ?_⟩
        · omega
        · rw [List.take_add_one, hgl] at hb
          rcases List.mem_append.1 hb with hb | hb
          · exact hall b hb
          · simp at hb; rw [hb]; exact hx
  · rintro _ w1 ⟨⟨i, rfl, hi⟩, hk⟩
    exact ⟨i, rfl, Ok.mk ⟨⟨i, rfl, hi⟩, hk⟩⟩
  · rintro _ w1 ⟨⟨i, rfl, hi⟩, hk⟩
    exact ⟨i, rfl, Ok.mk ⟨by rw [hi], hk⟩⟩

theorem vdisk_isName {s : ByteArray} {w : World} : Calls Tryz.prog F_vdisk_isName #[.string s] w (Ok fun v w' => v = .bool (isNameV s) ∧ Grew w w') := by
  refine L_vdisk_isName (PIf.neS (fun h => PIf.dec (fun h2 => PC.ok strings_ContainsFunc_name ?_) (fun h2 => Ok.mk ⟨?_, Keep.refl _⟩)) (fun h => Ok.mk ⟨?_, Keep.refl _⟩))
  · rintro _ w1 ⟨rfl, hk⟩
    refine ⟨_, rfl, Ok.mk ⟨?_, hk⟩⟩
    have h1 : 1 ≤ s.size := by
      by_cases hz : s.size = 0
      · exact absurd (ByteArray.ext (Array.eq_empty_of_size_eq_zero hz)) h
      · omega
    unfold isNameV
    rw [decide_eq_true h1, decide_eq_true (show s.size ≤ 16 by omega)]
    simp
  · unfold isNameV
    rw [decide_eq_false (show ¬ s.size ≤ 16 by omega)]
    simp
  · subst h; rfl
end Go.Proofs.YtpbpjojdfcdbbaaGreatDoor
