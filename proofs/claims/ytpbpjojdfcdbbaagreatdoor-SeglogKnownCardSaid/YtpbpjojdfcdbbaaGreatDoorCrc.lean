/- crc: the contracts of its calls, where its two tables lie as they were laid -/
import Derived.Test.YtpbpjojdfcdbbaaGreatDoorCode
import Derived.Test.YtpbpjojdfcdbbaaGreatDoorCrcLaw
namespace Go.Lift
open Go
set_option linter.unusedVariables false
theorem wrap_u32 (n : Nat) (h : n < 2 ^ 32) : IntKind.wrap .u32 (n : Int) = n := by
  unfold IntKind.wrap; simp [IntKind.signed, IntKind.bits]; omega
theorem wrap_u8 (n : Nat) : IntKind.wrap .u8 (n : Int) = ((n % 256 : Nat) : Int) := by
  unfold IntKind.wrap; simp [IntKind.signed, IntKind.bits]
theorem ofInt32 (a : W32) : BitVec.ofInt (IntKind.bits .u32) ((a.toNat : Nat) : Int) = a := by
  show BitVec.ofInt 32 ((a.toNat : Nat) : Int) = a
  rw [BitVec.ofInt_natCast]; simp
theorem iXor32 (a b : W32) : iXor .u32 ((a.toNat : Nat) : Int) ((b.toNat : Nat) : Int) = (((a ^^^ b).toNat : Nat) : Int) := by
  unfold iXor
  rw [ofInt32, ofInt32]
  exact wrap_u32 _ (a ^^^ b).isLt
theorem iNot32 (a : W32) : iXor .u32 (IntKind.max .u32) ((a.toNat : Nat) : Int) = (((~~~a).toNat : Nat) : Int) := by
  have h : IntKind.max .u32 = (((BitVec.allOnes 32).toNat : Nat) : Int) := by decide +kernel
  rw [h, iXor32, BitVec.allOnes_xor]
theorem iShr32 (a : W32) : iShr .u32 ((a.toNat : Nat) : Int) 8 = (((a >>> 8).toNat : Nat) : Int) := by
  unfold iShr
  have : (min (Int.toNat 8) (IntKind.bits .u32)) = 8 := by decide
  rw [this, BitVec.toNat_ushiftRight, Nat.shiftRight_eq_div_pow]
  show Int.fdiv _ ((2 ^ 8 : Nat) : Int) = _
  rw [Int.fdiv_eq_ediv_of_nonneg _ (Int.natCast_nonneg _)]
  rfl
theorem iXor8 (x y : Nat) (hx : x < 256) (hy : y < 256) : iXor .u8 (x : Int) (y : Int) = ((x ^^^ y : Nat) : Int) := by
  unfold iXor
  show IntKind.wrap .u8 ((BitVec.ofInt 8 (x : Int) ^^^ BitVec.ofInt 8 (y : Int)).toNat : Int) = _
  have hlt : x ^^^ y < 2 ^ 8 := Nat.xor_lt_two_pow (by omega) (by omega)
  rw [BitVec.ofInt_natCast, BitVec.ofInt_natCast, BitVec.toNat_xor, BitVec.toNat_ofNat, BitVec.toNat_ofNat, Nat.mod_eq_of_lt (by omega), Nat.mod_eq_of_lt (by omega), wrap_u8, Nat.mod_eq_of_lt (by omega)]
theorem iAnd15 (x : Nat) (hx : x < 256) : iAnd .u8 (x : Int) 15 = ((x % 16 : Nat) : Int) := by
  unfold iAnd
  show IntKind.wrap .u8 ((BitVec.ofInt 8 (x : Int) &&& BitVec.ofInt 8 ((15 : Nat) : Int)).toNat : Int) = _
  have h15 : x &&& 15 = x % 16 := Nat.and_two_pow_sub_one_eq_mod x 4
  rw [BitVec.ofInt_natCast, BitVec.ofInt_natCast, BitVec.toNat_and, BitVec.toNat_ofNat, BitVec.toNat_ofNat, Nat.mod_eq_of_lt (by omega), Nat.mod_eq_of_lt (by omega), h15, wrap_u8, Nat.mod_eq_of_lt (by omega)]
theorem iShr4 (x : Nat) : iShr .u8 (x : Int) 4 = ((x / 16 : Nat) : Int) := by
  unfold iShr
  have : (min (Int.toNat 4) (IntKind.bits .u8)) = 4 := by decide
  rw [this]
  show Int.fdiv _ ((2 ^ 4 : Nat) : Int) = _
  rw [Int.fdiv_eq_ediv_of_nonneg _ (Int.natCast_nonneg _)]
  rfl
end Go.Lift
namespace Go.Proofs.YtpbpjojdfcdbbaaGreatDoor
open Go.Lift
set_option linter.unusedVariables false
set_option maxRecDepth 20000

/-- the two tables lie as they were laid -/
structure Tabs (w : World) : Prop where
  lower : ∀ i, i < 16 → w.cell? ⟨0, i, none⟩ = some (.int .u32 ((lowerT.getD i 0 : Nat) : Int))
  upper : ∀ i, i < 16 → w.cell? ⟨1, i, none⟩ = some (.int .u32 ((upperT.getD i 0 : Nat) : Int))
  lt : 1 < w.heap.size
theorem Tabs.grew {w w' : World} (h : Tabs w) (hk : Grew w w') : Tabs w' :=
  ⟨fun i hi => (hk.cell (a := ⟨0, i, none⟩) (by have := h.lt; show 0 < _; omega) id).trans (h.lower i hi), fun i hi => (hk.cell (a := ⟨1, i, none⟩) h.lt id).trans (h.upper i hi), Nat.lt_of_lt_of_le h.lt hk.size⟩

theorem tab_lt : ∀ i, lowerT.getD i 0 < 2 ^ 32 ∧ upperT.getD i 0 < 2 ^ 32 := by
  intro i
  by_cases h : i < 16
  · have hh : (List.range 16).all (fun i => decide (lowerT.getD i 0 < 2 ^ 32 ∧ upperT.getD i 0 < 2 ^ 32)) = true := by decide +kernel
    simpa using List.all_eq_true.1 hh i (List.mem_range.2 h)
  · rw [List.getD_eq_getElem?_getD, List.getD_eq_getElem?_getD, List.getElem?_eq_none (by show 16 ≤ i; omega), List.getElem?_eq_none (by show 16 ≤ i; omega)]
    decide

theorem crc_More {w : World} {s : W32} {a : Option Addr} {n c : Nat} {bs : List UInt8} {E : Nat → Prop} (ht : Tabs w) (hb : Row cU8 1 w E a n bs) :
    Calls Tryz.prog F_crc_More #[.int .u32 ((s.toNat : Nat) : Int), .slice a n c] w (Ok fun v w' => v = .int .u32 (((crcMore s bs).toNat : Nat) : Int) ∧ Drew w w') := by
  have hn := hb.len; have hbig := hb.big
  unfold Big at hbig
  refine L_crc_More ⟨fun m r i w' => ∃ j : Nat, i = j ∧ j ≤ n ∧ m = n - j ∧ Drew w w' ∧ r = ((((bs.take j).foldl crcByte (~~~s)).toNat : Nat) : Int), ⟨_, 0, rfl, Nat.zero_le _, rfl, Drew.refl w, by rw [iNot32]; rfl⟩, ?_⟩
  rintro m r i B w1 ⟨j, rfl, hj, rfl, hd, rfl⟩
  generalize hr : (bs.take j).foldl crcByte (~~~s) = r
  refine PIf.dec (fun h1 => ?_) (fun h1 => Ok.mk ⟨?_, hd⟩)
  · obtain ⟨b, off, x, rfl, hx, _, hc⟩ := (hb.grew hd.keep).at1 (i := j) (by omega)
    have ht1 := ht.grew hd.keep
    have hxl := x.toNat_lt
    have e0 : IntKind.wrap .u8 ((r.toNat : Nat) : Int) = ((r.toNat % 256 : Nat) : Int) := wrap_u8 _
    have hlt : x.toNat ^^^ r.toNat % 256 < 2 ^ 8 := Nat.xor_lt_two_pow (by omega) (by omega)
    have e1 : iXor .u8 ((x.toNat : Nat) : Int) (IntKind.wrap .u8 ((r.toNat : Nat) : Int)) = ((x.toNat ^^^ r.toNat % 256 : Nat) : Int) := by rw [e0, iXor8 _ _ (by omega) (by omega)]
    refine ⟨b, off, rfl, by omega, by omega, _, hc, ?_⟩
    rw [e1, iAnd15 _ (by omega), iShr4]
    refine ⟨0, 0, rfl, by omega, by omega, ((lowerT.getD ((x.toNat ^^^ r.toNat % 256) % 16) 0 : Nat) : Int), ?_, 1, 0, rfl, by omega, by omega, ((upperT.getD ((x.toNat ^^^ r.toNat % 256) / 16) 0 : Nat) : Int), ?_, fun w2 hd2 => ⟨_, by omega, j + 1, wrap_succ (by omega), by omega, rfl, hd.then hd2, ?_⟩⟩
    · rw [Nat.zero_add]; exact ht1.lower _ (by omega)
    · rw [Nat.zero_add]; exact ht1.upper _ (by omega)
    · have hl := (tab_lt ((x.toNat ^^^ r.toNat % 256) % 16)).1
      have hu := (tab_lt ((x.toNat ^^^ r.toNat % 256) / 16)).2
      rw [iShr32]
      have f1 : ((lowerT.getD ((x.toNat ^^^ r.toNat % 256) % 16) 0 : Nat) : Int) = (((BitVec.ofNat 32 (lowerT.getD ((x.toNat ^^^ r.toNat % 256) % 16) 0)).toNat : Nat) : Int) := by rw [BitVec.toNat_ofNat, Nat.mod_eq_of_lt hl]
      have f2 : ((upperT.getD ((x.toNat ^^^ r.toNat % 256) / 16) 0 : Nat) : Int) = (((BitVec.ofNat 32 (upperT.getD ((x.toNat ^^^ r.toNat % 256) / 16) 0)).toNat : Nat) : Int) := by rw [BitVec.toNat_ofNat, Nat.mod_eq_of_lt hu]
      rw [f1, f2, iXor32, iXor32, ← crc_table, List.take_add_one, hx, List.foldl_append, hr]
      rfl
  · rw [List.take_of_length_le (by omega)] at hr
    rw [iNot32, ← hr]; rfl

theorem crc_Sum {w : World} {a : Option Addr} {n c : Nat} {bs : List UInt8} {E : Nat → Prop} (ht : Tabs w) (hb : Row cU8 1 w E a n bs) :
    Calls Tryz.prog F_crc_Sum #[.slice a n c] w (Ok fun v w' => v = .int .u32 (((crcV bs).toNat : Nat) : Int) ∧ Drew w w') := by
  refine L_crc_Sum (PC.ok (crc_More (s := 0#32) ht hb) ?_)
  rintro _ w1 ⟨rfl, hd⟩
  exact ⟨_, rfl, Ok.mk ⟨rfl, hd⟩⟩
end Go.Proofs.YtpbpjojdfcdbbaaGreatDoor
