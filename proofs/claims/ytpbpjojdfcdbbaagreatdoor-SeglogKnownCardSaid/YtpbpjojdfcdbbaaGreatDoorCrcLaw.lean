/- sums of bytes: bit by bit, and by two tables of 16. No program is named here. -/
import Derived.Test.YtpbpjojdfcdbbaaGreatDoorRep
namespace Go.Lift
open Go
set_option linter.unusedVariables false

abbrev W32 := BitVec 32
def poly : W32 := 0xEDB88320#32
/-- half of a remainder, the poly turned in where a bit falls out -/
def crcH (r : W32) : W32 := (r >>> 1) ^^^ (if r.getLsbD 0 then poly else 0#32)
theorem crcH_xor (a b : W32) : crcH (a ^^^ b) = crcH a ^^^ crcH b := by
  unfold crcH
  rw [BitVec.ushiftRight_xor_distrib, BitVec.getLsbD_xor]
  cases a.getLsbD 0 <;> cases b.getLsbD 0 <;> simp only [Bool.xor_false, Bool.xor_true, Bool.not_true, Bool.not_false, if_true, if_false, Bool.false_eq_true, BitVec.xor_zero, BitVec.zero_xor]
  · ac_rfl
  · ac_rfl
  · have : (a >>> 1 ^^^ poly) ^^^ (b >>> 1 ^^^ poly) = (a >>> 1 ^^^ b >>> 1) ^^^ (poly ^^^ poly) := by ac_rfl
    rw [this, BitVec.xor_self, BitVec.xor_zero]
def crcH8 (r : W32) : W32 := crcH (crcH (crcH (crcH (crcH (crcH (crcH (crcH r)))))))
theorem crcH8_xor (a b : W32) : crcH8 (a ^^^ b) = crcH8 a ^^^ crcH8 b := by
  unfold crcH8
  simp only [crcH_xor]
/-- one bit -/
def bitW (b : Bool) : W32 := if b then 1#32 else 0#32
def crcBit (r : W32) (b : Bool) : W32 := (r >>> 1) ^^^ (if r.getLsbD 0 != b then poly else 0#32)
theorem crcBit_eq (r : W32) (b : Bool) : crcBit r b = crcH (r ^^^ bitW b) := by
  unfold crcBit
  cases b
  · simp [bitW, crcH]
  · rw [crcH_xor]
    have : crcH (bitW true) = poly := by decide +kernel
    rw [this]
    unfold crcH
    cases r.getLsbD 0
    · simp
    · have e : (r >>> 1 ^^^ (if true = true then poly else 0#32)) ^^^ poly = r >>> 1 ^^^ (poly ^^^ poly) := by rw [if_pos rfl]; ac_rfl
      rw [e, BitVec.xor_self]
      simp
/-- the bits of a byte, the least one first -/
def crcByte (r : W32) (x : UInt8) : W32 := (List.range 8).foldl (fun r k => crcBit r (x.toNat.testBit k)) r
def byteW (x : UInt8) : W32 := BitVec.ofNat 32 x.toNat
theorem crcByte_lin (r : W32) (x : UInt8) : crcByte r x = crcH8 r ^^^ crcByte 0#32 x := by
  have h : ∀ (l : List Nat) (a b : W32), (l.foldl (fun r k => crcBit r (x.toNat.testBit k)) (a ^^^ b)) = (l.foldl (fun r _ => crcH r) a) ^^^ (l.foldl (fun r k => crcBit r (x.toNat.testBit k)) b) := by
    intro l
    induction l with
    | nil => intro a b; rfl
    | cons k l ih =>
      intro a b
      simp only [List.foldl_cons]
      rw [← ih]
      congr 1
      rw [crcBit_eq, crcBit_eq]
      simp only [crcH_xor]
      ac_rfl
  have := h (List.range 8) r 0#32
  rw [BitVec.xor_zero] at this
  exact this
theorem crcBits0_eq (x : UInt8) : crcByte 0#32 x = crcH8 (byteW x) := by
  have h : (List.range 256).all (fun n => crcByte 0#32 (UInt8.ofNat n) == crcH8 (byteW (UInt8.ofNat n))) = true := by decide +kernel
  have := List.all_eq_true.1 h x.toNat (List.mem_range.2 x.toNat_lt)
  simpa using this
theorem crcByte_eq (r : W32) (x : UInt8) : crcByte r x = crcH8 (r ^^^ byteW x) := by
  rw [crcByte_lin, crcBits0_eq, crcH8_xor]

/-- what is above a byte only moves -/
theorem crcH_even {r : W32} (h : r.getLsbD 0 = false) : crcH r = r >>> 1 := by
  unfold crcH; rw [h]; simp
theorem crcH8_high (r : W32) : crcH8 (r &&& 0xFFFFFF00#32) = r >>> 8 := by
  have bit : ∀ k, k < 8 → ((r &&& 0xFFFFFF00#32) >>> k).getLsbD 0 = false := fun k hk => by
    rw [BitVec.getLsbD_ushiftRight, BitVec.getLsbD_and, Nat.add_zero]
    have : (0xFFFFFF00#32 : W32).getLsbD k = false := by
      have h : (List.range 8).all (fun k => (0xFFFFFF00#32 : W32).getLsbD k == false) = true := by decide +kernel
      simpa using List.all_eq_true.1 h k (List.mem_range.2 hk)
    rw [this, Bool.and_false]
  have step : ∀ k, k < 8 → crcH ((r &&& 0xFFFFFF00#32) >>> k) = (r &&& 0xFFFFFF00#32) >>> (k + 1) := fun k hk => by
    rw [crcH_even (bit k hk), BitVec.shiftRight_add]
  have h0 : r &&& 0xFFFFFF00#32 = (r &&& 0xFFFFFF00#32) >>> 0 := by simp
  unfold crcH8
  rw [h0, step 0 (by omega), step 1 (by omega), step 2 (by omega), step 3 (by omega), step 4 (by omega), step 5 (by omega), step 6 (by omega), step 7 (by omega)]
  apply BitVec.eq_of_getLsbD_eq
  intro i hi
  rw [BitVec.getLsbD_ushiftRight, BitVec.getLsbD_ushiftRight, BitVec.getLsbD_and]
  by_cases hb : 7 + 1 + i < 32
  · have : (0xFFFFFF00#32 : W32).getLsbD (7 + 1 + i) = true := by
      have h : (List.range 24).all (fun i => (0xFFFFFF00#32 : W32).getLsbD (7 + 1 + i) == true) = true := by decide +kernel
      simpa using List.all_eq_true.1 h i (List.mem_range.2 (by omega))
    rw [this, Bool.and_true]
  · rw [BitVec.getLsbD_of_ge _ _ (by omega)]
    simp

def lowerT : List Nat := [0x00000000, 0x77073096, 0xEE0E612C, 0x990951BA, 0x076DC419, 0x706AF48F, 0xE963A535, 0x9E6495A3, 0x0EDB8832, 0x79DCB8A4, 0xE0D5E91E, 0x97D2D988, 0x09B64C2B, 0x7EB17CBD, 0xE7B82D07, 0x90BF1D91]
def upperT : List Nat := [0x00000000, 0x1DB71064, 0x3B6E20C8, 0x26D930AC, 0x76DC4190, 0x6B6B51F4, 0x4DB26158, 0x5005713C, 0xEDB88320, 0xF00F9344, 0xD6D6A3E8, 0xCB61B38C, 0x9B64C2B0, 0x86D3D2D4, 0xA00AE278, 0xBDBDF21C]
theorem crcH8_byte (x : UInt8) : crcH8 (byteW x) = BitVec.ofNat 32 (lowerT.getD (x.toNat % 16) 0) ^^^ BitVec.ofNat 32 (upperT.getD (x.toNat / 16) 0) := by
  have h : (List.range 256).all (fun n => crcH8 (byteW (UInt8.ofNat n)) == BitVec.ofNat 32 (lowerT.getD ((UInt8.ofNat n).toNat % 16) 0) ^^^ BitVec.ofNat 32 (upperT.getD ((UInt8.ofNat n).toNat / 16) 0)) = true := by decide +kernel
  have := List.all_eq_true.1 h x.toNat (List.mem_range.2 x.toNat_lt)
  simpa using this

/-- THE LAW: a byte by the tables -/
theorem crc_table (r : W32) (x : UInt8) : crcByte r x = r >>> 8 ^^^ BitVec.ofNat 32 (lowerT.getD ((x.toNat ^^^ r.toNat % 256) % 16) 0) ^^^ BitVec.ofNat 32 (upperT.getD ((x.toNat ^^^ r.toNat % 256) / 16) 0) := by
  have hx := x.toNat_lt
  have hlt : x.toNat ^^^ r.toNat % 256 < 2 ^ 8 := Nat.xor_lt_two_pow (by omega) (by omega)
  have hy : (UInt8.ofNat (x.toNat ^^^ r.toNat % 256)).toNat = x.toNat ^^^ r.toNat % 256 := by
    rw [UInt8.toNat_ofNat']; omega
  have hb := crcH8_byte (UInt8.ofNat (x.toNat ^^^ r.toNat % 256))
  rw [hy] at hb
  have hsplit : r ^^^ byteW x = byteW (UInt8.ofNat (x.toNat ^^^ r.toNat % 256)) ^^^ (r &&& 0xFFFFFF00#32) := by
    apply BitVec.eq_of_getLsbD_eq
    intro i hi
    unfold byteW
    rw [hy, BitVec.getLsbD_xor, BitVec.getLsbD_xor, BitVec.getLsbD_and, BitVec.getLsbD_ofNat, BitVec.getLsbD_ofNat, Nat.testBit_xor]
    have e256 : (r.toNat % 256).testBit i = (decide (i < 8) && r.toNat.testBit i) := by
      rw [show 256 = 2 ^ 8 from rfl, Nat.testBit_mod_two_pow]
    have er : r.getLsbD i = r.toNat.testBit i := rfl
    rw [e256, er]
    have hm : (0xFFFFFF00#32 : W32).getLsbD i = decide (8 ≤ i) := by
      have h : (List.range 32).all (fun i => (0xFFFFFF00#32 : W32).getLsbD i == decide (8 ≤ i)) = true := by decide +kernel
      simpa using List.all_eq_true.1 h i (List.mem_range.2 hi)
    rw [hm, decide_eq_true hi]
    by_cases h8 : i < 8
    · rw [decide_eq_true h8, decide_eq_false (by omega)]
      cases r.toNat.testBit i <;> cases x.toNat.testBit i <;> rfl
    · have hx0 : x.toNat.testBit i = false := Nat.testBit_lt_two_pow (Nat.lt_of_lt_of_le hx (by
        have := Nat.pow_le_pow_right (n := 2) (by omega) (show 8 ≤ i by omega)
        simpa using this))
      rw [decide_eq_false h8, decide_eq_true (by omega), hx0]
      cases r.toNat.testBit i <;> rfl
  rw [crcByte_eq, hsplit, crcH8_xor, crcH8_high, hb]
  ac_rfl

/-- the sum of bytes -/
def crcMore (r : W32) (b : List UInt8) : W32 := ~~~(b.foldl crcByte (~~~r))
def crcV (b : List UInt8) : W32 := crcMore 0#32 b
end Go.Lift
