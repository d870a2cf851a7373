/- numbers as they are packed: a head, and the bytes of how far they are from 0. No program is named here. -/
import Derived.Test.YtpbpjojdfcdbbaaGreatDoorRep
import Derived.Lib.BitFns
import Derived.Lib.ItoaNum
namespace Go.Lift
open Go
set_option linter.unusedVariables false

/-- the bytes of a number, the lowest first -/
def lowB (u : Nat) : List UInt8 := if h : u = 0 then [] else UInt8.ofNat (u % 256) :: lowB (u / 256)
termination_by u
decreasing_by omega
theorem lowB_zero : lowB 0 = [] := by rw [lowB]; simp
theorem lowB_pos {u : Nat} (h : u ≠ 0) : lowB u = UInt8.ofNat (u % 256) :: lowB (u / 256) := by rw [lowB]; simp [h]

theorem lowB_length : ∀ (u : Nat), u < 2 ^ 64 → (lowB u).length = (Lib.bitLen u + 7) / 8 := by
  intro u
  induction u using Nat.strongRecOn with
  | _ u ih =>
    intro hu
    by_cases h : u = 0
    · subst h; rw [lowB_zero]; decide
    · rw [lowB_pos h, List.length_cons]
      by_cases h2 : u < 256
      · have e : u / 256 = 0 := by omega
        rw [e, lowB_zero]
        have h8 : Lib.bitLen u ≤ 8 := Lib.bitLen_le8 ⟨u, h2⟩
        have h1 : 1 ≤ Lib.bitLen u := (Lib.bitLenAux_bounds 64 u hu h).1
        simp; omega
      · have := ih (u / 256) (by omega) (by omega)
        rw [this]
        have hs := Lib.bitLen_shift 8 u (by omega) hu
        rw [show (2 : Nat) ^ 8 = 256 from rfl] at hs
        omega
theorem lowB_le8 {u : Nat} (h : u < 2 ^ 64) : (lowB u).length ≤ 8 := by
  rw [lowB_length u h]
  by_cases h0 : u = 0
  · subst h0; decide
  · have hb := Lib.bitLenAux_bounds 64 u h h0
    have : Lib.bitLen u ≤ 64 := by
      apply Nat.le_of_not_lt
      intro hlt
      have h2 : 2 ^ 64 ≤ 2 ^ (Lib.bitLen u - 1) := Nat.pow_le_pow_right (by omega) (by omega)
      have h3 : 2 ^ (Lib.bitLen u - 1) ≤ u := hb.2.1
      omega
    omega

theorem lowB_get : ∀ (i u : Nat), i < (lowB u).length → (lowB u)[i]? = some (UInt8.ofNat (u / 256 ^ i % 256)) := by
  intro i
  induction i with
  | zero =>
    intro u h
    by_cases h0 : u = 0
    · subst h0; rw [lowB_zero] at h; simp at h
    · rw [lowB_pos h0]; simp
  | succ i ih =>
    intro u h
    by_cases h0 : u = 0
    · subst h0; rw [lowB_zero] at h; simp at h
    · rw [lowB_pos h0] at h ⊢
      have := ih (u / 256) (by simpa using h)
      rw [List.getElem?_cons_succ, this, Nat.div_div_eq_div_mul, Nat.pow_succ, Nat.mul_comm 256]

/-- the number of bytes, the highest first -/
def valB (l : List UInt8) : Nat := l.foldl (fun u d => u * 256 + d.toNat) 0
theorem valB_append (l : List UInt8) (d : UInt8) : valB (l ++ [d]) = valB l * 256 + d.toNat := by simp [valB, List.foldl_append]
theorem valB_lt (l : List UInt8) : valB l < 256 ^ l.length := by
  suffices h : ∀ (l : List UInt8) (u m : Nat), u < 256 ^ m → l.foldl (fun u d => u * 256 + d.toNat) u < 256 ^ (m + l.length) by
    have := h l 0 0 (by simp)
    simpa [valB] using this
  intro l
  induction l with
  | nil => intro u m h; simpa using h
  | cons d l ih =>
    intro u m h
    have hd := d.toNat_lt
    have := ih (u * 256 + d.toNat) (m + 1) (by rw [Nat.pow_succ]; omega)
    rw [List.foldl_cons, List.length_cons]
    rw [show m + (l.length + 1) = m + 1 + l.length by omega]
    exact this
theorem valB_low : ∀ (u : Nat), valB (lowB u).reverse = u := by
  intro u
  induction u using Nat.strongRecOn with
  | _ u ih =>
    by_cases h : u = 0
    · subst h; rw [lowB_zero]; rfl
    · rw [lowB_pos h, List.reverse_cons, valB_append, ih (u / 256) (by omega)]
      have : (UInt8.ofNat (u % 256)).toNat = u % 256 := by rw [UInt8.toNat_ofNat']; omega
      rw [this]; omega
/-- the highest byte of a number is not 0 -/
theorem lowB_last : ∀ (u : Nat), u ≠ 0 → (lowB u).getLast? ≠ some 0 := by
  intro u
  induction u using Nat.strongRecOn with
  | _ u ih =>
    intro h
    rw [lowB_pos h]
    by_cases h2 : u / 256 = 0
    · rw [h2, lowB_zero]
      simp only [List.getLast?_singleton, ne_eq, Option.some.injEq]
      intro e
      have := congrArg UInt8.toNat e
      rw [UInt8.toNat_ofNat'] at this
      simp at this
      omega
    · have hne : lowB (u / 256) ≠ [] := by rw [lowB_pos h2]; simp
      rw [List.getLast?_cons, List.getLast?_eq_some_getLast hne, Option.getD_some]
      have := ih (u / 256) (by omega) h2
      rw [List.getLast?_eq_some_getLast hne] at this
      exact this

def encInt (n : Int) : List UInt8 := UInt8.ofNat ((lowB n.natAbs).length + if n < 0 then 16 else 0) :: (lowB n.natAbs).reverse

/-- the number with which bytes begin: what is wrong (0: nothing), the number, how many bytes -/
def rdNum (l : List UInt8) : Int × Int × Nat := match l with
  | [] => (4, 0, 0)
  | h :: t =>
    let k := if 16 < h.toNat then h.toNat - 16 else h.toNat
    let u := valB (t.take k)
    if 8 < k then (5, 0, 0)
    else if t.length < k then (4, 0, 0)
    else if (0 < k ∧ t.head? = some 0) ∨ (¬ 16 < h.toNat ∧ 2 ^ 63 ≤ u) ∨ (16 < h.toNat ∧ 2 ^ 63 < u) then (5, 0, 0)
    else (0, if 16 < h.toNat then -(u : Int) else u, k + 1)

theorem rdNum_enc {n : Int} (hn : I64 n) (r : List UInt8) : rdNum (encInt n ++ r) = (0, n, (encInt n).length) := by
  unfold I64 at hn
  have hu : n.natAbs < 2 ^ 64 := by omega
  have hl := lowB_le8 hu
  have hlen : (lowB n.natAbs).reverse.length = (lowB n.natAbs).length := List.length_reverse ..
  have hval := valB_low n.natAbs
  have h0 : n < 0 → 1 ≤ (lowB n.natAbs).length := fun h => by rw [lowB_pos (by omega)]; simp
  have hhead : 0 < (lowB n.natAbs).length → ((lowB n.natAbs).reverse ++ r).head? ≠ some 0 := fun hp => by
    have hne : n.natAbs ≠ 0 := fun e => by rw [e, lowB_zero] at hp; simp at hp
    have := lowB_last _ hne
    rw [List.head?_append, List.head?_reverse]
    cases hg : (lowB n.natAbs).getLast? with
    | none => rw [List.getLast?_eq_none_iff] at hg; rw [hg] at hp; simp at hp
    | some x => rw [hg] at this; simpa using this
  unfold encInt
  rw [List.cons_append]
  generalize lowB n.natAbs = lw at hl hlen hval h0 hhead ⊢
  have hb : (UInt8.ofNat (lw.length + if n < 0 then 16 else 0)).toNat = lw.length + if n < 0 then 16 else 0 := by
    rw [UInt8.toNat_ofNat']; split <;> omega
  have htake : (lw.reverse ++ r).take lw.length = lw.reverse := by
    rw [← hlen, List.take_left]
  have htl : ¬ (lw.reverse ++ r).length < lw.length := by simp
  unfold rdNum
  simp only [hb]
  by_cases hneg : n < 0
  · have h1 := h0 hneg
    simp only [if_pos hneg]
    have hk : (if 16 < lw.length + 16 then lw.length + 16 - 16 else lw.length + 16) = lw.length := by rw [if_pos (by omega)]; omega
    simp only [hk, htake, hval]
    rw [if_neg (by omega), if_neg htl, if_neg, if_pos (by omega)]
    · have e : -(n.natAbs : Int) = n := by omega
      rw [e, List.length_cons, hlen]
    · rintro (⟨a, b⟩ | ⟨a, b⟩ | ⟨a, b⟩)
      · exact hhead a b
      · omega
      · omega
  · simp only [if_neg hneg, Nat.add_zero]
    have hk : (if 16 < lw.length then lw.length - 16 else lw.length) = lw.length := by rw [if_neg (by omega)]
    simp only [hk, htake, hval]
    rw [if_neg (by omega), if_neg htl, if_neg, if_neg (by omega)]
    · have e : (n.natAbs : Int) = n := by omega
      rw [e, List.length_cons, hlen]
    · rintro (⟨a, b⟩ | ⟨a, b⟩ | ⟨a, b⟩)
      · exact hhead a b
      · omega
      · omega
end Go.Lift
