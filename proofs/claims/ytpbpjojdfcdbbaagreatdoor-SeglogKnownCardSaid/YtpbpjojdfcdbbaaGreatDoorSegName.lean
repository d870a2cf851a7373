/- names of segments and their numbers. No program is named here. -/
import Derived.Test.YtpbpjojdfcdbbaaGreatDoorRep
import Derived.Lib.ItoaNum
namespace Go.Lift
open Go
set_option linter.unusedVariables false

def digVal (l : List UInt8) : Nat := l.foldl (fun n d => n * 10 + (d.toNat - 48)) 0
def isDig (d : UInt8) : Bool := decide (48 ≤ d.toNat ∧ d.toNat ≤ 57)
theorem digVal_snoc (l : List UInt8) (d : UInt8) : digVal (l ++ [d]) = digVal l * 10 + (d.toNat - 48) := by simp [digVal, List.foldl_append]

theorem head_app {α : Type} {l r : List α} (h : l ≠ []) : (l ++ r).head? = l.head? := by
  cases l with
  | nil => exact absurd rfl h
  | cons a l => rfl

theorem dec_digits : ∀ (u : Nat), digVal (Lib.decDigits u) = u ∧ (Lib.decDigits u).all isDig = true ∧ Lib.decDigits u ≠ [] ∧ (u ≠ 0 → (Lib.decDigits u).head? ≠ some 48) := by
  intro u
  induction u using Nat.strongRecOn with
  | _ u ih =>
    rw [Lib.decDigits]
    by_cases h : u < 10
    · rw [dif_pos h]
      have hb : (UInt8.ofNat (48 + u)).toNat = 48 + u := by rw [UInt8.toNat_ofNat']; omega
      refine ⟨by simp [digVal]; omega, by simp [isDig, hb]; omega, by simp, fun h0 => ?_⟩
      intro e
      simp only [List.head?_cons, Option.some.injEq] at e
      have := congrArg UInt8.toNat e
      rw [hb] at this
      simp at this
      omega
    · rw [dif_neg h]
      obtain ⟨h1, h2, h3, h4⟩ := ih (u / 10) (by omega)
      have hb : (UInt8.ofNat (48 + u % 10)).toNat = 48 + u % 10 := by rw [UInt8.toNat_ofNat']; omega
      refine ⟨by rw [digVal_snoc, h1, hb]; omega, ?_, by simp, fun _ => ?_⟩
      · rw [List.all_append, h2]; simp [isDig, hb]; omega
      · rw [head_app h3]; exact h4 (by omega)
theorem digVal_pos : ∀ {l : List UInt8}, l.all isDig = true → l ≠ [] → l.head? ≠ some 48 → 0 < digVal l := by
  intro l
  generalize hk : l.length = k
  induction k generalizing l with
  | zero => intro _ h; exact absurd (List.eq_nil_of_length_eq_zero hk) h
  | succ k ih =>
    intro ha hne hh
    rcases List.eq_nil_or_concat l with rfl | ⟨l, d, rfl⟩
    · cases hk
    rw [List.concat_eq_append] at hk ha hh ⊢
    rw [List.all_append, Bool.and_eq_true] at ha
    have hd : 48 ≤ d.toNat ∧ d.toNat ≤ 57 := by simpa [isDig] using ha.2
    rw [digVal_snoc]
    by_cases hl : l = []
    · subst hl
      have : d.toNat ≠ 48 := fun e => hh (by simp; exact UInt8.toNat_inj.1 e)
      omega
    · have := ih (by simpa using hk) ha.1 hl (by rwa [head_app hl] at hh)
      omega
theorem decDigits_val : ∀ {l : List UInt8}, l.all isDig = true → l ≠ [] → (l.head? ≠ some 48 ∨ l.length = 1) → Lib.decDigits (digVal l) = l := by
  intro l
  generalize hk : l.length = k
  induction k generalizing l with
  | zero => intro _ h; exact absurd (List.eq_nil_of_length_eq_zero hk) h
  | succ k ih =>
    intro ha hne hh
    rcases List.eq_nil_or_concat l with rfl | ⟨l, d, rfl⟩
    · cases hk
    rw [List.concat_eq_append] at hk ha hh ⊢
    rw [List.all_append, Bool.and_eq_true] at ha
    have hd : 48 ≤ d.toNat ∧ d.toNat ≤ 57 := by simpa [isDig] using ha.2
    have hd2 : UInt8.ofNat (48 + (d.toNat - 48)) = d := UInt8.toNat_inj.1 (by rw [UInt8.toNat_ofNat']; omega)
    rw [digVal_snoc]
    by_cases hl : l = []
    · subst hl
      have e : digVal [] * 10 + (d.toNat - 48) = d.toNat - 48 := by simp [digVal]
      rw [e, Lib.decDigits, dif_pos (by omega), hd2]
      rfl
    · have hlen : 0 < l.length := List.length_pos_iff.2 hl
      have hk' : l.length = k := by simpa using hk
      have hh' : l.head? ≠ some 48 := by
        rcases hh with hh | hh
        · rwa [head_app hl] at hh
        · omega
      have hp := digVal_pos ha.1 hl hh'
      rw [Lib.decDigits, dif_neg (by omega)]
      have e1 : (digVal l * 10 + (d.toNat - 48)) / 10 = digVal l := by omega
      have e2 : (digVal l * 10 + (d.toNat - 48)) % 10 = d.toNat - 48 := by omega
      rw [e1, e2, hd2, ih hk' ha.1 hl (.inl hh')]
theorem digVal_lt : ∀ (l : List UInt8), l.all isDig = true → digVal l < 10 ^ l.length := by
  intro l
  generalize hk : l.length = k
  induction k generalizing l with
  | zero => intro _; have := List.eq_nil_of_length_eq_zero hk; subst this; decide
  | succ k ih =>
    intro ha
    rcases List.eq_nil_or_concat l with rfl | ⟨l, d, rfl⟩
    · cases hk
    rw [List.concat_eq_append] at hk ha ⊢
    rw [List.all_append, Bool.and_eq_true] at ha
    have hd : 48 ≤ d.toNat ∧ d.toNat ≤ 57 := by simpa [isDig] using ha.2
    have := ih l (by simpa using hk) ha.1
    rw [digVal_snoc, Nat.pow_succ]
    omega
theorem decDigits_le {u : Nat} (h : u < 1000000000000) : (Lib.decDigits u).length ≤ 12 := by
  rw [Lib.decDigits_length]
  apply Nat.le_of_not_lt
  intro hlt
  by_cases h0 : u = 0
  · subst h0; rw [Lib.nDigits_small (by omega)] at hlt; omega
  · have hd := Lib.lt_pow_nDigits u
    obtain ⟨h1, h2, h3, h4⟩ := dec_digits u
    have hlen := Lib.decDigits_length u
    -- the head is a digit above 0: the number is at least 10^(n-1)
    have key : ∀ (l : List UInt8), l.all isDig = true → l ≠ [] → l.head? ≠ some 48 → 10 ^ (l.length - 1) ≤ digVal l := by
      intro l
      generalize hk : l.length = k
      induction k generalizing l with
      | zero => intro _ h; exact absurd (List.eq_nil_of_length_eq_zero hk) h
      | succ k ih =>
        intro ha hne hh
        rcases List.eq_nil_or_concat l with rfl | ⟨l, d, rfl⟩
        · cases hk
        rw [List.concat_eq_append] at hk ha hh ⊢
        have ha' := ha
        rw [List.all_append, Bool.and_eq_true] at ha
        rw [digVal_snoc]
        by_cases hl : l = []
        · subst hl
          have := digVal_pos ha' (by simp) hh
          rw [digVal_snoc] at this
          have hk0 : k = 0 := by simpa using hk.symm
          subst hk0
          simp at this ⊢
          omega
        · have hk' : l.length = k := by simpa using hk
          have hlen : 0 < l.length := List.length_pos_iff.2 hl
          have := ih l hk' ha.1 hl (by rwa [head_app hl] at hh)
          have e : k + 1 - 1 = (k - 1) + 1 := by omega
          rw [e, Nat.pow_succ]
          omega
    have := key _ h2 h3 (h4 h0)
    rw [h1, hlen] at this
    have h12 : 10 ^ 12 ≤ 10 ^ (Lib.nDigits u - 1) := Nat.pow_le_pow_right (by omega) (by omega)
    have : (10 : Nat) ^ 12 = 1000000000000 := by decide
    omega

def segPre : List UInt8 := [115, 101, 103, 46]
def segName (n : Int) : List UInt8 := if n < 0 ∨ 1000000000000 ≤ n then [] else segPre ++ Lib.decDigits n.toNat
def segNo (s : List UInt8) : Option Nat := if s.take 4 = segPre ∧ 5 ≤ s.length ∧ s.length ≤ 16 ∧ (s.drop 4).all isDig = true ∧ ((s.drop 4).head? ≠ some 48 ∨ s.length = 5) then some (digVal (s.drop 4)) else none

theorem segName_yes {n : Int} (h0 : 0 ≤ n) (h1 : n < 1000000000000) : segName n = segPre ++ Lib.decDigits n.toNat := by unfold segName; rw [if_neg (by omega)]
theorem segNo_name {n : Int} (h0 : 0 ≤ n) (h1 : n < 1000000000000) : segNo (segName n) = some n.toNat := by
  rw [segName_yes h0 h1]
  obtain ⟨a1, a2, a3, a4⟩ := dec_digits n.toNat
  have hle := decDigits_le (u := n.toNat) (by omega)
  have hpos : 0 < (Lib.decDigits n.toNat).length := List.length_pos_iff.2 a3
  have hd : (segPre ++ Lib.decDigits n.toNat).drop 4 = Lib.decDigits n.toNat := rfl
  have ht : (segPre ++ Lib.decDigits n.toNat).take 4 = segPre := rfl
  have hl : (segPre ++ Lib.decDigits n.toNat).length = 4 + (Lib.decDigits n.toNat).length := by rw [List.length_append]; rfl
  unfold segNo
  rw [hd, ht, hl, a1, if_pos]
  refine ⟨rfl, by omega, by omega, a2, ?_⟩
  by_cases h : n.toNat = 0
  · right
    rw [h, Lib.decDigits_length, Lib.nDigits_small (by omega)]
  · exact .inl (a4 h)
theorem segNo_some {s : List UInt8} {k : Nat} (h : segNo s = some k) : segName k = s ∧ k < 1000000000000 := by
  unfold segNo at h
  split at h
  · rename_i hc
    obtain ⟨c1, c2, c3, c4, c5⟩ := hc
    simp only [Option.some.injEq] at h
    have hlen : (s.drop 4).length = s.length - 4 := by simp
    have hlt := digVal_lt _ c4
    have hle : 10 ^ (s.drop 4).length ≤ 10 ^ 12 := Nat.pow_le_pow_right (by omega) (by omega)
    have h12 : (10 : Nat) ^ 12 = 1000000000000 := by decide
    have hk : k < 1000000000000 := by omega
    refine ⟨?_, hk⟩
    rw [segName_yes (by omega) (by omega), ← h, Int.toNat_natCast, decDigits_val c4 (fun e => by rw [e] at hlen; simp at hlen; omega) (c5.imp id fun e => by omega), ← c1, List.take_append_drop]
  · cases h
theorem segName_inj {a b : Int} (ha : 0 ≤ a) (ha' : a < 1000000000000) (h : segName b = segName a) : b = a := by
  have h1 := segNo_name ha ha'
  by_cases hb : b < 0 ∨ 1000000000000 ≤ b
  · unfold segName at h
    rw [if_pos hb, if_neg (by omega)] at h
    exact absurd (congrArg List.length h) (by simp [segPre])
  · rw [← h, segNo_name (by omega) (by omega)] at h1
    simp only [Option.some.injEq] at h1
    omega
theorem segName_length (n : Int) : (segName n).length ≤ 16 := by
  unfold segName
  split
  · simp
  · have := decDigits_le (u := n.toNat) (by omega)
    rw [List.length_append]
    show 4 + _ ≤ 16
    omega
/-- by digits, whatever stands ahead of them: what the name comes back to tells -/
theorem segNo_digits {d : List UInt8} (hd : d.all isDig = true) (hl : d.length ≤ 12) : segNo (segPre ++ d) = if segName (digVal d) = segPre ++ d then some (digVal d) else none := by
  have hlt := digVal_lt _ hd
  have hle : 10 ^ d.length ≤ 10 ^ 12 := Nat.pow_le_pow_right (by omega) hl
  have h12 : (10 : Nat) ^ 12 = 1000000000000 := by decide
  split
  · rename_i h
    rw [← h, segNo_name (by omega) (by omega), Int.toNat_natCast]
  · rename_i h
    cases hs : segNo (segPre ++ d) with
    | none => rfl
    | some k =>
      obtain ⟨h1, h2⟩ := segNo_some hs
      have : k = digVal d := by
        unfold segNo at hs
        split at hs
        · exact (Option.some.inj hs).symm
        · cases hs
      rw [this] at h1
      exact absurd h1 h
theorem segNo_nodig {d : List UInt8} (hd : d.all isDig = false) : segNo (segPre ++ d) = none := by
  unfold segNo
  rw [if_neg]
  rintro ⟨_, _, _, h, _⟩
  have : (segPre ++ d).drop 4 = d := rfl
  rw [this, hd] at h
  cases h
theorem segNo_pre {s : List UInt8} (h : s.take 4 ≠ segPre) : segNo s = none := by
  unfold segNo
  rw [if_neg fun hc => h hc.1]
theorem segNo_long {s : List UInt8} (h : 16 < s.length) : segNo s = none := by
  unfold segNo
  rw [if_neg fun hc => by omega]
end Go.Lift
