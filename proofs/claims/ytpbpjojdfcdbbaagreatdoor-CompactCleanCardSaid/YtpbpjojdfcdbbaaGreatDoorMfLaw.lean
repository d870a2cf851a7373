/- manifests as bytes. No program is named here. -/
import Derived.Test.YtpbpjojdfcdbbaaGreatDoorWire
namespace Go.Lift
open Go
set_option linter.unusedVariables false

def mfBody (l : List Int) : List UInt8 := encInts ((l.length : Int) :: l)
def mfBytes (l : List Int) : List UInt8 := frBytes 2 (mfBody l)
def mfNums (body : List UInt8) : List Int × RdV := rdInts (rdCount 64 ⟨body, 0, 0⟩).1.toNat (rdCount 64 ⟨body, 0, 0⟩).2
def mfRead (b : List UInt8) : Option (List Int) :=
  if (frGet b).no ≠ 0 ∨ (frGet b).n ≠ b.length ∨ (frGet b).kind ≠ 2 then none else if rdDone (mfNums (frGet b).body).2 ≠ 0 then none else some (mfNums (frGet b).body).1

theorem mfNums_ok (body : List UInt8) : (∀ x ∈ (mfNums body).1, I64 x) ∧ (mfNums body).1.length ≤ 64 ∧ (mfNums body).2.Fit := by
  obtain ⟨c1, c2, c3, c4⟩ := RdV.Fit.count (r := ⟨body, 0, 0⟩) ⟨Nat.zero_le _, .inl rfl⟩ (m := 64) (by omega)
  obtain ⟨d1, d2, d3, d4⟩ := c1.ints (rdCount 64 ⟨body, 0, 0⟩).1.toNat
  exact ⟨d2, by show (rdInts _ _).1.length ≤ 64; rw [d3]; omega, d1⟩
theorem mfRead_ok {b : List UInt8} {l : List Int} (h : mfRead b = some l) : (∀ x ∈ l, I64 x) ∧ l.length ≤ 64 := by
  unfold mfRead at h
  split at h
  · cases h
  split at h
  · cases h
  · cases h
    exact ⟨(mfNums_ok _).1, (mfNums_ok _).2.1⟩
theorem mfBody_le {l : List Int} (h : ∀ x ∈ l, I64 x) (hl : l.length ≤ 64) : (mfBody l).length ≤ 585 := by
  have := encInts_le (l := (l.length : Int) :: l) (by
    intro x hx
    rcases List.mem_cons.1 hx with rfl | hx
    · unfold I64; omega
    · exact h x hx)
  unfold mfBody
  rw [List.length_cons] at this
  omega
theorem mfBytes_length (l : List Int) : (mfBytes l).length = (mfBody l).length + 9 := frBytes_length _ _
/-- WHAT WAS LAID IS READ -/
theorem mfRead_bytes {l : List Int} (h : ∀ x ∈ l, I64 x) (hl : l.length ≤ 64) : mfRead (mfBytes l) = some l := by
  have hb := mfBody_le h hl
  have hf : frGet (mfBytes l) = ⟨2, mfBody l, (mfBody l).length + 9, 0⟩ := by
    have := frGet_put (k := 2) (body := mfBody l) (r := []) (by decide) (by decide) (by omega)
    rwa [List.append_nil] at this
  have h0 : (RdV.mk (mfBody l) 0 0).At (mfBody l) (encInt (l.length : Int) ++ (encInts (l ++ []) ++ [])) := ⟨rfl, Nat.zero_le _, rfl, by rw [List.drop_zero]; simp [mfBody, encInts_cons]⟩
  obtain ⟨c1, c2⟩ := h0.count (m := 64) (by unfold I64; omega) (by omega) (by omega)
  obtain ⟨d1, d2⟩ := RdV.At.ints l c2 h
  have hn : mfNums (mfBody l) = rdInts l.length (rdCount 64 ⟨mfBody l, 0, 0⟩).2 := by unfold mfNums; rw [c1, Int.toNat_natCast]
  have hdone : rdDone (mfNums (mfBody l)).2 = 0 := by rw [hn]; exact RdV.At.done (by simpa [encInts] using d2)
  unfold mfRead
  rw [hf, if_neg (by simp [mfBytes_length])]
  simp only
  rw [if_neg (by rw [hdone]; simp), hn, d1]
end Go.Lift
