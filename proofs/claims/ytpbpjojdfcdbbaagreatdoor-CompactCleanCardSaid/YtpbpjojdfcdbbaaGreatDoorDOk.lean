/- what is done to a disk that may be leaves one that may be. No program is run here. -/
import Derived.Test.YtpbpjojdfcdbbaaGreatDoorDiskOps4
namespace Go.Proofs.YtpbpjojdfcdbbaaGreatDoor
open Go.Lift
set_option linter.unusedVariables false
section
variable {D : DiskV}
theorem DiskV.Ok.gone (h : D.Ok) : D.gone.Ok := ⟨h.most, h.fits, h.many, h.tidy, h.names, h.syn, h.left0, h.leftR⟩
theorem DiskV.Ok.armed (h : D.Ok) (hd : D.dies = false) : D.armed.Ok := by
  unfold DiskV.armed
  split
  · rename_i hf
    have h0 := h.left0; have hR := h.leftR
    have hne : D.left ≠ 0 := by intro e; simp [DiskV.dies, hf, e] at hd
    exact ⟨h.most, h.fits, h.many, h.tidy, h.names, h.syn, by show 0 ≤ D.left - 1; omega, by show I64 (D.left - 1); unfold I64 at *; omega⟩
  · exact h
theorem DiskV.Ok.op (h : D.Ok) {body : DiskV → Int × DiskV} (hb : ∀ E : DiskV, E.Ok → (body E).2.Ok) : (D.op body).2.Ok := by
  unfold DiskV.op
  cases hd : D.dies with
  | true => exact h.gone
  | false => exact hb _ (h.armed hd)
theorem DiskV.Ok.onF (h : D.Ok) {k : ByteArray} {body : DiskV → FileV → Int × DiskV} (hb : ∀ f, aget D.files k = some f → (body D f).2.Ok) : (DiskV.onF k body D).2.Ok := by
  unfold DiskV.onF
  split
  · exact h
  · rename_i f hf; exact hb f hf
theorem DiskV.Ok.create (h : D.Ok) (k : ByteArray) : (D.create k).2.Ok := h.op fun E hE => by
  cases hn : isNameV k with
  | false => rw [if_neg (by simp)]; exact hE
  | true =>
    rw [if_pos rfl]
    split
    · exact hE
    · split
      · exact hE
      · exact hE.put hn (by have := hE.fits; simpa using this) (by omega) (Nat.le_refl _)
theorem DiskV.Ok.append (h : D.Ok) (k : ByteArray) (b : List UInt8) : (D.append k b).2.Ok := h.op fun E hE => hE.onF fun f hf => by
  split
  · exact hE
  · rename_i hr
    have hfit := hE.fits
    have hs := hE.syn _ (aget_mem hf)
    unfold DiskV.room at hr
    exact hE.set hf (by show (f.bytes ++ b).length + _ ≤ _; rw [List.length_append]; omega) (by show f.synced ≤ (f.bytes ++ b).length; rw [List.length_append]; simp only at hs; omega)
theorem DiskV.Ok.sync (h : D.Ok) (k : ByteArray) : (D.sync k).2.Ok := h.op fun E hE => hE.onF fun f hf => hE.cut hf _
theorem DiskV.Ok.cutF (h : D.Ok) (k : ByteArray) (n : Int) : (D.cutF k n).2.Ok := h.op fun E hE => hE.onF fun f hf => hE.cut hf _
theorem DiskV.Ok.delete (h : D.Ok) (k : ByteArray) : (D.delete k).2.Ok := h.op fun E hE => hE.onF fun f hf => hE.del k
theorem DiskV.Ok.rename (h : D.Ok) (k t : ByteArray) : (D.rename k t).2.Ok := h.op fun E hE => hE.onF fun f hf => by
  cases hn : isNameV t with
  | false => rw [if_neg (by simp)]; exact hE
  | true =>
    rw [if_pos rfl]
    have hfk := hE.fits
    have hsm := sumLen_adel (l := E.files) (k := k)
    rw [hf] at hsm
    simp only [Option.map_some, Option.getD_some] at hsm
    have hcnt := length_adel_some (l := E.files) (k := k) (by rw [hf]; rfl)
    have hmany := hE.many
    have hsyn := hE.syn _ (aget_mem hf)
    exact (hE.del k).put hn (by
      show f.bytes.length + sumLen (adel E.files k) ≤ E.most
      unfold DiskV.used at hfk
      omega) (by show (adel E.files k).length < 64; omega) hsyn
end
end Go.Proofs.YtpbpjojdfcdbbaaGreatDoor
