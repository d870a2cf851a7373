/- manifests on disks, in plain Lean: wherever the disk dies, the one that there was, or the new one -/
import Derived.Test.YtpmakiecgphijaaGreatDoorMfAgain
import Derived.Test.YtpmakiecgphijaaGreatDoorVdPlain
import Derived.Test.YtpmakiecgphijaaGreatDoorOneD
namespace Go.Proofs.YtpmakiecgphijaaGreatDoor
open Go.Lift
set_option linter.unusedVariables false

def sg1 : ByteArray := ⟨#[115, 101, 103, 46, 49]⟩
theorem sT : (sg1 == mTemp) = false := by decide +kernel
theorem sN : (sg1 == mName) = false := by decide +kernel

abbrev Fs := List (ByteArray × FileV)
/-- the manifest that there is, and the file beside -/
structure InvF (fs : Fs) (M : Option (List Int)) (b : List UInt8) : Prop where
  tidy : Tidy fs
  m : aget fs mName = M.map fun l => ⟨mfBytes l, (mfBytes l).length, true⟩
  s : aget fs sg1 = some ⟨b, b.length, true⟩

section
variable {D : DiskV} {M : Option (List Int)} {b : List UInt8} {l : List Int}
theorem InvF.put (h : InvF D.files M b) (f : FileV) : InvF (D.setF mTemp f).files M b :=
  ⟨h.tidy.aput _ _, by show aget (aput _ _ _) _ = _; rw [aget_aput, nt]; exact h.m, by show aget (aput _ _ _) _ = _; rw [aget_aput, sT]; exact h.s⟩
theorem InvF.del (h : InvF D.files M b) : InvF (D.delF mTemp).files M b :=
  ⟨h.tidy.adel _, by show aget (adel _ _) _ = _; rw [aget_adel h.tidy, nt]; exact h.m, by show aget (adel _ _) _ = _; rw [aget_adel h.tidy, sT]; exact h.s⟩
theorem InvF.op (h : InvF D.files M b) {body : DiskV → Int × DiskV} (hb : ∀ E : DiskV, InvF E.files M b → InvF (body E).2.files M b) : InvF (D.op body).2.files M b := by
  unfold DiskV.op
  split
  · exact h
  · exact hb _ (by rw [armed_files]; exact h)
theorem InvF.onF (h : InvF D.files M b) {k : ByteArray} {body : DiskV → FileV → Int × DiskV} (hb : ∀ f, InvF (body D f).2.files M b) : InvF (DiskV.onF k body D).2.files M b := by
  unfold DiskV.onF
  split
  · exact h
  · exact hb _
theorem InvF.clean (h : InvF D.files M b) : InvF (cleanV D).2.files M b := by
  unfold cleanV
  split
  · exact h.op fun E hE => hE.onF fun f => hE.del
  · exact h
theorem InvF.step (h : InvF D.files M b) {i : Nat} (hi : i < 4) : InvF (mStep l i D).2.files M b := by
  match i, hi with
  | 0, _ => exact h.clean
  | 1, _ =>
    refine h.op fun E hE => ?_
    split
    · split
      · exact hE
      · split
        · exact hE
        · exact hE.put _
    · exact hE
  | 2, _ =>
    refine h.op fun E hE => hE.onF fun f => ?_
    split
    · exact hE
    · exact hE.put _
  | 3, _ => exact h.op fun E hE => hE.onF fun f => hE.put _

theorem op_zero {body : DiskV → Int × DiskV} (h : (D.op body).1 = 0) : D.op body = body D.armed := by
  unfold DiskV.op at h ⊢
  split at h
  · cases h
  · rename_i hd; rw [if_neg hd]
theorem create_t (h : (D.create mTemp).1 = 0) : aget (D.create mTemp).2.files mTemp = some ⟨[], 0, false⟩ := by
  unfold DiskV.create at h ⊢
  have e0 := op_zero h
  rw [e0] at h ⊢
  simp only [temp_ok, if_true] at h ⊢
  split at h
  · cases h
  · split at h
    · cases h
    · rename_i h1 h2
      rw [if_neg h1, if_neg h2]
      show aget (aput _ _ _) _ = _
      rw [aget_aput]; simp
theorem append_t {f : FileV} {x : List UInt8} (hf : aget D.files mTemp = some f) (h : (D.append mTemp x).1 = 0) : aget (D.append mTemp x).2.files mTemp = some { f with bytes := f.bytes ++ x } := by
  unfold DiskV.append at h ⊢
  have e0 := op_zero h
  rw [e0] at h ⊢
  unfold DiskV.onF at h ⊢
  rw [armed_files, hf] at h ⊢
  simp only at h ⊢
  split at h
  · cases h
  · rename_i h1
    rw [if_neg h1]
    show aget (aput _ _ _) _ = _
    rw [aget_aput]; simp
theorem sync_t {f : FileV} (hf : aget D.files mTemp = some f) (h : (D.sync mTemp).1 = 0) : aget (D.sync mTemp).2.files mTemp = some ⟨f.bytes, f.bytes.length, true⟩ := by
  have hcl : clampN (f.bytes.length : Int) f.bytes.length = f.bytes.length := by unfold clampN; omega
  unfold DiskV.sync at h ⊢
  have e0 := op_zero h
  rw [e0] at h ⊢
  unfold DiskV.onF at h ⊢
  rw [armed_files, hf] at h ⊢
  simp only at h ⊢
  show aget (aput _ _ _) _ = _
  rw [aget_aput]
  simp [FileV.cut, hcl]
theorem rename_t {f : FileV} (h : InvF D.files M b) (hf : aget D.files mTemp = some ⟨mfBytes l, (mfBytes l).length, true⟩) (h0 : (D.rename mTemp mName).1 = 0) : InvF (D.rename mTemp mName).2.files (some l) b := by
  unfold DiskV.rename at h0 ⊢
  have e0 := op_zero h0
  rw [e0] at h0 ⊢
  have hE : InvF D.armed.files M b := by rw [armed_files]; exact h
  unfold DiskV.onF at h0 ⊢
  rw [armed_files, hf] at h0 ⊢
  simp only [name_ok', if_true] at h0 ⊢
  refine ⟨(hE.tidy.adel _).aput _ _, ?_, ?_⟩
  · show aget (aput (adel _ _) _ _) _ = _
    rw [aget_aput]; simp
  · show aget (aput (adel _ _) _ _) _ = _
    rw [aget_aput, sN, aget_adel hE.tidy, sT]; exact hE.s
theorem rename_no (h : InvF D.files M b) (h0 : (D.rename mTemp mName).1 ≠ 0) : InvF (D.rename mTemp mName).2.files M b := by
  unfold DiskV.rename DiskV.op at h0 ⊢
  split
  · exact h
  · rename_i hd
    rw [if_neg hd] at h0
    have hE : InvF D.armed.files M b := by rw [armed_files]; exact h
    unfold DiskV.onF at h0 ⊢
    split
    · exact hE
    · rename_i f hf
      rw [hf] at h0
      simp only [name_ok', if_true] at h0
      exact absurd rfl h0
/-- ALL OR NOTHING -/
theorem mf_whole (h : InvF D.files M b) : ((mfWrite D l).1 = 0 ∧ InvF (mfWrite D l).2.files (some l) b) ∨ ((mfWrite D l).1 ≠ 0 ∧ InvF (mfWrite D l).2.files M b) := by
  unfold mfWrite
  split
  · exact .inr ⟨by simp, h⟩
  have h1 : InvF (mStep l 0 D).2.files M b := h.step (by decide)
  rw [mRun]
  split
  · rename_i e; exact .inr ⟨e, h1.clean⟩
  generalize (mStep l 0 D).2 = D1 at h1
  have h2 : InvF (mStep l 1 D1).2.files M b := h1.step (by decide)
  rw [mRun]
  split
  · rename_i e; exact .inr ⟨e, h2.clean⟩
  rename_i e2
  have t2 := create_t (D := D1) (by simpa [mStep] using e2)
  change InvF (D1.create mTemp).2.files M b at h2
  rw [show (mStep l 1 D1).2 = (D1.create mTemp).2 from rfl]
  generalize (D1.create mTemp).2 = D2 at h2 t2
  have h3 : InvF (mStep l 2 D2).2.files M b := h2.step (by decide)
  rw [mRun]
  split
  · rename_i e; exact .inr ⟨e, h3.clean⟩
  rename_i e3
  have t3 := append_t (x := mfBytes l) t2 (by simpa [mStep] using e3)
  change InvF (D2.append mTemp (mfBytes l)).2.files M b at h3
  rw [show (mStep l 2 D2).2 = (D2.append mTemp (mfBytes l)).2 from rfl]
  generalize (D2.append mTemp (mfBytes l)).2 = D3 at h3 t3
  have h4 : InvF (mStep l 3 D3).2.files M b := h3.step (by decide)
  rw [mRun]
  split
  · rename_i e; exact .inr ⟨e, h4.clean⟩
  rename_i e4
  have t4 := sync_t t3 (by simpa [mStep] using e4)
  change InvF (D3.sync mTemp).2.files M b at h4
  rw [show (mStep l 3 D3).2 = (D3.sync mTemp).2 from rfl]
  generalize (D3.sync mTemp).2 = D4 at h4 t4
  simp only [List.nil_append] at t4
  rw [mRun]
  split
  · rename_i e; exact .inr ⟨e, (rename_no h4 e).clean⟩
  · rename_i e5
    exact .inl ⟨rfl, rename_t (f := ⟨[], 0, false⟩) h4 t4 (by simpa [mStep] using e5)⟩

theorem InvF.crash (h : InvF D.files M b) (n : Int) : InvF (D.crash n).files M b := by
  refine ⟨tidy_crash h.tidy n, ?_, ?_⟩
  · show aget ((D.files.filter fun x => x.2.good).map fun x => (x.1, cutK n x.2)) mName = _
    rw [aget_filter_map h.tidy (fun f => f.good) (cutK n), h.m]
    cases M with
    | none => rfl
    | some l => simp [cutK_full]
  · show aget ((D.files.filter fun x => x.2.good).map fun x => (x.1, cutK n x.2)) sg1 = _
    rw [aget_filter_map h.tidy (fun f => f.good) (cutK n), h.s]
    simp [cutK_full]
theorem InvF.tell (h : InvF D.files M b) (hd : D.dead = false) (hM : ∀ l, M = some l → (∀ x ∈ l, I64 x) ∧ l.length ≤ 64) : mfTell D = M := by
  cases M with
  | none =>
    have : D.read mName = ([], 14) := by unfold DiskV.read; rw [hd, h.m]; rfl
    unfold mfTell
    rw [this, if_pos (by decide)]
  | some l =>
    have : D.read mName = (mfBytes l, 0) := by unfold DiskV.read; rw [hd, h.m]; rfl
    unfold mfTell
    rw [this, if_neg (by simp), mfRead_bytes (hM l rfl).1 (hM l rfl).2]
theorem InvF.file (h : InvF D.files M b) (hd : D.dead = false) : D.read sg1 = (b, 0) := by unfold DiskV.read; rw [hd, h.s]; rfl

/-! without a fuse nothing dies -/
theorem Calm.onF (h : Calm D) {k : ByteArray} {body : DiskV → FileV → Int × DiskV} (hb : ∀ f, Calm (body D f).2) : Calm (DiskV.onF k body D).2 := by
  unfold DiskV.onF
  split
  · exact h
  · exact hb _
theorem Calm.files {E : DiskV} (h : Calm D) (h1 : E.dead = D.dead) (h2 : E.fused = D.fused) : Calm E := ⟨h1.trans h.dead, h2.trans h.fused⟩
theorem Calm.clean (h : Calm D) : Calm (cleanV D).2 := by
  unfold cleanV
  split
  · unfold DiskV.delete
    rw [h.op]
    exact h.onF fun f => h.files rfl rfl
  · exact h
theorem Calm.step (h : Calm D) (i : Nat) : Calm (mStep l i D).2 := by
  match i with
  | 0 => exact h.clean
  | 1 =>
    show Calm (D.create mTemp).2
    unfold DiskV.create
    rw [h.op]
    split
    · split
      · exact h
      · split
        · exact h
        · exact h.files rfl rfl
    · exact h
  | 2 =>
    show Calm (D.append mTemp _).2
    unfold DiskV.append
    rw [h.op]
    refine h.onF fun f => ?_
    split
    · exact h
    · exact h.files rfl rfl
  | 3 =>
    show Calm (D.sync mTemp).2
    unfold DiskV.sync
    rw [h.op]
    exact h.onF fun f => h.files rfl rfl
  | i + 4 =>
    show Calm (D.rename mTemp mName).2
    unfold DiskV.rename
    rw [h.op]
    refine h.onF fun f => ?_
    split
    · exact h.files rfl rfl
    · exact h
theorem Calm.run : ∀ (k i : Nat) {D : DiskV}, Calm D → Calm (mRun l i k D).2
  | 0, i, _, h => h
  | k + 1, i, D, h => by
    rw [mRun]
    split
    · exact (h.step i).clean
    · exact Calm.run k (i + 1) (h.step i)
theorem Calm.mfWrite (h : Calm D) : Calm (mfWrite D l).2 := by
  unfold Go.Proofs.YtpmakiecgphijaaGreatDoor.mfWrite
  split
  · exact h
  · exact Calm.run 5 0 h
end

/-- the file beside, whatever fits -/
theorem beside (n : Nat) (x : List UInt8) : ∃ b, InvF ((((newD n).create sg1).2.append sg1 x).2.sync sg1).2.files none b ∧ Calm ((((newD n).create sg1).2.append sg1 x).2.sync sg1).2 ∧ b.length ≤ x.length := by
  have hs : isNameV sg1 = true := by decide +kernel
  have hm : (mName == sg1) = false := by decide +kernel
  have hcr : (newD n).create sg1 = (0, oneD n sg1 []) := create_one hs
  have hcl : ∀ y : List UInt8, clampN (y.length : Int) y.length = y.length := fun y => by unfold clampN; omega
  have fin : ∀ y : List UInt8, InvF ((oneD n sg1 y).sync sg1).2.files none y ∧ Calm ((oneD n sg1 y).sync sg1).2 := fun y => by
    have e : (oneD n sg1 y).sync sg1 = (0, ⟨n, [(sg1, ⟨y, y.length, true⟩)], false, 0, false⟩) := by
      simp [DiskV.sync, DiskV.op, DiskV.dies, DiskV.armed, oneD, DiskV.onF, aget, DiskV.setF, aput, FileV.cut, hcl]
    rw [e]
    exact ⟨⟨by simp [Tidy], by show aget [_] _ = _; unfold aget; rw [hm]; rfl, by show aget [_] _ = _; simp [aget]⟩, rfl, rfl⟩
  rw [hcr]
  have hap : (oneD n sg1 []).append sg1 x = if (x.length : Int) > (oneD n sg1 []).room then (12, oneD n sg1 []) else (0, oneD n sg1 x) := by
    simp [DiskV.append, DiskV.op, DiskV.dies, DiskV.armed, oneD, DiskV.onF, aget, DiskV.setF, aput]
  show ∃ b, InvF (((oneD n sg1 []).append sg1 x).2.sync sg1).2.files none b ∧ _
  rw [hap]
  split
  · exact ⟨[], (fin []).1, (fin []).2, by simp⟩
  · exact ⟨x, (fin x).1, (fin x).2, Nat.le_refl _⟩
end Go.Proofs.YtpmakiecgphijaaGreatDoor
