/- VdiskApart: its walk, and its plain law -/
import Derived.Test.YtpmakiecgphijaaGreatDoorLawD2
namespace Go.Proofs.YtpmakiecgphijaaGreatDoor
open Go.Lift
set_option linter.unusedVariables false
set_option maxRecDepth 20000

def tru (w0 : World) (v : Value) (w : World) : Prop := v = .bool true ∧ Grew w0 w
def zz : ByteArray := ⟨#[122, 122, 46, 111, 116, 104, 101, 114, 46, 57]⟩

/-- no fuse burns -/
structure Calm (D : DiskV) : Prop where
  dead : D.dead = false
  fused : D.fused = false
theorem Calm.op {D : DiskV} (h : Calm D) (body : DiskV → Int × DiskV) : D.op body = body D := by
  unfold DiskV.op DiskV.dies DiskV.armed
  rw [h.dead, h.fused]
  rfl
theorem Calm.dies {D : DiskV} (h : Calm D) : D.dies = false := by unfold DiskV.dies; rw [h.dead, h.fused]; rfl

structure ZInv (D : DiskV) (b : List UInt8) : Prop where
  calm : Calm D
  tidy : Tidy D.files
  file : aget D.files zz = some ⟨b, b.length, true⟩

theorem ZInv.setF {D : DiskV} {b : List UInt8} (h : ZInv D b) {k : ByteArray} (hk : k ≠ zz) (f : FileV) : ZInv (D.setF k f) b :=
  ⟨⟨h.calm.dead, h.calm.fused⟩, h.tidy.aput _ _, by show aget (aput D.files k f) zz = _; rw [aget_aput, if_neg (by simpa using Ne.symm hk)]; exact h.file⟩
theorem ZInv.delF {D : DiskV} {b : List UInt8} (h : ZInv D b) {k : ByteArray} (hk : k ≠ zz) : ZInv (D.delF k) b :=
  ⟨⟨h.calm.dead, h.calm.fused⟩, h.tidy.adel _, by show aget (adel D.files k) zz = _; rw [aget_adel h.tidy, if_neg (by simpa using Ne.symm hk)]; exact h.file⟩

theorem aget_filter_map {l : List (ByteArray × FileV)} (ht : Tidy l) (q : FileV → Bool) (g : FileV → FileV) (k : ByteArray) :
    aget ((l.filter fun x => q x.2).map fun x => (x.1, g x.2)) k = (aget l k).bind fun f => if q f then some (g f) else none := by
  induction l with
  | nil => rfl
  | cons p l ih =>
    obtain ⟨x, u⟩ := p
    unfold Tidy at ht ih
    simp only [List.map_cons, List.nodup_cons] at ht
    rw [List.filter_cons]
    by_cases hx : (k == x) = true
    · have hkx : k = x := eq_of_beq hx
      subst hkx
      have hn : aget ((l.filter fun x => q x.2).map fun x => (x.1, g x.2)) k = none := by
        rw [aget_none]
        intro hm
        apply ht.1
        simp only [List.map_map, List.mem_map, List.mem_filter] at hm ⊢
        obtain ⟨y, ⟨hy, _⟩, he⟩ := hm
        exact ⟨y, hy, he⟩
      by_cases hq : q u = true
      · simp [hq, aget]
      · rw [if_neg (by simpa using hq), hn]; simp [hq, aget]
    · have hx' : (k == x) = false := by simpa using hx
      by_cases hq : q u = true
      · simp only [hq, if_true, List.map_cons, aget, hx', Bool.false_eq_true, if_false]
        exact ih ht.2
      · rw [if_neg (by simpa using hq)]
        simp only [aget, hx', Bool.false_eq_true, if_false]
        exact ih ht.2

theorem cutK_full (keep : Int) (b : List UInt8) : cutK keep ⟨b, b.length, true⟩ = ⟨b, b.length, true⟩ := by
  have e : clampN (keepTo keep ⟨b, b.length, true⟩) b.length = b.length := by
    unfold clampN keepTo; simp only; omega
  unfold cutK FileV.cut
  simp only [e, List.take_length]

theorem tidy_crash {D : DiskV} (h : Tidy D.files) (n : Int) : Tidy (D.crash n).files := by
  show (((D.files.filter fun x => x.2.good).map fun x => (x.1, cutK n x.2)).map (·.1)).Nodup
  rw [List.map_map]
  exact (tidy_filter h fun x => x.2.good)

theorem ZInv.crash {D : DiskV} {b : List UInt8} (h : ZInv D b) (n : Int) : ZInv (D.crash n) b :=
  ⟨⟨rfl, rfl⟩, tidy_crash h.tidy n, by
    show aget ((D.files.filter fun x => x.2.good).map fun x => (x.1, cutK n x.2)) zz = _
    rw [aget_filter_map h.tidy (fun f => f.good) (cutK n), h.file]
    simp [cutK_full]⟩

theorem ZInv.onF {D : DiskV} {b : List UInt8} (h : ZInv D b) {k : ByteArray} {body : DiskV → FileV → Int × DiskV} (hb : ∀ f, ZInv (body D f).2 b) : ZInv (DiskV.onF k body D).2 b := by
  unfold DiskV.onF
  split
  · exact h
  · exact hb _

theorem ZInv.does {D : DiskV} {b : List UInt8} (h : ZInv D b) {x : ActV} (hk : pick x.kind 10 ≠ 8) (h1 : x.name ≠ zz) (h2 : x.to ≠ zz) : ZInv (D.does x).2 b := by
  unfold DiskV.does
  split
  · unfold DiskV.create
    rw [h.calm.op]
    split
    · split
      · exact h
      · split
        · exact h
        · exact h.setF h1 _
    · exact h
  · split
    · unfold DiskV.append
      rw [h.calm.op]
      refine h.onF fun f => ?_
      split
      · exact h
      · exact h.setF h1 _
    · split
      · unfold DiskV.sync; rw [h.calm.op]; exact h.onF fun f => h.setF h1 _
      · split
        · unfold DiskV.rename
          rw [h.calm.op]
          refine h.onF fun f => ?_
          split
          · exact (h.delF h1).setF h2 _
          · exact h
        · split
          · unfold DiskV.delete; rw [h.calm.op]; exact h.onF fun f => h.delF h1
          · split
            · unfold DiskV.cutF; rw [h.calm.op]; exact h.onF fun f => h.setF h1 _
            · split
              · exact h.crash _
              · exact h

theorem ZInv.read {D : DiskV} {b : List UInt8} (h : ZInv D b) : D.read zz = (b, 0) := by
  unfold DiskV.read
  rw [h.calm.dead, h.file]
  rfl

theorem keys_aput {β : Type} {l : List (ByteArray × β)} {k : ByteArray} {v : β} (h : (aget l k).isSome = true) : (aput l k v).map (·.1) = l.map (·.1) := by
  induction l with
  | nil => simp [aget] at h
  | cons p l ih =>
    obtain ⟨x, u⟩ := p
    simp only [aput, aget] at h ⊢
    split
    · rename_i hk
      have : k = x := eq_of_beq hk
      simp [this]
    · rename_i hk
      rw [if_neg hk] at h
      simp [ih h]

end Go.Proofs.YtpmakiecgphijaaGreatDoor
