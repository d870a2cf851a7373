/- ManifestAgain: the walk -/
import Derived.Test.YtpbpjojdfcdbbaaGreatDoorMf
import Derived.Test.YtpbpjojdfcdbbaaGreatDoorKitEv
import Derived.Test.YtpbpjojdfcdbbaaGreatDoorLawD
namespace Go.Proofs.YtpbpjojdfcdbbaaGreatDoor
open Go.Lift Go.ChangeShapes Go.WideShapes Go.ChangeAt Go.RowKit
set_option linter.unusedVariables false
set_option maxRecDepth 20000

section
variable {w0 w w1 w' : World} {p : Nat} {D D' : DiskV} {X Y : Nat → Prop}
theorem NDisk.mfWrite {a : Option Addr} {n c : Nat} {l : List Int} {Dl : Nat → Prop} (h : NDisk w0 w p D X) (ht : Tabs w0) (hl : Row cI64 8 w Dl a n l) (hok : ∀ x ∈ l, I64 x) (hDl : ∀ b, Dl b → b < w0.heap.size ∨ X b) :
    Calls Tryz.prog F_manifest_Write #[.pointer (some ⟨p, 0, none⟩), .agg #[.slice a n c]] w (Ok (Does2 w0 w p X (mfWrite D l))) := by
  have hg := h.gr.size
  have hx : ∀ b, X b → b < w.heap.size := by obtain ⟨F, h1, h2, h3, h4⟩ := h; exact h4
  have hlt := ht.lt
  exact h.call fun F hD hF => manifest_Write (ht.grew h.gr) hD hl hok (fun b hb => ⟨(hDl b hb).elim (fun h => by omega) (hx b), fun hf => (hDl b hb).elim (fun h => by have := (hF b hf).1; omega) (hF b hf).2.2⟩) fun b hb => by have := (hF b hb).1; omega
theorem NDisk.mfRead (h : NDisk w0 w p D X) (ht : Tabs w0) : Calls Tryz.prog F_manifest_Read #[.pointer (some ⟨p, 0, none⟩)] w (Ok fun v w' => ∃ a n c G, v = .tuple #[.agg #[.slice a n c], .bool (mfTell D).isSome] ∧ Lst cI64 3 G w' a n c ((mfTell D).getD []) ∧
    (∀ b, G b → w.heap.size ≤ b) ∧ NDisk w0 w' p D (fun b => X b ∨ G b) ∧ Grew w w') := by
  have hg := h.gr
  obtain ⟨F, h1, h2⟩ := h
  refine Calls.ok (manifest_Read (ht.grew hg) h1) ?_
  rintro v w' ⟨a, n, c, G, rfl, ho, hk, hG⟩
  exact ⟨a, n, c, G, rfl, ho, hG, NDisk.add ⟨F, h1, h2⟩ hk fun b hb => ⟨hG b hb, ho.dom b hb⟩, hk⟩
end
theorem row_i64 {w : World} {D : Nat → Prop} {a : Option Addr} {n bytes : Nat} {l : List Int} (h : Row cI64 bytes w D a n l) : ∀ x ∈ l, I64 x := fun x hx => by
  obtain ⟨i, hi⟩ := List.mem_iff_getElem?.1 hx
  obtain ⟨b, off, es, -, -, -, -, hr⟩ := h.el i x hi
  exact hr.2
theorem mfTell_le {D : DiskV} : ((mfTell D).getD []).length ≤ 64 := by
  unfold mfTell
  split
  · simp
  · cases h : mfRead (D.read mName).1 with
    | none => simp
    | some l => exact (mfRead_ok h).2

def kD1 : Int × DiskV := mfWrite (newD 64) [1, 2]
def kD2 : Int × DiskV := mfWrite (kD1.2.fuse 3) [3]
theorem kd : mfTell (newD 64) = none ∧ kD1.1 = 0 ∧ kD2.1 = 15 ∧ mfTell (kD2.2.crash 99) = some [1, 2] := by decide +kernel

/-! the disk with its manifest alone -/
def mfD (n : Nat) : Option (List Int) → DiskV
  | none => newD n
  | some l => ⟨n, [(mName, ⟨mfBytes l, (mfBytes l).length, true⟩)], false, 0, false⟩
theorem tn : (mTemp == mName) = false := by decide +kernel
theorem nt : (mName == mTemp) = false := by decide +kernel
theorem temp_ok : isNameV mTemp = true := by decide +kernel
theorem name_ok' : isNameV mName = true := by decide +kernel
theorem mf_again {o : Option (List Int)} {l : List Int} (ho : ∀ k, o = some k → (mfBytes k).length ≤ 594) (hl : (mfBytes l).length ≤ 594) (h64 : l.length ≤ 64) : mfWrite (mfD 4000 o) l = (0, mfD 4000 (some l)) := by
  have h1 := tn; have h2 := nt; have h3 := temp_ok; have h4 := name_ok'
  rw [beq_eq_false_iff_ne] at h1 h2
  have hcl : clampN ((mfBytes l).length : Int) (mfBytes l).length = (mfBytes l).length := by unfold clampN; omega
  unfold mfWrite
  rw [if_neg (by omega)]
  cases o with
  | none =>
    have hr : ¬ ((mfBytes l).length : Int) > 4000 := by omega
    simp [mRun, mStep, cleanV, mfD, newD, aget, DiskV.create, DiskV.op, DiskV.dies, DiskV.armed, h3, h4, DiskV.append, DiskV.onF, DiskV.setF, aput, DiskV.room, DiskV.used, sumLen, hr, DiskV.sync, DiskV.rename, DiskV.delF, adel, FileV.cut, hcl]
  | some k =>
    have hk := ho k rfl
    have hr : ¬ ((mfBytes l).length : Int) > 4000 - ((mfBytes k).length : Int) := by omega
    simp [mRun, mStep, cleanV, mfD, newD, aget, DiskV.create, DiskV.op, DiskV.dies, DiskV.armed, h1, h2, h1.symm, h3, h4, DiskV.append, DiskV.onF, DiskV.setF, aput, DiskV.room, DiskV.used, sumLen, hr, DiskV.sync, DiskV.rename, DiskV.delF, adel, FileV.cut, hcl]
theorem mf_tell {l : List Int} {n : Nat} (h : ∀ x ∈ l, I64 x) (hl : l.length ≤ 64) : mfTell (mfD n (some l)) = some l := by
  have : (mfD n (some l)).read mName = (mfBytes l, 0) := by simp [mfD, DiskV.read, aget]
  unfold mfTell
  rw [this, if_neg (by simp), mfRead_bytes h hl]
theorem mf_list {l : List Int} {n : Nat} : (mfD n (some l)).list = [mName] := by simp [mfD, DiskV.list, sortS]

/-- manifests that are read -/
def cMf : Cod (List Int) where
  k := 1
  rep := fun w D x cs => ∃ a n c, cs = [.slice a n c] ∧ Row cI64 8 w D a n x
  keep := fun ⟨a, n, c, h1, h2⟩ hk hd => ⟨a, n, c, h1, h2.keep hk hd⟩
  mono := fun ⟨a, n, c, h1, h2⟩ hd => ⟨a, n, c, h1, h2.mono hd⟩
  len := fun ⟨a, n, c, h1, _⟩ => by rw [h1]; rfl
  one := fun ⟨a, n, c, h1, _⟩ u hu => by
    rw [h1] at hu
    simp only [List.mem_cons, List.not_mem_nil, or_false] at hu
    subst hu; rfl
theorem reads_Mf : Reads Tryz.prog cMf 56 := fun H enc w held fuel cs x h hw => by
  obtain ⟨xs, n2, _, rfl, hcl, hxl, hfs⟩ := DataW.trod_struct (Tryz.underlying56) h
  have hc5 : Tryz.prog.cellsOf 56 = 1 := by kernel_rfl
  have hl : cs.length = 1 := hcl.trans hc5
  have k3 : Tryz.prog.cellsOf 37 = 1 := by kernel_rfl
  match cs, hl with
  | [v0], _ =>
  match xs, hxl with
  | [y0], _ =>
    have f0 := hfs 0 _ rfl
    simp only [k3, List.drop_zero, List.take_succ_cons, List.take_zero, List.getElem?_cons_zero] at f0
    have hyy : Light Tryz.prog 37 y0.1 := by
      intro q hq
      refine hw q ?_
      have hu : Tryz.prog.underlying 56 = _ := Tryz.underlying56
      simp only [DataW.weights, hu, List.map_cons, List.map_nil, DataW.weightsEach, List.mem_append]
      left; exact hq
    obtain ⟨a3, n4, c4, l4, e3, -, -, i3⟩ := open_row (bytes := 8) Tryz.underlying37 (by kernel_rfl) (by decide) (by kernel_rfl) (reads_I64 Tryz.underlying3) f0 hyy
    cases e3
    exact ⟨l4, a3, n4, c4, rfl, i3⟩

end Go.Proofs.YtpbpjojdfcdbbaaGreatDoor
