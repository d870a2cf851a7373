/- disks, in plain Lean: what a list tells -/
import Derived.Test.YtpmakiecgphijaaGreatDoorVdApart
import Derived.Sort.Walk0
namespace Go.Proofs.YtpmakiecgphijaaGreatDoor
open Go.Lift
set_option linter.unusedVariables false

theorem leS_total (a b : ByteArray) : leS a b || leS b a := by
  unfold leS
  rw [Bool.or_eq_true, decide_eq_true_eq, decide_eq_true_eq]
  exact List.le_total _ _
theorem leS_trans (a b c : ByteArray) (h1 : leS a b = true) (h2 : leS b c = true) : leS a c = true := by
  unfold leS at *
  rw [decide_eq_true_eq] at *
  exact List.le_trans h1 h2
theorem leS_lt {a b : ByteArray} (h : leS a b = true) (hne : a ≠ b) : Op.bytesLess a.toList b.toList = true := by
  unfold leS at h
  rw [decide_eq_true_eq] at h
  rw [bytesLess_eq, decide_eq_true_eq, ByteArray.toList_eq, ByteArray.toList_eq]
  have hne' : a.data.toList ≠ b.data.toList := fun e => hne (ByteArray.ext (Array.toList_inj.1 e))
  exact Std.lt_of_le_of_ne h hne'

theorem sortS_perm (l : List ByteArray) : (sortS l).Perm l := List.mergeSort_perm _ _
theorem mem_list {D : DiskV} {k : ByteArray} : k ∈ D.list ↔ (aget D.files k).isSome = true := by
  unfold DiskV.list
  rw [(sortS_perm _).mem_iff]
  constructor
  · intro h
    cases hk : aget D.files k with
    | none => exact absurd h (aget_none.1 hk)
    | some f => rfl
  · intro h
    obtain ⟨f, hf⟩ := Option.isSome_iff_exists.1 h
    exact List.mem_map.2 ⟨_, aget_mem hf, rfl⟩
theorem list_length (D : DiskV) : D.list.length = D.files.length := by unfold DiskV.list sortS; simp
theorem list_sorted {D : DiskV} (ht : Tidy D.files) : D.list.Pairwise (fun a b => Op.bytesLess a.toList b.toList = true) := by
  have h1 : D.list.Pairwise (fun a b => leS a b = true) := List.pairwise_mergeSort leS_trans leS_total _
  have h2 : D.list.Nodup := (sortS_perm _).nodup_iff.2 ht
  exact (h1.and h2).imp fun ⟨h1, h2⟩ => leS_lt h1 h2

def lenOf (D : DiskV) (k : ByteArray) : Nat := ((aget D.files k).map fun f => f.bytes.length).getD 0
theorem sum_keys {l : List (ByteArray × FileV)} (ht : Tidy l) : ((l.map (·.1)).map fun k => ((aget l k).map fun f => f.bytes.length).getD 0).sum = sumLen l := by
  unfold sumLen
  rw [List.map_map]
  congr 1
  refine List.map_congr_left fun x hx => ?_
  show ((aget l x.1).map fun f => f.bytes.length).getD 0 = x.2.bytes.length
  rw [mem_aget ht (k := x.1) (v := x.2) hx]; rfl
theorem sum_list {D : DiskV} (ht : Tidy D.files) : (D.list.map (lenOf D)).sum = D.used := by
  have := ((sortS_perm (D.files.map (·.1))).map (lenOf D)).sum_nat
  unfold DiskV.list
  rw [this]
  exact sum_keys ht

theorem read_alive {D : DiskV} (h : D.dead = false) (k : ByteArray) : (D.read k).1.length = lenOf D k := by
  unfold DiskV.read lenOf
  rw [h]
  cases aget D.files k <;> rfl

/-- what is refused changes no file -/
structure Refused (D : DiskV) (r : Int × DiskV) : Prop where
  files : r.1 ≠ 0 → r.2.files = D.files
  most : r.2.most = D.most

theorem Refused.op {D : DiskV} {body : DiskV → Int × DiskV} (h : ∀ E : DiskV, E.files = D.files → E.most = D.most → Refused E (body E)) : Refused D (D.op body) := by
  unfold DiskV.op
  split
  · exact ⟨fun _ => rfl, rfl⟩
  · have h1 := h D.armed (armed_files D) (armed_most D)
    exact ⟨fun hne => (h1.files hne).trans (armed_files D), h1.most.trans (armed_most D)⟩
theorem Refused.onF {D : DiskV} {k : ByteArray} {body : DiskV → FileV → Int × DiskV} (h : ∀ f, Refused D (body D f)) : Refused D (DiskV.onF k body D) := by
  unfold DiskV.onF
  split
  · exact ⟨fun _ => rfl, rfl⟩
  · exact h _
theorem Refused.same (D : DiskV) (e : Int) : Refused D (e, D) := ⟨fun _ => rfl, rfl⟩
theorem Refused.done {D E : DiskV} (h : E.most = D.most) : Refused D (0, E) := ⟨fun h => absurd rfl h, h⟩

theorem refused_does (D : DiskV) (x : ActV) : Refused D (D.does x) := by
  unfold DiskV.does
  split
  · refine Refused.op fun E _ _ => ?_
    show Refused E (if isNameV x.name then (if (aget E.files x.name).isSome then (16, E) else if 64 ≤ E.files.length then (12, E) else (0, E.setF x.name ⟨[], 0, false⟩)) else (1, E))
    split
    · split
      · exact Refused.same _ _
      · split
        · exact Refused.same _ _
        · exact Refused.done rfl
    · exact Refused.same _ _
  · split
    · refine Refused.op fun E _ _ => Refused.onF fun f => ?_
      split
      · exact Refused.same _ _
      · exact Refused.done rfl
    · split
      · exact Refused.op fun E _ _ => Refused.onF fun f => Refused.done rfl
      · split
        · refine Refused.op fun E _ _ => Refused.onF fun f => ?_
          split
          · exact Refused.done rfl
          · exact Refused.same _ _
        · split
          · exact Refused.op fun E _ _ => Refused.onF fun f => Refused.done rfl
          · split
            · exact Refused.op fun E _ _ => Refused.onF fun f => Refused.done rfl
            · split
              · exact Refused.done rfl
              · split
                · exact Refused.done rfl
                · exact Refused.same _ _
end Go.Proofs.YtpmakiecgphijaaGreatDoor
