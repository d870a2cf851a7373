/- VdiskBegins: its walk, and its plain law -/
import Derived.Test.YticehdfebghloaaVdPlain
namespace Go.Proofs.Yticehdfebghloaa
open Go.Lift
set_option linter.unusedVariables false
set_option maxRecDepth 20000

def nB (k : Nat) : ByteArray := if k = 0 then ⟨#[97]⟩ else ⟨#[98]⟩
theorem nB_ne {k : Nat} (h : k < 2) : nB (1 - k) ≠ nB k := by
  have : k = 0 ∨ k = 1 := by omega
  rcases this with rfl | rfl <;> decide +kernel

/-- what is told of a file: how much of it lasts, and whether it does -/
def One (D : DiskV) (k : ByteArray) (l : Nat) (g : Bool) : Prop := match aget D.files k with
  | none => g = false
  | some f => f.synced = l ∧ f.good = g

def upd {α : Type} (l : Nat → α) (k : Nat) (v : α) : Nat → α := fun i => if i = k then v else l i

structure BInv (D : DiskV) (l : Nat → Nat) (g : Nat → Bool) : Prop where
  calm : Calm D
  tidy : Tidy D.files
  one : ∀ k, k < 2 → One D (nB k) (l k) (g k)

theorem One.of {D E : DiskV} {k : ByteArray} {l : Nat} {g : Bool} (h : One D k l g) (he : aget E.files k = aget D.files k) : One E k l g := by unfold One at *; rw [he]; exact h
theorem One.some {D : DiskV} {k : ByteArray} {f : FileV} {l : Nat} {g : Bool} (h : aget D.files k = some f) (h1 : f.synced = l) (h2 : f.good = g) : One D k l g := by unfold One; rw [h]; exact ⟨h1, h2⟩
theorem One.none {D : DiskV} {k : ByteArray} {l : Nat} (h : aget D.files k = none) : One D k l false := by unfold One; rw [h]
theorem One.get {D : DiskV} {k : ByteArray} {f : FileV} {l : Nat} {g : Bool} (h : One D k l g) (hf : aget D.files k = Option.some f) : f.synced = l ∧ f.good = g := by unfold One at h; rw [hf] at h; exact h
theorem One.gone {D : DiskV} {k : ByteArray} {l : Nat} {g : Bool} (h : One D k l g) (hf : aget D.files k = Option.none) : g = false := by unfold One at h; rw [hf] at h; exact h

/-- what is noted behind an act -/
def noteL (kd no : Int) (k size la lb : Nat) (l : Nat → Nat) : Nat → Nat :=
  if (kd = 0 ∨ kd = 5) ∧ no = 0 then upd l k 0
  else if (kd = 3 ∨ kd = 6) ∧ no = 0 then upd l k size
  else if kd = 4 ∧ no = 0 then upd (upd l (1 - k) (l k)) k 0
  else if kd = 7 then (fun i => if i = 0 then la else lb) else l
def noteG (kd no : Int) (k : Nat) (g : Nat → Bool) : Nat → Bool :=
  if (kd = 0 ∨ kd = 5) ∧ no = 0 then upd g k false
  else if (kd = 3 ∨ kd = 6) ∧ no = 0 then upd g k true
  else if kd = 4 ∧ no = 0 then upd (upd g (1 - k) true) k false
  else g

theorem aget_set (D : DiskV) (k : ByteArray) (f : FileV) (x : ByteArray) : aget (D.setF k f).files x = if x == k then some f else aget D.files x := aget_aput _ _ _ _
theorem aget_del {D : DiskV} (ht : Tidy D.files) (k x : ByteArray) : aget (D.delF k).files x = if x == k then none else aget D.files x := aget_adel ht _ _
theorem Calm.set {D : DiskV} (h : Calm D) (k : ByteArray) (f : FileV) : Calm (D.setF k f) := ⟨h.dead, h.fused⟩
theorem Calm.del {D : DiskV} (h : Calm D) (k : ByteArray) : Calm (D.delF k) := ⟨h.dead, h.fused⟩

theorem read_len_eq {D : DiskV} (h : Calm D) {k : ByteArray} {f : FileV} (hf : aget D.files k = some f) : (D.read k).1 = f.bytes := by unfold DiskV.read; rw [h.dead, hf]; rfl
theorem read_none {D : DiskV} (h : Calm D) {k : ByteArray} (hf : aget D.files k = none) : (D.read k).1 = [] := by unfold DiskV.read; rw [h.dead, hf]; rfl
theorem cut_synced (f : FileV) (n : Int) : (f.cut n).synced = (f.cut n).bytes.length := (cut_len f n).symm

theorem BInv.same {D : DiskV} {l : Nat → Nat} {g : Nat → Bool} (h : BInv D l g) {k : Nat} (hk : k < 2) (f : FileV) (he : ∀ l' g', One (D.setF (nB k) f) (nB k) l' g' → True) {v : Nat} {b : Bool} (h1 : f.synced = v) (h2 : f.good = b) : BInv (D.setF (nB k) f) (upd l k v) (upd g k b) := by
  refine ⟨h.calm.set _ _, h.tidy.aput _ _, fun i hi => ?_⟩
  by_cases e : i = k
  · subst e
    simp only [upd, if_true]
    exact One.some (by rw [aget_set]; simp) h1 h2
  · simp only [upd, if_neg e]
    have hne : nB i ≠ nB k := by
      have h2 : i = 1 - k := by omega
      rw [h2]; exact nB_ne hk
    exact (h.one i hi).of (by rw [aget_set, if_neg (by simpa using hne)])

theorem upd_self {α : Type} (l : Nat → α) (k : Nat) : upd l k (l k) = l := by
  funext i; unfold upd; split
  · rename_i h; rw [h]
  · rfl

theorem BInv.step {D : DiskV} {l : Nat → Nat} {g : Nat → Bool} (h : BInv D l g) (hok : D.Ok) {x : ActV} {k : Nat} (hk : k < 2) (hn : x.name = nB k) (ht : x.to = nB (1 - k)) (h8 : pick x.kind 10 ≠ 8) :
    BInv (D.does x).2 (noteL (pick x.kind 10) (D.does x).1 k ((D.does x).2.read (nB k)).1.length ((D.does x).2.read (nB 0)).1.length ((D.does x).2.read (nB 1)).1.length l) (noteG (pick x.kind 10) (D.does x).1 k g) := by
  have hr := pick_range (k := x.kind) (n := 10) (by omega)
  have hne := nB_ne hk
  have hother : ∀ i, i < 2 → i ≠ k → i = 1 - k := fun i hi hne => by omega
  by_cases h0 : pick x.kind 10 = 0
  · have e : D.does x = D.create (nB k) := by unfold DiskV.does; rw [if_pos h0, hn]
    rw [e, h0]
    have hc : D.create (nB k) = if isNameV (nB k) then (if (aget D.files (nB k)).isSome then (16, D) else if 64 ≤ D.files.length then (12, D) else (0, D.setF (nB k) ⟨[], 0, false⟩)) else (1, D) := by unfold DiskV.create; rw [h.calm.op]
    rw [hc]
    split
    · split
      · exact h
      · split
        · exact h
        · exact h.same hk _ (fun _ _ _ => trivial) rfl rfl
    · exact h
  by_cases h12 : pick x.kind 10 = 1 ∨ pick x.kind 10 = 2
  · have e : D.does x = D.append (nB k) x.b := by unfold DiskV.does; rw [if_neg h0, if_pos h12, hn]
    have eL : ∀ no size la lb, noteL (pick x.kind 10) no k size la lb l = l := fun no size la lb => by unfold noteL; rw [if_neg (by omega), if_neg (by omega), if_neg (by omega), if_neg (by omega)]
    have eG : ∀ no, noteG (pick x.kind 10) no k g = g := fun no => by unfold noteG; rw [if_neg (by omega), if_neg (by omega), if_neg (by omega)]
    rw [eL, eG, e]
    unfold DiskV.append
    rw [h.calm.op]
    unfold DiskV.onF
    split
    · exact h
    · rename_i f hf
      show BInv (if (x.b.length : Int) > D.room then ((12 : Int), D) else (0, D.setF (nB k) { f with bytes := f.bytes ++ x.b })).2 l g
      split
      · exact h
      · obtain ⟨o1, o2⟩ := (h.one k hk).get hf
        have := h.same hk { f with bytes := f.bytes ++ x.b } (fun _ _ _ => trivial) o1 o2
        rw [upd_self, upd_self] at this
        exact this
  by_cases h3 : pick x.kind 10 = 3
  · have e : D.does x = D.sync (nB k) := by unfold DiskV.does; rw [if_neg h0, if_neg h12, if_pos h3, hn]
    rw [e, h3]
    have hc : D.sync (nB k) = DiskV.onF (nB k) (fun D f => (0, D.setF (nB k) (f.cut f.bytes.length))) D := by unfold DiskV.sync; rw [h.calm.op]
    rw [hc]
    unfold DiskV.onF
    split
    · exact h
    · rename_i f hf
      have hb := h.same hk (f.cut f.bytes.length) (fun _ _ _ => trivial) (cut_synced f _) rfl
      have hrd : ((D.setF (nB k) (f.cut f.bytes.length)).read (nB k)).1 = (f.cut f.bytes.length).bytes := read_len_eq (h.calm.set _ _) (by rw [aget_set]; simp)
      simp only [noteL, noteG, hrd]
      exact hb
  by_cases h4 : pick x.kind 10 = 4
  · have e : D.does x = D.rename (nB k) (nB (1 - k)) := by unfold DiskV.does; rw [if_neg h0, if_neg h12, if_neg h3, if_pos h4, hn, ht]
    rw [e, h4]
    have hc : D.rename (nB k) (nB (1 - k)) = DiskV.onF (nB k) (fun D f => if isNameV (nB (1 - k)) then (0, (D.delF (nB k)).setF (nB (1 - k)) { f with good := true }) else (1, D)) D := by unfold DiskV.rename; rw [h.calm.op]
    rw [hc]
    unfold DiskV.onF
    split
    · exact h
    · rename_i f hf
      split
      · obtain ⟨o1, o2⟩ := (h.one k hk).get hf
        have eL : ∀ size la lb, noteL 4 0 k size la lb l = upd (upd l (1 - k) (l k)) k 0 := fun _ _ _ => rfl
        have eG : noteG 4 0 k g = upd (upd g (1 - k) true) k false := rfl
        rw [eL, eG]
        refine ⟨(h.calm.del _).set _ _, (h.tidy.adel _).aput _ _, fun i hi => ?_⟩
        by_cases ei : i = k
        · subst ei
          simp only [upd, if_true]
          exact One.none (by rw [aget_set, if_neg (by simpa using hne.symm), aget_del h.tidy]; simp)
        · have e2 := hother i hi ei
          subst e2
          simp only [upd, if_neg ei, if_true]
          exact One.some (f := { f with good := true }) (by rw [aget_set]; simp) o1 rfl
      · exact h
  by_cases h5 : pick x.kind 10 = 5
  · have e : D.does x = D.delete (nB k) := by unfold DiskV.does; rw [if_neg h0, if_neg h12, if_neg h3, if_neg h4, if_pos h5, hn]
    rw [e, h5]
    have hc : D.delete (nB k) = DiskV.onF (nB k) (fun D f => (0, D.delF (nB k))) D := by unfold DiskV.delete; rw [h.calm.op]
    rw [hc]
    unfold DiskV.onF
    split
    · exact h
    · have eL : ∀ size la lb, noteL 5 0 k size la lb l = upd l k 0 := fun _ _ _ => rfl
      have eG : noteG 5 0 k g = upd g k false := rfl
      rw [eL, eG]
      refine ⟨h.calm.del _, h.tidy.adel _, fun i hi => ?_⟩
      by_cases ei : i = k
      · subst ei
        simp only [upd, if_true]
        exact One.none (by rw [aget_del h.tidy]; simp)
      · have e2 := hother i hi ei
        subst e2
        simp only [upd, if_neg ei]
        exact (h.one _ hi).of (by rw [aget_del h.tidy, if_neg (by simpa using hne)])
  by_cases h6 : pick x.kind 10 = 6
  · have e : D.does x = D.cutF (nB k) x.n := by unfold DiskV.does; rw [if_neg h0, if_neg h12, if_neg h3, if_neg h4, if_neg h5, if_pos h6, hn]
    rw [e, h6]
    have hc : D.cutF (nB k) x.n = DiskV.onF (nB k) (fun D f => (0, D.setF (nB k) (f.cut x.n))) D := by unfold DiskV.cutF; rw [h.calm.op]
    rw [hc]
    unfold DiskV.onF
    split
    · exact h
    · rename_i f hf
      have hb := h.same hk (f.cut x.n) (fun _ _ _ => trivial) (cut_synced f _) rfl
      have hrd : ((D.setF (nB k) (f.cut x.n)).read (nB k)).1 = (f.cut x.n).bytes := read_len_eq (h.calm.set _ _) (by rw [aget_set]; simp)
      simp only [noteL, noteG, hrd]
      exact hb
  by_cases h7 : pick x.kind 10 = 7
  · have e : D.does x = (0, D.crash x.n) := by unfold DiskV.does; rw [if_neg h0, if_neg h12, if_neg h3, if_neg h4, if_neg h5, if_neg h6, if_pos h7]
    rw [e, h7]
    have eL : ∀ size la lb, noteL 7 0 k size la lb l = fun i => if i = 0 then la else lb := fun _ _ _ => rfl
    have eG : noteG 7 0 k g = g := rfl
    rw [eL, eG]
    have hcalm : Calm (D.crash x.n) := ⟨rfl, rfl⟩
    refine ⟨hcalm, tidy_crash h.tidy _, fun i hi => ?_⟩
    have hget : aget (D.crash x.n).files (nB i) = (aget D.files (nB i)).bind fun f => if f.good then some (cutK x.n f) else none := aget_filter_map h.tidy (fun f => f.good) (cutK x.n) (nB i)
    have hlen : (if i = 0 then ((D.crash x.n).read (nB 0)).1.length else ((D.crash x.n).read (nB 1)).1.length) = ((D.crash x.n).read (nB i)).1.length := by
      have : i = 0 ∨ i = 1 := by omega
      rcases this with rfl | rfl <;> rfl
    show One (D.crash x.n) (nB i) (if i = 0 then ((D.crash x.n).read (nB 0)).1.length else ((D.crash x.n).read (nB 1)).1.length) (g i)
    rw [hlen]
    cases hf : aget D.files (nB i) with
    | none =>
      have hg := (h.one i hi).gone hf
      rw [hg]
      exact One.none (by rw [hget, hf]; rfl)
    | some f =>
      obtain ⟨o1, o2⟩ := (h.one i hi).get hf
      cases hg : f.good with
      | false =>
        rw [← o2, hg]
        exact One.none (by rw [hget, hf]; simp [hg])
      | true =>
        have hc : aget (D.crash x.n).files (nB i) = some (cutK x.n f) := by rw [hget, hf]; simp [hg]
        rw [read_len_eq hcalm hc, ← o2, hg]
        exact One.some hc (cut_synced f _) rfl
  · have e : D.does x = ((D.read (nB k)).2, D) := by unfold DiskV.does; rw [if_neg h0, if_neg h12, if_neg h3, if_neg h4, if_neg h5, if_neg h6, if_neg h7, if_neg h8, hn]
    have eL : ∀ no size la lb, noteL (pick x.kind 10) no k size la lb l = l := fun no size la lb => by unfold noteL; rw [if_neg (by omega), if_neg (by omega), if_neg (by omega), if_neg (by omega)]
    have eG : ∀ no, noteG (pick x.kind 10) no k g = g := fun no => by unfold noteG; rw [if_neg (by omega), if_neg (by omega), if_neg (by omega)]
    rw [eL, eG, e]
    exact h

/-- behind a crash -/
theorem BInv.ends {D : DiskV} {l : Nat → Nat} {g : Nat → Bool} (h : BInv D l g) (hok : D.Ok) (keep : Int) {k : Nat} (hk : k < 2) :
    (aget (D.crash keep).files (nB k)).isSome = g k ∧ ((D.crash keep).crash 0).read (nB k) = (D.crash keep).read (nB k) ∧
      (g k = true → ((D.crash keep).read (nB k)).1 <+: (D.read (nB k)).1 ∧ l k ≤ ((D.crash keep).read (nB k)).1.length ∧ (((D.crash keep).read (nB k)).1.length : Int) - l k ≤ max 0 keep) := by
  have hcalm : Calm (D.crash keep) := ⟨rfl, rfl⟩
  have hget : aget (D.crash keep).files (nB k) = (aget D.files (nB k)).bind fun f => if f.good then some (cutK keep f) else none := aget_filter_map h.tidy (fun f => f.good) (cutK keep) (nB k)
  have hget2 : aget ((D.crash keep).crash 0).files (nB k) = (aget (D.crash keep).files (nB k)).bind fun f => if f.good then some (cutK 0 f) else none := aget_filter_map (tidy_crash h.tidy keep) (fun f => f.good) (cutK 0) (nB k)
  have gone : aget (D.crash keep).files (nB k) = none → ((D.crash keep).crash 0).read (nB k) = (D.crash keep).read (nB k) := fun hn => by
    unfold DiskV.read
    rw [hget2, hn]
    rfl
  cases hf : aget D.files (nB k) with
  | none =>
    have hg := (h.one k hk).gone hf
    have hn : aget (D.crash keep).files (nB k) = none := by rw [hget, hf]; rfl
    exact ⟨by rw [hn, hg]; rfl, gone hn, fun h => by rw [hg] at h; cases h⟩
  | some f =>
    obtain ⟨o1, o2⟩ := (h.one k hk).get hf
    cases hg : f.good with
    | false =>
      have hn : aget (D.crash keep).files (nB k) = none := by rw [hget, hf]; simp [hg]
      exact ⟨by rw [hn, ← o2, hg]; rfl, gone hn, fun h => by rw [← o2, hg] at h; cases h⟩
    | true =>
      have hc : aget (D.crash keep).files (nB k) = some (cutK keep f) := by rw [hget, hf]; simp [hg]
      have hs : f.synced ≤ f.bytes.length := hok.syn _ (aget_mem hf)
      have hcl : clampN (keepTo keep f) f.bytes.length = (keepTo keep f).toNat ∧ (keepTo keep f).toNat ≤ f.bytes.length := by unfold clampN keepTo; omega
      have hbytes : (cutK keep f).bytes = f.bytes.take (keepTo keep f).toNat := by unfold cutK FileV.cut; rw [hcl.1]
      have hlen : ((cutK keep f).bytes).length = (keepTo keep f).toNat := by rw [hbytes]; simp; omega
      refine ⟨by rw [hc, ← o2, hg]; rfl, ?_, fun _ => ?_⟩
      · have hc2 : aget ((D.crash keep).crash 0).files (nB k) = some (cutK keep f) := by
          rw [hget2, hc]
          have : (cutK keep f) = ⟨(cutK keep f).bytes, (cutK keep f).bytes.length, true⟩ := by
            have h1 : (cutK keep f).synced = (cutK keep f).bytes.length := cut_synced f _
            have h2 : (cutK keep f).good = true := rfl
            rw [← h1, ← h2]
          have h3 : cutK 0 (cutK keep f) = cutK keep f := by rw [this]; exact cutK_full 0 _
          have h4 : (cutK keep f).good = true := rfl
          simp [h3, h4]
        unfold DiskV.read
        rw [hc2, hc]
        rfl
      · rw [read_len_eq hcalm hc, read_len_eq h.calm hf, hbytes]
        have hl2 : (f.bytes.take (keepTo keep f).toNat).length = (keepTo keep f).toNat := by rw [← hbytes]; exact hlen
        refine ⟨List.take_prefix _ _, ?_, ?_⟩
        · rw [hl2, ← o1]; unfold keepTo; omega
        · rw [hl2, ← o1]; unfold keepTo; omega
end Go.Proofs.Yticehdfebghloaa
