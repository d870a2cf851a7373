/- vdisk: what is done to a file, and to a disk -/
import Derived.Test.YtpbpjojdfcdbbaaGreatDoorDisk
import Derived.Test.YtpbpjojdfcdbbaaGreatDoorIsName
namespace Go.Proofs.YtpbpjojdfcdbbaaGreatDoor
open Go.Lift
set_option linter.unusedVariables false
set_option maxRecDepth 20000

theorem slices_Clone_B {a : Option Addr} {n c : Nat} {xs : List UInt8} {w : World} {D : Nat → Prop} (h : Row cU8 1 w D a n xs) (hD : ∀ b, D b → b < w.heap.size) :
    Calls Tryz.prog 65 #[.slice a n c] w (Ok (New cU8 5 w xs)) := by
  have hl := h.len; have hb := h.big
  refine L_slices_Clone_byte_byte (eq_nil_slice slU8.under ⟨_, rfl, PIf.mk (fun h1 => ?_) (fun h1 => PA.mk fun w1 hk1 hs1 hg1 => ?_)⟩)
  · have : xs = [] := by
      cases a with
      | none =>
        cases xs with
        | nil => rfl
        | cons x r => obtain ⟨b, off, es, ha, _⟩ := h.el 0 x rfl; cases ha
      | some p => cases h1
    subst this
    exact Ok.mk ⟨none, 0, 0, fun _ => False, rfl, Lst.nil w, Keep.refl _, fun _ h => h.elim⟩
  · cases a with
    | none => cases h1
    | some p =>
      have ho : Lst cU8 5 (· = w.heap.size) w1 (some ⟨w.heap.size, 0, none⟩) 0 0 [] :=
        ⟨⟨[], fun _ => False, Own.of_new (cur := #[]) hg1 rfl (Nat.zero_le _), rfl, fun _ h => h.elim⟩, fun b hb => by simpa [blk] using hb.symm, fun b hb => by omega⟩
      refine appRow ho slU8 (D := D) (h.grew hk1) (fun b hb => ⟨by have := hD b hb; omega, by have := hD b hb; simp only [blk]; intro e; cases e; omega⟩) (by simp; omega) (by unfold Big at hb; unfold maxLen; simp; omega) fun a' c' w2 F' ho2 hk2 _ hs2 => ?_
      refine ⟨_, _, _, rfl, Ok.mk ⟨a', _, c', fun b => blk a' = some b, rfl, by have h := ho2.alone; rw [List.nil_append] at h; exact h, hk1.new hk2 fun b hb => .inr ?_, fun b hb => ?_⟩⟩
      · simp only [blk, Option.some.injEq] at hb; omega
      · rcases hs2 b hb with h | h <;> omega

/-- so many first bytes -/
def clampN (n : Int) (k : Nat) : Nat := (max 0 (min n k)).toNat
theorem clampN_le (n : Int) (k : Nat) : clampN n k ≤ k := by unfold clampN; omega
def FileV.cut (f : FileV) (n : Int) : FileV := ⟨f.bytes.take (clampN n f.bytes.length), clampN n f.bytes.length, true⟩
theorem cut_len (f : FileV) (n : Int) : (f.cut n).bytes.length = clampN n f.bytes.length := by
  have := clampN_le n f.bytes.length
  simp [FileV.cut]; omega

theorem file_cut {w : World} {q : Nat} {G : Nat → Prop} {f : FileV} {n : Int} (h : FileAt w q G f) (hb : f.bytes.length ≤ 262144) :
    Calls Tryz.prog F_vdisk_file_cut #[.pointer (some ⟨q, 0, none⟩), .int .i64 n] w (Ok fun v w' => ∃ G', v = .tuple #[] ∧ FileAt w' q G' (f.cut n) ∧ Evo G w G' w') := by
  obtain ⟨a, m, cap, F, h1, h2, h3, h4⟩ := h.body
  have hlen : m = f.bytes.length := h2.len (by decide)
  have hcap := h2.cap_le
  refine L_vdisk_file_cut fun w1 hd => ?_
  have hk1 : Grew w w1 := hd.keep
  have g1 := hk1.get h1 id
  have hcl := clampN_le n f.bytes.length
  have e : (if (if ((m : Nat) : Int) < n then ((m : Nat) : Int) else n) > 0 then (if ((m : Nat) : Int) < n then ((m : Nat) : Int) else n) else 0) = ((clampN n f.bytes.length : Nat) : Int) := by
    unfold clampN; rw [hlen]; omega
  refine ⟨q, 0, rfl, _, _, _, cell_at g1 rfl, q, 0, rfl, a, m, cap, cell_at g1 rfl, ?_⟩
  dsimp only
  rw [e]
  refine ⟨by omega, by omega, ?_⟩
  rw [Int.toNat_natCast]
  have hrow : Row cU8 1 w1 F a m f.bytes := (h2.row (by decide) (by unfold Big; omega)).grew hk1
  refine PC.ok (slices_Clone_B (hrow.take (m := clampN n f.bytes.length) (by omega)) (fun b hb => Nat.lt_of_lt_of_le (h2.dom b hb) hk1.size)) ?_
  rintro _ w2 ⟨a2, n2, c2, F2, rfl, ho2, hk2, hF2⟩
  have hn2 : n2 = clampN n f.bytes.length := by have := ho2.len (by decide); rw [this]; simp; omega
  have hq2 : q < w1.heap.size := lt_of_get g1
  refine ⟨_, _, _, rfl, q, 0, rfl, PS.mk (hk2.get g1 id) (by simp) fun w3 k3 s3 g3 => ⟨q, 0, rfl, a2, n2, c2, cell_at g3 rfl, q, 0, rfl, PS.mk g3 (by simp) fun w4 k4 s4 g4 => ⟨q, 0, rfl, PS.mk g4 (by simp) fun w5 k5 s5 g5 => Ok.mk ?_⟩⟩⟩
  have hk5 : Keep (· = q) w2 w5 := (k3.then k4).then k5
  have hF2' : ∀ b, F2 b → b ≠ q := fun b hb => by have := hF2 b hb; omega
  refine ⟨fun b => b = q ∨ F2 b, rfl, ⟨⟨a2, n2, c2, F2, ?_, ho2.keep hk5 hF2', fun b hb => .inr hb, fun hq => hF2' q hq rfl⟩, .inl rfl, ?_⟩, ⟨((Grew.keep hk1).then (Grew.keep hk2)).then (hk5.mono fun b _ hb => by rw [hb]; exact h.self), ?_⟩⟩
  · rw [g5]
    subst hn2
    rfl
  · rintro b (rfl | hb)
    · have := hk2.size; omega
    · have := ho2.dom b hb; omega
  · rintro b (rfl | hb)
    · exact .inl h.self
    · have := hF2 b hb; have := hk1.size; exact .inr (by omega)

/-! a disk, opened -/

structure DiskL (w : World) (p : Nat) (F : Nat → Prop) (D : DiskV) (r : Nat) (L : List (ByteArray × Box)) : Prop where
  head : w.heap[p]? = some (.cells #[.int .i64 D.most, .map (some r), .bool D.fused, .int .i64 D.left, .bool D.dead] 80 (0, 0))
  map : MapAt w r Value.string (L.map boxV)
  files : D.files = L.map boxF
  each : Files w L
  inF : ∀ x ∈ L, ∀ b, x.2.G b → F b ∧ b ≠ p ∧ b ≠ r
  Fr : F r
  pr : p ≠ r
  self : F p
  dom : ∀ b, F b → b < w.heap.size
  ok : D.Ok

theorem DiskAt.open {w : World} {p : Nat} {F : Nat → Prop} {D : DiskV} (h : DiskAt w p F D) : ∃ r L, DiskL w p F D r L := by
  obtain ⟨r, L, h1, h2, h3, h4, h5, h6, h7⟩ := h.body
  exact ⟨r, L, h1, h2, h3, h4, h5, h6, h7, h.self, h.dom, h.ok⟩
theorem DiskL.at {w : World} {p : Nat} {F : Nat → Prop} {D : DiskV} {r : Nat} {L : List (ByteArray × Box)} (h : DiskL w p F D r L) : DiskAt w p F D :=
  ⟨⟨r, L, h.head, h.map, h.files, h.each, h.inF, h.Fr, h.pr⟩, h.self, h.dom, h.ok⟩
theorem DiskL.keep {S F : Nat → Prop} {w w' : World} {p : Nat} {D : DiskV} {r : Nat} {L : List (ByteArray × Box)} (h : DiskL w p F D r L) (hk : Keep S w w') (hd : ∀ b, F b → ¬ S b) : DiskL w' p F D r L :=
  ⟨hk.get h.head (hd _ h.self), h.map.keep hk (hd _ h.Fr), h.files, h.each.keep hk (fun x hx b hb => hd b (h.inF x hx b hb).1), h.inF, h.Fr, h.pr, h.self, fun b hb => Nat.lt_of_lt_of_le (h.dom b hb) hk.size, h.ok⟩
theorem DiskL.grew {F : Nat → Prop} {w w' : World} {p : Nat} {D : DiskV} {r : Nat} {L : List (ByteArray × Box)} (h : DiskL w p F D r L) (hk : Grew w w') : DiskL w' p F D r L := h.keep hk fun _ _ h => h

theorem DiskL.box {w : World} {p : Nat} {F : Nat → Prop} {D : DiskV} {r : Nat} {L : List (ByteArray × Box)} (h : DiskL w p F D r L) (k : ByteArray) :
    (aget D.files k = none ∧ aget (L.map boxV) k = none) ∨ ∃ x, aget L k = some x ∧ (k, x) ∈ L ∧ aget D.files k = some x.f ∧ aget (L.map boxV) k = some (ptr x.q) := by
  have h1 : aget (L.map boxV) k = (aget L k).map fun x => ptr x.q := map_aget (fun x : Box => ptr x.q) L k
  have h2 : aget D.files k = (aget L k).map fun x => x.f := by rw [h.files]; exact map_aget (fun x : Box => x.f) L k
  cases hk : aget L k with
  | none => rw [hk] at h1 h2; exact .inl ⟨h2, h1⟩
  | some x => rw [hk] at h1 h2; exact .inr ⟨x, rfl, aget_mem hk, h2, h1⟩

def DiskV.setF (D : DiskV) (k : ByteArray) (f : FileV) : DiskV := { D with files := aput D.files k f }
def DiskV.delF (D : DiskV) (k : ByteArray) : DiskV := { D with files := adel D.files k }

theorem aput_tidy_same {β : Type} {l : List (ByteArray × β)} {k : ByteArray} {v : β} (h : (k, v) ∈ l) (ht : Tidy l) : aput l k v = l := by
  induction l with
  | nil => cases h
  | cons p l ih =>
    obtain ⟨x, u⟩ := p
    unfold aput
    unfold Tidy at ht
    simp only [List.map_cons, List.nodup_cons] at ht
    rcases List.mem_cons.1 h with h | h
    · cases h; simp
    · have : (k == x) = false := beq_false_of_ne fun e => ht.1 (List.mem_map.2 ⟨(k, v), h, e⟩)
      rw [if_neg (by simp [this]), ih h ht.2]

/-- a file turned, in its place -/
theorem DiskL.turn {w w' : World} {p : Nat} {F G' : Nat → Prop} {D : DiskV} {r : Nat} {L : List (ByteArray × Box)} (h : DiskL w p F D r L) {k : ByteArray} {x : Box} (hx : aget L k = some x) {f' : FileV}
    (hf : FileAt w' x.q G' f') (hev : Evo x.G w G' w') (ok : (D.setF k f').Ok) : ∃ F', DiskL w' p F' (D.setF k f') r (aput L k ⟨x.q, G', f'⟩) ∧ Evo F w F' w' := by
  have hm := aget_mem hx
  have hin := h.inF _ hm
  have hS : Keep F w w' := hev.keep.mono fun b _ hb => (hin b hb).1
  have hother : ∀ y ∈ aput L k ⟨x.q, G', f'⟩, y = (k, ⟨x.q, G', f'⟩) ∨ (y ∈ L ∧ y.1 ≠ k) := fun y hy => mem_aput_iff h.each.tidy hy
  refine ⟨fun b => F b ∨ (w.heap.size ≤ b ∧ b < w'.heap.size), ⟨hev.keep.get h.head fun hb => (hin _ hb).2.1 rfl, ?_, ?_, ⟨?_, ?_, h.each.tidy.aput _ _⟩, ?_, .inl h.Fr, h.pr, .inl h.self, ?_, ok⟩, hS, fun b hb => hb.imp id (·.1)⟩
  · have e : (aput L k ⟨x.q, G', f'⟩).map boxV = L.map boxV := by
      have h1 : (aput L k ⟨x.q, G', f'⟩).map boxV = aput (L.map boxV) k (ptr x.q) := map_aput (fun x : Box => ptr x.q) L k _
      rw [h1]
      have h2 : Tidy (L.map boxV) := h.map.tidy
      exact aput_tidy_same (List.mem_map.2 ⟨_, hm, rfl⟩) h2
    rw [e]
    exact h.map.keep hev.keep fun hb => (hin _ hb).2.2 rfl
  · have h1 : (aput L k ⟨x.q, G', f'⟩).map boxF = aput (L.map boxF) k f' := map_aput (fun x : Box => x.f) L k _
    rw [h1, ← h.files]; rfl
  · intro y hy
    rcases hother y hy with rfl | ⟨hy, hne⟩
    · exact hf
    · exact (h.each.each y hy).keep hev.keep fun b hb => h.each.apart y hy _ hm hne b hb
  · intro y hy z hz hyz b hb hbz
    rcases hother y hy with rfl | ⟨hy, hne⟩ <;> rcases hother z hz with rfl | ⟨hz, hne2⟩
    · exact hyz rfl
    · rcases hev.new b hb with h1 | h1
      · exact h.each.apart _ hm z hz hyz b h1 hbz
      · have := (h.each.each z hz).dom b hbz; omega
    · rcases hev.new b hbz with h1 | h1
      · exact h.each.apart y hy _ hm hyz b hb h1
      · have := (h.each.each y hy).dom b hb; omega
    · exact h.each.apart y hy z hz hyz b hb hbz
  · intro y hy b hb
    rcases hother y hy with rfl | ⟨hy, hne⟩
    · have hp := lt_of_get h.head
      have hr := h.map.lt
      rcases hev.new b hb with h1 | h1
      · exact ⟨.inl (hin b h1).1, (hin b h1).2⟩
      · exact ⟨.inr ⟨h1, hf.dom b hb⟩, by omega, by omega⟩
    · exact ⟨.inl (h.inF y hy b hb).1, (h.inF y hy b hb).2⟩
  · rintro b (hb | hb)
    · exact Nat.lt_of_lt_of_le (h.dom b hb) hev.keep.size
    · exact hb.2

/-- a file let go -/
theorem DiskL.drop {w w' : World} {p : Nat} {F : Nat → Prop} {D : DiskV} {r : Nat} {L : List (ByteArray × Box)} (h : DiskL w p F D r L) {k : ByteArray}
    (hm : MapAt w' r Value.string (adel (L.map boxV) k)) (hk : Keep (· = r) w w') (ok : (D.delF k).Ok) : DiskL w' p F (D.delF k) r (adel L k) := by
  have hmem : ∀ y ∈ adel L k, y ∈ L := fun y hy => mem_adel_pair hy
  refine ⟨hk.get h.head (fun e => h.pr e), ?_, ?_, ⟨fun y hy => ((h.each.each y (hmem y hy)).keep hk fun b hb => (h.inF y (hmem y hy) b hb).2.2), fun y hy z hz => h.each.apart y (hmem y hy) z (hmem z hz), h.each.tidy.adel k⟩, fun y hy => h.inF y (hmem y hy), h.Fr, h.pr, h.self, fun b hb => Nat.lt_of_lt_of_le (h.dom b hb) hk.size, ok⟩
  · have e : (adel L k).map boxV = adel (L.map boxV) k := map_adel (fun x : Box => ptr x.q) L k
    rw [e]; exact hm
  · have e : (adel L k).map boxF = adel (L.map boxF) k := map_adel (fun x : Box => x.f) L k
    rw [e, ← h.files]; rfl

/-- a file put, apart from all others -/
theorem DiskL.put {w w' : World} {p : Nat} {F G' : Nat → Prop} {D : DiskV} {r : Nat} {L : List (ByteArray × Box)} (h : DiskL w p F D r L) {k : ByteArray} {q : Nat} {f' : FileV}
    (hm : MapAt w' r Value.string (aput (L.map boxV) k (ptr q))) (hk : Keep (· = r) w w') (hf : FileAt w q G' f') (hap : ∀ y ∈ L, y.1 ≠ k → ∀ b, G' b → ¬ y.2.G b) (hG : ∀ b, G' b → b ≠ p ∧ b ≠ r) (ok : (D.setF k f').Ok) :
    DiskL w' p (fun b => F b ∨ G' b) (D.setF k f') r (aput L k ⟨q, G', f'⟩) := by
  have hother : ∀ y ∈ aput L k ⟨q, G', f'⟩, y = (k, ⟨q, G', f'⟩) ∨ (y ∈ L ∧ y.1 ≠ k) := fun y hy => mem_aput_iff h.each.tidy hy
  refine ⟨hk.get h.head (fun e => h.pr e), ?_, ?_, ⟨?_, ?_, h.each.tidy.aput _ _⟩, ?_, .inl h.Fr, h.pr, .inl h.self, ?_, ok⟩
  · have e : (aput L k ⟨q, G', f'⟩).map boxV = aput (L.map boxV) k (ptr q) := map_aput (fun x : Box => ptr x.q) L k _
    rw [e]; exact hm
  · have e : (aput L k ⟨q, G', f'⟩).map boxF = aput (L.map boxF) k f' := map_aput (fun x : Box => x.f) L k _
    rw [e, ← h.files]; rfl
  · intro y hy
    rcases hother y hy with rfl | ⟨hy, hne⟩
    · exact hf.keep hk fun b hb => (hG b hb).2
    · exact (h.each.each y hy).keep hk fun b hb => (h.inF y hy b hb).2.2
  · intro y hy z hz hyz b hb hbz
    rcases hother y hy with rfl | ⟨hy, hne⟩ <;> rcases hother z hz with rfl | ⟨hz, hne2⟩
    · exact hyz rfl
    · exact hap z hz hne2 b hb hbz
    · exact hap y hy hne b hbz hb
    · exact h.each.apart y hy z hz hyz b hb hbz
  · intro y hy b hb
    rcases hother y hy with rfl | ⟨hy, hne⟩
    · exact ⟨.inr hb, hG b hb⟩
    · exact ⟨.inl (h.inF y hy b hb).1, (h.inF y hy b hb).2⟩
  · rintro b (hb | hb)
    · exact Nat.lt_of_lt_of_le (h.dom b hb) hk.size
    · exact Nat.lt_of_lt_of_le (hf.dom b hb) hk.size
end Go.Proofs.YtpbpjojdfcdbbaaGreatDoor
