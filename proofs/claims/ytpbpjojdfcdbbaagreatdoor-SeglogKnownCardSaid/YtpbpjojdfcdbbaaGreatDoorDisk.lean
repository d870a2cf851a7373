/- vdisk: files on a disk: how one lies, and what keeps it -/
import Derived.Test.YtpbpjojdfcdbbaaGreatDoorBytes8
import Derived.Test.YtpbpjojdfcdbbaaGreatDoorRange
namespace Go.Proofs.YtpbpjojdfcdbbaaGreatDoor
open Go.Lift
set_option linter.unusedVariables false
set_option maxRecDepth 20000

def okByte (b : UInt8) : Bool := (97 ≤ b && b ≤ 122) || (48 ≤ b && b ≤ 57) || b == 46
def isNameV (s : ByteArray) : Bool := decide (1 ≤ s.size) && decide (s.size ≤ 16) && s.data.toList.all okByte

structure FileV where
  bytes : List UInt8
  synced : Nat
  good : Bool
  deriving DecidableEq

structure DiskV where
  most : Nat
  files : List (ByteArray × FileV)
  fused : Bool
  left : Int
  dead : Bool
  deriving DecidableEq

def sumLen (l : List (ByteArray × FileV)) : Nat := (l.map fun x => x.2.bytes.length).sum
def DiskV.used (D : DiskV) : Nat := sumLen D.files

structure DiskV.Ok (D : DiskV) : Prop where
  most : D.most ≤ 262144
  fits : D.used ≤ D.most
  many : D.files.length ≤ 64
  tidy : Tidy D.files
  names : ∀ x ∈ D.files, isNameV x.1 = true
  syn : ∀ x ∈ D.files, x.2.synced ≤ x.2.bytes.length
  left0 : 0 ≤ D.left
  leftR : I64 D.left

theorem sumLen_mem {l : List (ByteArray × FileV)} {x : ByteArray × FileV} (h : x ∈ l) : x.2.bytes.length ≤ sumLen l := by
  unfold sumLen
  induction l with
  | nil => cases h
  | cons y l ih =>
    simp only [List.map_cons, List.sum_cons]
    rcases List.mem_cons.1 h with rfl | h
    · omega
    · have := ih h; omega

theorem DiskV.Ok.len {D : DiskV} (h : D.Ok) {x : ByteArray × FileV} (hx : x ∈ D.files) : x.2.bytes.length ≤ 262144 := by
  have := sumLen_mem hx; have := h.fits; have := h.most; unfold DiskV.used at *; omega

/-- block q is a file, in the blocks of G -/
structure FileAt (w : World) (q : Nat) (G : Nat → Prop) (f : FileV) : Prop where
  body : ∃ a n cap F, w.heap[q]? = some (.cells #[.slice a n cap, .int .i64 f.synced, .bool f.good] 94 (0, 0)) ∧ Lst cU8 5 F w a n cap f.bytes ∧ (∀ b, F b → G b) ∧ ¬ F q
  self : G q
  dom : ∀ b, G b → b < w.heap.size

theorem FileAt.keep {S G : Nat → Prop} {w w' : World} {q : Nat} {f : FileV} (h : FileAt w q G f) (hk : Keep S w w') (hd : ∀ b, G b → ¬ S b) : FileAt w' q G f := by
  obtain ⟨a, n, cap, F, h1, h2, h3, h4⟩ := h.body
  exact ⟨⟨a, n, cap, F, hk.get h1 (hd _ h.self), h2.keep hk (fun b hb => hd b (h3 b hb)), h3, h4⟩, h.self, fun b hb => Nat.lt_of_lt_of_le (h.dom b hb) hk.size⟩

structure Box where
  q : Nat
  G : Nat → Prop
  f : FileV

def ptr (q : Nat) : Value := .pointer (some ⟨q, 0, none⟩)
def boxV (x : ByteArray × Box) : ByteArray × Value := (x.1, ptr x.2.q)
def boxF (x : ByteArray × Box) : ByteArray × FileV := (x.1, x.2.f)

/-- the files, each in its own blocks -/
structure Files (w : World) (L : List (ByteArray × Box)) : Prop where
  each : ∀ x ∈ L, FileAt w x.2.q x.2.G x.2.f
  apart : ∀ x ∈ L, ∀ y ∈ L, x.1 ≠ y.1 → ∀ b, x.2.G b → ¬ y.2.G b
  tidy : Tidy L

/-- block p is a disk, in the blocks of F -/
structure DiskAt (w : World) (p : Nat) (F : Nat → Prop) (D : DiskV) : Prop where
  body : ∃ r L, w.heap[p]? = some (.cells #[.int .i64 D.most, .map (some r), .bool D.fused, .int .i64 D.left, .bool D.dead] 80 (0, 0)) ∧ MapAt w r Value.string (L.map boxV) ∧ D.files = L.map boxF ∧ Files w L ∧
    (∀ x ∈ L, ∀ b, x.2.G b → F b ∧ b ≠ p ∧ b ≠ r) ∧ F r ∧ p ≠ r
  self : F p
  dom : ∀ b, F b → b < w.heap.size
  ok : D.Ok

theorem Files.keep {S : Nat → Prop} {w w' : World} {L : List (ByteArray × Box)} (h : Files w L) (hk : Keep S w w') (hd : ∀ x ∈ L, ∀ b, x.2.G b → ¬ S b) : Files w' L :=
  ⟨fun x hx => (h.each x hx).keep hk (hd x hx), h.apart, h.tidy⟩

theorem DiskAt.keep {S F : Nat → Prop} {w w' : World} {p : Nat} {D : DiskV} (h : DiskAt w p F D) (hk : Keep S w w') (hd : ∀ b, F b → ¬ S b) : DiskAt w' p F D := by
  obtain ⟨r, L, h1, h2, h3, h4, h5, h6, h7⟩ := h.body
  exact ⟨⟨r, L, hk.get h1 (hd _ h.self), h2.keep hk (hd _ h6), h3, h4.keep hk (fun x hx b hb => hd b (h5 x hx b hb).1), h5, h6, h7⟩, h.self, fun b hb => Nat.lt_of_lt_of_le (h.dom b hb) hk.size, h.ok⟩
theorem DiskAt.grew {F : Nat → Prop} {w w' : World} {p : Nat} {D : DiskV} (h : DiskAt w p F D) (hk : Grew w w') : DiskAt w' p F D := h.keep hk fun _ _ h => h

/-! lists by keys -/

theorem map_aput {β γ : Type} (f : β → γ) (l : List (ByteArray × β)) (k : ByteArray) (v : β) : (aput l k v).map (fun x => (x.1, f x.2)) = aput (l.map fun x => (x.1, f x.2)) k (f v) := by
  induction l with
  | nil => rfl
  | cons p l ih =>
    obtain ⟨x, u⟩ := p
    simp only [aput, List.map_cons]
    split
    · rfl
    · simp [ih]
theorem map_adel {β γ : Type} (f : β → γ) (l : List (ByteArray × β)) (k : ByteArray) : (adel l k).map (fun x => (x.1, f x.2)) = adel (l.map fun x => (x.1, f x.2)) k := by
  induction l with
  | nil => rfl
  | cons p l ih =>
    obtain ⟨x, u⟩ := p
    simp only [adel, List.map_cons]
    split
    · rfl
    · simp [ih]
theorem map_aget {β γ : Type} (f : β → γ) (l : List (ByteArray × β)) (k : ByteArray) : aget (l.map fun x => (x.1, f x.2)) k = (aget l k).map f := by
  induction l with
  | nil => rfl
  | cons p l ih =>
    obtain ⟨x, u⟩ := p
    simp only [aget, List.map_cons]
    split
    · rfl
    · exact ih
theorem mem_aput_iff {β : Type} {l : List (ByteArray × β)} (ht : Tidy l) {k : ByteArray} {v : β} {p : ByteArray × β} (h : p ∈ aput l k v) : p = (k, v) ∨ (p ∈ l ∧ p.1 ≠ k) := by
  by_cases hk : p.1 = k
  · left
    have := mem_aget (ht.aput k v) (k := p.1) (v := p.2) h
    rw [aget_aput, hk] at this
    simp at this
    exact Prod.ext hk this.symm
  · rcases mem_aput_pair h with rfl | h
    · exact .inl rfl
    · exact .inr ⟨h, hk⟩
theorem mem_adel_iff {β : Type} {l : List (ByteArray × β)} (ht : Tidy l) {k : ByteArray} {p : ByteArray × β} (h : p ∈ adel l k) : p ∈ l ∧ p.1 ≠ k := by
  refine ⟨mem_adel_pair h, fun hk => ?_⟩
  have h1 := mem_aget (ht.adel k) (k := p.1) (v := p.2) h
  rw [aget_adel ht, hk] at h1
  simp at h1

theorem sumLen_aput {l : List (ByteArray × FileV)} {k : ByteArray} {f : FileV} : sumLen (aput l k f) + ((aget l k).map fun g => g.bytes.length).getD 0 = sumLen l + f.bytes.length := by
  unfold sumLen
  induction l with
  | nil => simp [aput, aget]
  | cons p l ih =>
    obtain ⟨x, u⟩ := p
    simp only [aput, aget]
    split
    · simp; omega
    · simp only [List.map_cons, List.sum_cons] at ih ⊢; omega
theorem sumLen_adel {l : List (ByteArray × FileV)} {k : ByteArray} : sumLen (adel l k) + ((aget l k).map fun g => g.bytes.length).getD 0 = sumLen l := by
  unfold sumLen
  induction l with
  | nil => simp [adel, aget]
  | cons p l ih =>
    obtain ⟨x, u⟩ := p
    simp only [adel, aget]
    split
    · simp; omega
    · simp only [List.map_cons, List.sum_cons] at ih ⊢; omega
theorem length_aput_some {β : Type} {l : List (ByteArray × β)} {k : ByteArray} {v : β} (h : (aget l k).isSome = true) : (aput l k v).length = l.length := by
  induction l with
  | nil => simp [aget] at h
  | cons p l ih =>
    obtain ⟨x, u⟩ := p
    simp only [aput, aget] at h ⊢
    split
    · rfl
    · rename_i hk
      rw [if_neg hk] at h
      simp [ih h]

/-! the disk's own cells -/

theorem DiskAt.head {w : World} {p : Nat} {F : Nat → Prop} {D : DiskV} (h : DiskAt w p F D) : ∃ r, w.heap[p]? = some (.cells #[.int .i64 D.most, .map (some r), .bool D.fused, .int .i64 D.left, .bool D.dead] 80 (0, 0)) := by
  obtain ⟨r, L, h1, _⟩ := h.body
  exact ⟨r, h1⟩

theorem DiskAt.remake {w w1 : World} {p : Nat} {F : Nat → Prop} {D D' : DiskV} (h : DiskAt w p F D) (hk : Keep (· = p) w w1)
    (hp : ∀ r, w.heap[p]? = some (.cells #[.int .i64 D.most, .map (some r), .bool D.fused, .int .i64 D.left, .bool D.dead] 80 (0, 0)) → w1.heap[p]? = some (.cells #[.int .i64 D'.most, .map (some r), .bool D'.fused, .int .i64 D'.left, .bool D'.dead] 80 (0, 0)))
    (hf : D'.files = D.files) (ok : D'.Ok) : DiskAt w1 p F D' := by
  obtain ⟨r, L, h1, h2, h3, h4, h5, h6, h7⟩ := h.body
  exact ⟨⟨r, L, hp r h1, h2.keep hk (fun e => h7 e.symm), hf.trans h3, h4.keep hk (fun x hx b hb => (h5 x hx b hb).2.1), h5, h6, h7⟩, h.self, fun b hb => Nat.lt_of_lt_of_le (h.dom b hb) hk.size, ok⟩

theorem DiskAt.setDead {w : World} {p : Nat} {F : Nat → Prop} {D : DiskV} (h : DiskAt w p F D) {b : Bool} {κ : World → Prop} (hκ : ∀ w1, DiskAt w1 p F { D with dead := b } → Keep F w w1 → w1.heap.size = w.heap.size → κ w1) : PS w ⟨p, 0 + 4, none⟩ (.bool b) κ := by
  obtain ⟨r, h1⟩ := h.head
  refine PS.mk h1 (by simp) fun w1 k1 s1 g1 => hκ w1 (h.remake k1 (fun r' h' => ?_) rfl ⟨h.ok.most, h.ok.fits, h.ok.many, h.ok.tidy, h.ok.names, h.ok.syn, h.ok.left0, h.ok.leftR⟩) (k1.mono fun b _ hb => hb ▸ h.self) s1
  rw [h1] at h'; cases h'; exact g1
theorem DiskAt.setFused {w : World} {p : Nat} {F : Nat → Prop} {D : DiskV} (h : DiskAt w p F D) {b : Bool} {κ : World → Prop} (hκ : ∀ w1, DiskAt w1 p F { D with fused := b } → Keep F w w1 → w1.heap.size = w.heap.size → κ w1) : PS w ⟨p, 0 + 2, none⟩ (.bool b) κ := by
  obtain ⟨r, h1⟩ := h.head
  refine PS.mk h1 (by simp) fun w1 k1 s1 g1 => hκ w1 (h.remake k1 (fun r' h' => ?_) rfl ⟨h.ok.most, h.ok.fits, h.ok.many, h.ok.tidy, h.ok.names, h.ok.syn, h.ok.left0, h.ok.leftR⟩) (k1.mono fun b _ hb => hb ▸ h.self) s1
  rw [h1] at h'; cases h'; exact g1
theorem DiskAt.setLeft {w : World} {p : Nat} {F : Nat → Prop} {D : DiskV} (h : DiskAt w p F D) {n : Int} (h0 : 0 ≤ n) (hn : I64 n) {κ : World → Prop} (hκ : ∀ w1, DiskAt w1 p F { D with left := n } → Keep F w w1 → w1.heap.size = w.heap.size → κ w1) : PS w ⟨p, 0 + 3, none⟩ (.int .i64 n) κ := by
  obtain ⟨r, h1⟩ := h.head
  refine PS.mk h1 (by simp) fun w1 k1 s1 g1 => hκ w1 (h.remake k1 (fun r' h' => ?_) rfl ⟨h.ok.most, h.ok.fits, h.ok.many, h.ok.tidy, h.ok.names, h.ok.syn, h0, hn⟩) (k1.mono fun b _ hb => hb ▸ h.self) s1
  rw [h1] at h'; cases h'; exact g1

theorem vdisk_New {n : Int} {w : World} : Calls Tryz.prog F_vdisk_New #[.int .i64 n] w (Ok fun v w' =>
    if n < 64 ∨ n > 262144 then v = .tuple #[.pointer none, .int .i64 1] ∧ w' = w
    else ∃ p F, v = .tuple #[.pointer (some ⟨p, 0, none⟩), .int .i64 0] ∧ DiskAt w' p F ⟨n.toNat, [], false, 0, false⟩ ∧ Grew w w' ∧ ∀ b, F b → w.heap.size ≤ b) := by
  refine L_vdisk_New (PIf.dec (fun h => ?_) (fun h => PIf.dec (fun h2 => ?_) (fun h2 => ?_)))
  · exact Ok.mk (by rw [if_pos (.inl h)]; exact ⟨rfl, rfl⟩)
  · exact Ok.mk (by rw [if_pos (.inr h2)]; exact ⟨rfl, rfl⟩)
  · refine PA.mk fun w1 k1 s1 g1 => PA.mk fun w2 k2 s2 g2 => Ok.mk ?_
    rw [if_neg (by omega)]
    refine ⟨w1.heap.size, fun b => w.heap.size ≤ b ∧ b < w2.heap.size, rfl, ⟨⟨w.heap.size, [], ?_, MapAt.new (k2.get g1 id), rfl, ⟨by simp, by simp, by simp [Tidy]⟩, by simp, by omega, by omega⟩, by omega, fun b h => h.2, ?_⟩, k1.grew k2, fun b h => h.1⟩
    · rw [g2]
      have : ((n.toNat : Nat) : Int) = n := by omega
      rw [this]
    · exact ⟨by show n.toNat ≤ _; omega, by simp [DiskV.used, sumLen], by simp, by simp [Tidy], by simp, by simp, by simp, by unfold I64; simp⟩

def DiskV.fuse (D : DiskV) (n : Int) : DiskV := { D with fused := true, left := max n 0 }
theorem Disk_Fuse {w : World} {p : Nat} {F : Nat → Prop} {D : DiskV} {n : Int} (hn : I64 n) (h : DiskAt w p F D) : Calls Tryz.prog F_vdisk_Disk_Fuse #[.pointer (some ⟨p, 0, none⟩), .int .i64 n] w (Ok fun v w' => v = .tuple #[] ∧ DiskAt w' p F (D.fuse n) ∧ Evo F w F w') := by
  have e : (if n > 0 then n else 0) = max n 0 := by omega
  refine L_vdisk_Disk_Fuse ⟨p, 0, rfl, h.setFused fun w1 h1 k1 s1 => ⟨p, 0, rfl, h1.setLeft (by omega) (by unfold I64 at *; omega) fun w2 h2 k2 s2 => Ok.mk ⟨rfl, ?_, k1.then k2, fun _ h => .inl h⟩⟩⟩
  rw [e] at h2; exact h2

def DiskV.dies (D : DiskV) : Bool := D.dead || (D.fused && D.left == 0)
def DiskV.armed (D : DiskV) : DiskV := if D.fused then { D with left := D.left - 1 } else D
def DiskV.gone (D : DiskV) : DiskV := { D with dead := true }

theorem Disk_write {w : World} {p : Nat} {F : Nat → Prop} {D : DiskV} (h : DiskAt w p F D) {g : FuncId} {fi ca : Array Value} {e : Int} {D' : DiskV} (hen : enters Tryz.prog g = true)
    (hf : D.dies = false → ∀ w1, DiskAt w1 p F D.armed → Keep F w w1 → w1.heap.size = w.heap.size → Calls Tryz.prog g (fi ++ #[] ++ ca) w1 (Ok fun v w' => ∃ F', v = .int .i64 e ∧ DiskAt w' p F' D' ∧ Evo F w1 F' w')) :
    Calls Tryz.prog F_vdisk_Disk_write #[.pointer (some ⟨p, 0, none⟩), .func (.func g) fi ca] w (Ok fun v w' => ∃ F', v = .int .i64 (if D.dies then 15 else e) ∧ DiskAt w' p F' (if D.dies then D.gone else D') ∧ Evo F w F' w') := by
  obtain ⟨r, h1⟩ := h.head
  have dead : ∀ w1, D.dies = true → DiskAt w1 p F { D with dead := true } → Keep F w w1 → Ok (fun v w' => ∃ F', v = .int .i64 (if D.dies then 15 else e) ∧ DiskAt w' p F' (if D.dies then D.gone else D') ∧ Evo F w F' w') (.returned (.int .i64 15)) w1 :=
    fun w1 hd hD hk => Ok.mk ⟨F, by rw [hd]; rfl, by rw [hd]; exact hD, hk, fun _ h => .inl h⟩
  refine L_vdisk_Disk_write ⟨fun w1 => DiskAt w1 p F D ∧ Keep F w w1 ∧ w1.heap.size = w.heap.size ∧ D.dies = false, ?_, ?_⟩
  · refine ⟨p, 0, rfl, _, cell_at h1 rfl, PIf.mk (fun hd => ⟨p, 0, rfl, h.setDead fun w1 hD k1 s1 => ?_⟩) (fun hd => ⟨p, 0, rfl, _, cell_at h1 rfl, PIf.mk (fun hfu => ⟨p, 0, rfl, _, cell_at h1 rfl, p, 0, rfl, h.setDead fun w1 hD k1 s1 => ?_⟩) (fun hfu => ⟨p, 0, rfl, h.setDead fun w1 hD k1 s1 => ?_⟩)⟩)⟩
    · obtain ⟨r1, g1⟩ := hD.head
      exact ⟨p, 0, rfl, true, cell_at g1 rfl, dead w1 (by simp [DiskV.dies, hd]) hD k1⟩
    · obtain ⟨r1, g1⟩ := hD.head
      refine ⟨p, 0, rfl, D.left == 0, cell_at g1 rfl, PIf.mk (fun hl => dead w1 (by unfold DiskV.dies; rw [hfu, hl]; simp) (by rw [hl] at hD; exact hD) k1) (fun hl => ⟨?_, k1, s1, by unfold DiskV.dies; rw [hd, hl]; simp⟩)⟩
      have : ({ D with dead := D.left == 0 } : DiskV) = D := by rw [hl, ← hd]
      rw [this] at hD; exact hD
    · obtain ⟨r1, g1⟩ := hD.head
      refine ⟨p, 0, rfl, false, cell_at g1 rfl, ?_, k1, s1, by simp [DiskV.dies, hd, hfu]⟩
      have : ({ D with dead := false } : DiskV) = D := by rw [← hd]
      rw [this] at hD; exact hD
  · rintro B w1 ⟨hD, k1, s1, hnd⟩
    obtain ⟨r1, g1⟩ := hD.head
    have fin : ∀ w2, DiskAt w2 p F D.armed → Keep F w w2 → w2.heap.size = w.heap.size → PC Tryz.prog g (fi ++ #[] ++ ca) w2 (fun v w' => ∃ t : Int, v = .int .i64 t ∧ Ok (fun v w' => ∃ F', v = .int .i64 (if D.dies then 15 else e) ∧ DiskAt w' p F' (if D.dies then D.gone else D') ∧ Evo F w F' w') (.returned (.int .i64 t)) w')
        (fun ch w' => Ok (fun v w' => ∃ F', v = .int .i64 (if D.dies then 15 else e) ∧ DiskAt w' p F' (if D.dies then D.gone else D') ∧ Evo F w F' w') (.panicked ch) w') := by
      intro w2 hD2 k2 s2
      refine PC.ok (hf hnd w2 hD2 k2 s2) ?_
      rintro _ w3 ⟨F', rfl, hD3, hev⟩
      exact ⟨e, rfl, Ok.mk ⟨F', by rw [hnd]; rfl, by rw [hnd]; exact hD3, (Evo.mk k2 fun _ h => .inl h : Evo F w F w2).trans hev⟩⟩
    refine ⟨p, 0, rfl, _, cell_at g1 rfl, PIf.mk (fun hfu => ?_) (fun hfu => ?_)⟩
    · have hne : D.left ≠ 0 := by
        intro h0
        simp [DiskV.dies, hfu, h0] at hnd
      have h0 := hD.ok.left0
      have hR := hD.ok.leftR
      have hw : IntKind.wrap .i64 (D.left - 1) = D.left - 1 := wrap_i64 (by unfold I64 at *; omega)
      refine ⟨p, 0, rfl, _, cell_at g1 rfl, p, 0, rfl, ?_⟩
      rw [hw]
      refine hD.setLeft (by omega) (by unfold I64 at *; omega) fun w2 hD2 k2 s2 => ⟨g, fi, ca, rfl, hen, fin w2 ?_ (k1.then k2) (s2.trans s1)⟩
      unfold DiskV.armed; rw [if_pos hfu]; exact hD2
    · refine ⟨g, fi, ca, rfl, hen, fin w1 ?_ k1 s1⟩
      unfold DiskV.armed; rw [if_neg (by simp [hfu])]; exact hD
end Go.Proofs.YtpbpjojdfcdbbaaGreatDoor
