/- quaysideref19: how its disk lies: the files by rising names, each with its own bytes -/
import Derived.Test.YticehdfebghloaaLawD2
import Derived.Sort.Walk0
namespace Go.Lift
open Go
set_option linter.unusedVariables false

/-- one cell of an own block, written -/
theorem Own.set {w : World} {e : TypeId} {k : Nat} {a : Option Addr} {n cap : Nat} {cs : List Value} (h : Own w e k a n cap cs) {m : Nat} {v : Value} {κ : World → Prop} (hm : m < cs.length) {b off : Nat} (ha : a = some ⟨b, off, none⟩)
    (hκ : ∀ w1, Own w1 e k a n cap (cs.set m v) → Keep (fun b => blk a = some b) w w1 → w1.heap.size = w.heap.size → κ w1) : PS w ⟨b, off + m, none⟩ v κ := by
  have hl := h.row.1
  rcases h.row.2 with ⟨he, hn⟩ | ⟨g, cp, cur, he, h0, hg, hnc, hmx, hcs, htake⟩
  · simp only [Value.slice.injEq] at he
    rw [he.1] at ha; cases ha
  · simp only [Value.slice.injEq] at he
    obtain ⟨he1, -, he3⟩ := he
    subst he1
    subst he3
    cases ha
    rw [Nat.zero_add]
    have hmc : m < cur.size := by
      have := congrArg List.length htake
      simp at this
      omega
    refine PS.mk hg hmc fun w1 k1 s1 g1 => hκ w1 ⟨⟨by simpa using hl, .inr ⟨_, _, _, rfl, h0, g1, hnc, hmx, by simpa using hcs, ?_⟩⟩⟩ (k1.mono fun b _ hb => by rw [hb]; rfl) s1
    rw [Array.toList_setIfInBounds, List.take_set, htake]

theorem Reps.flat_iff {α : Type} {k : Nat} {enc : α → List Value} {hl h1} {w : World} {D : Nat → Prop} : ∀ {xs : List α} {cs : List Value}, Reps (flat k enc (fun _ => True) hl h1) w D xs cs ↔ cs = xs.flatMap enc
  | [], cs => by simp [Reps]
  | x :: xs, cs => by
    constructor
    · rintro ⟨es, r, rfl, ⟨rfl, -⟩, h3⟩
      rw [Reps.flat_iff.1 h3]; rfl
    · rintro rfl
      exact ⟨enc x, xs.flatMap enc, rfl, ⟨rfl, trivial⟩, Reps.flat_iff.2 rfl⟩

theorem flatMap_set {α : Type} {enc : α → List Value} {k : Nat} (hl : ∀ x, (enc x).length = k) {x' : α} {v : Value} {j : Nat} (hj : j < k) : ∀ (xs : List α) (i : Nat) (x : α), xs[i]? = some x → enc x' = (enc x).set j v → (xs.flatMap enc).set (i * k + j) v = (xs.set i x').flatMap enc
  | [], i, x, h, _ => by simp at h
  | y :: ys, 0, x, h, he => by
    simp at h; subst h
    rw [List.flatMap_cons, List.set_cons_zero, List.flatMap_cons, Nat.zero_mul, Nat.zero_add, List.set_append_left _ _ (by rw [hl]; exact hj), he]
  | y :: ys, i + 1, x, h, he => by
    have := flatMap_set hl hj ys i x (by simpa using h) he
    have e : (i + 1) * k + j - k = i * k + j := by rw [Nat.add_mul]; omega
    have e2 : k ≤ (i + 1) * k + j := by rw [Nat.add_mul]; omega
    rw [List.flatMap_cons, List.set_cons_succ, List.flatMap_cons, List.set_append_right _ _ (by rw [hl]; exact e2), hl, e, this]

theorem flatMap_length {α : Type} {enc : α → List Value} {k : Nat} (hl : ∀ x, (enc x).length = k) : ∀ xs : List α, (xs.flatMap enc).length = xs.length * k
  | [] => by simp
  | x :: xs => by rw [List.flatMap_cons, List.length_append, hl, flatMap_length hl xs, List.length_cons, Nat.add_mul, Nat.one_mul, Nat.add_comm]

theorem Lst.set {α : Type} {k : Nat} {enc : α → List Value} {hl h1} {e : TypeId} {F : Nat → Prop} {w : World} {a : Option Addr} {n cap : Nat} {xs : List α} (h : Lst (flat k enc (fun _ => True) hl h1) e F w a n cap xs) {i j : Nat} {x x' : α} {v : Value} {κ : World → Prop}
    (hx : xs[i]? = some x) (hj : j < k) (he : enc x' = (enc x).set j v) {b off : Nat} (ha : a = some ⟨b, off, none⟩)
    (hκ : ∀ w1, Lst (flat k enc (fun _ => True) hl h1) e F w1 a n cap (xs.set i x') → Keep (fun b => blk a = some b) w w1 → w1.heap.size = w.heap.size → κ w1) : PS w ⟨b, off + i * k + j, none⟩ v κ := by
  obtain ⟨cs, D, ho, hr, hD⟩ := h.body
  have hc := Reps.flat_iff.1 hr
  subst hc
  have hil : i < xs.length := (List.getElem?_eq_some_iff.1 hx).1
  rw [Nat.add_assoc]
  refine ho.set (m := i * k + j) ?_ ha fun w1 ho1 k1 s1 => hκ w1 ⟨⟨_, D, ho1, Reps.flat_iff.2 (flatMap_set hl hj xs i x hx he), hD⟩, h.self, fun b hb => by rw [s1]; exact h.dom b hb⟩ k1 s1
  rw [flatMap_length hl]
  have : (i + 1) * k ≤ xs.length * k := Nat.mul_le_mul_right _ hil
  rw [Nat.add_mul] at this
  omega
/-- none more, from a slice that is nil, whatever its room is said to be -/
theorem run_append_none0 {P : Program} {w : World} (base : Nat) (t ty e : TypeId) (i : TypeInfo) (size : Nat) (ht : P.underlying t = some (.slice e)) (hi : P.info? e = some i)
    (v : Value) (n : Nat) (xs : List Value) (hown : w.ownsRow base e size v n xs) (mc : Nat) :
    (Builtin.append_ #[t, t] ty #[v, .slice none 0 mc]).run P w = .ok v w := by
  rcases hown.2 with ⟨rfl, rfl⟩ | ⟨g, cap, cur, rfl, _, _, hnc, _⟩
  · simp [Builtin.append_, run_underlying ht, sizeOf, typeInfo, hi, Builtin.lenOf, Builtin.firstCells]
  · simp [Builtin.append_, run_underlying ht, sizeOf, typeInfo, hi, Builtin.lenOf, Builtin.firstCells, hnc, storeCells]
theorem appRow0 {α : Type} {c : Cod α} {e : TypeId} {w : World} {F : Nat → Prop} {a : Option Addr} {n cap : Nat} {xs : List α} {P : Program} {t ty : TypeId} {bytes : Nat} {κ ε : Value → World → Prop} (h : Lst c e F w a n cap xs) (hT : SlT P t e c.k bytes)
    {D : Nat → Prop} {a2 : Option Addr} {m mc : Nat} {ys : List α} (hx : Row c bytes w D a2 m ys) (hD : ∀ b, D b → b < w.heap.size ∧ blk a ≠ some b) (hb : (xs.length + ys.length) * bytes ≤ Big) (hm : xs.length + ys.length ≤ maxLen)
    (hκ : ∀ a' cap' w' F', Lst c e F' w' a' (n + m) cap' (xs ++ ys) → Keep (fun j => blk a = some j) w w' → (∀ b, F' b → F b ∨ D b ∨ w.heap.size ≤ b) → (∀ b, blk a' = some b → F b ∨ w.heap.size ≤ b) → κ (.slice a' (n + m) cap') w') :
    PRun P (Builtin.append_ #[t, t] ty #[.slice a n cap, .slice a2 m mc]) w κ ε := by
  cases a2 with
  | some p => exact appRow h hT hx hD hb hm hκ
  | none =>
    have hy : ys = [] := by
      cases ys with
      | nil => rfl
      | cons y r => obtain ⟨b, off, es, ha, _⟩ := hx.el 0 y rfl; cases ha
    subst hy
    obtain rfl : m = 0 := hx.len
    obtain ⟨i, z, hi, hz, hs, hby, hzs⟩ := SlT.info hT
    obtain ⟨cs, D0, ho, hr, hD0⟩ := h.body
    exact PRun.mk (run_append_none0 (P := P) (w := w) 0 t ty e i c.k hT.under hi (.slice a n cap) n cs ho.row mc) (hκ a cap w F (by simpa using h) (Keep.refl _) (fun b hb => .inl hb) fun b hb => .inl (h.self b hb))
end Go.Lift
namespace Go.Proofs.Yticehdfebghloaa
open Go.Lift
set_option linter.unusedVariables false
set_option maxRecDepth 20000

structure RBox where
  a : Option Addr
  n : Nat
  c : Nat
  F : Nat → Prop
  f : FileV

abbrev RB := ByteArray × RBox
def encB (x : RB) : List Value := [.string x.1, .slice x.2.a x.2.n x.2.c, .int .i64 x.2.f.synced, .bool x.2.f.good]
def cBox : Cod RB := flat 4 encB (fun _ => True) (fun _ => rfl) (fun x u hu => by
  simp only [encB, List.mem_cons, List.not_mem_nil, or_false] at hu
  rcases hu with rfl | rfl | rfl | rfl <;> rfl)
def rF (x : RB) : ByteArray × FileV := (x.1, x.2.f)
abbrev ltK (a b : ByteArray) : Prop := a.data.toList < b.data.toList
theorem ltK_irrefl (a : ByteArray) : ¬ ltK a a := List.lt_irrefl _
theorem ltK_trans {a b c : ByteArray} (h : ltK a b) (k : ltK b c) : ltK a c := List.lt_trans h k
theorem ltK_tri {a b : ByteArray} (h : ¬ ltK a b) (k : ¬ ltK b a) : a = b := ByteArray.ext (Array.toList_inj.1 (List.le_antisymm (List.not_lt.1 k) (List.not_lt.1 h)))
theorem ltK_ne {a b : ByteArray} (h : ltK a b) : a ≠ b := fun e => ltK_irrefl b (e ▸ h)
theorem bytesLess_ltK (a b : ByteArray) : Op.bytesLess (ByteArray.toList a) (ByteArray.toList b) = decide (ltK a b) := by
  rw [bytesLess_eq, ByteArray.toList_eq, ByteArray.toList_eq]

theorem slFile : SlT Try.prog 62 73 cBox.k 56 := ⟨by kernel_rfl, by kernel_rfl, by decide⟩

def rleft (D : DiskV) : Int := if D.fused then D.left else -1

/-- what is asked of a disk's value -/
structure DiskV.Fit (D : DiskV) : Prop where
  most : D.most ≤ 262144
  fits : D.used ≤ D.most
  many : D.files.length ≤ 64
  tidy : Tidy D.files
  syn : ∀ x ∈ D.files, x.2.synced ≤ x.2.bytes.length
theorem DiskV.Ok.fit {D : DiskV} (h : D.Ok) : D.Fit := ⟨h.most, h.fits, h.many, h.tidy, h.syn⟩
theorem DiskV.Fit.of {D E : DiskV} (h : D.Fit) (hm : E.most = D.most) (hf : E.files = D.files) : E.Fit := ⟨by rw [hm]; exact h.most, by unfold DiskV.used; rw [hf, hm]; exact h.fits, by rw [hf]; exact h.many, by rw [hf]; exact h.tidy, by rw [hf]; exact h.syn⟩
theorem DiskV.Fit.armed {D : DiskV} (h : D.Fit) : D.armed.Fit := h.of (armed_most D) (armed_files D)
theorem DiskV.Fit.len {D : DiskV} (h : D.Fit) {x : ByteArray × FileV} (hx : x ∈ D.files) : x.2.bytes.length ≤ 262144 := by
  have := sumLen_mem hx; have := h.fits; have := h.most; unfold DiskV.used at *; omega

structure RefL (w : World) (p : Nat) (F : Nat → Prop) (D : DiskV) (a : Option Addr) (n cap : Nat) (L : List RB) : Prop where
  head : w.heap[p]? = some (.cells #[.int .i64 D.most, .int .i64 (rleft D), .slice a n cap, .bool D.dead] 64 (0, 0))
  lst : Lst cBox 73 (fun b => blk a = some b) w a n cap L
  each : ∀ x ∈ L, Lst cU8 5 x.2.F w x.2.a x.2.n x.2.c x.2.f.bytes
  apart : ∀ x ∈ L, ∀ y ∈ L, x.1 ≠ y.1 → ∀ b, x.2.F b → ¬ y.2.F b
  inF : ∀ x ∈ L, ∀ b, x.2.F b → F b ∧ b ≠ p ∧ blk a ≠ some b
  Fa : ∀ b, blk a = some b → F b ∧ b ≠ p
  sorted : L.Pairwise fun x y => ltK x.1 y.1
  same : ∀ q, q ∈ L.map rF ↔ q ∈ D.files
  self : F p
  dom : ∀ b, F b → b < w.heap.size

def RefAt (w : World) (p : Nat) (F : Nat → Prop) (D : DiskV) : Prop := ∃ a n cap L, RefL w p F D a n cap L

section
variable {w w' : World} {p : Nat} {F S : Nat → Prop} {D : DiskV} {a : Option Addr} {n cap : Nat} {L : List RB}
theorem RefL.keep (h : RefL w p F D a n cap L) (hk : Keep S w w') (hd : ∀ b, F b → ¬ S b) : RefL w' p F D a n cap L :=
  ⟨hk.get h.head (hd _ h.self), h.lst.keep hk (fun b hb => hd b (h.Fa b hb).1), fun x hx => (h.each x hx).keep hk (fun b hb => hd b (h.inF x hx b hb).1), h.apart, h.inF, h.Fa, h.sorted, h.same, h.self, fun b hb => Nat.lt_of_lt_of_le (h.dom b hb) hk.size⟩
theorem RefL.grew (h : RefL w p F D a n cap L) (hk : Grew w w') : RefL w' p F D a n cap L := h.keep hk fun _ _ h => h
theorem RefAt.keep (h : RefAt w p F D) (hk : Keep S w w') (hd : ∀ b, F b → ¬ S b) : RefAt w' p F D := by
  obtain ⟨a, n, cap, L, h⟩ := h; exact ⟨a, n, cap, L, h.keep hk hd⟩
theorem RefAt.grew (h : RefAt w p F D) (hk : Grew w w') : RefAt w' p F D := h.keep hk fun _ _ h => h
theorem RefAt.dom (h : RefAt w p F D) : ∀ b, F b → b < w.heap.size := by obtain ⟨a, n, cap, L, h⟩ := h; exact h.dom

theorem nodup_of_sorted {L : List RB} (h : L.Pairwise fun x y => ltK x.1 y.1) : Tidy L := List.pairwise_map.2 (h.imp fun hlt => ltK_ne hlt)
theorem RefL.tidy (h : RefL w p F D a n cap L) : Tidy L := nodup_of_sorted h.sorted
theorem tidy_nodup {β : Type} {l : List (ByteArray × β)} (h : Tidy l) : l.Nodup := by
  unfold Tidy at h
  exact List.Pairwise.of_map (·.1) (fun a b hne e => hne (congrArg Prod.fst e)) h
theorem rF_tidy (h : Tidy L) : Tidy (L.map rF) := by
  unfold Tidy at h ⊢
  rw [List.map_map]; exact h
theorem RefL.perm (h : RefL w p F D a n cap L) (hf : D.Fit) : (L.map rF).Perm D.files :=
  (List.perm_ext_iff_of_nodup (tidy_nodup (rF_tidy h.tidy)) (tidy_nodup hf.tidy)).2 h.same
theorem RefL.length (h : RefL w p F D a n cap L) (hf : D.Fit) : L.length = D.files.length := by have := (h.perm hf).length_eq; simpa using this
theorem RefL.n_eq (h : RefL w p F D a n cap L) : n = L.length := h.lst.len (by decide)
theorem RefL.file (h : RefL w p F D a n cap L) {x : RB} (hx : x ∈ L) : (x.1, x.2.f) ∈ D.files := (h.same _).1 (List.mem_map.2 ⟨x, hx, rfl⟩)
theorem RefL.get (h : RefL w p F D a n cap L) (hf : D.Fit) {k : ByteArray} {x : RBox} (hx : (k, x) ∈ L) : aget D.files k = some x.f := mem_aget hf.tidy (h.file hx)
theorem RefL.nof (h : RefL w p F D a n cap L) {k : ByteArray} (hk : ∀ x ∈ L, x.1 ≠ k) : aget D.files k = none := by
  cases e : aget D.files k with
  | none => rfl
  | some f =>
    obtain ⟨x, hx, he⟩ := List.mem_map.1 ((h.same _).2 (aget_mem e))
    exact absurd (congrArg Prod.fst he) (hk x hx)
theorem RefL.len (h : RefL w p F D a n cap L) (hf : D.Fit) {x : RB} (hx : x ∈ L) : x.2.n = x.2.f.bytes.length ∧ x.2.f.bytes.length ≤ 262144 ∧ x.2.f.synced ≤ x.2.f.bytes.length :=
  ⟨(h.each x hx).len (by decide), hf.len (h.file hx), hf.syn _ (h.file hx)⟩
theorem RefL.bytes (h : RefL w p F D a n cap L) (hf : D.Fit) {x : RB} (hx : x ∈ L) : Row cU8 1 w x.2.F x.2.a x.2.n x.2.f.bytes := (h.each x hx).row (by decide) (by have := (h.len hf hx).2.1; unfold Big; omega)

theorem RefL.at (h : RefL w p F D a n cap L) (hf : D.Fit) {i : Nat} (hi : i < n) : ∃ b off x, a = some ⟨b, off, none⟩ ∧ L[i]? = some x ∧ x ∈ L ∧ w.cell? ⟨b, off + i * 4, none⟩ = some (.string x.1) ∧ w.cell? ⟨b, off + i * 4 + 1, none⟩ = some (.slice x.2.a x.2.n x.2.c) ∧
    w.cell? ⟨b, off + i * 4 + 2, none⟩ = some (.int .i64 x.2.f.synced) ∧ w.cell? ⟨b, off + i * 4 + 3, none⟩ = some (.bool x.2.f.good) := by
  have hl := h.length hf; have hm := hf.many
  obtain ⟨b, off, x, es, ha, hb, hD, hx, hc, rfl, -⟩ := (h.lst.row (bytes := 56) (by decide) (by unfold Big; omega)).atN hi
  exact ⟨b, off, x, ha, hx, List.mem_of_getElem? hx, hc 0 (by decide), hc 1 (by decide), hc 2 (by decide), hc 3 (by decide)⟩

/-- the disk's own cells -/
theorem RefL.remake {w1 : World} {D' : DiskV} (h : RefL w p F D a n cap L) (hk : Keep (· = p) w w1)
    (hp : w1.heap[p]? = some (.cells #[.int .i64 D'.most, .int .i64 (rleft D'), .slice a n cap, .bool D'.dead] 64 (0, 0))) (hf : D'.files = D.files) : RefL w1 p F D' a n cap L :=
  ⟨hp, h.lst.keep hk (fun b hb => (h.Fa b hb).2), fun x hx => (h.each x hx).keep hk (fun b hb => (h.inF x hx b hb).2.1), h.apart, h.inF, h.Fa, h.sorted, by rw [hf]; exact h.same, h.self, fun b hb => Nat.lt_of_lt_of_le (h.dom b hb) hk.size⟩

theorem ref_dies (h : RefAt w p F D) (h0 : 0 ≤ D.left) (hR : I64 D.left) :
    Calls Try.prog F_ref19_Disk_dies #[.pointer (some ⟨p, 0, none⟩)] w (Ok fun v w' => v = .bool D.dies ∧ RefAt w' p F (if D.dies then D.gone else D.armed) ∧ Keep F w w') := by
  obtain ⟨a, n, cap, L, h⟩ := h
  have hF : ∀ {w1}, Keep (· = p) w w1 → Keep F w w1 := fun k => k.mono fun b _ hb => hb ▸ h.self
  refine L_ref19_Disk_dies ⟨p, 0, rfl, D.dead, cell_at h.head rfl, PIf.mk (fun hd => Ok.mk ?_) (fun hd => ⟨p, 0, rfl, rleft D, cell_at h.head rfl, PIf.eqI (fun hl => ⟨p, 0, rfl, PS.mk h.head (by simp) fun w1 k1 s1 g1 => Ok.mk ?_⟩) (fun hl => ⟨p, 0, rfl, rleft D, cell_at h.head rfl, PIf.dec (fun hpos => ?_) (fun hneg => Ok.mk ?_)⟩)⟩)⟩
  · have e : D.dies = true := by unfold DiskV.dies; rw [hd]; rfl
    rw [e, if_pos rfl]
    refine ⟨rfl, ⟨a, n, cap, L, ?_⟩, Keep.refl _⟩
    have : D.gone = D := by unfold DiskV.gone; rw [← hd]
    rw [this]; exact h
  · have e : D.dies = true := by
      unfold rleft at hl
      split at hl
      · rename_i hfu; unfold DiskV.dies; rw [hfu, hl]; simp
      · cases hl
    rw [e, if_pos rfl]
    exact ⟨rfl, ⟨a, n, cap, L, h.remake k1 g1 rfl⟩, hF k1⟩
  · have hfu : D.fused = true := by
      unfold rleft at hpos
      split at hpos
      · assumption
      · omega
    have hlf : rleft D = D.left := by unfold rleft; rw [if_pos hfu]
    rw [hlf] at hpos hl
    have e : D.dies = false := by unfold DiskV.dies; rw [hd, hfu]; simp; omega
    refine ⟨p, 0, rfl, D.left, (by rw [← hlf]; exact cell_at h.head rfl), p, 0, rfl, PS.mk h.head (by simp) fun w1 k1 s1 g1 => Ok.mk ?_⟩
    rw [e, if_neg (by simp)]
    refine ⟨rfl, ⟨a, n, cap, L, h.remake k1 ?_ (armed_files D)⟩, hF k1⟩
    rw [g1, wrap_i64 (by unfold I64 at *; omega)]
    have : D.armed = { D with left := D.left - 1 } := by unfold DiskV.armed; rw [if_pos hfu]
    rw [this]
    simp [rleft, hfu]
  · have hfu : D.fused = false := by
      by_cases hfu : D.fused = true
      · unfold rleft at hl hneg; rw [if_pos hfu] at hl hneg; omega
      · simpa using hfu
    have e : D.dies = false := by unfold DiskV.dies; rw [hd, hfu]; rfl
    rw [e, if_neg (by simp)]
    have : D.armed = D := by unfold DiskV.armed; rw [hfu]; simp
    rw [this]
    exact ⟨rfl, ⟨a, n, cap, L, h⟩, Keep.refl _⟩

theorem ref_Fuse {m : Int} (h : RefAt w p F D) : Calls Try.prog F_ref19_Disk_Fuse #[.pointer (some ⟨p, 0, none⟩), .int .i64 m] w (Ok fun v w' => v = .tuple #[] ∧ RefAt w' p F (D.fuse m) ∧ Keep F w w') := by
  obtain ⟨a, n, cap, L, h⟩ := h
  have e : (if m > 0 then m else 0) = max m 0 := by omega
  refine L_ref19_Disk_Fuse ⟨p, 0, rfl, PS.mk h.head (by simp) fun w1 k1 s1 g1 => Ok.mk ⟨rfl, ⟨a, n, cap, L, h.remake k1 ?_ rfl⟩, k1.mono fun b _ hb => hb ▸ h.self⟩⟩
  rw [g1, e]; rfl

theorem ref_Dead (h : RefAt w p F D) : Calls Try.prog F_ref19_Disk_Dead #[.pointer (some ⟨p, 0, none⟩)] w (Ok fun v w' => v = .bool D.dead ∧ w = w') := by
  obtain ⟨a, n, cap, L, h⟩ := h
  exact L_ref19_Disk_Dead ⟨p, 0, rfl, _, cell_at h.head rfl, Ok.mk ⟨rfl, rfl⟩⟩

theorem ref_at (h : RefL w p F D a n cap L) (hf : D.Fit) {k : ByteArray} : Calls Try.prog F_ref19_Disk_at #[.pointer (some ⟨p, 0, none⟩), .string k] w (Ok fun v w' => w = w' ∧ ∃ i : Int, v = .int .i64 i ∧ ((i < 0 ∧ ∀ x ∈ L, x.1 ≠ k) ∨ ∃ (j : Nat) (x : RBox), i = j ∧ j < n ∧ L[j]? = some (k, x))) := by
  have hn := h.n_eq; have hl := h.length hf; have hm := hf.many
  refine L_ref19_Disk_at ⟨fun m i w' => ∃ j : Nat, i = j ∧ j ≤ n ∧ m = n - j ∧ w' = w ∧ ∀ x ∈ L.take j, x.1 ≠ k, ⟨_, 0, rfl, Nat.zero_le _, rfl, rfl, by simp⟩, ?_⟩
  rintro m i B _ ⟨j, rfl, hj, rfl, rfl, hs⟩
  refine ⟨p, 0, rfl, a, n, cap, cell_at h.head rfl, PIf.dec (fun h1 => ?_) (fun h1 => ?_)⟩
  · obtain ⟨b, off, x, rfl, hx, hxm, c0, c1, c2, c3⟩ := h.at hf (i := j) (by omega)
    refine ⟨p, 0, rfl, _, n, cap, cell_at h.head rfl, b, off, rfl, by omega, by omega, x.1, c0, PIf.eqS (fun he => Ok.mk ⟨rfl, _, rfl, .inr ⟨j, x.2, rfl, by omega, by rw [hx, ← he]⟩⟩) (fun hne => ⟨_, by omega, j + 1, wrap_succ (by omega), by omega, rfl, rfl, ?_⟩)⟩
    intro y hy
    rw [List.take_add_one, hx] at hy
    simp only [Option.toList_some, List.mem_append, List.mem_singleton] at hy
    rcases hy with hy | rfl
    · exact hs y hy
    · exact hne
  · rw [List.take_of_length_le (by omega)] at hs
    exact Ok.mk ⟨rfl, -1, rfl, .inl ⟨by omega, hs⟩⟩

theorem okByte_nat (b : UInt8) : okByte b = decide ((97 ≤ b.toNat ∧ b.toNat ≤ 122) ∨ (48 ≤ b.toNat ∧ b.toNat ≤ 57) ∨ b.toNat = 46) := by
  have h : (List.range 256).all (fun n => okByte (UInt8.ofNat n) == decide ((97 ≤ (UInt8.ofNat n).toNat ∧ (UInt8.ofNat n).toNat ≤ 122) ∨ (48 ≤ (UInt8.ofNat n).toNat ∧ (UInt8.ofNat n).toNat ≤ 57) ∨ (UInt8.ofNat n).toNat = 46)) = true := by decide +kernel
  have := List.all_eq_true.1 h b.toNat (List.mem_range.2 b.toNat_lt)
  simpa using this

theorem ref_isName {s : ByteArray} (hs : s.size ≤ 1000000) : Calls Try.prog F_ref19_isName #[.string s] w (Ok fun v w' => v = .bool (isNameV s) ∧ w = w') := by
  refine L_ref19_isName ⟨fun m i w' => ∃ j : Nat, i = j ∧ j ≤ s.size ∧ m = s.size - j ∧ w = w' ∧ ∀ b ∈ s.data.toList.take j, okByte b = true, ⟨_, 0, rfl, Nat.zero_le _, rfl, rfl, by simp⟩, ?_⟩
  rintro m i B _ ⟨j, rfl, hj, rfl, rfl, hall⟩
  refine PIf.dec (fun h1 => ?_) (fun h1 => ?_)
  · have hjs : j < s.size := by omega
    have hgl : s.data.toList[j]? = some (s[j]'hjs) := by
      rw [List.getElem?_eq_getElem (by simpa using hjs)]
      simp; rfl
    have hok := okByte_nat (s[j]'hjs)
    have no : okByte (s[j]'hjs) = false → Ok (fun v w' => v = .bool (isNameV s) ∧ w = w') (.returned (.bool false)) w := fun hf => by
      have : s.data.toList.all okByte = false := List.all_eq_false.2 ⟨_, List.mem_of_getElem? hgl, by simp [hf]⟩
      refine Ok.mk ⟨?_, rfl⟩
      unfold isNameV
      rw [this, Bool.and_false]
    have go : okByte (s[j]'hjs) = true → ∃ m4, m4 < s.size - j ∧ ∃ j' : Nat, IntKind.wrap .i64 ((j : Int) + 1) = j' ∧ j' ≤ s.size ∧ m4 = s.size - j' ∧ w = w ∧ ∀ b ∈ s.data.toList.take j', okByte b = true := fun ht =>
      ⟨_, by omega, j + 1, wrap_succ (by omega), by omega, rfl, rfl, fun b hb => by
        rw [List.take_add_one, hgl] at hb
        rcases List.mem_append.1 hb with hb | hb
        · exact hall b hb
        · simp at hb; rw [hb]; exact ht⟩
    refine ⟨by omega, _, getElem_str hjs, PIf.neI (fun e1 => PIf.dec (fun e2 => PIf.dec (fun e3 => no ?_) (fun e3 => PIf.dec (fun e4 => no ?_) (fun e4 => go ?_))) (fun e2 => PIf.dec (fun e5 => PIf.dec (fun e3 => no ?_) (fun e3 => PIf.dec (fun e4 => no ?_) (fun e4 => go ?_))) (fun e5 => go ?_))) (fun e1 => go ?_)⟩
    all_goals
      rw [hok]
      first
      | exact decide_eq_true (by omega)
      | exact decide_eq_false (by omega)
  · rw [List.take_of_length_le (by have : s.data.toList.length = s.size := by simp
                                   omega)] at hall
    have hall' : s.data.toList.all okByte = true := List.all_eq_true.2 hall
    refine PIf.dec (fun h2 => Ok.mk ⟨?_, rfl⟩) (fun h2 => Ok.mk ⟨?_, rfl⟩)
    · unfold isNameV
      rw [hall', decide_eq_true (show 1 ≤ s.size by omega)]
      simp
      omega
    · unfold isNameV
      rw [decide_eq_false (show ¬ 1 ≤ s.size by omega)]
      simp
end
end Go.Proofs.Yticehdfebghloaa
