/- what the statements of chapter 19 share -/
import Derived.Test.YtpbpjojdfcdbbaaGreatDoorDiskOps4
import Derived.Test.YtpbpjojdfcdbbaaGreatDoorIn
namespace Go.Proofs.YtpbpjojdfcdbbaaGreatDoor
open Go.Lift
set_option linter.unusedVariables false
set_option maxRecDepth 20000

/-- a disk that was made behind w0, apart from blocks X -/
def NDisk (w0 w : World) (p : Nat) (D : DiskV) (X : Nat → Prop) : Prop := ∃ F, DiskAt w p F D ∧ Grew w0 w ∧ (∀ b, F b → w0.heap.size ≤ b ∧ ¬ X b) ∧ ∀ b, X b → b < w.heap.size

abbrev no : Nat → Prop := fun _ => False
abbrev Not' (X : Nat → Prop) : Nat → Prop := fun b => ¬ X b

section
variable {w0 w w1 w' : World} {p : Nat} {D D' : DiskV} {X Y : Nat → Prop}
theorem NDisk.gr (h : NDisk w0 w p D X) : Grew w0 w := by obtain ⟨F, h1, h2, h3, h4⟩ := h; exact h2
theorem NDisk.ok (h : NDisk w0 w p D X) : D.Ok := by obtain ⟨F, h1, h2, h3, h4⟩ := h; exact h1.ok
theorem NDisk.grew (h : NDisk w0 w p D X) (hk : Grew w w') : NDisk w0 w' p D X := by
  obtain ⟨F, h1, h2, h3, h4⟩ := h; exact ⟨F, h1.grew hk, h2.grew hk, h3, fun b hb => Nat.lt_of_lt_of_le (h4 b hb) hk.size⟩
theorem NDisk.mono (h : NDisk w0 w p D X) (hx : ∀ b, Y b → X b) : NDisk w0 w p D Y := by
  obtain ⟨F, h1, h2, h3, h4⟩ := h; exact ⟨F, h1, h2, fun b hb => ⟨(h3 b hb).1, fun hy => (h3 b hb).2 (hx b hy)⟩, fun b hb => h4 b (hx b hb)⟩
/-- what is made behind is apart -/
theorem NDisk.add (h : NDisk w0 w p D X) (hk : Grew w w') (hY : ∀ b, Y b → w.heap.size ≤ b ∧ b < w'.heap.size) : NDisk w0 w' p D (fun b => X b ∨ Y b) := by
  obtain ⟨F, h1, h2, h3, h4⟩ := h
  exact ⟨F, h1.grew hk, h2.grew hk, fun b hb => ⟨(h3 b hb).1, fun hx => hx.elim (h3 b hb).2 fun hy => by have := h1.dom b hb; have := (hY b hy).1; omega⟩, fun b hb => hb.elim (fun h => Nat.lt_of_lt_of_le (h4 b h) hk.size) fun h => (hY b h).2⟩
/-- what others do, in blocks of X -/
theorem NDisk.other (h : NDisk w0 w p D X) (hk : Keep Y w w') (hY : ∀ b, Y b → X b) (hX : ∀ b, X b → w0.heap.size ≤ b) : NDisk w0 w' p D X := by
  obtain ⟨F, h1, h2, h3, h4⟩ := h
  exact ⟨F, h1.keep hk fun b hb hy => (h3 b hb).2 (hY b hy), h2.new hk fun b hb => .inr (hX b (hY b hb)), h3, fun b hb => Nat.lt_of_lt_of_le (h4 b hb) hk.size⟩

theorem NDisk.of (hg : Grew w0 w) (hk : Grew w w') {F : Nat → Prop} (hD : DiskAt w' p F D) (hF : ∀ b, F b → w.heap.size ≤ b) (hX : ∀ b, X b → b < w.heap.size) : NDisk w0 w' p D X :=
  ⟨F, hD, hg.grew hk, fun b hb => ⟨Nat.le_trans hg.size (hF b hb), fun hx => by have := hF b hb; have := hX b hx; omega⟩, fun b hb => Nat.lt_of_lt_of_le (hX b hb) hk.size⟩

/-- what a call on such a disk hands back -/
def Does2 (w0 w : World) (p : Nat) (X : Nat → Prop) (r : Int × DiskV) (v : Value) (w' : World) : Prop := v = .int .i64 r.1 ∧ NDisk w0 w' p r.2 X ∧ Keep (Not' X) w w'

theorem NDisk.callG {g : FuncId} {args : Array Value} {r : Int × DiskV} (h : NDisk w0 w p D X) (hk : Grew w w1)
    (hc : ∀ F, DiskAt w1 p F D → (∀ b, F b → w0.heap.size ≤ b ∧ b < w.heap.size ∧ ¬ X b) → Calls Tryz.prog g args w1 (Ok (Did w1 p F r))) : Calls Tryz.prog g args w1 (Ok (Does2 w0 w1 p X r)) := by
  obtain ⟨F, h1, h2, h3, h4⟩ := h
  refine Calls.ok (hc F (h1.grew hk) fun b hb => ⟨(h3 b hb).1, h1.dom b hb, (h3 b hb).2⟩) ?_
  rintro v w' ⟨F', hv, hD, hev⟩
  have := hk.size; have := h2.size; have := hev.keep.size
  exact ⟨hv, ⟨F', hD, (h2.grew hk).new hev.keep fun b hb => .inr (h3 b hb).1, fun b hb => (hev.new b hb).elim (h3 b) fun h => ⟨by omega, fun hx => by have := h4 b hx; omega⟩, fun b hb => by have := h4 b hb; omega⟩, hev.keep.mono fun b _ hb => (h3 b hb).2⟩
theorem NDisk.call {g : FuncId} {args : Array Value} {r : Int × DiskV} (h : NDisk w0 w p D X)
    (hc : ∀ F, DiskAt w p F D → (∀ b, F b → w0.heap.size ≤ b ∧ b < w.heap.size ∧ ¬ X b) → Calls Tryz.prog g args w (Ok (Did w p F r))) : Calls Tryz.prog g args w (Ok (Does2 w0 w p X r)) := h.callG (Keep.refl w) hc

/-- bytes that came in, or lie in X -/
theorem NDisk.append {k : ByteArray} {a : Option Addr} {n c : Nat} {bs : List UInt8} {Db : Nat → Prop} (h : NDisk w0 w p D X) (hb : Row cU8 1 w Db a n bs) (hnil : a = none → n = 0 ∧ c = 0) (hDb : ∀ b, Db b → b < w0.heap.size ∨ X b) :
    Calls Tryz.prog F_vdisk_Disk_Append #[.pointer (some ⟨p, 0, none⟩), .string k, .slice a n c] w (Ok (Does2 w0 w p X (D.append k bs))) := by
  have hg := h.gr.size
  have hx : ∀ b, X b → b < w.heap.size := by obtain ⟨F, h1, h2, h3, h4⟩ := h; exact h4
  exact h.call fun F hD hF => Disk_Append hD hb hnil fun b hb => ⟨(hDb b hb).elim (fun h => by omega) (hx b), fun hf => (hDb b hb).elim (fun h => by have := (hF b hf).1; omega) (hF b hf).2.2⟩
theorem NDisk.appendLit {k : ByteArray} (h : NDisk w0 w p D X) (hk : Grew w w1) {f : Nat × Nat} {e : TypeId} {cs : Array Value} (hg : w1.heap[w.heap.size]? = some (.cells cs e f)) (xs : List UInt8) (hc : cs.toList = xs.map fun x => Value.int .u8 (x.toNat : Int)) (hb : xs.length ≤ 1000) :
    Calls Tryz.prog F_vdisk_Disk_Append #[.pointer (some ⟨p, 0, none⟩), .string k, .slice (some ⟨w.heap.size, 0, none⟩) xs.length xs.length] w1 (Ok (Does2 w0 w1 p X (D.append k xs))) :=
  h.callG hk fun F hD hF => Disk_Append hD (Row.lit hg xs hc (fun _ _ => trivial) (by unfold Big; omega) : Row cU8 1 w1 (· = w.heap.size) (some ⟨w.heap.size, 0, none⟩) xs.length xs) (fun h => by cases h) fun b hb => ⟨by have := lt_of_get hg; omega, fun hf => by have := (hF b hf).2.1; omega⟩
theorem NDisk.appendNil {k : ByteArray} (h : NDisk w0 w p D X) :
    Calls Tryz.prog F_vdisk_Disk_Append #[.pointer (some ⟨p, 0, none⟩), .string k, .slice none 0 0] w (Ok (Does2 w0 w p X (D.append k []))) :=
  h.call fun F hD hF => Disk_Append hD (Row.nil w fun _ => False) (fun _ => ⟨rfl, rfl⟩) fun b hb => hb.elim
theorem NDisk.create {k : ByteArray} (h : NDisk w0 w p D X) : Calls Tryz.prog F_vdisk_Disk_Create #[.pointer (some ⟨p, 0, none⟩), .string k] w (Ok (Does2 w0 w p X (D.create k))) := h.call fun F hD _ => Disk_Create hD
theorem NDisk.sync {k : ByteArray} (h : NDisk w0 w p D X) : Calls Tryz.prog F_vdisk_Disk_Sync #[.pointer (some ⟨p, 0, none⟩), .string k] w (Ok (Does2 w0 w p X (D.sync k))) := h.call fun F hD _ => Disk_Sync hD
theorem NDisk.cutF {k : ByteArray} {n : Int} (h : NDisk w0 w p D X) : Calls Tryz.prog F_vdisk_Disk_Cut #[.pointer (some ⟨p, 0, none⟩), .string k, .int .i64 n] w (Ok (Does2 w0 w p X (D.cutF k n))) := h.call fun F hD _ => Disk_Cut hD
theorem NDisk.delete {k : ByteArray} (h : NDisk w0 w p D X) : Calls Tryz.prog F_vdisk_Disk_Delete #[.pointer (some ⟨p, 0, none⟩), .string k] w (Ok (Does2 w0 w p X (D.delete k))) := h.call fun F hD _ => Disk_Delete hD
theorem NDisk.rename {k t : ByteArray} (h : NDisk w0 w p D X) : Calls Tryz.prog F_vdisk_Disk_Rename #[.pointer (some ⟨p, 0, none⟩), .string k, .string t] w (Ok (Does2 w0 w p X (D.rename k t))) := h.call fun F hD _ => Disk_Rename hD

theorem NDisk.call' {g : FuncId} {args : Array Value} (h : NDisk w0 w p D X)
    (hc : ∀ F, DiskAt w p F D → Calls Tryz.prog g args w (Ok fun v w' => ∃ F', v = .tuple #[] ∧ DiskAt w' p F' D' ∧ Evo F w F' w')) : Calls Tryz.prog g args w (Ok fun v w' => v = .tuple #[] ∧ NDisk w0 w' p D' X ∧ Keep (Not' X) w w') := by
  obtain ⟨F, h1, h2, h3, h4⟩ := h
  refine Calls.ok (hc F h1) ?_
  rintro v w' ⟨F', hv, hD, hev⟩
  have := h2.size; have := hev.keep.size
  exact ⟨hv, ⟨F', hD, h2.new hev.keep fun b hb => .inr (h3 b hb).1, fun b hb => (hev.new b hb).elim (h3 b) fun h => ⟨by omega, fun hx => by have := h4 b hx; omega⟩, fun b hb => by have := h4 b hb; omega⟩, hev.keep.mono fun b _ hb => (h3 b hb).2⟩
theorem NDisk.crash {keep : Int} (h : NDisk w0 w p D X) (hk : I64 keep) : Calls Tryz.prog F_vdisk_Disk_Crash #[.pointer (some ⟨p, 0, none⟩), .int .i64 keep] w (Ok fun v w' => v = .tuple #[] ∧ NDisk w0 w' p (D.crash keep) X ∧ Keep (Not' X) w w') :=
  h.call' fun F hD => Disk_Crash hD hk
theorem NDisk.fuse {n : Int} (h : NDisk w0 w p D X) (hk : I64 n) : Calls Tryz.prog F_vdisk_Disk_Fuse #[.pointer (some ⟨p, 0, none⟩), .int .i64 n] w (Ok fun v w' => v = .tuple #[] ∧ NDisk w0 w' p (D.fuse n) X ∧ Keep (Not' X) w w') :=
  h.call' fun F hD => Calls.ok (Disk_Fuse hk hD) fun v w' ⟨h1, h2, h3⟩ => ⟨F, h1, h2, h3⟩
theorem NDisk.read {k : ByteArray} (h : NDisk w0 w p D X) : Calls Tryz.prog F_vdisk_Disk_Read #[.pointer (some ⟨p, 0, none⟩), .string k] w (Ok fun v w' => ∃ a n c F, v = .tuple #[.slice a n c, .int .i64 (D.read k).2] ∧ Lst cU8 5 F w' a n c (D.read k).1 ∧ (∀ b, F b → w.heap.size ≤ b) ∧ NDisk w0 w' p D (fun b => X b ∨ F b) ∧ Grew w w') := by
  obtain ⟨F, h1, h2⟩ := h
  refine Calls.ok (Disk_Read h1) ?_
  rintro v w' ⟨u, rfl, a, n, c, G, rfl, ho, hk, hG⟩
  exact ⟨a, n, c, G, rfl, ho, hG, NDisk.add ⟨F, h1, h2⟩ hk fun b hb => ⟨hG b hb, ho.dom b hb⟩, hk⟩
theorem NDisk.list (h : NDisk w0 w p D X) : Calls Tryz.prog F_vdisk_Disk_List #[.pointer (some ⟨p, 0, none⟩)] w (Ok fun v w' => ∃ a n c F, v = .slice a n c ∧ Lst cStr 9 F w' a n c D.list ∧ (∀ b, F b → w.heap.size ≤ b) ∧ NDisk w0 w' p D (fun b => X b ∨ F b) ∧ Grew w w') := by
  obtain ⟨F, h1, h2⟩ := h
  refine Calls.ok (Disk_List h1) ?_
  rintro v w' ⟨a, n, c, G, rfl, ho, hk, hG⟩
  exact ⟨a, n, c, G, rfl, ho, hG, NDisk.add ⟨F, h1, h2⟩ hk fun b hb => ⟨hG b hb, ho.dom b hb⟩, hk⟩
theorem NDisk.room (h : NDisk w0 w p D X) : Calls Tryz.prog F_vdisk_Disk_Room #[.pointer (some ⟨p, 0, none⟩)] w (Ok fun v w' => v = .int .i64 D.room ∧ NDisk w0 w' p D X ∧ Grew w w') := by
  obtain ⟨F, h1, h2⟩ := h
  refine Calls.ok (Disk_Room h1) ?_
  rintro v w' ⟨rfl, hk⟩
  exact ⟨rfl, NDisk.grew ⟨F, h1, h2⟩ hk, hk⟩
end

theorem uD : Tryz.prog.underlying 25 = some (.pointer 80) := by kernel_rfl

/-- a disk of a size that may be -/
def newD (n : Nat) : DiskV := ⟨n, [], false, 0, false⟩
theorem new_ok {w0 w : World} {n : Int} (hg : Grew w0 w) (h1 : 64 ≤ n) (h2 : n ≤ 262144) : Calls Tryz.prog F_vdisk_New #[.int .i64 n] w (Ok fun v w' => ∃ p, v = .tuple #[.pointer (some ⟨p, 0, none⟩), .int .i64 0] ∧ NDisk w0 w' p (newD n.toNat) (fun b => b < w.heap.size) ∧ Grew w w') := by
  refine Calls.ok vdisk_New ?_
  intro v w' h
  rw [if_neg (by omega)] at h
  obtain ⟨p, F, rfl, hD, hk, hF⟩ := h
  exact ⟨p, rfl, NDisk.of hg hk hD hF fun b hb => hb, hk⟩

theorem bytes_lit {w : World} {g : Nat} {e : TypeId} {f : Nat × Nat} {cs : Array Value} (hg : w.heap[g]? = some (.cells cs e f)) (xs : List UInt8) (hc : cs.toList = xs.map fun x => Value.int .u8 (x.toNat : Int)) (hb : xs.length ≤ 1000) : Row cU8 1 w (· = g) (some ⟨g, 0, none⟩) xs.length xs :=
  Row.lit hg xs hc (fun _ _ => trivial) (by unfold Big; omega)

theorem lst_bytes {w : World} {F : Nat → Prop} {a : Option Addr} {n c : Nat} {xs : List UInt8} (h : Lst cU8 5 F w a n c xs) (hb : xs.length ≤ 1000000) : Row cU8 1 w F a n xs := h.row (by decide) (by unfold Big; omega)

theorem read_len {D : DiskV} (h : D.Ok) (k : ByteArray) : (D.read k).1.length ≤ 262144 := by
  unfold DiskV.read
  split
  · simp
  · split
    · simp
    · rename_i f hf; exact h.len (aget_mem hf)

def nA : ByteArray := ⟨#[97]⟩

end Go.Proofs.YtpbpjojdfcdbbaaGreatDoor
