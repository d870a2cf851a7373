/- LawD, SegCon, OneD, SegWorks, SegBack, SegNames, LawD2, RefD, RefD2, RefD3, RefD4, Ref20, Spoil, VdApart, VdPlain, Duo, VdFuse, VdPlays, SegLoads, SegTorn -/
import Derived.Test.YtpmakiecgphijaaGreatDoorDiskOps4
import Derived.Test.YtpmakiecgphijaaGreatDoorIn
import Derived.Test.YtpmakiecgphijaaGreatDoorSeg
import Derived.Test.YtpmakiecgphijaaGreatDoorKitEv
import Derived.Test.YtpmakiecgphijaaGreatDoorSegLaw2
import Derived.ArgAppend
import Derived.Laws.BytesArg
import Derived.Lib.SlBytesConst
import Derived.Test.YtpmakiecgphijaaGreatDoorOwn
import Derived.Sort.Walk0
import Derived.Test.YtpmakiecgphijaaGreatDoorRef05
import Derived.Test.YtpmakiecgphijaaGreatDoorRef03
import Derived.Test.YtpmakiecgphijaaGreatDoorEvent
import Derived.Test.YtpmakiecgphijaaGreatDoorRep
import Derived.Test.YtpmakiecgphijaaGreatDoorPick
/- what the statements of chapter 19 share -/
namespace Go.Proofs.YtpmakiecgphijaaGreatDoor
open Go.Lift
set_option linter.unusedVariables false
set_option maxRecDepth 20000

/-- a disk that was made behind w0, apart from blocks X -/
def NDisk (w0 w : World) (p : Nat) (D : DiskV) (X : Nat → Prop) : Prop := ∃ F, DiskAt w p F D ∧ Grew w0 w ∧ (∀ b, F b → w0.heap.size ≤ b ∧ ¬ X b) ∧ ∀ b, X b → b < w.heap.size

abbrev no : Nat → Prop := fun _ => False
abbrev Not' (X : Nat → Prop) : Nat → Prop := fun b => ¬ X b

section
variable {w0 w w1 w' : World} {p : Nat} {D D' : DiskV} {X Y : Nat → Prop}
theorem NDisk.gr (h : NDisk w0 w p D X) : Grew w0 w := by obtain ⟨F, h1, h2, h3, h4⟩ := h; exact h2
theorem NDisk.ok (h : NDisk w0 w p D X) : D.Ok := by obtain ⟨F, h1, h2, h3, h4⟩ := h; exact h1.ok
theorem NDisk.grew (h : NDisk w0 w p D X) (hk : Grew w w') : NDisk w0 w' p D X := by
  obtain ⟨F, h1, h2, h3, h4⟩ := h; exact ⟨F, h1.grew hk, h2.grew hk, h3, fun b hb => Nat.lt_of_lt_of_le (h4 b hb) hk.size⟩
theorem NDisk.mono (h : NDisk w0 w p D X) (hx : ∀ b, Y b → X b) : NDisk w0 w p D Y := by
  obtain ⟨F, h1, h2, h3, h4⟩ := h; exact ⟨F, h1, h2, fun b hb => ⟨(h3 b hb).1, fun hy => (h3 b hb).2 (hx b hy)⟩, fun b hb => h4 b (hx b hb)⟩
/-- what is made behind is apart -/
theorem NDisk.add (h : NDisk w0 w p D X) (hk : Grew w w') (hY : ∀ b, Y b → w.heap.size ≤ b ∧ b < w'.heap.size) : NDisk w0 w' p D (fun b => X b ∨ Y b) := by
  obtain ⟨F, h1, h2, h3, h4⟩ := h
  exact ⟨F, h1.grew hk, h2.grew hk, fun b hb => ⟨(h3 b hb).1, fun hx => hx.elim (h3 b hb).2 fun hy => by have := h1.dom b hb; have := (hY b hy).1; omega⟩, fun b hb => hb.elim (fun h => Nat.lt_of_lt_of_le (h4 b h) hk.size) fun h => (hY b h).2⟩
/-- what others do, in blocks of X -/
theorem NDisk.other (h : NDisk w0 w p D X) (hk : Keep Y w w') (hY : ∀ b, Y b → X b) (hX : ∀ b, X b → w0.heap.size ≤ b) : NDisk w0 w' p D X := by
  obtain ⟨F, h1, h2, h3, h4⟩ := h
  exact ⟨F, h1.keep hk fun b hb hy => (h3 b hb).2 (hY b hy), h2.new hk fun b hb => .inr (hX b (hY b hb)), h3, fun b hb => Nat.lt_of_lt_of_le (h4 b hb) hk.size⟩

theorem NDisk.of (hg : Grew w0 w) (hk : Grew w w') {F : Nat → Prop} (hD : DiskAt w' p F D) (hF : ∀ b, F b → w.heap.size ≤ b) (hX : ∀ b, X b → b < w.heap.size) : NDisk w0 w' p D X :=
  ⟨F, hD, hg.grew hk, fun b hb => ⟨Nat.le_trans hg.size (hF b hb), fun hx => by have := hF b hb; have := hX b hx; omega⟩, fun b hb => Nat.lt_of_lt_of_le (hX b hb) hk.size⟩

/-- what a call on such a disk hands back -/
def Does2 (w0 w : World) (p : Nat) (X : Nat → Prop) (r : Int × DiskV) (v : Value) (w' : World) : Prop := v = .int .i64 r.1 ∧ NDisk w0 w' p r.2 X ∧ Keep (Not' X) w w'

theorem NDisk.callG {g : FuncId} {args : Array Value} {r : Int × DiskV} (h : NDisk w0 w p D X) (hk : Grew w w1)
    (hc : ∀ F, DiskAt w1 p F D → (∀ b, F b → w0.heap.size ≤ b ∧ b < w.heap.size ∧ ¬ X b) → Calls Tryz.prog g args w1 (Ok (Did w1 p F r))) : Calls Tryz.prog g args w1 (Ok (Does2 w0 w1 p X r)) := by
  obtain ⟨F, h1, h2, h3, h4⟩ := h
  refine Calls.ok (hc F (h1.grew hk) fun b hb => ⟨(h3 b hb).1, h1.dom b hb, (h3 b hb).2⟩) ?_
  rintro v w' ⟨F', hv, hD, hev⟩
  have := hk.size; have := h2.size; have := hev.keep.size
  exact ⟨hv, ⟨F', hD, (h2.grew hk).new hev.keep fun b hb => .inr (h3 b hb).1, fun b hb => (hev.new b hb).elim (h3 b) fun h => ⟨by omega, fun hx => by have := h4 b hx; omega⟩, fun b hb => by have := h4 b hb; omega⟩, hev.keep.mono fun b _ hb => (h3 b hb).2⟩
theorem NDisk.call {g : FuncId} {args : Array Value} {r : Int × DiskV} (h : NDisk w0 w p D X)
    (hc : ∀ F, DiskAt w p F D → (∀ b, F b → w0.heap.size ≤ b ∧ b < w.heap.size ∧ ¬ X b) → Calls Tryz.prog g args w (Ok (Did w p F r))) : Calls Tryz.prog g args w (Ok (Does2 w0 w p X r)) := h.callG (Keep.refl w) hc

/-- bytes that came in, or lie in X -/
theorem NDisk.append {k : ByteArray} {a : Option Addr} {n c : Nat} {bs : List UInt8} {Db : Nat → Prop} (h : NDisk w0 w p D X) (hb : Row cU8 1 w Db a n bs) (hnil : a = none → n = 0 ∧ c = 0) (hDb : ∀ b, Db b → b < w0.heap.size ∨ X b) :
    Calls Tryz.prog F_vdisk_Disk_Append #[.pointer (some ⟨p, 0, none⟩), .string k, .slice a n c] w (Ok (Does2 w0 w p X (D.append k bs))) := by
  have hg := h.gr.size
  have hx : ∀ b, X b → b < w.heap.size := by obtain ⟨F, h1, h2, h3, h4⟩ := h; exact h4
  exact h.call fun F hD hF => Disk_Append hD hb hnil fun b hb => ⟨(hDb b hb).elim (fun h => by omega) (hx b), fun hf => (hDb b hb).elim (fun h => by have := (hF b hf).1; omega) (hF b hf).2.2⟩
theorem NDisk.appendLit {k : ByteArray} (h : NDisk w0 w p D X) (hk : Grew w w1) {f : Nat × Nat} {e : TypeId} {cs : Array Value} (hg : w1.heap[w.heap.size]? = some (.cells cs e f)) (xs : List UInt8) (hc : cs.toList = xs.map fun x => Value.int .u8 (x.toNat : Int)) (hb : xs.length ≤ 1000) :
    Calls Tryz.prog F_vdisk_Disk_Append #[.pointer (some ⟨p, 0, none⟩), .string k, .slice (some ⟨w.heap.size, 0, none⟩) xs.length xs.length] w1 (Ok (Does2 w0 w1 p X (D.append k xs))) :=
  h.callG hk fun F hD hF => Disk_Append hD (Row.lit hg xs hc (fun _ _ => trivial) (by unfold Big; omega) : Row cU8 1 w1 (· = w.heap.size) (some ⟨w.heap.size, 0, none⟩) xs.length xs) (fun h => by cases h) fun b hb => ⟨by have := lt_of_get hg; omega, fun hf => by have := (hF b hf).2.1; omega⟩
theorem NDisk.appendNil {k : ByteArray} (h : NDisk w0 w p D X) :
    Calls Tryz.prog F_vdisk_Disk_Append #[.pointer (some ⟨p, 0, none⟩), .string k, .slice none 0 0] w (Ok (Does2 w0 w p X (D.append k []))) :=
  h.call fun F hD hF => Disk_Append hD (Row.nil w fun _ => False) (fun _ => ⟨rfl, rfl⟩) fun b hb => hb.elim
theorem NDisk.create {k : ByteArray} (h : NDisk w0 w p D X) : Calls Tryz.prog F_vdisk_Disk_Create #[.pointer (some ⟨p, 0, none⟩), .string k] w (Ok (Does2 w0 w p X (D.create k))) := h.call fun F hD _ => Disk_Create hD
theorem NDisk.sync {k : ByteArray} (h : NDisk w0 w p D X) : Calls Tryz.prog F_vdisk_Disk_Sync #[.pointer (some ⟨p, 0, none⟩), .string k] w (Ok (Does2 w0 w p X (D.sync k))) := h.call fun F hD _ => Disk_Sync hD
theorem NDisk.cutF {k : ByteArray} {n : Int} (h : NDisk w0 w p D X) : Calls Tryz.prog F_vdisk_Disk_Cut #[.pointer (some ⟨p, 0, none⟩), .string k, .int .i64 n] w (Ok (Does2 w0 w p X (D.cutF k n))) := h.call fun F hD _ => Disk_Cut hD
theorem NDisk.delete {k : ByteArray} (h : NDisk w0 w p D X) : Calls Tryz.prog F_vdisk_Disk_Delete #[.pointer (some ⟨p, 0, none⟩), .string k] w (Ok (Does2 w0 w p X (D.delete k))) := h.call fun F hD _ => Disk_Delete hD
theorem NDisk.rename {k t : ByteArray} (h : NDisk w0 w p D X) : Calls Tryz.prog F_vdisk_Disk_Rename #[.pointer (some ⟨p, 0, none⟩), .string k, .string t] w (Ok (Does2 w0 w p X (D.rename k t))) := h.call fun F hD _ => Disk_Rename hD

theorem NDisk.call' {g : FuncId} {args : Array Value} (h : NDisk w0 w p D X)
    (hc : ∀ F, DiskAt w p F D → Calls Tryz.prog g args w (Ok fun v w' => ∃ F', v = .tuple #[] ∧ DiskAt w' p F' D' ∧ Evo F w F' w')) : Calls Tryz.prog g args w (Ok fun v w' => v = .tuple #[] ∧ NDisk w0 w' p D' X ∧ Keep (Not' X) w w') := by
  obtain ⟨F, h1, h2, h3, h4⟩ := h
  refine Calls.ok (hc F h1) ?_
  rintro v w' ⟨F', hv, hD, hev⟩
  have := h2.size; have := hev.keep.size
  exact ⟨hv, ⟨F', hD, h2.new hev.keep fun b hb => .inr (h3 b hb).1, fun b hb => (hev.new b hb).elim (h3 b) fun h => ⟨by omega, fun hx => by have := h4 b hx; omega⟩, fun b hb => by have := h4 b hb; omega⟩, hev.keep.mono fun b _ hb => (h3 b hb).2⟩
theorem NDisk.crash {keep : Int} (h : NDisk w0 w p D X) (hk : I64 keep) : Calls Tryz.prog F_vdisk_Disk_Crash #[.pointer (some ⟨p, 0, none⟩), .int .i64 keep] w (Ok fun v w' => v = .tuple #[] ∧ NDisk w0 w' p (D.crash keep) X ∧ Keep (Not' X) w w') :=
  h.call' fun F hD => Disk_Crash hD hk
theorem NDisk.fuse {n : Int} (h : NDisk w0 w p D X) (hk : I64 n) : Calls Tryz.prog F_vdisk_Disk_Fuse #[.pointer (some ⟨p, 0, none⟩), .int .i64 n] w (Ok fun v w' => v = .tuple #[] ∧ NDisk w0 w' p (D.fuse n) X ∧ Keep (Not' X) w w') :=
  h.call' fun F hD => Calls.ok (Disk_Fuse hk hD) fun v w' ⟨h1, h2, h3⟩ => ⟨F, h1, h2, h3⟩
theorem NDisk.read {k : ByteArray} (h : NDisk w0 w p D X) : Calls Tryz.prog F_vdisk_Disk_Read #[.pointer (some ⟨p, 0, none⟩), .string k] w (Ok fun v w' => ∃ a n c F, v = .tuple #[.slice a n c, .int .i64 (D.read k).2] ∧ Lst cU8 5 F w' a n c (D.read k).1 ∧ (∀ b, F b → w.heap.size ≤ b) ∧ NDisk w0 w' p D (fun b => X b ∨ F b) ∧ Grew w w') := by
  obtain ⟨F, h1, h2⟩ := h
  refine Calls.ok (Disk_Read h1) ?_
  rintro v w' ⟨u, rfl, a, n, c, G, rfl, ho, hk, hG⟩
  exact ⟨a, n, c, G, rfl, ho, hG, NDisk.add ⟨F, h1, h2⟩ hk fun b hb => ⟨hG b hb, ho.dom b hb⟩, hk⟩
theorem NDisk.list (h : NDisk w0 w p D X) : Calls Tryz.prog F_vdisk_Disk_List #[.pointer (some ⟨p, 0, none⟩)] w (Ok fun v w' => ∃ a n c F, v = .slice a n c ∧ Lst cStr 9 F w' a n c D.list ∧ (∀ b, F b → w.heap.size ≤ b) ∧ NDisk w0 w' p D (fun b => X b ∨ F b) ∧ Grew w w') := by
  obtain ⟨F, h1, h2⟩ := h
  refine Calls.ok (Disk_List h1) ?_
  rintro v w' ⟨a, n, c, G, rfl, ho, hk, hG⟩
  exact ⟨a, n, c, G, rfl, ho, hG, NDisk.add ⟨F, h1, h2⟩ hk fun b hb => ⟨hG b hb, ho.dom b hb⟩, hk⟩
theorem NDisk.room (h : NDisk w0 w p D X) : Calls Tryz.prog F_vdisk_Disk_Room #[.pointer (some ⟨p, 0, none⟩)] w (Ok fun v w' => v = .int .i64 D.room ∧ NDisk w0 w' p D X ∧ Grew w w') := by
  obtain ⟨F, h1, h2⟩ := h
  refine Calls.ok (Disk_Room h1) ?_
  rintro v w' ⟨rfl, hk⟩
  exact ⟨rfl, NDisk.grew ⟨F, h1, h2⟩ hk, hk⟩
theorem NDisk.dead (h : NDisk w0 w p D X) : Calls Tryz.prog F_vdisk_Disk_Dead #[.pointer (some ⟨p, 0, none⟩)] w (Ok fun v w' => v = .bool D.dead ∧ w = w') := by
  obtain ⟨F, h1, h2⟩ := h
  exact Disk_Dead h1
end

theorem uD : Tryz.prog.underlying 26 = some (.pointer 80) := by kernel_rfl

/-- a disk of a size that may be -/
def newD (n : Nat) : DiskV := ⟨n, [], false, 0, false⟩
theorem new_ok {w0 w : World} {n : Int} (hg : Grew w0 w) (h1 : 64 ≤ n) (h2 : n ≤ 262144) : Calls Tryz.prog F_vdisk_New #[.int .i64 n] w (Ok fun v w' => ∃ p, v = .tuple #[.pointer (some ⟨p, 0, none⟩), .int .i64 0] ∧ NDisk w0 w' p (newD n.toNat) (fun b => b < w.heap.size) ∧ Grew w w') := by
  refine Calls.ok vdisk_New ?_
  intro v w' h
  rw [if_neg (by omega)] at h
  obtain ⟨p, F, rfl, hD, hk, hF⟩ := h
  exact ⟨p, rfl, NDisk.of hg hk hD hF fun b hb => hb, hk⟩

theorem bytes_lit {w : World} {g : Nat} {e : TypeId} {f : Nat × Nat} {cs : Array Value} (hg : w.heap[g]? = some (.cells cs e f)) (xs : List UInt8) (hc : cs.toList = xs.map fun x => Value.int .u8 (x.toNat : Int)) (hb : xs.length ≤ 1000) : Row cU8 1 w (· = g) (some ⟨g, 0, none⟩) xs.length xs :=
  Row.lit hg xs hc (fun _ _ => trivial) (by unfold Big; omega)

theorem lst_bytes {w : World} {F : Nat → Prop} {a : Option Addr} {n c : Nat} {xs : List UInt8} (h : Lst cU8 5 F w a n c xs) (hb : xs.length ≤ 1000000) : Row cU8 1 w F a n xs := h.row (by decide) (by unfold Big; omega)

theorem read_len {D : DiskV} (h : D.Ok) (k : ByteArray) : (D.read k).1.length ≤ 262144 := by
  unfold DiskV.read
  split
  · simp
  · split
    · simp
    · rename_i f hf; exact h.len (aget_mem hf)

def nA : ByteArray := ⟨#[97]⟩

end Go.Proofs.YtpmakiecgphijaaGreatDoor

/- segment: an event's frame, loading; events copied, and some -/
namespace Go.Lift
open Go
def evSome (n : Int) : EventV := ⟨0, n, n, [n - 1], 0, 0, 0, 1, 3, 0⟩
theorem evSome_ok {n : Int} (h1 : 1 ≤ n) (h2 : n ≤ 1000) : (evSome n).Ok ∧ (evSome n).deps.length ≤ 64 := by
  refine ⟨⟨?_, ?_, ?_, ?_, ?_, ?_, ?_, ?_, ?_, ?_⟩, by simp [evSome]⟩
  all_goals first | (unfold evSome I64; simp only; omega) | (intro x hx; simp [evSome] at hx; subst hx; unfold I64; omega)
end Go.Lift
namespace Go.Proofs.YtpmakiecgphijaaGreatDoor
open Go.Lift
set_option linter.unusedVariables false
set_option maxRecDepth 20000

theorem law20_some {n : Int} {w : World} (h1 : 1 ≤ n) (h2 : n ≤ 1000) : Calls Tryz.prog F_law20_some #[.int .i64 n] w (Ok fun v w' => ∃ a m c F, v = .agg (evCells (evSome n) a m c).toArray ∧
    Lst cI64 3 F w' a m c (evSome n).deps ∧ (∀ b, F b → w.heap.size ≤ b) ∧ Grew w w') := by
  have e1 : IntKind.wrap .i64 (n - 1) = n - 1 := wrap_i64 (by unfold I64; omega)
  refine L_law20_some (PA.mk fun w1 k1 s1 g1 => PA.mk fun w2 k2 s2 g2 => ?_)
  have gq := k2.get g1 id
  rw [e1] at g2
  refine storeAll (evCells (evSome n) (some ⟨w1.heap.size, 0, none⟩) 1 1) gq rfl fun w3 k3 s3 g3 => ?_
  have gd := k3.get g2 (by omega)
  refine ⟨_, _, _, _, _, _, _, _, _, _, _, _, cell_at g3 rfl, cell_at g3 rfl, cell_at g3 rfl, cell_at g3 rfl, cell_at g3 rfl, cell_at g3 rfl, cell_at g3 rfl, cell_at g3 rfl, cell_at g3 rfl, cell_at g3 rfl,
    Ok.mk ⟨_, _, _, (· = w1.heap.size), rfl, ?_, ?_, ?_⟩⟩
  · refine ⟨⟨[.int .i64 (n - 1)], fun _ => False, Own.of_new (n := 1) (k := 1) gd rfl (by decide), ⟨[.int .i64 (n - 1)], [], rfl, ⟨rfl, by unfold I64; omega⟩, rfl⟩, fun _ h => h.elim⟩, fun b h => by cases h; rfl, fun b h => ?_⟩
    subst h; exact lt_of_get gd
  · rintro b rfl; omega
  · exact (k1.then k2).new k3 fun b hb => .inr (by omega)

theorem seg_Frame {w : World} {D : Nat → Prop} {e : EventV} {a : Option Addr} {n c : Nat} (hw : Laid w) (hd : Row cI64 8 w D a n e.deps) (he : e.Ok) (hD : ∀ b, D b → b < w.heap.size) :
    Calls Tryz.prog F_segment_Frame #[.agg (evCells e a n c).toArray] w (Ok fun v w' => ∃ a' n' c' F, v = .tuple #[.slice a' n' c', .int .i64 (segFrame e).2] ∧ Lst cU8 5 F w' a' n' c' (segFrame e).1 ∧ Grew w w' ∧ ∀ b, F b → w.heap.size ≤ b) := by
  refine L_segment_Frame (PA.mk fun w1 k1 s1 g1 => ?_)
  refine ⟨_, _, _, _, _, _, _, _, _, _, _, _, cell_at g1 rfl, cell_at g1 rfl, cell_at g1 rfl, cell_at g1 rfl, cell_at g1 rfl, cell_at g1 rfl, cell_at g1 rfl, cell_at g1 rfl, cell_at g1 rfl, cell_at g1 rfl,
    PC.ok (event_Put (hd.grew k1) he fun b hb => Nat.lt_of_lt_of_le (hD b hb) k1.size) ?_⟩
  rintro _ w2 ⟨_, rfl, a2, n2, c2, F2, rfl, ho2, k2, hF2⟩
  refine ⟨_, _, _, _, rfl, PIf.neI (fun hne => ?_) (fun he0 => ?_)⟩
  · rw [show segFrame e = ([], (evPut e).2) by unfold segFrame; rw [if_pos hne]]
    exact Ok.mk ⟨none, 0, 0, fun _ => False, rfl, Lst.nil w2, k1.then k2, fun _ h => h.elim⟩
  rw [show segFrame e = frPut 1 (evPut e).1 by unfold segFrame; rw [if_neg (by simpa using he0)]]
  have hle : (evPut e).1.length ≤ 666 := by
    by_cases h : 64 < e.deps.length
    · simp [evPut, h]
    · have := ev_le he (by omega)
      simpa [evPut, h] using this
  refine PC.ok (frame_Put (hw.grew (k1.then k2)).tabs (ho2.row (bytes := 1) (by decide) (by unfold Big; omega)) ho2.dom) ?_
  rintro _ w3 ⟨_, rfl, a3, n3, c3, F3, rfl, ho3, k3, hF3⟩
  refine ⟨_, _, _, _, rfl, Ok.mk ⟨_, _, _, F3, rfl, ho3, (k1.then k2).then k3, fun b hb => ?_⟩⟩
  have := hF3 b hb; have := (k1.then k2).size; omega

theorem drop_sub {α : Type} {l : List α} {m : Nat} (h : l.length = m) (k : Nat) : (l.take m).drop k = l.drop k := by rw [List.take_of_length_le (by omega)]

theorem seg_Load {w : World} {p : Nat} {F : Nat → Prop} {D : DiskV} {no : Int} (hw : Laid w) (hD : DiskAt w p F D) (hn : I64 no) :
    Calls Tryz.prog F_segment_Load #[.pointer (some ⟨p, 0, none⟩), .int .i64 no] w (Ok fun v w' => ∃ a n c G, v = .tuple #[.slice a n c, .int .i64 ((segLoad (D.read (txt (segName no))).1).2 : Int)] ∧
      Lst cEvO 47 G w' a n c (segLoad (D.read (txt (segName no))).1).1 ∧ Grew w w' ∧ (∀ b, G b → w.heap.size ≤ b) ∧ (segLoad (D.read (txt (segName no))).1).1.length ≤ 262144) := by
  refine L_segment_Load (PC.ok (seg_Name hw hn) ?_)
  rintro _ w1 ⟨rfl, k1⟩
  refine ⟨_, rfl, PC.ok (Disk_Read (hD.grew k1)) ?_⟩
  rintro _ w2 ⟨_, rfl, a2, n2, c2, F2, rfl, ho2, k2, hF2⟩
  have hlen := read_len hD.ok (txt (segName no))
  have hnil : (D.read (txt (segName no))).2 ≠ 0 → (D.read (txt (segName no))).1 = [] := by
    unfold DiskV.read
    split
    · intro _; rfl
    · split
      · intro _; rfl
      · intro h; exact absurd rfl h
  generalize D.read (txt (segName no)) = rd at ho2 hlen hnil
  obtain ⟨bs, er⟩ := rd
  simp only at ho2 hlen hnil ⊢
  refine ⟨_, _, _, _, rfl, PIf.neI (fun hne => ?_) (fun he => ?_)⟩
  · rw [hnil hne, segLoad_nil]
    exact Ok.mk ⟨none, 0, 0, fun _ => False, rfl, Lst.nil w2, k1.then k2, fun _ h => h.elim, by simp⟩
  have hn2 := ho2.len (by decide)
  have hc2 := ho2.cap_le
  have hrow2 : Row cU8 1 w2 F2 a2 n2 bs := ho2.row (by decide) (by unfold Big; omega)
  refine ⟨fun m oa on oc at' w' => ∃ (pos : Nat) (out : List EventV) (G : Nat → Prop), at' = pos ∧ pos ≤ bs.length ∧ m = bs.length - pos ∧ segLoad bs = (out ++ (segLoad (bs.drop pos)).1, pos + (segLoad (bs.drop pos)).2) ∧ out.length ≤ pos ∧
    Lst cEvO 47 G w' oa on oc out ∧ Grew w2 w' ∧ ∀ b, G b → w2.heap.size ≤ b, ⟨_, 0, [], fun _ => False, rfl, Nat.zero_le _, rfl, by simp, by simp, Lst.nil w2, Keep.refl _, fun _ h => h.elim⟩, ?_⟩
  rintro m oa on oc _ _ w3 ⟨pos, out, G, rfl, hpos, rfl, hseg, hout, ho3, k3, hG⟩
  refine ⟨by omega, by omega, ?_⟩
  have kk : Grew w w3 := (k1.then k2).then k3
  have hpart := (hrow2.grew k3).part (lo := pos) (hi := n2) (cap := c2) (by omega) (Nat.le_refl _) hc2
  rw [drop_sub hn2.symm] at hpart
  rw [Int.toNat_natCast]
  refine PC.ok (frame_Get (hw.grew kk).tabs hpart (by omega) fun b hb => by have := ho2.dom b hb; have := k3.size; omega) ?_
  rintro _ w4 ⟨a4, n4, c4, F4, rfl, ho4, k4, hF4⟩
  have stop : ¬ ((frGet (bs.drop pos)).no = 0 ∧ (frGet (bs.drop pos)).kind = 1 ∧ (evGet (frGet (bs.drop pos)).body).2 = 0) → ∀ w', Grew w4 w' →
      Ok (fun v w' => ∃ a n c G, v = .tuple #[.slice a n c, .int .i64 ((segLoad bs).2 : Int)] ∧ Lst cEvO 47 G w' a n c (segLoad bs).1 ∧ Grew w w' ∧ (∀ b, G b → w.heap.size ≤ b) ∧ (segLoad bs).1.length ≤ 262144) (.returned (.tuple #[.slice oa on oc, .int .i64 (pos : Int)])) w' := by
    intro h w' hk
    rw [hseg, segLoad_no h]
    refine Ok.mk ⟨oa, on, oc, G, by simp, by simpa using (ho3.grew k4).grew hk, (kk.then k4).then hk, fun b hb => ?_, by simp; omega⟩
    have := hG b hb; have := (k1.then k2).size; omega
  refine ⟨_, _, _, _, _, _, rfl, PA.mk fun w5 k5 s5 g5 => ?_⟩
  refine storeAll [.int .i64 (frGet (bs.drop pos)).kind, .slice a4 n4 c4] g5 rfl fun w6 k6 s6 g6 => ?_
  have k46 : Grew w4 w6 := k5.new k6 fun b hb => .inr (by omega)
  refine PIf.neI (fun hne => stop (fun h => hne h.1) w6 k46) (fun hno => ?_)
  refine ⟨_, cell_at g6 rfl, PIf.neI (fun hne => stop (fun h => hne h.2.1) w6 k46) (fun hkind => ?_)⟩
  obtain ⟨hle, h9, hbl⟩ := frGet_no hno
  rw [List.length_drop] at hle
  have ho6 := ho4.grew k46
  refine ⟨_, _, _, cell_at g6 rfl, PC.ok (event_Get (ho6.row (bytes := 1) (by decide) (by unfold Big; omega)) ho6.dom) ?_⟩
  rintro _ w7 ⟨a7, n7, c7, F7, rfl, ho7, k7, hF7⟩
  obtain ⟨hok, hdl⟩ := evGet_ok (frGet (bs.drop pos)).body
  generalize hE : evGet (frGet (bs.drop pos)).body = E at ho7 hok hdl
  obtain ⟨x, xe⟩ := E
  simp only at ho7 hok hdl
  refine ⟨_, _, _, _, _, _, _, _, _, _, _, _, _, rfl, PA.mk fun w8 k8 s8 g8 => ?_⟩
  refine storeAll (evCells x a7 n7 c7) g8 rfl fun w9 k9 s9 g9 => ?_
  have k79 : Grew w7 w9 := k8.new k9 fun b hb => .inr (by omega)
  have k49 : Grew w4 w9 := (k46.then k7).then k79
  refine PIf.neI (fun hne => stop (fun h => hne (by have := h.2.2; rw [hE] at this; exact this)) w9 k49) (fun hxe => ?_)
  refine ⟨_, _, _, _, _, _, _, _, _, _, _, _, cell_at g9 rfl, cell_at g9 rfl, cell_at g9 rfl, cell_at g9 rfl, cell_at g9 rfl, cell_at g9 rfl, cell_at g9 rfl, cell_at g9 rfl, cell_at g9 rfl, cell_at g9 rfl, ?_⟩
  have k39 : Grew w3 w9 := k4.then k49
  have ho9 := ho3.grew k39
  have ho79 := ho7.grew k79
  have hs67 := (k4.then k46).size
  refine papp ho9 slEv (x := x) (D := F7) ⟨a7, n7, c7, F7, rfl, ho79, fun _ h => h, hok, by unfold Big; omega⟩ (fun b hb => ⟨ho79.dom b hb, fun hc => ?_⟩) (by unfold Big; omega) (by unfold maxLen; omega) fun a' c' w10 F' ho10 hk10 hF10 _ => ?_
  · have h1 := ho3.dom b (ho3.self b hc)
    have h2 := hF7 b hb
    omega
  refine ⟨_, _, _, rfl, _, ?_, pos + (frGet (bs.drop pos)).n, out ++ [x], F', ?_, by omega, rfl, ?_, by simp; omega, ho10, ?_, ?_⟩
  · omega
  · rw [wrap_i64 (by unfold I64; omega)]; omega
  · rw [hseg, segLoad_yes ⟨hno, hkind, by rw [hE]; exact hxe⟩, hE, List.drop_drop]
    simp only [List.append_assoc, List.cons_append, List.nil_append, Nat.add_assoc]
  · exact (k3.then k39).new hk10 fun b hb => .inr (hG b (ho3.self b hb))
  · intro b hb
    have hz := (k3.then k39).size
    have hz3 := k3.size
    rcases hF10 b hb with h | h | h
    · exact hG b h
    · have := hF7 b h; omega
    · omega

theorem kit_CopyEvent {e : EventV} {a : Option Addr} {n c : Nat} {w : World} {D : Nat → Prop} (hd : Row cI64 8 w D a n e.deps) :
    Calls Tryz.prog F_kit_CopyEvent #[.agg (evCells e a n c).toArray] w (Ok fun v w' => ∃ a' n' c' F, v = .agg (evCells e a' n' c').toArray ∧ Lst cI64 3 F w' a' n' c' e.deps ∧ Grew w w' ∧ ∀ b, F b → w.heap.size ≤ b) := by
  refine L_kit_CopyEvent (PA.mk fun w1 k1 s1 g1 => PA.mk fun w2 k2 s2 g2 => ?_)
  have k02 : Grew w w2 := k1.then k2
  refine ⟨_, _, _, cell_at (k2.get g1 id) rfl, PC.ok (kit_CopyIntsR (hd.grew k02)) ?_⟩
  rintro _ w3 ⟨a3, n3, c3, F3, rfl, ho3, k3, hF3⟩
  have gE := k3.get (k2.get g1 id) id
  have gR := k3.get g2 id
  refine ⟨_, _, _, rfl, PS.mk gE (by simp) fun w4 k4 s4 g4 => ?_⟩
  have g4' : w4.heap[w.heap.size]? = some (.cells (evCells e a3 n3 c3).toArray 47 (0, 0)) := by rw [g4]; rfl
  have gR4 := k4.get gR (by omega)
  refine ⟨_, _, _, _, _, _, _, _, _, _, _, _, cell_at g4' rfl, cell_at g4' rfl, cell_at g4' rfl, cell_at g4' rfl, cell_at g4' rfl, cell_at g4' rfl, cell_at g4' rfl, cell_at g4' rfl, cell_at g4' rfl, cell_at g4' rfl, ?_⟩
  refine storeAll (evCells e a3 n3 c3) gR4 rfl fun w5 k5 s5 g5 => ?_
  refine ⟨_, _, _, _, _, _, _, _, _, _, _, _, cell_at g5 rfl, cell_at g5 rfl, cell_at g5 rfl, cell_at g5 rfl, cell_at g5 rfl, cell_at g5 rfl, cell_at g5 rfl, cell_at g5 rfl, cell_at g5 rfl, cell_at g5 rfl,
    Ok.mk ⟨a3, n3, c3, F3, rfl, ?_, ?_, fun b hb => by have := hF3 b hb; omega⟩⟩
  · exact (ho3.keep k4 fun b hb e => by have := hF3 b hb; omega).keep k5 fun b hb e => by have := hF3 b hb; omega
  · exact ((k02.then k3).new k4 fun b hb => .inr (by omega)).new k5 fun b hb => .inr (by omega)

theorem kit_CopyEvents {l : List EventV} {a : Option Addr} {n c : Nat} {w : World} {D : Nat → Prop} (ha : Row cEv 96 w D a n l) (hsm : ∀ e ∈ l, e.deps.length ≤ 100) :
    Calls Tryz.prog F_kit_CopyEvents #[.slice a n c] w (Ok (New cEvO 47 w l)) := by
  have ha0 := ha.len; have ha1 := ha.big
  unfold Big at ha1
  refine L_kit_CopyEvents ⟨fun k oa on oc i w' => i = (on : Int) ∧ on ≤ n ∧ k = n - on ∧ ∃ F, Lst cEvO 47 F w' oa on oc (l.take on) ∧ Grew w w' ∧ ∀ b, F b → w.heap.size ≤ b,
    ⟨_, rfl, Nat.zero_le _, rfl, fun _ => False, by simpa using Lst.nil w, Keep.refl _, fun _ h => h.elim⟩, ?_⟩
  rintro k oa on oc i _ w1 ⟨rfl, hj, rfl, F, ho, hk, hF⟩
  refine PIf.dec (fun h1 => ?_) (fun h1 => ?_)
  · obtain ⟨b, off, x, es, rfl, _, _, hx, hc, a1, n1, c1, rfl, hr, hok⟩ := (ha.grew hk).atN (i := on) (by omega)
    have htl : (l.take on).length = on := by simp; omega
    have e1 := fun i (hi : i < 10) => hc i hi
    refine ⟨b, off, rfl, by omega, by omega, _, _, _, _, _, _, _, _, _, _, _, _, e1 0 (by decide), e1 1 (by decide), e1 2 (by decide), e1 3 (by decide), e1 4 (by decide), e1 5 (by decide), e1 6 (by decide), e1 7 (by decide), e1 8 (by decide), e1 9 (by decide), ?_⟩
    refine PC.ok (kit_CopyEvent hr) ?_
    rintro _ w2 ⟨a2, n2, c2, F2, rfl, ho2, k2, hF2⟩
    have hdl := hsm x (List.mem_of_getElem? hx)
    refine ⟨_, _, _, _, _, _, _, _, _, _, _, _, rfl, papp (ho.grew k2) slEv (x := x) (D := F2) ⟨a2, n2, c2, F2, rfl, ho2, fun _ h => h, hok, by unfold Big; omega⟩ (fun b hb => ⟨ho2.dom b hb, fun hc => ?_⟩) (by rw [htl]; unfold Big; omega) (by rw [htl]; unfold maxLen; omega) fun a' c' w3 F' ho3 hk3 hF3 _ => ?_⟩
    · have h1 := ho.dom b (ho.self b hc); have h2 := hF2 b hb; omega
    refine ⟨_, _, _, rfl, n - (on + 1), by omega, wrap_succ (by omega), by omega, rfl, F', ?_, (hk.then k2).new hk3 fun b hb => .inr (hF b (ho.self b hb)), ?_⟩
    · rw [List.take_add_one, hx]; exact ho3
    · intro b hb
      have := hk.size; have := (hk.then k2).size
      rcases hF3 b hb with h | h | h
      · exact hF b h
      · have := hF2 b h; omega
      · omega
  · obtain rfl : on = n := by omega
    rw [List.take_of_length_le (by omega)] at ho
    exact Ok.mk ⟨_, _, _, F, rfl, ho, hk, hF⟩
end Go.Proofs.YtpmakiecgphijaaGreatDoor

/- a disk with one file -/
namespace Go.Proofs.YtpmakiecgphijaaGreatDoor
open Go.Lift
set_option linter.unusedVariables false
/-- a disk with one file, that was never synced -/
def oneD (n : Nat) (k : ByteArray) (bs : List UInt8) : DiskV := ⟨n, [(k, ⟨bs, 0, false⟩)], false, 0, false⟩
theorem create_one {n : Nat} {k : ByteArray} (h : isNameV k = true) : (newD n).create k = (0, oneD n k []) := by
  simp [DiskV.create, DiskV.op, DiskV.dies, DiskV.armed, newD, oneD, h, aget, DiskV.setF, aput]
theorem append_one {n : Nat} {k : ByteArray} {bs xs : List UInt8} (h : bs.length + xs.length ≤ n) : (oneD n k bs).append k xs = (0, oneD n k (bs ++ xs)) := by
  have hr : ¬ ((xs.length : Int) > (oneD n k bs).room) := by unfold DiskV.room DiskV.used sumLen oneD; simp; omega
  have e : (oneD n k bs).append k xs = if (xs.length : Int) > (oneD n k bs).room then (12, oneD n k bs) else (0, (oneD n k bs).setF k ⟨bs ++ xs, 0, false⟩) := by
    simp [DiskV.append, DiskV.op, DiskV.dies, DiskV.armed, oneD, DiskV.onF, aget]
  rw [e, if_neg hr]
  simp [oneD, DiskV.setF, aput]
theorem read_one {n : Nat} {k : ByteArray} {bs : List UInt8} : (oneD n k bs).read k = (bs, 0) := by
  simp [DiskV.read, oneD, aget]
theorem read_two {n : Nat} {k k' : ByteArray} {bs : List UInt8} (h : k' ≠ k) : (oneD n k bs).read k' = ([], 14) := by
  simp [DiskV.read, oneD, aget, h]
end Go.Proofs.YtpmakiecgphijaaGreatDoor

/- what each statement about segments asks: two frames, and half a third one -/
namespace Go.Lift
open Go
theorem Row.of_reps {α : Type} {c : Cod α} {bytes : Nat} {w : World} {D : Nat → Prop} {g : Nat} {e : TypeId} {f : Nat × Nat} {cs : List Value} {xs : List α} (hg : w.heap[g]? = some (.cells cs.toArray e f)) (hr : Reps c w D xs cs) (hD : D g) (hb : xs.length * bytes ≤ Big) :
    Row c bytes w D (some ⟨g, 0, none⟩) xs.length xs :=
  ⟨rfl, hb, fun i x hi => by
    obtain ⟨es, h1, h2⟩ := hr.at hi
    refine ⟨g, 0, es, rfl, lt_of_get hg, hD, fun j hj => ?_, h2⟩
    have hl := c.len h2
    have h3 := h1 j hj
    rw [List.getElem?_eq_getElem (show j < es.length by omega)] at h3 ⊢
    rw [Nat.zero_add]
    exact cell_at hg (by simpa using h3)⟩
theorem half_wrap {n : Nat} (h : n ≤ 1000000) : IntKind.wrap .i64 (Int.tdiv (n : Int) 2) = ((n / 2 : Nat) : Int) := by
  have : Int.tdiv (n : Int) 2 = ((n / 2 : Nat) : Int) := by rw [Int.tdiv_eq_ediv_of_nonneg (by omega)]; omega
  rw [this, wrap_i64 (by unfold I64; omega)]
end Go.Lift
namespace Go.Proofs.YtpmakiecgphijaaGreatDoor
open Go.Lift
set_option linter.unusedVariables false
set_option maxRecDepth 20000

section
variable {w0 w w1 w' : World} {p : Nat} {D D' : DiskV} {X Y : Nat → Prop}
theorem NDisk.load {n : Int} (h : NDisk w0 w p D X) (hw : Laid w0) (hn : I64 n) : Calls Tryz.prog F_segment_Load #[.pointer (some ⟨p, 0, none⟩), .int .i64 n] w (Ok fun v w' =>
    ∃ a m c G, v = .tuple #[.slice a m c, .int .i64 ((segLoad (D.read (txt (segName n))).1).2 : Int)] ∧ Lst cEvO 47 G w' a m c (segLoad (D.read (txt (segName n))).1).1 ∧
      (∀ b, G b → w.heap.size ≤ b) ∧ NDisk w0 w' p D (fun b => X b ∨ G b) ∧ Grew w w' ∧ (segLoad (D.read (txt (segName n))).1).1.length ≤ 262144) := by
  obtain ⟨F, h1, h2⟩ := h
  refine Calls.ok (seg_Load (hw.grew h2.1) h1 hn) ?_
  rintro v w' ⟨a, m, c, G, rfl, ho, hk, hG, hl⟩
  exact ⟨a, m, c, G, rfl, ho, hG, NDisk.add ⟨F, h1, h2⟩ hk fun b hb => ⟨hG b hb, ho.dom b hb⟩, hk, hl⟩
/-- bytes of our own, appended -/
theorem NDisk.appendL {k : ByteArray} {a : Option Addr} {n c : Nat} {bs : List UInt8} {G : Nat → Prop} (h : NDisk w0 w p D X) (hb : Lst cU8 5 G w a n c bs) (hl : bs.length ≤ Big) (hG : ∀ b, G b → X b) :
    Calls Tryz.prog F_vdisk_Disk_Append #[.pointer (some ⟨p, 0, none⟩), .string k, .slice a n c] w (Ok (Does2 w0 w p X (D.append k bs))) :=
  h.append (hb.row (by decide) (by omega)) (fun e => hb.nil0 e) fun b hb => .inr (hG b hb)
end
theorem lst_evs {w : World} {G : Nat → Prop} {a : Option Addr} {n c : Nat} {l : List EventV} (h : Lst cEvO 47 G w a n c l) (hl : l.length ≤ 1000000) : Row cEv 96 w G a n l :=
  cEvO.row (h.row (by decide) (by unfold Big; omega))

theorem some_le {n : Int} (h : (evSome n).Ok) : (evFr (evSome n)).length ≤ 108 := by
  have := encInts_le (h.ints (by simp [evSome]))
  have hl : (evInts (evSome n)).length = 11 := by simp [evInts, evSome]
  unfold evFr
  rw [frBytes_length]; omega
theorem works_load : segLoad (evFr (evSome 1) ++ evFr (evSome 2) ++ (evFr (evSome 1)).take ((evFr (evSome 1)).length / 2)) = ([evSome 1, evSome 2], (evFr (evSome 1)).length + (evFr (evSome 2)).length) := by
  have o1 := evSome_ok (n := 1) (by decide) (by decide)
  have o2 := evSome_ok (n := 2) (by decide) (by decide)
  have h9 := evFr_length o1.1 o1.2
  have hend : segLoad ((evFr (evSome 1)).take ((evFr (evSome 1)).length / 2)) = ([], 0) :=
    segLoad_end (frGet_torn (by have := ev_le o1.1 o1.2; omega) (by show _ < (evFr (evSome 1)).length; omega))
  rw [List.append_assoc, segLoad_ev o1.1 o1.2, segLoad_ev o2.1 o2.2, hend]
  simp

def s7 : ByteArray := ⟨#[115, 101, 103, 46, 55]⟩
theorem s7_name : txt (segName 7) = s7 := by decide +kernel

theorem works {w : World} (hw : Laid w) : Calls Tryz.prog F_law20_works #[] w (Ok fun v w' => v = .bool true ∧ Grew w w') := by
  have o1 := evSome_ok (n := 1) (by decide) (by decide)
  have o2 := evSome_ok (n := 2) (by decide) (by decide)
  have l1 : (evFr (evSome 1)).length ≤ 108 ∧ 9 ≤ (evFr (evSome 1)).length := ⟨some_le o1.1, (evFr_length o1.1 o1.2).2⟩
  have l2 : (evFr (evSome 2)).length ≤ 108 ∧ 9 ≤ (evFr (evSome 2)).length := ⟨some_le o2.1, (evFr_length o2.1 o2.2).2⟩
  refine L_law20_works (PC.ok (new_ok (Keep.refl w) (by omega) (by omega)) ?_)
  rintro _ w1 ⟨p, rfl, h1, -⟩
  replace h1 := h1.mono (Y := no) fun _ h => h.elim
  refine ⟨_, _, rfl, PC.ok (law20_some (by decide) (by decide)) ?_⟩
  rintro _ w2 ⟨a2, n2, c2, F2, rfl, ho2, hF2, k2⟩
  have h2 := h1.grew k2
  refine ⟨_, _, _, _, _, _, _, _, _, _, _, _, rfl, PC.ok (seg_Frame (hw.grew h2.gr) (ho2.row (bytes := 8) (by decide) (by simp [evSome, Big])) o1.1 ho2.dom) ?_⟩
  rintro _ w3 ⟨a3, n3, c3, F3, rfl, ho3, k3, hF3⟩
  rw [segFrame_ok o1.1 o1.2] at ho3 ⊢
  simp only at ho3 ⊢
  have h3 := h2.add k3 fun b hb => ⟨hF3 b hb, ho3.dom b hb⟩
  refine ⟨_, _, _, _, rfl, PC.ok (law20_some (by decide) (by decide)) ?_⟩
  rintro _ w4 ⟨a4, n4, c4, F4, rfl, ho4, hF4, k4⟩
  have h4 := h3.grew k4
  refine ⟨_, _, _, _, _, _, _, _, _, _, _, _, rfl, PC.ok (seg_Frame (hw.grew h4.gr) (ho4.row (bytes := 8) (by decide) (by simp [evSome, Big])) o2.1 ho4.dom) ?_⟩
  rintro _ w5 ⟨a5, n5, c5, F5, rfl, ho5, k5, hF5⟩
  rw [segFrame_ok o2.1 o2.2] at ho5 ⊢
  simp only at ho5 ⊢
  have h5 := h4.add k5 fun b hb => ⟨hF5 b hb, ho5.dom b hb⟩
  have ho35 := (ho3.grew k4).grew k5
  refine ⟨_, _, _, _, rfl, PC.ok (seg_Number (hw.grew h5.gr)) ?_⟩
  rintro _ w6 ⟨rfl, k6⟩
  have h6 := h5.grew k6
  refine ⟨_, _, rfl, PC.ok (seg_Number (hw.grew h6.gr)) ?_⟩
  rintro _ w7 ⟨rfl, k7⟩
  have h7 := h6.grew k7
  have ho37 := (ho35.grew k6).grew k7
  have ho57 := (ho5.grew k6).grew k7
  refine ⟨_, _, rfl, PIf.ff rfl (PIf.ff rfl (PIf.ff rfl (eq_nil_ptr uD ⟨_, rfl, PIf.ff rfl (PC.ok h7.create ?_)⟩)))⟩
  rintro _ w8 ⟨rfl, h8, k8⟩
  have e7 : isNameV s7 = true := by decide +kernel
  change NDisk w w8 p ((newD 1000).create s7).2 _ at h8
  rw [show (⟨#[115, 101, 103, 46, 55]⟩ : ByteArray) = s7 from rfl]
  change NDisk w w8 p ((newD 1000).create s7).2 _ at h8
  have ec : (newD (Int.toNat 1000)).create s7 = (0, oneD 1000 s7 []) := create_one e7
  rw [show (newD 1000).create s7 = _ from ec] at h8
  rw [ec]
  have ho38 := ho37.keep k8 fun b hb hn => hn (.inl (.inr hb))
  have ho58 := ho57.keep k8 fun b hb hn => hn (.inr hb)
  refine ⟨_, rfl, PIf.ff rfl (PC.ok (h8.appendL ho38 (by unfold Big; omega) fun b hb => .inl (.inr hb)) ?_)⟩
  rintro _ w9 ⟨rfl, h9, k9⟩
  rw [append_one (by simp; omega)] at h9 ⊢
  have ho39 := ho38.keep k9 fun b hb hn => hn (.inl (.inr hb))
  have ho59 := ho58.keep k9 fun b hb hn => hn (.inr hb)
  refine ⟨_, rfl, PC.ok (h9.appendL ho59 (by unfold Big; omega) fun b hb => .inr hb) ?_⟩
  rintro _ w10 ⟨rfl, h10, k10⟩
  rw [append_one (by simp; omega)] at h10 ⊢
  have ho310 := ho39.keep k10 fun b hb hn => hn (.inl (.inr hb))
  have hl3 := ho3.len (by decide)
  have hl5 := ho5.len (by decide)
  have hc3 := ho3.cap_le
  have hh := half_wrap (n := n3) (by omega)
  refine ⟨_, rfl, by rw [hh]; omega, by rw [hh]; omega, ?_⟩
  rw [hh, Int.toNat_natCast]
  refine PC.ok (h10.append (((ho310.row (bytes := 1) (by decide) (by unfold Big; omega))).take (m := n3 / 2) (by omega)) (fun e => ⟨by have := (ho310.nil0 e).1; omega, (ho310.nil0 e).2⟩) fun b hb => .inr (.inl (.inr hb))) ?_
  rintro _ w11 ⟨rfl, h11, k11⟩
  rw [append_one (by simp; omega)] at h11 ⊢
  refine ⟨_, rfl, PC.ok (h11.load hw (by unfold I64; omega)) ?_⟩
  rintro _ w12 ⟨a12, n12, c12, F12, rfl, ho12, hF12, h12, k12, -⟩
  rw [s7_name, read_one, List.nil_append, hl3, works_load] at ho12 ⊢
  refine ⟨_, _, _, _, rfl, PC.ok (seg_Name (hw.grew h12.gr) (by unfold I64; omega)) ?_⟩
  rintro _ w13 ⟨rfl, k13⟩
  refine ⟨_, rfl, ?_⟩
  rw [s7_name]
  refine PIf.tt (by decide +kernel) (PIf.tt (by decide +kernel) (PIf.tt (by decide +kernel) (PIf.tt (by decide +kernel) (PIf.tt ?_ ?_))))
  · rw [hl5, wrap_i64 (by unfold I64; omega)]; simp
  have g13 := h12.gr.then k13
  refine PC.ok (law20_some (by decide) (by decide)) ?_
  rintro _ w14 ⟨a14, n14, c14, F14, rfl, ho14, hF14, k14⟩
  refine ⟨_, _, _, _, _, _, _, _, _, _, _, _, rfl, PC.ok (law20_some (by decide) (by decide)) ?_⟩
  rintro _ w15 ⟨a15, n15, c15, F15, rfl, ho15, hF15, k15⟩
  refine ⟨_, _, _, _, _, _, _, _, _, _, _, _, rfl, PA.mk fun w16 k16 s16 g16 => ?_⟩
  have r1 := ((ho14.grew k15).grew k16).row (bytes := 8) (by decide) (by simp [evSome, Big])
  have r2 := (ho15.grew k16).row (bytes := 8) (by decide) (by simp [evSome, Big])
  have hrow : Row cEv 96 w16 (fun _ => True) (some ⟨w15.heap.size, 0, none⟩) 2 [evSome 1, evSome 2] :=
    Row.of_reps (xs := [evSome 1, evSome 2]) (cs := evCells (evSome 1) a14 n14 c14 ++ evCells (evSome 2) a15 n15 c15) g16
      (Reps.append (Reps.one (c := cEv) ⟨a14, n14, c14, rfl, r1.mono fun _ _ => trivial, o1.1⟩) (Reps.one (c := cEv) ⟨a15, n15, c15, rfl, r2.mono fun _ _ => trivial, o2.1⟩)) trivial (by unfold Big; simp)
  refine PC.ok (kit_SameEvents (lst_evs ((((ho12.grew k13).grew k14).grew k15).grew k16) (by simp)) hrow) ?_
  rintro _ w17 ⟨rfl, k17⟩
  exact ⟨_, rfl, Ok.mk ⟨by simp, (((g13.then k14).then k15).then k16).then k17⟩⟩
end Go.Proofs.YtpmakiecgphijaaGreatDoor

/- SegmentBack: the walk -/
namespace Go.Proofs.YtpmakiecgphijaaGreatDoor
open Go.Lift
set_option linter.unusedVariables false
set_option maxRecDepth 20000

/-- the end of each of them -/
theorem fin {w w1 : World} (hw : Laid w) (hk : Grew w w1) {ε : List PanicEntry → World → Prop} : PC Tryz.prog F_law20_works #[] w1 (fun v w2 => ∃ t : Bool, v = .bool t ∧ Ok (fun v w' => v = .bool true ∧ Grew w w') (.returned (.bool t)) w2) ε :=
  PC.ok (works (hw.grew hk)) (by rintro _ w2 ⟨rfl, k2⟩; exact ⟨_, rfl, Ok.mk ⟨rfl, hk.then k2⟩⟩)

theorem name_ok {n : Int} (h0 : 0 ≤ n) (h1 : n < 1000000000000) : isNameV (txt (segName n)) = true := seg_name_ok h0 h1

theorem SegmentBack {a b : Int} {w : World} (ha : I64 a) (hb : I64 b) (hw : Laid w) : Calls Tryz.prog F_law20_SegmentBack #[.int .i64 a, .int .i64 b] w (Ok fun v w' => v = .bool true ∧ Grew w w') := by
  refine L_law20_SegmentBack (PC.ok (seg_Name hw ha) ?_)
  rintro _ w1 ⟨rfl, k1⟩
  refine ⟨_, rfl, fun t w' => t = decide (a < 0 ∨ 1000000000000 ≤ a) ∧ w' = w1, PIf.dec (fun h => ⟨by simp [h], rfl⟩) (fun h => ⟨by simp [h], rfl⟩), ?_⟩
  rintro t _ w2 ⟨rfl, rfl⟩
  refine PIf.dec (fun h => ?_) (fun h => ?_)
  · have e : segName a = [] := by unfold segName; rw [if_pos h]
    rw [e]
    refine PC.ok (seg_Number (hw.grew k1)) ?_
    rintro _ w3 ⟨rfl, k3⟩
    exact ⟨_, _, rfl, PIf.tt (by decide +kernel) (PIf.tt (by decide +kernel) (fin hw (k1.then k3)))⟩
  · have h0 : 0 ≤ a := by omega
    have h1 : a < 1000000000000 := by omega
    refine PC.ok (seg_Number (hw.grew k1)) ?_
    rintro _ w3 ⟨rfl, k3⟩
    have e : segNoV (txt (segName a)) = ((a.toNat : Int), true) := by unfold segNoV; rw [txt_list, segNo_name h0 h1]
    rw [e]
    refine ⟨_, _, rfl, PC.ok (new_ok (k1.then k3) (by omega) (by omega)) ?_⟩
    rintro _ w4 ⟨p, rfl, h4, -⟩
    replace h4 := h4.mono (Y := no) fun _ h => h.elim
    refine ⟨_, _, rfl, PIf.ff rfl (eq_nil_ptr uD ⟨_, rfl, PIf.ff rfl (PIf.tt (by simp; omega) (PIf.tt rfl ?_))⟩)⟩
    have hl := segName_length a
    have hc : (newD (Int.toNat 64)).create (txt (segName a)) = _ := create_one (name_ok h0 h1)
    refine PIf.eqI (fun hab => PIf.dec (fun _ => ?_) (fun hn => ?_)) (fun hab => ?_)
    · refine PC.ok h4.create ?_
      rintro _ w5 ⟨rfl, h5, k5⟩
      rw [hc] at h5 ⊢
      exact ⟨_, rfl, PIf.tt rfl (fin hw h5.gr)⟩
    · rw [txt_size] at hn; omega
    · refine PC.ok (seg_Name (hw.grew h4.gr) hb) ?_
      rintro _ w5 ⟨rfl, k5⟩
      refine ⟨_, rfl, PIf.neS (fun _ => PIf.dec (fun _ => ?_) (fun hn => ?_)) (fun he => ?_)⟩
      · refine PC.ok (h4.grew k5).create ?_
        rintro _ w6 ⟨rfl, h6, k6⟩
        rw [hc] at h6 ⊢
        exact ⟨_, rfl, PIf.tt rfl (fin hw h6.gr)⟩
      · rw [txt_size] at hn; omega
      · exact absurd (segName_inj h0 h1 (txt_inj he)).symm hab
end Go.Proofs.YtpmakiecgphijaaGreatDoor

/- SegmentNames: the walk -/
namespace Go.Lift
open Go
theorem txt_get {l : List UInt8} {i : Nat} (h : i < l.length) : (txt l)[i]? = some l[i] := by
  rw [getElem?_pos (txt l) i (by rw [txt_size]; exact h)]
  rfl
theorem conv_txt {P : Program} {src e dst : TypeId} (hs : P.underlying src = some (.slice e)) (he : P.underlying e = some (.int .u8)) (hd : P.underlying dst = some .string) {w : World} {F : Nat → Prop} {a : Option Addr} {n c : Nat} {e' : TypeId} {l : List UInt8}
    (ho : Lst cU8 e' F w a n c l) (hb : l.length ≤ 1000000) {κ ε : Value → World → Prop} (h : κ (.string (txt l)) w) : PRun P (convert src dst (.slice a n c)) w κ ε := by
  have hn := ho.len (by decide)
  have hr : Row cU8 1 w F a n l := ho.row (by decide) (by unfold Big; omega)
  obtain ⟨cs, D0, hown, _, _⟩ := ho.body
  rcases hown.cases with ⟨rfl, rfl, rfl, -⟩ | ⟨g, cur, rfl, hg, -⟩
  · have hl : l = [] := List.eq_nil_of_length_eq_zero hn.symm
    subst hl
    exact PRun.mk (run_convert_bytes_nil w src e hs he 0 0 dst hd) h
  · have hrun := run_convert_bytes_arg w (P := P) src e hs he g 0 n c (l.map fun d => (d.toNat : Int)) (by simp; omega) (fun i hi => by
      obtain ⟨b, off, x, hab, hx, _, hc⟩ := hr.at1 (i := i) hi
      cases hab
      rw [hc]
      simp [List.getD, hx]) dst hd
    have e2 : strOfNums (l.map fun d => (d.toNat : Int)) = txt l := by
      unfold strOfNums txt
      simp [List.map_map, Function.comp_def]
    rw [e2] at hrun
    exact PRun.mk hrun h
theorem Lst.u8 {e : TypeId} {w : World} {a : Option Addr} {n c : Nat} {l : List UInt8} (ho : Own w e 1 a n c (l.map fun x => Value.int .u8 (x.toNat : Int))) : Lst cU8 e (fun b => blk a = some b) w a n c l :=
  ⟨⟨_, fun _ => False, ho, Reps.flat_iff.2 List.map_eq_flatMap, fun _ h => h.elim⟩, fun _ h => h, fun b hb => ho.lt hb⟩
end Go.Lift
namespace Go.Proofs.YtpmakiecgphijaaGreatDoor
open Go.Lift
set_option linter.unusedVariables false
set_option maxRecDepth 20000

theorem ref20_Number {s : ByteArray} {w : World} : Calls Tryz.prog F_ref20_Number #[.string s] w (Ok fun v w' => v = .tuple #[.int .i64 (segNoV s).1, .bool (segNoV s).2] ∧ w = w') := by
  rw [← txt_of s]
  generalize s.data.toList = l
  unfold segNoV
  rw [txt_list]
  have no : ∀ w', w = w' → ¬ (l.take 4 = segPre ∧ 5 ≤ l.length ∧ l.length ≤ 16 ∧ (l.drop 4).all isDig = true ∧ ((l.drop 4).head? ≠ some 48 ∨ l.length = 5)) →
      Ok (fun v w' => v = .tuple #[.int .i64 (match segNo l with | some k => ((k : Int), true) | none => (0, false)).1, .bool (match segNo l with | some k => ((k : Int), true) | none => (0, false)).2] ∧ w = w') (.returned (.tuple #[.int .i64 0, .bool false])) w' := fun w' hw h => by
    have : segNo l = none := by unfold segNo; rw [if_neg h]
    rw [this]; exact Ok.mk ⟨rfl, hw⟩
  refine L_ref20_Number ?_
  rw [txt_size]
  refine ⟨fun w' => w = w' ∧ 5 ≤ l.length ∧ l.length ≤ 16 ∧ l.take 4 = segPre ∧ ((l.drop 4).head? ≠ some 48 ∨ l.length = 5),
    PIf.dec (fun h => no _ rfl fun hc => by omega) (fun h5 => PIf.dec (fun h => no _ rfl fun hc => by omega) (fun h16 => ⟨by omega, by omega, ?_⟩)), ?_⟩
  · have e1 : ByteArray.toList (ByteArray.extract (txt l) 0 (Int.toNat 4)) = l.take 4 := by
      rw [ByteArray.toList_eq, ByteArray.data_extract]
      simp [txt]
    have e2 : ByteArray.toList (⟨#[115, 101, 103, 46]⟩ : ByteArray) = segPre := by decide +kernel
    have hhd : (l.drop 4).head? = some (l[4]'(by omega)) := by
      rw [List.head?_drop, List.getElem?_eq_getElem (by omega)]
    rw [e1, e2]
    by_cases hp : l.take 4 = segPre
    · refine PIf.ff (by rw [hp]; simp) ⟨by omega, _, txt_get (i := 4) (by omega), PIf.eqI (fun h48 => PIf.dec (fun hgt => no _ rfl fun hc => ?_) (fun hgt => ⟨rfl, by omega, by omega, hp, .inr (by omega)⟩)) (fun h48 => ⟨rfl, by omega, by omega, hp, .inl ?_⟩)⟩
      · rcases hc.2.2.2.2 with h | h
        · refine h ?_
          rw [hhd]
          congr 1
          exact UInt8.toNat_inj.1 (by show _ = 48; omega)
        · omega
      · rw [hhd]
        intro e
        simp only [Option.some.injEq] at e
        rw [e] at h48
        exact h48 rfl
    · exact PIf.tt (by simp [hp]) (no _ rfl fun hc => hp hc.1)
  · rintro _ _ ⟨rfl, h5, h16, hp, hh⟩
    refine ⟨fun m x i w' => ∃ j : Nat, i = j ∧ 4 ≤ j ∧ j ≤ l.length ∧ m = l.length - j ∧ x = (digVal ((l.drop 4).take (j - 4)) : Int) ∧ ((l.drop 4).take (j - 4)).all isDig = true ∧ w = w', ⟨_, 4, rfl, Nat.le_refl _, by omega, rfl, by simp [digVal], by simp, rfl⟩, ?_⟩
    rintro m x i _ _ ⟨j, rfl, hj4, hj, rfl, rfl, hall, rfl⟩
    have hvlt := digVal_lt _ hall
    have h11 : 10 ^ ((l.drop 4).take (j - 4)).length ≤ 10 ^ 12 := Nat.pow_le_pow_right (by omega) (by simp; omega)
    have e12 : (10 : Nat) ^ 12 = 1000000000000 := by decide
    refine PIf.dec (fun hlt => ?_) (fun hge => ?_)
    · have hjl : j < l.length := by omega
      have hgl : (l.drop 4)[j - 4]? = some l[j] := by
        rw [List.getElem?_drop, show 4 + (j - 4) = j by omega, List.getElem?_eq_getElem hjl]
      have nodig : isDig l[j] = false → ¬ (l.drop 4).all isDig = true := fun hx hc => by
        have := List.all_eq_true.1 hc _ (List.mem_of_getElem? hgl)
        rw [hx] at this; cases this
      refine ⟨by omega, _, by rw [Int.toNat_natCast]; exact txt_get hjl, PIf.dec (fun h => no _ rfl fun hc => nodig ?_ hc.2.2.2.1) (fun h48 => ⟨by omega, _, by rw [Int.toNat_natCast]; exact txt_get hjl, PIf.dec (fun h => no _ rfl fun hc => nodig ?_ hc.2.2.2.1) (fun h57 => ⟨by omega, _, by rw [Int.toNat_natCast]; exact txt_get hjl, _, ?_, j + 1, wrap_succ (by omega), by omega, by omega, rfl, ?_, ?_, rfl⟩)⟩)⟩
      · unfold isDig; exact decide_eq_false (by omega)
      · unfold isDig; exact decide_eq_false (by omega)
      · omega
      · rw [show j + 1 - 4 = (j - 4) + 1 by omega, List.take_add_one, hgl]
        show _ = ((digVal ((l.drop 4).take (j - 4) ++ [_]) : Nat) : Int)
        rw [digVal_snoc, wrap_i64 (x := (((l[j]).toNat : Nat) : Int)) (by unfold I64; omega), wrap_i64 (x := 10 * _) (by unfold I64; omega), wrap_i64 (x := 10 * _ + _) (by unfold I64; omega), wrap_i64 (by unfold I64; omega)]
        omega
      · rw [show j + 1 - 4 = (j - 4) + 1 by omega, List.take_add_one, hgl, List.all_append, hall]
        simp [isDig]; omega
    · obtain rfl : j = l.length := by omega
      rw [List.take_of_length_le (by simp)] at hall ⊢
      have : segNo l = some (digVal (l.drop 4)) := by unfold segNo; rw [if_pos ⟨hp, h5, h16, hall, hh⟩]
      rw [this]
      exact Ok.mk ⟨rfl, rfl⟩

theorem ref20_Name {n : Int} {w : World} (hn : I64 n) : Calls Tryz.prog F_ref20_Name #[.int .i64 n] w (Ok fun v w' => v = .string (txt (segName n)) ∧ Grew w w') := by
  refine L_ref20_Name (PIf.dec (fun h => Ok.mk ⟨by unfold segName; rw [if_pos (.inl h)]; rfl, Keep.refl _⟩) (fun h0 => PIf.dec (fun h => Ok.mk ⟨by unfold segName; rw [if_pos (.inr (by omega))]; rfl, Keep.refl _⟩) (fun h1 => ?_)))
  have hle := decDigits_le (u := n.toNat) (by omega)
  refine ⟨fun m u a k c w' => ∃ (U : Nat) (d : List UInt8) (F : Nat → Prop), u = U ∧ m = U ∧ U < 1000000000000 ∧ Lib.decDigits n.toNat = Lib.decDigits U ++ d.reverse ∧ Lst cU8 5 F w' a k c d ∧ Grew w w' ∧ ∀ b, F b → w.heap.size ≤ b,
    ⟨_, n.toNat, [], fun _ => False, by omega, rfl, by omega, by simp, Lst.nil w, Keep.refl w, fun _ h => h.elim⟩, ?_⟩
  rintro U u a k c _ w1 ⟨_, d, F, rfl, rfl, hU, hd, ho, hk, hF⟩
  have hpos : 0 < (Lib.decDigits U).length := List.length_pos_iff.2 (dec_digits U).2.2.1
  have hdl : d.length ≤ 11 := by
    have := congrArg List.length hd
    rw [List.length_append, List.length_reverse] at this
    omega
  have ex : IntKind.wrap .u8 (IntKind.wrap .i64 (48 + Int.tmod (U : Int) 10)) = (((UInt8.ofNat (48 + U % 10)).toNat : Nat) : Int) := by
    have h1 : Int.tmod (U : Int) 10 = ((U % 10 : Nat) : Int) := by rw [Int.tmod_eq_emod_of_nonneg (by omega)]; omega
    rw [h1, wrap_i64 (by unfold I64; omega), show (48 : Int) + ((U % 10 : Nat) : Int) = ((48 + U % 10 : Nat) : Int) by omega, wrap_u8, UInt8.toNat_ofNat']
  have ed : IntKind.wrap .i64 (Int.tdiv (U : Int) 10) = ((U / 10 : Nat) : Int) := by
    have h1 : Int.tdiv (U : Int) 10 = ((U / 10 : Nat) : Int) := by rw [Int.tdiv_eq_ediv_of_nonneg (by omega)]; omega
    rw [h1, wrap_i64 (by unfold I64; omega)]
  rw [ed]
  have hk' := ho.len (by decide)
  refine papp ho slU8 (x := UInt8.ofNat (48 + U % 10)) (D := fun _ => False) ⟨by rw [ex], trivial⟩ (fun _ h => h.elim) (by unfold Big; omega) (by unfold maxLen; omega) fun a2 c2 w2 F2 ho2 hk2 hF2 _ => ?_
  have k2 : Grew w w2 := hk.new hk2 fun b hb => .inr (hF b (ho.self b hb))
  have hF2' : ∀ b, F2 b → w.heap.size ≤ b := fun b hb => by
    rcases hF2 b hb with h | h | h
    · exact hF b h
    · exact h.elim
    · have := hk.size; omega
  refine ⟨_, _, _, rfl, PIf.eqI (fun hz => ?_) (fun hz => ?_)⟩
  rotate_left
  · refine ⟨U / 10, by omega, U / 10, d ++ [UInt8.ofNat (48 + U % 10)], F2, rfl, rfl, by omega, ?_, ho2, k2, hF2'⟩
    rw [hd, List.reverse_append, Lib.decDigits, dif_neg (by omega), List.append_assoc]
    rfl
  have hU10 : U < 10 := by omega
  have hdig : Lib.decDigits n.toNat = (d ++ [UInt8.ofNat (48 + U % 10)]).reverse := by
    rw [hd, List.reverse_append, Lib.decDigits, dif_pos hU10, Nat.mod_eq_of_lt hU10]
    rfl
  generalize hdd : d ++ [UInt8.ofNat (48 + U % 10)] = e at ho2 hdig
  have hel : e.length = k + 1 := by rw [← hdd]; simp; omega
  refine PRun.mk (Lib.run_convert_bytes_const w2 22 5 _ 4 4 Tryz.underlying22 Tryz.underlying5) ⟨_, _, _, rfl, ?_⟩
  have k3 : Grew w2 (w2.alloc (.cells #[.int .u8 115, .int .u8 101, .int .u8 103, .int .u8 46] 5 (4, 5))) := Keep.alloc _ _
  have g3 : (w2.alloc (.cells #[.int .u8 115, .int .u8 101, .int .u8 103, .int .u8 46] 5 (4, 5))).heap[w2.heap.size]? = some (.cells #[.int .u8 115, .int .u8 101, .int .u8 103, .int .u8 46] 5 (4, 5)) := by
    show (w2.heap.push _)[w2.heap.size]? = _
    simp
  have s3 : (w2.alloc (.cells #[.int .u8 115, .int .u8 101, .int .u8 103, .int .u8 46] 5 (4, 5))).heap.size = w2.heap.size + 1 := by
    show (w2.heap.push _).size = _
    simp
  generalize (w2.alloc (.cells #[.int .u8 115, .int .u8 101, .int .u8 103, .int .u8 46] 5 (4, 5))) = w3 at k3 g3 s3 ⊢
  have ei : IntKind.wrap .i64 (((k + 1 : Nat) : Int) - 1) = (((k + 1 : Nat) : Int) - 1) := wrap_i64 (by unfold I64; omega)
  refine ⟨fun m oa on oc i w' => ∃ q : Nat, i = (q : Int) - 1 ∧ q ≤ k + 1 ∧ m = q ∧ Grew w3 w' ∧ ((q = k + 1 ∧ oa = some ⟨w2.heap.size, 0, none⟩ ∧ on = 4 ∧ oc = 4) ∨ (q < k + 1 ∧ ∃ F : Nat → Prop, Lst cU8 5 F w' oa on oc (segPre ++ (e.drop q).reverse) ∧ ∀ b, F b → w3.heap.size ≤ b)),
    ⟨_, k + 1, ei, Nat.le_refl _, rfl, Keep.refl _, .inl ⟨rfl, rfl, rfl, rfl⟩⟩, ?_⟩
  rintro q oa on oc i _ w4 ⟨_, rfl, hq, rfl, k4, hst⟩
  have k34 : Grew w2 w4 := k3.then k4
  refine PIf.dec (fun hge => ?_) (fun hlt => ?_)
  · have hrow : Row cU8 1 w4 F2 a2 (k + 1) e := (ho2.grew k34).row (by decide) (by unfold Big; omega)
    obtain ⟨b, off, x, rfl, hx, _, hc⟩ := hrow.at1 (i := q - 1) (by omega)
    have en : Int.toNat ((q : Int) - 1) = q - 1 := by omega
    have hdrop : segPre ++ (e.drop (q - 1)).reverse = segPre ++ (e.drop q).reverse ++ [x] := by
      have hlt : q - 1 < e.length := by omega
      rw [List.drop_eq_getElem_cons hlt, List.reverse_cons, List.append_assoc, show q - 1 + 1 = q by omega]
      rw [List.getElem?_eq_getElem hlt] at hx
      cases hx
      rfl
    have ei2 : IntKind.wrap .i64 ((q : Int) - 1 - 1) = ((q - 1 : Nat) : Int) - 1 := by rw [wrap_i64 (by unfold I64; omega)]; omega
    rw [en]
    refine ⟨b, off, rfl, by omega, by omega, _, hc, ?_⟩
    rcases hst with ⟨rfl, rfl, rfl, rfl⟩ | ⟨hqk, F4, ho4, hF4⟩
    · refine PA.mk fun w5 k5 s5 g5 => ?_
      obtain ⟨i, z, hi, hz, hs, hby, hzs⟩ := SlT.info slU8
      have g45 := (k4.then k5).get g3 id
      obtain ⟨v', w6, hrun, hown, hgrow⟩ := run_append_arg_grows (P := Tryz.prog) (w := w5) 22 22 5 i z 1 1 slU8.under hi hz hs hby hzs (by decide)
        ⟨w2.heap.size, 0, none⟩ 4 4 (segPre.map fun x => Value.int .u8 (x.toNat : Int)) rfl (fun j u hj => by
          rw [Addr.add_lit, Nat.zero_add]
          refine cell_at g45 ?_
          rw [← Array.getElem?_toList]
          exact hj)
        ⟨w4.heap.size, 0, none⟩ 1 1 [.int .u8 (x.toNat : Int)] rfl (fun j u hj => by
          rw [Addr.add_lit, Nat.zero_add]
          exact cell_at g5 (by rw [← Array.getElem?_toList]; exact hj)) (by omega) (by unfold maxLen; omega) (by omega)
      have hk6 : Grew w5 w6 := (Keep.of_grownBy hgrow).mono fun _ _ h => by cases h
      have hshape : ∃ a' c', v' = .slice a' 5 c' := by
        rcases hown.2 with ⟨rfl, h0⟩ | ⟨g', cap', cur', rfl, _⟩
        · cases h0
        · exact ⟨_, _, rfl⟩
      obtain ⟨a', c', rfl⟩ := hshape
      have hblk : ∀ b, blk a' = some b → w5.heap.size ≤ b := fun b hb => by
        rcases hown.2 with ⟨_, h0⟩ | ⟨g', cap', cur', h0, hge, _⟩
        · cases h0
        · cases h0; cases hb; exact hge
      have hown' : Own w6 5 1 a' 5 c' ((segPre ++ [x]).map fun x => Value.int .u8 (x.toNat : Int)) := ⟨by
        rw [List.map_append]
        exact ⟨hown.1, hown.2.imp id fun ⟨g', cap', cur', h1, h2, h3⟩ => ⟨g', cap', cur', h1, Nat.zero_le _, h3⟩⟩⟩
      refine PRun.mk hrun ⟨_, _, _, rfl, _, ?_, k, ?_, by omega, rfl, (k4.then k5).then hk6, .inr ⟨by omega, (fun b => blk a' = some b), ?_, fun b hb => ?_⟩⟩
      · omega
      · rw [ei2]; omega
      · have h0 : e.drop (k + 1) = [] := List.drop_of_length_le (by omega)
        rw [show k + 1 - 1 = k by omega, h0] at hdrop
        rw [hdrop]
        exact Lst.u8 hown'
      · have := hblk b hb; have := (k4.then k5).size; omega
    · refine papp ho4 slU8 (x := x) (D := fun _ => False) ⟨rfl, trivial⟩ (fun _ h => h.elim) (by unfold Big; simp [segPre]; omega) (by unfold maxLen; simp [segPre]; omega) fun a5 c5 w5 F5 ho5 hk5 hF5 _ => ?_
      rw [← hdrop] at ho5
      refine ⟨_, _, _, rfl, q - 1, by omega, q - 1, ei2, by omega, rfl, k4.new hk5 fun b hb => .inr (hF4 b (ho4.self b hb)), .inr ⟨by omega, F5, ho5, fun b hb => ?_⟩⟩
      rcases hF5 b hb with h | h | h
      · exact hF4 b h
      · exact h.elim
      · have := k4.size; omega
  · obtain rfl : q = 0 := by omega
    rcases hst with ⟨h0, -⟩ | ⟨_, F4, ho4, hF4⟩
    · omega
    · rw [List.drop_zero, ← hdig, ← segName_yes (by omega) (by omega)] at ho4
      have := segName_length n
      exact conv_txt Tryz.underlying22 Tryz.underlying5 Tryz.underlying9 ho4 (by omega) ⟨_, rfl, Ok.mk ⟨rfl, k2.then k34⟩⟩

theorem SegmentNames {n : Int} {s : ByteArray} {w : World} (hn : I64 n) (hs : s.size ≤ maxLen) (hw : Laid w) : Calls Tryz.prog F_law20_SegmentNames #[.int .i64 n, .string s] w (Ok fun v w' => v = .bool true ∧ Grew w w') := by
  refine L_law20_SegmentNames (PIf.dec (fun h => fin hw (Keep.refl _)) (fun h => PC.ok (seg_Number hw) ?_))
  rintro _ w1 ⟨rfl, k1⟩
  refine ⟨_, _, rfl, PC.ok ref20_Number ?_⟩
  rintro _ _ ⟨rfl, rfl⟩
  refine ⟨_, _, rfl, PC.ok (seg_Name (hw.grew k1) hn) ?_⟩
  rintro _ w2 ⟨rfl, k2⟩
  refine ⟨_, rfl, PC.ok (ref20_Name hn) ?_⟩
  rintro _ w3 ⟨rfl, k3⟩
  exact ⟨_, rfl, PIf.tt (by simp) (PIf.tt (by simp) (PIf.tt (by simp) (fin hw ((k1.then k2).then k3))))⟩
end Go.Proofs.YtpmakiecgphijaaGreatDoor

/- what is done: an act at a time -/
namespace Go.Proofs.YtpmakiecgphijaaGreatDoor
open Go.Lift Go.ChangeShapes Go.WideShapes Go.ChangeAt Go.RowKit
set_option linter.unusedVariables false
set_option maxRecDepth 20000

structure ActV where
  kind : Int
  n : Int
  name : ByteArray
  to : ByteArray
  b : List UInt8

def cAct : Cod ActV where
  k := 5
  rep := fun w D x cs => ∃ a n c, cs = [.int .i64 x.kind, .int .i64 x.n, .string x.name, .string x.to, .slice a n c] ∧ I64 x.kind ∧ I64 x.n ∧ Row cU8 1 w D a n x.b
  keep := fun ⟨a, n, c, h1, h2, h3, h4⟩ hk hd => ⟨a, n, c, h1, h2, h3, h4.keep hk hd⟩
  mono := fun ⟨a, n, c, h1, h2, h3, h4⟩ hd => ⟨a, n, c, h1, h2, h3, h4.mono hd⟩
  len := fun ⟨a, n, c, h1, _⟩ => by rw [h1]; rfl
  one := fun ⟨a, n, c, h1, _⟩ u hu => by
    rw [h1] at hu
    simp only [List.mem_cons, List.not_mem_nil, or_false] at hu
    rcases hu with rfl | rfl | rfl | rfl | rfl <;> rfl

theorem reads_Act : Reads Tryz.prog cAct 118 := fun H enc w held fuel cs x h hw => by
  obtain ⟨xs, n2, _, rfl, hcl, hxl, hfs⟩ := DataW.trod_struct (Tryz.underlying118) h
  have hc5 : Tryz.prog.cellsOf 118 = 5 := by kernel_rfl
  have hl : cs.length = 5 := hcl.trans hc5
  have k1 : Tryz.prog.cellsOf 3 = 1 := by kernel_rfl
  have k2 : Tryz.prog.cellsOf 9 = 1 := by kernel_rfl
  have k3 : Tryz.prog.cellsOf 22 = 1 := by kernel_rfl
  match cs, hl with
  | [v0, v1, v2, v3, v4], _ =>
  match xs, hxl with
  | [y0, y1, y2, y3, y4], _ =>
    have f0 := hfs 0 _ rfl
    have f1 := hfs 1 _ rfl
    have f2 := hfs 2 _ rfl
    have f3 := hfs 3 _ rfl
    have f4 := hfs 4 _ rfl
    simp only [k1, k2, k3, List.drop_zero, List.drop_succ_cons, List.take_succ_cons, List.take_zero, List.getElem?_cons_zero, List.getElem?_cons_succ] at f0 f1 f2 f3 f4
    obtain ⟨z0, e0, -, w0⟩ := DataW.trod_int Tryz.underlying3 f0
    obtain ⟨z1, e1, -, w1⟩ := DataW.trod_int Tryz.underlying3 f1
    obtain ⟨z2, e2, -, -⟩ := DataW.trod_string Tryz.underlying9 f2
    obtain ⟨z3, e3, -, -⟩ := DataW.trod_string Tryz.underlying9 f3
    have hyy : Light Tryz.prog 22 y4.1 := by
      intro q hq
      refine hw q ?_
      have hu : Tryz.prog.underlying 118 = _ := Tryz.underlying118
      simp only [DataW.weights, hu, List.map_cons, List.map_nil, DataW.weightsEach, List.mem_append]
      right; right; right; right; left; exact hq
    obtain ⟨a4, n4, c4, l4, e4, -, -, i4⟩ := open_row (bytes := 1) Tryz.underlying22 (by kernel_rfl) (by decide) (by kernel_rfl) (reads_U8 Tryz.underlying5) f4 hyy
    cases e0; cases e1; cases e2; cases e3; cases e4
    exact ⟨⟨z0, z1, z2, z3, l4⟩, a4, n4, c4, rfl, i64_of_wf w0, i64_of_wf w1, i4⟩

def DiskV.does (D : DiskV) (x : ActV) : Int × DiskV :=
  if pick x.kind 10 = 0 then D.create x.name
  else if pick x.kind 10 = 1 ∨ pick x.kind 10 = 2 then D.append x.name x.b
  else if pick x.kind 10 = 3 then D.sync x.name
  else if pick x.kind 10 = 4 then D.rename x.name x.to
  else if pick x.kind 10 = 5 then D.delete x.name
  else if pick x.kind 10 = 6 then D.cutF x.name x.n
  else if pick x.kind 10 = 7 then (0, D.crash x.n)
  else if pick x.kind 10 = 8 then (0, D.fuse x.n)
  else ((D.read x.name).2, D)

theorem law_Does {w : World} {p : Nat} {F Db : Nat → Prop} {D : DiskV} {x : ActV} {a : Option Addr} {n c : Nat} (h : DiskAt w p F D) (hn : I64 x.n) (hb : Row cU8 1 w Db a n x.b) :
    Calls Tryz.prog F_law19_Does #[.pointer (some ⟨p, 0, none⟩), .agg #[.int .i64 x.kind, .int .i64 x.n, .string x.name, .string x.to, .slice a n c]] w (Ok (Did w p F (D.does x))) := by
  refine L_law19_Does (PA.mk fun w1 k1 s1 g1 => ⟨_, cell_at g1 rfl, PC.ok (kit_Pick (by unfold I64; omega)) ?_⟩)
  rintro _ _ ⟨rfl, rfl⟩
  have h1 := h.grew k1
  have fin : ∀ {v w'} {r : Int × DiskV}, Did w1 p F r v w' → D.does x = r → ∃ t : Int, v = .int .i64 t ∧ Ok (Did w p F (D.does x)) (.returned (.int .i64 t)) w' := fun hd he => by
    rw [he]; exact did_int _ _ k1 hd
  refine ⟨_, rfl, PIf.eqI (fun h0 => ⟨_, cell_at g1 rfl, PC.ok (Disk_Create h1) fun v w' hd => fin hd (by unfold DiskV.does; rw [if_pos h0])⟩) (fun h0 => ?_)⟩
  refine ⟨fun b w' => b = decide (pick x.kind 10 = 1 ∨ pick x.kind 10 = 2) ∧ w' = w1, PIf.eqI (fun h1 => ⟨by simp [h1], rfl⟩) (fun h1 => ⟨by by_cases h2 : pick x.kind 10 = 2 <;> simp [h1, h2], rfl⟩), ?_⟩
  rintro _ B _ ⟨rfl, rfl⟩
  refine PIf.dec (fun h12 => ?_) (fun h12 => ?_)
  · refine ⟨a, n, c, cell_at g1 rfl, PC.ok (kit_CopyBytes (hb.grew k1)) ?_⟩
    rintro _ w3 ⟨a3, n3, c3, F3, rfl, ho3, k3, hF3⟩
    have hbig : x.b.length * 1 ≤ Big := by have := hb.len; have := hb.big; omega
    have hn3 : n3 = x.b.length := ho3.len (by decide)
    have hdom := h.dom
    refine ⟨_, _, _, rfl, _, cell_at (k3.get g1 id) rfl, PC.ok (Disk_Append (h1.grew k3) (ho3.row (by decide) hbig) ho3.nil0 fun b hb => ⟨ho3.dom b hb, fun hf => by have := hF3 b hb; have := hdom b hf; omega⟩) ?_⟩
    rintro _ w4 ⟨F', rfl, hD4, hev4⟩
    have ho4 := ho3.keep hev4.keep fun b hb hf => by have := hF3 b hb; have := hdom b hf; omega
    refine ⟨_, rfl, PC.ok (kit_SpoilBytes ho4 (by omega)) ?_⟩
    rintro _ w5 ⟨rfl, k5, s5⟩
    have he : D.does x = D.append x.name x.b := by unfold DiskV.does; rw [if_neg h0, if_pos h12]
    rw [he]
    refine ⟨rfl, Ok.mk ⟨F', rfl, hD4.keep k5 fun b hb hf => ?_, ⟨?_, fun b hb => ?_⟩⟩⟩
    · rcases hev4.new b hb with h | h
      · have := hF3 b hf; have := hdom b h; omega
      · have := ho3.dom b hf; omega
    · exact (((Grew.keep (k1.grew k3)).then hev4.keep).new k5 fun b hb => .inr (by have := hF3 b hb; omega))
    · rcases hev4.new b hb with h | h
      · exact .inl h
      · have := k3.size; exact .inr (by omega)
  · have h2 := h12
    have e12 : D.does x = (if pick x.kind 10 = 3 then D.sync x.name
      else if pick x.kind 10 = 4 then D.rename x.name x.to
      else if pick x.kind 10 = 5 then D.delete x.name
      else if pick x.kind 10 = 6 then D.cutF x.name x.n
      else if pick x.kind 10 = 7 then (0, D.crash x.n)
      else if pick x.kind 10 = 8 then (0, D.fuse x.n)
      else ((D.read x.name).2, D)) := by unfold DiskV.does; rw [if_neg h0, if_neg h12]
    refine PIf.eqI (fun h3 => ⟨_, cell_at g1 rfl, PC.ok (Disk_Sync h1) fun v w' hd => fin hd (by rw [e12, if_pos h3])⟩) (fun h3 => ?_)
    refine PIf.eqI (fun h4 => ⟨_, cell_at g1 rfl, _, cell_at g1 rfl, PC.ok (Disk_Rename h1) fun v w' hd => fin hd (by rw [e12, if_neg h3, if_pos h4])⟩) (fun h4 => ?_)
    refine PIf.eqI (fun h5 => ⟨_, cell_at g1 rfl, PC.ok (Disk_Delete h1) fun v w' hd => fin hd (by rw [e12, if_neg h3, if_neg h4, if_pos h5])⟩) (fun h5 => ?_)
    refine PIf.eqI (fun h6 => ⟨_, cell_at g1 rfl, _, cell_at g1 rfl, PC.ok (Disk_Cut h1) fun v w' hd => fin hd (by rw [e12, if_neg h3, if_neg h4, if_neg h5, if_pos h6])⟩) (fun h6 => ?_)
    refine PIf.eqI (fun h7 => ⟨_, cell_at g1 rfl, PC.ok (Disk_Crash h1 hn) ?_⟩) (fun h7 => ?_)
    · rintro v w' ⟨F', rfl, hD, hev⟩
      have e : D.does x = (0, D.crash x.n) := by rw [e12, if_neg h3, if_neg h4, if_neg h5, if_neg h6, if_pos h7]
      rw [e]
      exact ⟨rfl, Ok.mk ⟨F', rfl, hD, (Evo.mk k1.keep fun _ h => .inl h : Evo F w F _).trans hev⟩⟩
    refine PIf.eqI (fun h8 => ⟨_, cell_at g1 rfl, PC.ok (Disk_Fuse hn h1) ?_⟩) (fun h8 => ?_)
    · rintro v w' ⟨rfl, hD, hev⟩
      have e : D.does x = (0, D.fuse x.n) := by rw [e12, if_neg h3, if_neg h4, if_neg h5, if_neg h6, if_neg h7, if_pos h8]
      rw [e]
      exact ⟨rfl, Ok.mk ⟨F, rfl, hD, (Evo.mk k1.keep fun _ h => .inl h : Evo F w F _).trans hev⟩⟩
    refine PIf.eqI (fun h9 => ⟨_, cell_at g1 rfl, PC.ok (Disk_Read h1) ?_⟩) (fun h9 => ?_)
    · rintro v w' ⟨u, rfl, a9, n9, c9, F9, rfl, ho9, hk9, hF9⟩
      have e : D.does x = ((D.read x.name).2, D) := by rw [e12, if_neg h3, if_neg h4, if_neg h5, if_neg h6, if_neg h7, if_neg h8]
      rw [e]
      exact ⟨_, _, _, _, rfl, Ok.mk ⟨F, rfl, h1.grew hk9, Grew.keep (k1.grew hk9), fun _ h => .inl h⟩⟩
    · exfalso
      have := pick_range (k := x.kind) (n := 10) (by omega)
      omega

theorem law_Long {w : World} {a : Option Addr} {n c : Nat} {l : List ActV} {E : Nat → Prop} (h : Row cAct 72 w E a n l) :
    Calls Tryz.prog F_law19_Long #[.slice a n c] w (Ok fun v w' => ∃ b : Bool, v = .bool b ∧ w = w' ∧ (b = false → l.length ≤ 100 ∧ ∀ x ∈ l, x.b.length ≤ 4096 ∧ x.name.size ≤ 100 ∧ x.to.size ≤ 100)) := by
  have hl := h.len
  refine L_law19_Long (PIf.dec (fun _ => Ok.mk ⟨true, rfl, rfl, fun h => by cases h⟩) (fun h100 => ?_))
  refine ⟨fun m i w' => ∃ j : Nat, i = j ∧ j ≤ n ∧ m = n - j ∧ w' = w ∧ ∀ x ∈ l.take j, x.b.length ≤ 4096 ∧ x.name.size ≤ 100 ∧ x.to.size ≤ 100, ⟨_, 0, rfl, Nat.zero_le _, rfl, rfl, by simp⟩, ?_⟩
  rintro m i B _ ⟨j, rfl, hj, rfl, rfl, hs⟩
  refine PIf.dec (fun h1 => ?_) (fun h1 => ?_)
  · obtain ⟨b, off, x, es, rfl, hbs, hE, hx, hc, a1, n1, c1, rfl, hi1, hi2, hr1⟩ := h.at (i := (j : Int)) (by omega) (by omega)
    have hl1 := hr1.len
    rw [Int.toNat_natCast] at hx
    refine ⟨b, off, rfl, by omega, by omega, a1, n1, c1, hc 4 (by decide), PIf.dec (fun _ => Ok.mk ⟨true, rfl, rfl, fun h => by cases h⟩) (fun h2 => ⟨b, off, rfl, by omega, by omega, x.name, hc 2 (by decide), PIf.dec (fun _ => Ok.mk ⟨true, rfl, rfl, fun h => by cases h⟩) (fun h3 => ⟨b, off, rfl, by omega, by omega, x.to, hc 3 (by decide), PIf.dec (fun _ => Ok.mk ⟨true, rfl, rfl, fun h => by cases h⟩) (fun h4 => ?_)⟩)⟩)⟩
    refine ⟨_, by omega, j + 1, wrap_succ (by omega), by omega, rfl, rfl, fun y hy => ?_⟩
    rw [List.take_add_one, hx] at hy
    simp only [Option.toList_some, List.mem_append, List.mem_singleton] at hy
    rcases hy with hy | rfl
    · exact hs y hy
    · omega
  · rw [List.take_of_length_le (by omega)] at hs
    exact Ok.mk ⟨false, rfl, rfl, fun _ => ⟨by omega, hs⟩⟩
end Go.Proofs.YtpmakiecgphijaaGreatDoor

/- quaysideref19: how its disk lies: the files by rising names, each with its own bytes -/
namespace Go.Proofs.YtpmakiecgphijaaGreatDoor
open Go.Lift
set_option linter.unusedVariables false
set_option maxRecDepth 20000

structure RBox where
  a : Option Addr
  n : Nat
  c : Nat
  F : Nat → Prop
  f : FileV

abbrev RB := ByteArray × RBox
def encB (x : RB) : List Value := [.string x.1, .slice x.2.a x.2.n x.2.c, .int .i64 x.2.f.synced, .bool x.2.f.good]
def cBox : Cod RB := flat 4 encB (fun _ => True) (fun _ => rfl) (fun x u hu => by
  simp only [encB, List.mem_cons, List.not_mem_nil, or_false] at hu
  rcases hu with rfl | rfl | rfl | rfl <;> rfl)
def rF (x : RB) : ByteArray × FileV := (x.1, x.2.f)
abbrev ltK (a b : ByteArray) : Prop := a.data.toList < b.data.toList
theorem ltK_irrefl (a : ByteArray) : ¬ ltK a a := List.lt_irrefl _
theorem ltK_trans {a b c : ByteArray} (h : ltK a b) (k : ltK b c) : ltK a c := List.lt_trans h k
theorem ltK_tri {a b : ByteArray} (h : ¬ ltK a b) (k : ¬ ltK b a) : a = b := ByteArray.ext (Array.toList_inj.1 (List.le_antisymm (List.not_lt.1 k) (List.not_lt.1 h)))
theorem ltK_ne {a b : ByteArray} (h : ltK a b) : a ≠ b := fun e => ltK_irrefl b (e ▸ h)
theorem bytesLess_ltK (a b : ByteArray) : Op.bytesLess (ByteArray.toList a) (ByteArray.toList b) = decide (ltK a b) := by
  rw [bytesLess_eq, ByteArray.toList_eq, ByteArray.toList_eq]

theorem slFile : SlT Tryz.prog 81 96 cBox.k 56 := ⟨by kernel_rfl, by kernel_rfl, by decide⟩

def rleft (D : DiskV) : Int := if D.fused then D.left else -1

/-- what is asked of a disk's value -/
structure DiskV.Fit (D : DiskV) : Prop where
  most : D.most ≤ 262144
  fits : D.used ≤ D.most
  many : D.files.length ≤ 64
  tidy : Tidy D.files
  syn : ∀ x ∈ D.files, x.2.synced ≤ x.2.bytes.length
theorem DiskV.Ok.fit {D : DiskV} (h : D.Ok) : D.Fit := ⟨h.most, h.fits, h.many, h.tidy, h.syn⟩
theorem DiskV.Fit.of {D E : DiskV} (h : D.Fit) (hm : E.most = D.most) (hf : E.files = D.files) : E.Fit := ⟨by rw [hm]; exact h.most, by unfold DiskV.used; rw [hf, hm]; exact h.fits, by rw [hf]; exact h.many, by rw [hf]; exact h.tidy, by rw [hf]; exact h.syn⟩
theorem DiskV.Fit.armed {D : DiskV} (h : D.Fit) : D.armed.Fit := h.of (armed_most D) (armed_files D)
theorem DiskV.Fit.len {D : DiskV} (h : D.Fit) {x : ByteArray × FileV} (hx : x ∈ D.files) : x.2.bytes.length ≤ 262144 := by
  have := sumLen_mem hx; have := h.fits; have := h.most; unfold DiskV.used at *; omega

structure RefL (w : World) (p : Nat) (F : Nat → Prop) (D : DiskV) (a : Option Addr) (n cap : Nat) (L : List RB) : Prop where
  head : w.heap[p]? = some (.cells #[.int .i64 D.most, .int .i64 (rleft D), .slice a n cap, .bool D.dead] 83 (0, 0))
  lst : Lst cBox 96 (fun b => blk a = some b) w a n cap L
  each : ∀ x ∈ L, Lst cU8 5 x.2.F w x.2.a x.2.n x.2.c x.2.f.bytes
  apart : ∀ x ∈ L, ∀ y ∈ L, x.1 ≠ y.1 → ∀ b, x.2.F b → ¬ y.2.F b
  inF : ∀ x ∈ L, ∀ b, x.2.F b → F b ∧ b ≠ p ∧ blk a ≠ some b
  Fa : ∀ b, blk a = some b → F b ∧ b ≠ p
  sorted : L.Pairwise fun x y => ltK x.1 y.1
  same : ∀ q, q ∈ L.map rF ↔ q ∈ D.files
  self : F p
  dom : ∀ b, F b → b < w.heap.size

def RefAt (w : World) (p : Nat) (F : Nat → Prop) (D : DiskV) : Prop := ∃ a n cap L, RefL w p F D a n cap L

section
variable {w w' : World} {p : Nat} {F S : Nat → Prop} {D : DiskV} {a : Option Addr} {n cap : Nat} {L : List RB}
theorem RefL.keep (h : RefL w p F D a n cap L) (hk : Keep S w w') (hd : ∀ b, F b → ¬ S b) : RefL w' p F D a n cap L :=
  ⟨hk.get h.head (hd _ h.self), h.lst.keep hk (fun b hb => hd b (h.Fa b hb).1), fun x hx => (h.each x hx).keep hk (fun b hb => hd b (h.inF x hx b hb).1), h.apart, h.inF, h.Fa, h.sorted, h.same, h.self, fun b hb => Nat.lt_of_lt_of_le (h.dom b hb) hk.size⟩
theorem RefL.grew (h : RefL w p F D a n cap L) (hk : Grew w w') : RefL w' p F D a n cap L := h.keep hk fun _ _ h => h
theorem RefAt.keep (h : RefAt w p F D) (hk : Keep S w w') (hd : ∀ b, F b → ¬ S b) : RefAt w' p F D := by
  obtain ⟨a, n, cap, L, h⟩ := h; exact ⟨a, n, cap, L, h.keep hk hd⟩
theorem RefAt.grew (h : RefAt w p F D) (hk : Grew w w') : RefAt w' p F D := h.keep hk fun _ _ h => h
theorem RefAt.dom (h : RefAt w p F D) : ∀ b, F b → b < w.heap.size := by obtain ⟨a, n, cap, L, h⟩ := h; exact h.dom

theorem nodup_of_sorted {L : List RB} (h : L.Pairwise fun x y => ltK x.1 y.1) : Tidy L := List.pairwise_map.2 (h.imp fun hlt => ltK_ne hlt)
theorem RefL.tidy (h : RefL w p F D a n cap L) : Tidy L := nodup_of_sorted h.sorted
theorem tidy_nodup {β : Type} {l : List (ByteArray × β)} (h : Tidy l) : l.Nodup := by
  unfold Tidy at h
  exact List.Pairwise.of_map (·.1) (fun a b hne e => hne (congrArg Prod.fst e)) h
theorem rF_tidy (h : Tidy L) : Tidy (L.map rF) := by
  unfold Tidy at h ⊢
  rw [List.map_map]; exact h
theorem RefL.perm (h : RefL w p F D a n cap L) (hf : D.Fit) : (L.map rF).Perm D.files :=
  (List.perm_ext_iff_of_nodup (tidy_nodup (rF_tidy h.tidy)) (tidy_nodup hf.tidy)).2 h.same
theorem RefL.length (h : RefL w p F D a n cap L) (hf : D.Fit) : L.length = D.files.length := by have := (h.perm hf).length_eq; simpa using this
theorem RefL.n_eq (h : RefL w p F D a n cap L) : n = L.length := h.lst.len (by decide)
theorem RefL.file (h : RefL w p F D a n cap L) {x : RB} (hx : x ∈ L) : (x.1, x.2.f) ∈ D.files := (h.same _).1 (List.mem_map.2 ⟨x, hx, rfl⟩)
theorem RefL.get (h : RefL w p F D a n cap L) (hf : D.Fit) {k : ByteArray} {x : RBox} (hx : (k, x) ∈ L) : aget D.files k = some x.f := mem_aget hf.tidy (h.file hx)
theorem RefL.nof (h : RefL w p F D a n cap L) {k : ByteArray} (hk : ∀ x ∈ L, x.1 ≠ k) : aget D.files k = none := by
  cases e : aget D.files k with
  | none => rfl
  | some f =>
    obtain ⟨x, hx, he⟩ := List.mem_map.1 ((h.same _).2 (aget_mem e))
    exact absurd (congrArg Prod.fst he) (hk x hx)
theorem RefL.len (h : RefL w p F D a n cap L) (hf : D.Fit) {x : RB} (hx : x ∈ L) : x.2.n = x.2.f.bytes.length ∧ x.2.f.bytes.length ≤ 262144 ∧ x.2.f.synced ≤ x.2.f.bytes.length :=
  ⟨(h.each x hx).len (by decide), hf.len (h.file hx), hf.syn _ (h.file hx)⟩
theorem RefL.bytes (h : RefL w p F D a n cap L) (hf : D.Fit) {x : RB} (hx : x ∈ L) : Row cU8 1 w x.2.F x.2.a x.2.n x.2.f.bytes := (h.each x hx).row (by decide) (by have := (h.len hf hx).2.1; unfold Big; omega)

theorem RefL.at (h : RefL w p F D a n cap L) (hf : D.Fit) {i : Nat} (hi : i < n) : ∃ b off x, a = some ⟨b, off, none⟩ ∧ L[i]? = some x ∧ x ∈ L ∧ w.cell? ⟨b, off + i * 4, none⟩ = some (.string x.1) ∧ w.cell? ⟨b, off + i * 4 + 1, none⟩ = some (.slice x.2.a x.2.n x.2.c) ∧
    w.cell? ⟨b, off + i * 4 + 2, none⟩ = some (.int .i64 x.2.f.synced) ∧ w.cell? ⟨b, off + i * 4 + 3, none⟩ = some (.bool x.2.f.good) := by
  have hl := h.length hf; have hm := hf.many
  obtain ⟨b, off, x, es, ha, hb, hD, hx, hc, rfl, -⟩ := (h.lst.row (bytes := 56) (by decide) (by unfold Big; omega)).atN hi
  exact ⟨b, off, x, ha, hx, List.mem_of_getElem? hx, hc 0 (by decide), hc 1 (by decide), hc 2 (by decide), hc 3 (by decide)⟩

/-- the disk's own cells -/
theorem RefL.remake {w1 : World} {D' : DiskV} (h : RefL w p F D a n cap L) (hk : Keep (· = p) w w1)
    (hp : w1.heap[p]? = some (.cells #[.int .i64 D'.most, .int .i64 (rleft D'), .slice a n cap, .bool D'.dead] 83 (0, 0))) (hf : D'.files = D.files) : RefL w1 p F D' a n cap L :=
  ⟨hp, h.lst.keep hk (fun b hb => (h.Fa b hb).2), fun x hx => (h.each x hx).keep hk (fun b hb => (h.inF x hx b hb).2.1), h.apart, h.inF, h.Fa, h.sorted, by rw [hf]; exact h.same, h.self, fun b hb => Nat.lt_of_lt_of_le (h.dom b hb) hk.size⟩

theorem ref_dies (h : RefAt w p F D) (h0 : 0 ≤ D.left) (hR : I64 D.left) :
    Calls Tryz.prog F_ref19_Disk_dies #[.pointer (some ⟨p, 0, none⟩)] w (Ok fun v w' => v = .bool D.dies ∧ RefAt w' p F (if D.dies then D.gone else D.armed) ∧ Keep F w w') := by
  obtain ⟨a, n, cap, L, h⟩ := h
  have hF : ∀ {w1}, Keep (· = p) w w1 → Keep F w w1 := fun k => k.mono fun b _ hb => hb ▸ h.self
  refine L_ref19_Disk_dies ⟨p, 0, rfl, D.dead, cell_at h.head rfl, PIf.mk (fun hd => Ok.mk ?_) (fun hd => ⟨p, 0, rfl, rleft D, cell_at h.head rfl, PIf.eqI (fun hl => ⟨p, 0, rfl, PS.mk h.head (by simp) fun w1 k1 s1 g1 => Ok.mk ?_⟩) (fun hl => ⟨p, 0, rfl, rleft D, cell_at h.head rfl, PIf.dec (fun hpos => ?_) (fun hneg => Ok.mk ?_)⟩)⟩)⟩
  · have e : D.dies = true := by unfold DiskV.dies; rw [hd]; rfl
    rw [e, if_pos rfl]
    refine ⟨rfl, ⟨a, n, cap, L, ?_⟩, Keep.refl _⟩
    have : D.gone = D := by unfold DiskV.gone; rw [← hd]
    rw [this]; exact h
  · have e : D.dies = true := by
      unfold rleft at hl
      split at hl
      · rename_i hfu; unfold DiskV.dies; rw [hfu, hl]; simp
      · cases hl
    rw [e, if_pos rfl]
    exact ⟨rfl, ⟨a, n, cap, L, h.remake k1 g1 rfl⟩, hF k1⟩
  · have hfu : D.fused = true := by
      unfold rleft at hpos
      split at hpos
      · assumption
      · omega
    have hlf : rleft D = D.left := by unfold rleft; rw [if_pos hfu]
    rw [hlf] at hpos hl
    have e : D.dies = false := by unfold DiskV.dies; rw [hd, hfu]; simp; omega
    refine ⟨p, 0, rfl, D.left, (by rw [← hlf]; exact cell_at h.head rfl), p, 0, rfl, PS.mk h.head (by simp) fun w1 k1 s1 g1 => Ok.mk ?_⟩
    rw [e, if_neg (by simp)]
    refine ⟨rfl, ⟨a, n, cap, L, h.remake k1 ?_ (armed_files D)⟩, hF k1⟩
    rw [g1, wrap_i64 (by unfold I64 at *; omega)]
    have : D.armed = { D with left := D.left - 1 } := by unfold DiskV.armed; rw [if_pos hfu]
    rw [this]
    simp [rleft, hfu]
  · have hfu : D.fused = false := by
      by_cases hfu : D.fused = true
      · unfold rleft at hl hneg; rw [if_pos hfu] at hl hneg; omega
      · simpa using hfu
    have e : D.dies = false := by unfold DiskV.dies; rw [hd, hfu]; rfl
    rw [e, if_neg (by simp)]
    have : D.armed = D := by unfold DiskV.armed; rw [hfu]; simp
    rw [this]
    exact ⟨rfl, ⟨a, n, cap, L, h⟩, Keep.refl _⟩

theorem ref_Fuse {m : Int} (h : RefAt w p F D) : Calls Tryz.prog F_ref19_Disk_Fuse #[.pointer (some ⟨p, 0, none⟩), .int .i64 m] w (Ok fun v w' => v = .tuple #[] ∧ RefAt w' p F (D.fuse m) ∧ Keep F w w') := by
  obtain ⟨a, n, cap, L, h⟩ := h
  have e : (if m > 0 then m else 0) = max m 0 := by omega
  refine L_ref19_Disk_Fuse ⟨p, 0, rfl, PS.mk h.head (by simp) fun w1 k1 s1 g1 => Ok.mk ⟨rfl, ⟨a, n, cap, L, h.remake k1 ?_ rfl⟩, k1.mono fun b _ hb => hb ▸ h.self⟩⟩
  rw [g1, e]; rfl

theorem ref_Dead (h : RefAt w p F D) : Calls Tryz.prog F_ref19_Disk_Dead #[.pointer (some ⟨p, 0, none⟩)] w (Ok fun v w' => v = .bool D.dead ∧ w = w') := by
  obtain ⟨a, n, cap, L, h⟩ := h
  exact L_ref19_Disk_Dead ⟨p, 0, rfl, _, cell_at h.head rfl, Ok.mk ⟨rfl, rfl⟩⟩

theorem ref_at (h : RefL w p F D a n cap L) (hf : D.Fit) {k : ByteArray} : Calls Tryz.prog F_ref19_Disk_at #[.pointer (some ⟨p, 0, none⟩), .string k] w (Ok fun v w' => w = w' ∧ ∃ i : Int, v = .int .i64 i ∧ ((i < 0 ∧ ∀ x ∈ L, x.1 ≠ k) ∨ ∃ (j : Nat) (x : RBox), i = j ∧ j < n ∧ L[j]? = some (k, x))) := by
  have hn := h.n_eq; have hl := h.length hf; have hm := hf.many
  refine L_ref19_Disk_at ⟨fun m i w' => ∃ j : Nat, i = j ∧ j ≤ n ∧ m = n - j ∧ w' = w ∧ ∀ x ∈ L.take j, x.1 ≠ k, ⟨_, 0, rfl, Nat.zero_le _, rfl, rfl, by simp⟩, ?_⟩
  rintro m i B _ ⟨j, rfl, hj, rfl, rfl, hs⟩
  refine ⟨p, 0, rfl, a, n, cap, cell_at h.head rfl, PIf.dec (fun h1 => ?_) (fun h1 => ?_)⟩
  · obtain ⟨b, off, x, rfl, hx, hxm, c0, c1, c2, c3⟩ := h.at hf (i := j) (by omega)
    refine ⟨p, 0, rfl, _, n, cap, cell_at h.head rfl, b, off, rfl, by omega, by omega, x.1, c0, PIf.eqS (fun he => Ok.mk ⟨rfl, _, rfl, .inr ⟨j, x.2, rfl, by omega, by rw [hx, ← he]⟩⟩) (fun hne => ⟨_, by omega, j + 1, wrap_succ (by omega), by omega, rfl, rfl, ?_⟩)⟩
    intro y hy
    rw [List.take_add_one, hx] at hy
    simp only [Option.toList_some, List.mem_append, List.mem_singleton] at hy
    rcases hy with hy | rfl
    · exact hs y hy
    · exact hne
  · rw [List.take_of_length_le (by omega)] at hs
    exact Ok.mk ⟨rfl, -1, rfl, .inl ⟨by omega, hs⟩⟩

theorem okByte_nat (b : UInt8) : okByte b = decide ((97 ≤ b.toNat ∧ b.toNat ≤ 122) ∨ (48 ≤ b.toNat ∧ b.toNat ≤ 57) ∨ b.toNat = 46) := by
  have h : (List.range 256).all (fun n => okByte (UInt8.ofNat n) == decide ((97 ≤ (UInt8.ofNat n).toNat ∧ (UInt8.ofNat n).toNat ≤ 122) ∨ (48 ≤ (UInt8.ofNat n).toNat ∧ (UInt8.ofNat n).toNat ≤ 57) ∨ (UInt8.ofNat n).toNat = 46)) = true := by decide +kernel
  have := List.all_eq_true.1 h b.toNat (List.mem_range.2 b.toNat_lt)
  simpa using this

theorem ref_isName {s : ByteArray} (hs : s.size ≤ 1000000) : Calls Tryz.prog F_ref19_isName #[.string s] w (Ok fun v w' => v = .bool (isNameV s) ∧ w = w') := by
  refine L_ref19_isName ⟨fun m i w' => ∃ j : Nat, i = j ∧ j ≤ s.size ∧ m = s.size - j ∧ w = w' ∧ ∀ b ∈ s.data.toList.take j, okByte b = true, ⟨_, 0, rfl, Nat.zero_le _, rfl, rfl, by simp⟩, ?_⟩
  rintro m i B _ ⟨j, rfl, hj, rfl, rfl, hall⟩
  refine PIf.dec (fun h1 => ?_) (fun h1 => ?_)
  · have hjs : j < s.size := by omega
    have hgl : s.data.toList[j]? = some (s[j]'hjs) := by
      rw [List.getElem?_eq_getElem (by simpa using hjs)]
      simp; rfl
    have hok := okByte_nat (s[j]'hjs)
    have no : okByte (s[j]'hjs) = false → Ok (fun v w' => v = .bool (isNameV s) ∧ w = w') (.returned (.bool false)) w := fun hf => by
      have : s.data.toList.all okByte = false := List.all_eq_false.2 ⟨_, List.mem_of_getElem? hgl, by simp [hf]⟩
      refine Ok.mk ⟨?_, rfl⟩
      unfold isNameV
      rw [this, Bool.and_false]
    have go : okByte (s[j]'hjs) = true → ∃ m4, m4 < s.size - j ∧ ∃ j' : Nat, IntKind.wrap .i64 ((j : Int) + 1) = j' ∧ j' ≤ s.size ∧ m4 = s.size - j' ∧ w = w ∧ ∀ b ∈ s.data.toList.take j', okByte b = true := fun ht =>
      ⟨_, by omega, j + 1, wrap_succ (by omega), by omega, rfl, rfl, fun b hb => by
        rw [List.take_add_one, hgl] at hb
        rcases List.mem_append.1 hb with hb | hb
        · exact hall b hb
        · simp at hb; rw [hb]; exact ht⟩
    refine ⟨by omega, _, getElem_str hjs, PIf.neI (fun e1 => PIf.dec (fun e2 => PIf.dec (fun e3 => no ?_) (fun e3 => PIf.dec (fun e4 => no ?_) (fun e4 => go ?_))) (fun e2 => PIf.dec (fun e5 => PIf.dec (fun e3 => no ?_) (fun e3 => PIf.dec (fun e4 => no ?_) (fun e4 => go ?_))) (fun e5 => go ?_))) (fun e1 => go ?_)⟩
    all_goals
      rw [hok]
      first
      | exact decide_eq_true (by omega)
      | exact decide_eq_false (by omega)
  · rw [List.take_of_length_le (by have : s.data.toList.length = s.size := by simp
                                   omega)] at hall
    have hall' : s.data.toList.all okByte = true := List.all_eq_true.2 hall
    refine PIf.dec (fun h2 => Ok.mk ⟨?_, rfl⟩) (fun h2 => Ok.mk ⟨?_, rfl⟩)
    · unfold isNameV
      rw [hall', decide_eq_true (show 1 ≤ s.size by omega)]
      simp
      omega
    · unfold isNameV
      rw [decide_eq_false (show ¬ 1 ≤ s.size by omega)]
      simp
end
end Go.Proofs.YtpmakiecgphijaaGreatDoor

/- quaysideref19: what is read, and what turns one file -/
namespace Go.Proofs.YtpmakiecgphijaaGreatDoor
open Go.Lift
set_option linter.unusedVariables false
set_option maxRecDepth 20000

theorem aput_set {β : Type} {k : ByteArray} {u v : β} : ∀ {l : List (ByteArray × β)} {i : Nat}, Tidy l → l[i]? = some (k, u) → l.set i (k, v) = aput l k v
  | [], i, _, h => by simp at h
  | y :: ys, 0, ht, h => by
    simp at h; subst h
    simp [aput]
  | y :: ys, i + 1, ht, h => by
    unfold Tidy at ht
    simp only [List.map_cons, List.nodup_cons] at ht
    have hi : ys[i]? = some (k, u) := by simpa using h
    have hne : (k == y.1) = false := beq_false_of_ne fun e => ht.1 (e ▸ List.mem_map.2 ⟨(k, u), List.mem_of_getElem? hi, rfl⟩)
    obtain ⟨y1, y2⟩ := y
    simp only [aput, List.set_cons_succ]
    rw [if_neg (by simpa using hne), aput_set ht.2 hi]

theorem mem_aput2 {β : Type} {l : List (ByteArray × β)} (ht : Tidy l) {k : ByteArray} {v : β} {q : ByteArray × β} : q ∈ aput l k v ↔ q = (k, v) ∨ (q ∈ l ∧ q.1 ≠ k) := by
  refine ⟨mem_aput_iff ht, fun h => ?_⟩
  rcases h with rfl | ⟨h1, h2⟩
  · exact aget_mem (by rw [aget_aput]; simp)
  · have := mem_aget ht (k := q.1) (v := q.2) h1
    exact aget_mem (k := q.1) (v := q.2) (by rw [aget_aput, if_neg (by simpa using h2)]; exact this)
theorem mem_adel2 {β : Type} {l : List (ByteArray × β)} (ht : Tidy l) {k : ByteArray} {q : ByteArray × β} : q ∈ adel l k ↔ (q ∈ l ∧ q.1 ≠ k) := by
  refine ⟨mem_adel_iff ht, fun ⟨h1, h2⟩ => ?_⟩
  have := mem_aget ht (k := q.1) (v := q.2) h1
  exact aget_mem (k := q.1) (v := q.2) (by rw [aget_adel ht, if_neg (by simpa using h2)]; exact this)

theorem keys_set {β : Type} {k : ByteArray} {u v : β} {l : List (ByteArray × β)} {i : Nat} (h : l[i]? = some (k, u)) : (l.set i (k, v)).map (·.1) = l.map (·.1) := by
  apply List.ext_getElem?
  intro j
  rw [List.getElem?_map, List.getElem?_map, List.getElem?_set]
  split
  · rename_i e; subst e
    have := (List.getElem?_eq_some_iff.1 h).1
    rw [if_pos this, h]; rfl
  · rfl

section
variable {w w' : World} {p : Nat} {F S : Nat → Prop} {D : DiskV} {a : Option Addr} {n cap : Nat} {L : List RB}

theorem RefL.turn (h : RefL w p F D a n cap L) (hf : D.Fit) {i : Nat} {k : ByteArray} {x x' : RBox} (hx : L[i]? = some (k, x)) (hl : Lst cBox 96 (fun b => blk a = some b) w' a n cap (L.set i (k, x')))
    (hk : Keep (fun b => x.F b ∨ blk a = some b) w w') (hb : Lst cU8 5 x'.F w' x'.a x'.n x'.c x'.f.bytes) (hn : ∀ b, x'.F b → x.F b ∨ w.heap.size ≤ b) : ∃ F', RefL w' p F' (D.setF k x'.f) a n cap (L.set i (k, x')) ∧ Evo F w F' w' := by
  have hm := List.mem_of_getElem? hx
  have hin := h.inF _ hm
  have e : L.set i (k, x') = aput L k x' := aput_set h.tidy hx
  have hmem : ∀ y ∈ L.set i (k, x'), y = (k, x') ∨ (y ∈ L ∧ y.1 ≠ k) := fun y hy => by rw [e] at hy; exact mem_aput_iff h.tidy hy
  have hpl := lt_of_get h.head
  refine ⟨fun b => F b ∨ (w.heap.size ≤ b ∧ b < w'.heap.size), ⟨hk.get h.head fun hb => hb.elim (fun h1 => (hin _ h1).2.1 rfl) fun h1 => (h.Fa _ h1).2 rfl, hl, ?_, ?_, ?_, fun b hb => ⟨.inl (h.Fa b hb).1, (h.Fa b hb).2⟩, ?_, ?_, .inl h.self, ?_⟩,
    hk.mono fun b _ hb => hb.elim (fun h1 => (hin b h1).1) fun h1 => (h.Fa b h1).1, fun b hb => hb.imp id (·.1)⟩
  · intro y hy
    rcases hmem y hy with rfl | ⟨hy, hne⟩
    · exact hb
    · exact (h.each y hy).keep hk fun b hb hc => hc.elim (fun h1 => h.apart y hy _ hm hne b hb h1) fun h1 => (h.inF y hy b hb).2.2 h1
  · intro y hy z hz hyz b hby hbz
    rcases hmem y hy with rfl | ⟨hy, hne⟩ <;> rcases hmem z hz with rfl | ⟨hz, hne2⟩
    · exact hyz rfl
    · rcases hn b hby with h1 | h1
      · exact h.apart _ hm z hz hyz b h1 hbz
      · have := (h.each z hz).dom b hbz; omega
    · rcases hn b hbz with h1 | h1
      · exact h.apart y hy _ hm hyz b hby h1
      · have := (h.each y hy).dom b hby; omega
    · exact h.apart y hy z hz hyz b hby hbz
  · intro y hy b hby
    rcases hmem y hy with rfl | ⟨hy, hne⟩
    · rcases hn b hby with h1 | h1
      · exact ⟨.inl (hin b h1).1, (hin b h1).2⟩
      · exact ⟨.inr ⟨h1, hb.dom b hby⟩, by omega, fun h2 => by have := h.dom b (h.Fa b h2).1; omega⟩
    · exact ⟨.inl (h.inF y hy b hby).1, (h.inF y hy b hby).2⟩
  · have hs : (L.map (·.1)).Pairwise ltK := List.pairwise_map.2 h.sorted
    rw [← keys_set hx (v := x')] at hs
    exact List.pairwise_map.1 hs
  · intro q
    have e1 : (aput L k x').map rF = aput (L.map rF) k x'.f := map_aput (fun x : RBox => x.f) L k x'
    rw [e, e1, mem_aput2 (rF_tidy h.tidy), h.same]
    exact (mem_aput2 hf.tidy).symm
  · rintro b (hb | hb)
    · exact Nat.lt_of_lt_of_le (h.dom b hb) hk.size
    · exact hb.2

def sumR (l : List RB) : Nat := (l.map fun x => x.2.f.bytes.length).sum
theorem RefL.used (h : RefL w p F D a n cap L) (hf : D.Fit) : sumR L = D.used := by
  have := ((h.perm hf).map fun x => x.2.bytes.length).sum_nat
  rw [List.map_map] at this
  exact this
theorem sumR_take (l : List RB) (j : Nat) : sumR (l.take j) ≤ sumR l := by
  have : sumR l = sumR (l.take j) + sumR (l.drop j) := by
    unfold sumR
    rw [← List.sum_append, ← List.map_append, List.take_append_drop]
  omega

theorem ref_Room (h : RefAt w p F D) (hf : D.Fit) : Calls Tryz.prog F_ref19_Disk_Room #[.pointer (some ⟨p, 0, none⟩)] w (Ok fun v w' => v = .int .i64 D.room ∧ w = w') := by
  obtain ⟨a, n, cap, L, h⟩ := h
  have hn := h.n_eq; have hl := h.length hf; have hm := hf.many; have hu := h.used hf; have hft := hf.fits; have hmo := hf.most
  refine L_ref19_Disk_Room ⟨p, 0, rfl, _, cell_at h.head rfl, fun m r i w' => ∃ j : Nat, i = j ∧ j ≤ n ∧ m = n - j ∧ w' = w ∧ r = (D.most : Int) - sumR (L.take j), ⟨_, 0, rfl, Nat.zero_le _, rfl, rfl, by simp [sumR]⟩, ?_⟩
  rintro m r i B _ ⟨j, rfl, hj, rfl, rfl, rfl⟩
  refine ⟨p, 0, rfl, a, n, cap, cell_at h.head rfl, PIf.dec (fun h1 => ?_) (fun h1 => ?_)⟩
  · obtain ⟨b, off, x, rfl, hx, hxm, c0, c1, c2, c3⟩ := h.at hf (i := j) (by omega)
    obtain ⟨l1, l2, l3⟩ := h.len hf hxm
    have ht := sumR_take L (j + 1)
    have hs : sumR (L.take (j + 1)) = sumR (L.take j) + x.2.f.bytes.length := by
      rw [List.take_add_one, hx]
      simp [sumR]
    refine ⟨p, 0, rfl, _, n, cap, cell_at h.head rfl, b, off, rfl, by omega, by omega, _, _, _, c1, _, ?_, j + 1, wrap_succ (by omega), by omega, rfl, rfl, ?_⟩
    · omega
    · rw [wrap_i64 (by unfold I64; omega), hs, l1]; omega
  · rw [List.take_of_length_le (by omega)]
    refine Ok.mk ⟨?_, rfl⟩
    rw [hu]; rfl

theorem RefL.list (h : RefL w p F D a n cap L) (hf : D.Fit) : D.list = L.map (·.1) := by
  have hp : ((D.files.map (·.1)).map fun x => x.data.toList).Perm ((L.map (·.1)).map fun x => x.data.toList) := by
    have := (((h.perm hf).map (·.1)).map fun x => x.data.toList).symm
    rw [List.map_map (f := rF)] at this
    exact this
  have hs : ((L.map (·.1)).map fun x => x.data.toList).Pairwise fun x y => decide (x ≤ y) = true := by
    rw [List.map_map]
    exact List.pairwise_map.2 (h.sorted.imp fun hlt => decide_eq_true (List.le_of_lt hlt))
  have h1 : (sortS (D.files.map (·.1))).map (fun x => x.data.toList) = (L.map (·.1)).map fun x => x.data.toList := by
    rw [sortS_map]
    exact (Go.mergeSort_of_perm hp).trans (List.mergeSort_of_pairwise hs)
  exact (List.map_inj_right (fun x y he => ByteArray.ext (Array.toList_inj.1 he))).1 h1

theorem ref_List (h : RefAt w p F D) (hf : D.Fit) : Calls Tryz.prog F_ref19_Disk_List #[.pointer (some ⟨p, 0, none⟩)] w (Ok (New cStr 9 w D.list)) := by
  obtain ⟨a, n, cap, L, h⟩ := h
  have hn := h.n_eq; have hl := h.length hf; have hm := hf.many
  rw [h.list hf]
  refine L_ref19_Disk_List ⟨fun m oa on oc i w' => i = (on : Int) ∧ on ≤ n ∧ m = n - on ∧ ∃ G, Lst cStr 9 G w' oa on oc ((L.take on).map (·.1)) ∧ Grew w w' ∧ ∀ b, G b → w.heap.size ≤ b,
    ⟨_, rfl, Nat.zero_le _, rfl, fun _ => False, by simpa using Lst.nil w, Keep.refl _, fun _ h => h.elim⟩, ?_⟩
  rintro m oa on oc i _ w1 ⟨rfl, hj, rfl, G, ho, hk, hG⟩
  have h1 := h.grew hk
  refine ⟨p, 0, rfl, a, n, cap, cell_at h1.head rfl, PIf.dec (fun hlt => ?_) (fun hge => ?_)⟩
  · obtain ⟨b, off, x, rfl, hx, hxm, c0, c1, c2, c3⟩ := h1.at hf (i := on) (by omega)
    have htl : ((L.take on).map (·.1)).length = on := by simp; omega
    refine ⟨p, 0, rfl, _, n, cap, cell_at h1.head rfl, b, off, rfl, by omega, by omega, x.1, c0, papp ho slStr (x := x.1) (D := fun _ => False) ⟨rfl, trivial⟩ (fun _ h => h.elim) (by rw [htl]; unfold Big; omega) (by rw [htl]; unfold maxLen; omega) fun a' c' w3 F' ho3 hk3 hF3 _ => ?_⟩
    refine ⟨_, _, _, rfl, n - (on + 1), by omega, wrap_succ (by omega), by omega, rfl, F', ?_, hk.new hk3 fun b hb => .inr (hG b (ho.self b hb)), ?_⟩
    · rw [List.take_add_one, hx]
      simpa using ho3
    · intro b hb
      rcases hF3 b hb with h | h | h
      · exact hG b h
      · exact h.elim
      · exact Nat.le_trans hk.size h
  · obtain rfl : on = n := by omega
    rw [List.take_of_length_le (by omega)] at ho
    exact Ok.mk ⟨_, _, _, G, rfl, ho, hk, hG⟩

theorem ref_Read (h : RefAt w p F D) (hf : D.Fit) {k : ByteArray} : Calls Tryz.prog F_ref19_Disk_Read #[.pointer (some ⟨p, 0, none⟩), .string k] w (Ok fun v w' => ∃ u, v = .tuple #[u, .int .i64 (D.read k).2] ∧ New cU8 5 w (D.read k).1 u w') := by
  obtain ⟨a, n, cap, L, h⟩ := h
  have none' : New cU8 5 w [] (.slice none 0 0) w := ⟨none, 0, 0, fun _ => False, rfl, Lst.nil w, Keep.refl _, fun _ h => h.elim⟩
  refine L_ref19_Disk_Read ⟨p, 0, rfl, D.dead, cell_at h.head rfl, PIf.mk (fun hd => Ok.mk ?_) (fun hd => PC.ok (ref_at h hf) ?_)⟩
  · unfold DiskV.read; rw [hd, if_pos rfl]; exact ⟨_, rfl, none'⟩
  · rintro _ _ ⟨rfl, i, rfl, hi | ⟨j, x, rfl, hj, hx⟩⟩
    · refine ⟨_, rfl, PIf.tt (decide_eq_true hi.1) (Ok.mk ?_)⟩
      unfold DiskV.read; rw [hd, if_neg (by simp), h.nof hi.2]; exact ⟨_, rfl, none'⟩
    · obtain ⟨b, off, y, rfl, hy, hym, c0, c1, c2, c3⟩ := h.at hf hj
      rw [hx] at hy; cases hy
      refine ⟨_, rfl, PIf.ff (decide_eq_false (by omega)) ⟨p, 0, rfl, _, n, cap, cell_at h.head rfl, b, off, rfl, by omega, by omega, _, _, _, c1, PC.ok (kit_CopyBytes (h.bytes hf hym)) ?_⟩⟩
      rintro _ w1 ⟨a1, n1, c1', F1, rfl, ho1, hk1, hF1⟩
      unfold DiskV.read
      rw [hd, if_neg (by simp), h.get hf hym]
      exact ⟨_, _, _, rfl, Ok.mk ⟨_, rfl, a1, n1, c1', F1, rfl, ho1, hk1, hF1⟩⟩

/-- what a call that writes hands back -/
def RDid (w : World) (p : Nat) (F : Nat → Prop) (r : Int × DiskV) (v : Value) (w' : World) : Prop := ∃ F', v = .int .i64 r.1 ∧ RefAt w' p F' r.2 ∧ Evo F w F' w'

/-- the head of a call that writes -/
theorem ref_op {g : FuncId} {args : Array Value} {body : DiskV → Int × DiskV} {v : Value} {w1 : World} (hd : D.dies = true) (h1 : RefAt w1 p F (if D.dies then D.gone else D.armed)) (hk : Keep F w w1) : RDid w p F (D.op body) (.int .i64 15) w1 := by
  unfold DiskV.op
  rw [if_pos hd]
  rw [if_pos hd] at h1
  exact ⟨F, rfl, h1, hk, fun _ h => .inl h⟩
theorem ref_op' {body : DiskV → Int × DiskV} {v : Value} {w1 w' : World} (hd : D.dies = false) (hk : Keep F w w1) (h : RDid w1 p F (body D.armed) v w') : RDid w p F (D.op body) v w' := by
  unfold DiskV.op
  rw [if_neg (by simp [hd])]
  obtain ⟨F', h1, h2, h3⟩ := h
  exact ⟨F', h1, h2, (Evo.mk hk fun _ h => .inl h : Evo F w F w1).trans h3⟩
theorem onF_none {k : ByteArray} {body : DiskV → FileV → Int × DiskV} (h : aget D.files k = none) : DiskV.onF k body D = (14, D) := by unfold DiskV.onF; rw [h]
theorem onF_some {k : ByteArray} {f : FileV} {body : DiskV → FileV → Int × DiskV} (h : aget D.files k = some f) : DiskV.onF k body D = body D f := by unfold DiskV.onF; rw [h]

theorem ref_Sync {k : ByteArray} (h : RefAt w p F D) (hf : D.Fit) (h0 : 0 ≤ D.left) (hR : I64 D.left) : Calls Tryz.prog F_ref19_Disk_Sync #[.pointer (some ⟨p, 0, none⟩), .string k] w (Ok (RDid w p F (D.sync k))) := by
  refine L_ref19_Disk_Sync (PC.ok (ref_dies h h0 hR) ?_)
  rintro _ w1 ⟨rfl, h1, k1⟩
  refine ⟨_, rfl, PIf.mk (fun hd => Ok.mk (ref_op (g := 0) (args := #[]) (v := .bool true) hd h1 k1)) (fun hd => ?_)⟩
  rw [if_neg (by simp [hd])] at h1
  obtain ⟨a, n, cap, L, hL⟩ := h1
  have hf' := hf.armed
  refine PC.ok (ref_at hL hf') ?_
  rintro _ _ ⟨rfl, i, rfl, hi | ⟨j, x, rfl, hj, hx⟩⟩
  · refine ⟨_, rfl, PIf.tt (decide_eq_true hi.1) (Ok.mk (ref_op' hd k1 ?_))⟩
    rw [onF_none (hL.nof hi.2)]
    exact ⟨F, rfl, ⟨a, n, cap, L, hL⟩, Keep.refl _, fun _ h => .inl h⟩
  · refine ⟨_, rfl, PIf.ff (decide_eq_false (by omega)) fun w2 hd2 => ?_⟩
    have hL2 := hL.grew hd2.keep
    obtain ⟨b, off, y, rfl, hy, hym, c0, c1, c2, c3⟩ := hL2.at hf' hj
    rw [hx] at hy; cases hy
    have hn := hL2.len hf' hym
    have pa : ∀ b', blk (some (⟨b, off, none⟩ : Addr)) = some b' → b' ≠ p := fun b' hb' => (hL2.Fa b' hb').2
    refine ⟨p, 0, rfl, _, n, cap, cell_at hL2.head rfl, p, 0, rfl, _, n, cap, cell_at hL2.head rfl, b, off, rfl, by omega, by omega, _, _, _, c1, b, off, rfl, by omega, by omega, ?_⟩
    refine hL2.lst.set (x' := (k, ⟨x.a, x.n, x.c, x.F, ⟨x.f.bytes, x.n, x.f.good⟩⟩)) hx (j := 2) (by decide) rfl rfl fun w3 ho3 k3 s3 => ?_
    have g3 := k3.get hL2.head fun hb => pa p hb rfl
    refine ⟨p, 0, rfl, _, n, cap, cell_at g3 rfl, b, off, rfl, by omega, by omega, ?_⟩
    have hx3 : (L.set j (k, (⟨x.a, x.n, x.c, x.F, ⟨x.f.bytes, x.n, x.f.good⟩⟩ : RBox)))[j]? = some (k, (⟨x.a, x.n, x.c, x.F, ⟨x.f.bytes, x.n, x.f.good⟩⟩ : RBox)) := by
      rw [List.getElem?_set]; simp; exact (List.getElem?_eq_some_iff.1 hx).1
    refine ho3.set (x' := (k, ⟨x.a, x.n, x.c, x.F, x.f.cut x.f.bytes.length⟩)) hx3 (j := 3) (by decide) ?_ rfl fun w4 ho4 k4 s4 => Ok.mk (ref_op' hd k1 ?_)
    · have e1 := clampN_le (x.f.bytes.length : Int) x.f.bytes.length
      have e2 : clampN (x.f.bytes.length : Int) x.f.bytes.length = x.f.bytes.length := by unfold clampN; omega
      have e3 : x.n = x.f.bytes.length := hn.1
      simp only [encB, FileV.cut, e2, e3]; rfl
    · rw [List.set_set] at ho4
      rw [onF_some (hL.get hf' hym)]
      have hk4 : Keep (fun b' => x.F b' ∨ blk (some (⟨b, off, none⟩ : Addr)) = some b') w2 w4 := (k3.then k4).mono fun _ _ h => .inr h
      have hbx := (hL2.each _ hym).keep (k3.then k4) fun b' hb' => (hL2.inF _ hym b' hb').2.2
      have hcut : (x.f.cut x.f.bytes.length).bytes = x.f.bytes := by
        have e2 : clampN (x.f.bytes.length : Int) x.f.bytes.length = x.f.bytes.length := by unfold clampN; omega
        simp [FileV.cut, e2]
      obtain ⟨F', hL4, hev⟩ := hL2.turn hf' hx ho4 hk4 (by rw [hcut]; exact hbx) (fun _ h => .inl h)
      exact ⟨F', rfl, ⟨_, _, _, _, hL4⟩, (Evo.mk hd2.keep fun _ h => .inl h : Evo F _ F w2).trans hev⟩

theorem ref_Cut {k : ByteArray} {m : Int} (h : RefAt w p F D) (hf : D.Fit) (h0 : 0 ≤ D.left) (hR : I64 D.left) : Calls Tryz.prog F_ref19_Disk_Cut #[.pointer (some ⟨p, 0, none⟩), .string k, .int .i64 m] w (Ok (RDid w p F (D.cutF k m))) := by
  refine L_ref19_Disk_Cut (PC.ok (ref_dies h h0 hR) ?_)
  rintro _ w1 ⟨rfl, h1, k1⟩
  refine ⟨_, rfl, PIf.mk (fun hd => Ok.mk (ref_op (g := 0) (args := #[]) (v := .bool true) hd h1 k1)) (fun hd => ?_)⟩
  rw [if_neg (by simp [hd])] at h1
  obtain ⟨a, n, cap, L, hL⟩ := h1
  have hf' := hf.armed
  refine PC.ok (ref_at hL hf') ?_
  rintro _ _ ⟨rfl, i, rfl, hi | ⟨j, x, rfl, hj, hx⟩⟩
  · refine ⟨_, rfl, PIf.tt (decide_eq_true hi.1) (Ok.mk (ref_op' hd k1 ?_))⟩
    rw [onF_none (hL.nof hi.2)]
    exact ⟨F, rfl, ⟨a, n, cap, L, hL⟩, Keep.refl _, fun _ h => .inl h⟩
  · refine ⟨_, rfl, PIf.ff (decide_eq_false (by omega)) fun w2 hd2 => ?_⟩
    have hL2 := hL.grew hd2.keep
    obtain ⟨b, off, y, rfl, hy, hym, c0, c1, c2, c3⟩ := hL2.at hf' hj
    rw [hx] at hy; cases hy
    have hn := hL2.len hf' hym
    have hcap := (hL2.each _ hym).cap_le
    have hcl := clampN_le m x.f.bytes.length
    have pa : ∀ b', blk (some (⟨b, off, none⟩ : Addr)) = some b' → b' ≠ p := fun b' hb' => (hL2.Fa b' hb').2
    have hxn : x.n = x.f.bytes.length := hn.1
    have e : (if (if ((x.n : Nat) : Int) < m then ((x.n : Nat) : Int) else m) > 0 then (if ((x.n : Nat) : Int) < m then ((x.n : Nat) : Int) else m) else 0) = ((clampN m x.f.bytes.length : Nat) : Int) := by
      unfold clampN; rw [hxn]; omega
    refine ⟨fun b' => blk (some (⟨b, off, none⟩ : Addr)) = some b', p, 0, rfl, fun hb => pa p hb rfl, _, n, cap, cell_at hL2.head rfl, p, 0, rfl, _, n, cap, cell_at hL2.head rfl, b, off, rfl, by omega, by omega, _, _, _, c1,
      p, 0, rfl, _, n, cap, cell_at hL2.head rfl, b, off, rfl, by omega, by omega, _, _, _, c1, ?_⟩
    change (_ ≤ (if (if ((x.n : Nat) : Int) < m then ((x.n : Nat) : Int) else m) > 0 then (if ((x.n : Nat) : Int) < m then ((x.n : Nat) : Int) else m) else 0)) ∧ _
    rw [e, Int.toNat_natCast]
    have hcap' : x.n ≤ x.c := hcap
    refine ⟨by omega, by show ((clampN m x.f.bytes.length : Nat) : Int) ≤ ((x.c : Nat) : Int); omega, PC.ok (kit_CopyBytes ((hL2.bytes hf' hym).take (m := clampN m x.f.bytes.length) (by show _ ≤ x.n; omega))) ?_⟩
    rintro _ w3 ⟨a3, n3, c3', F3, rfl, ho3, k3, hF3⟩
    have hn3 : n3 = clampN m x.f.bytes.length := by
      have := ho3.len (by decide)
      rw [this]
      show (x.f.bytes.take _).length = _
      simp; omega
    refine ⟨_, _, _, rfl, k3.keep, b, off, rfl, by omega, by omega, ?_⟩
    refine (hL2.lst.grew k3).set (x' := (k, ⟨a3, n3, c3', F3, ⟨x.f.bytes.take (clampN m x.f.bytes.length), x.f.synced, x.f.good⟩⟩)) hx (j := 1) (by decide) rfl rfl fun w4 ho4 k4 s4 => ⟨k4, fun w5 hd5 => ?_⟩
    have g4 : w4.heap[p]? = _ := k4.get (k3.get hL2.head id) fun hb => pa p hb rfl
    have g5 := (hd5.keep (S := fun _ => False)).get g4 id
    have hlen : j < L.length := (List.getElem?_eq_some_iff.1 hx).1
    have hx4 : ∀ z : RB, (L.set j z)[j]? = some z := fun z => by rw [List.getElem?_set]; simp [hlen]
    have ho5 := ho4.grew hd5.keep
    obtain ⟨bb, oo, es, hbb, _, _, hcc, rfl, -⟩ := (ho5.row (bytes := 56) (by decide) (by have := hL2.length hf'; have := hf'.many; rw [List.length_set]; unfold Big; omega)).el j _ (hx4 _)
    cases hbb
    refine ⟨p, 0, rfl, _, n, cap, cell_at g5 rfl, p, 0, rfl, _, n, cap, cell_at g5 rfl, b, off, rfl, by omega, by omega, a3, n3, c3', hcc 1 (by decide), b, off, rfl, by omega, by omega, ?_⟩
    refine ho5.set (x' := (k, ⟨a3, n3, c3', F3, ⟨x.f.bytes.take (clampN m x.f.bytes.length), n3, x.f.good⟩⟩)) (hx4 _) (j := 2) (by decide) rfl rfl fun w6 ho6 k6 s6 => ?_
    have g6 := k6.get g5 fun hb => pa p hb rfl
    rw [List.set_set] at ho6
    refine ⟨p, 0, rfl, _, n, cap, cell_at g6 rfl, b, off, rfl, by omega, by omega, ?_⟩
    refine ho6.set (x' := (k, ⟨a3, n3, c3', F3, x.f.cut m⟩)) (hx4 _) (j := 3) (by decide) (by subst hn3; rfl) rfl fun w7 ho7 k7 s7 => Ok.mk (ref_op' hd k1 ?_)
    rw [List.set_set] at ho7
    rw [onF_some (hL.get hf' hym)]
    have hk37 : Keep (fun b' => blk (some (⟨b, off, none⟩ : Addr)) = some b') w3 w7 := ((k4.grew hd5.keep).then k6).then k7
    have hk7 : Keep (fun b' => x.F b' ∨ blk (some (⟨b, off, none⟩ : Addr)) = some b') w2 w7 := ((k3.keep (S := fun b' => blk (some (⟨b, off, none⟩ : Addr)) = some b')).then hk37).mono fun _ _ h => .inr h
    have hb2 := hL2.dom
    have hbx : Lst cU8 5 F3 w7 a3 n3 c3' (x.f.cut m).bytes := ho3.keep hk37 fun b' hb' hc => by
      have := hF3 b' hb'; have := hb2 b' (hL2.Fa b' hc).1; omega
    obtain ⟨F', hL7, hev⟩ := hL2.turn (x' := ⟨a3, n3, c3', F3, x.f.cut m⟩) hf' hx ho7 hk7 hbx (fun b hb => .inr (hF3 b hb))
    exact ⟨F', rfl, ⟨_, _, _, _, hL7⟩, (Evo.mk hd2.keep fun _ h => .inl h : Evo F _ F w2).trans hev⟩

theorem ref_Append {k : ByteArray} {ba : Option Addr} {bn bc : Nat} {bs : List UInt8} {Db : Nat → Prop} (h : RefAt w p F D) (hf : D.Fit) (h0 : 0 ≤ D.left) (hR : I64 D.left) (hb : Row cU8 1 w Db ba bn bs) (hDb : ∀ b, Db b → b < w.heap.size ∧ ¬ F b) :
    Calls Tryz.prog F_ref19_Disk_Append #[.pointer (some ⟨p, 0, none⟩), .string k, .slice ba bn bc] w (Ok (RDid w p F (D.append k bs))) := by
  have hbl := hb.len; have hbb := hb.big
  unfold Big at hbb
  refine L_ref19_Disk_Append (PC.ok (ref_dies h h0 hR) ?_)
  rintro _ w1 ⟨rfl, h1, k1⟩
  refine ⟨_, rfl, PIf.mk (fun hd => Ok.mk (ref_op (g := 0) (args := #[]) (v := .bool true) hd h1 k1)) (fun hd => ?_)⟩
  rw [if_neg (by simp [hd])] at h1
  have h1' := h1
  obtain ⟨a, n, cap, L, hL⟩ := h1
  have hf' := hf.armed
  refine PC.ok (ref_at hL hf') ?_
  rintro _ _ ⟨rfl, i, rfl, hi | ⟨j, x, rfl, hj, hx⟩⟩
  · refine ⟨_, rfl, PIf.tt (decide_eq_true hi.1) (Ok.mk (ref_op' hd k1 ?_))⟩
    rw [onF_none (hL.nof hi.2)]
    exact ⟨F, rfl, ⟨a, n, cap, L, hL⟩, Keep.refl _, fun _ h => .inl h⟩
  · refine ⟨_, rfl, PIf.ff (decide_eq_false (by omega)) (PC.ok (ref_Room h1' hf') ?_)⟩
    rintro _ _ ⟨rfl, rfl⟩
    have hget := hL.get hf' (List.mem_of_getElem? hx)
    refine ⟨_, rfl, PIf.dec (fun hgt => Ok.mk (ref_op' hd k1 ?_)) (fun hle => fun w2 hd2 => ?_)⟩
    · rw [onF_some hget, if_pos (by rw [← hbl]; exact hgt)]
      exact ⟨F, rfl, ⟨a, n, cap, L, hL⟩, Keep.refl _, fun _ h => .inl h⟩
    · have hL2 := hL.grew hd2.keep
      obtain ⟨b, off, y, rfl, hy, hym, c0, c1, c2, c3⟩ := hL2.at hf' hj
      rw [hx] at hy; cases hy
      have hn := hL2.len hf' hym
      have hxn : x.n = x.f.bytes.length := hn.1
      have hx2 : x.f.bytes.length ≤ 262144 := hn.2.1
      have hin := hL2.inF _ hym
      have hin' : ∀ b', x.F b' → F b' ∧ b' ≠ p ∧ blk (some (⟨b, off, none⟩ : Addr)) ≠ some b' := hin
      have hr2 : D.armed.room ≤ 262144 := by have := hf'.most; unfold DiskV.room; omega
      have hbx : Lst cU8 5 x.F w2 x.a x.n x.c x.f.bytes := hL2.each _ hym
      have hb2 : Row cU8 1 w2 Db ba bn bs := (hb.keep k1 fun b hb => (hDb b hb).2).grew hd2.keep
      refine ⟨fun b' => F b' ∧ b' ≠ p, p, 0, rfl, fun hb => hb.2 rfl, _, n, cap, cell_at hL2.head rfl, p, 0, rfl, _, n, cap, cell_at hL2.head rfl, b, off, rfl, by omega, by omega, _, _, _, c1, ?_⟩
      have hw12 : w.heap.size ≤ w2.heap.size := (k1.grew hd2.keep).size
      refine appRow0 hbx slU8 hb2 (fun b' hb' => ⟨by have := (hDb b' hb').1; omega, fun he => (hDb b' hb').2 (hin' b' (hbx.self b' he)).1⟩) (by unfold Big; omega) (by unfold maxLen; omega) fun a' c' w3 F' ho3 k3 _ hs3 => ?_
      have hF3 : ∀ b', blk x.a = some b' → F b' ∧ b' ≠ p := fun b' hb' => ⟨(hin' b' (hbx.self b' hb')).1, (hin' b' (hbx.self b' hb')).2.1⟩
      refine ⟨_, _, _, rfl, k3.mono fun b' _ hb' => hF3 b' hb', b, off, rfl, by omega, by omega, ?_⟩
      have hl3 := hL2.lst.keep k3 fun b' hb' hc => (hin' b' (hbx.self b' hc)).2.2 hb'
      refine hl3.set (x' := (k, ⟨a', x.n + bn, c', fun b' => blk a' = some b', { x.f with bytes := x.f.bytes ++ bs }⟩)) hx (j := 1) (by decide) rfl rfl fun w4 ho4 k4 s4 => ⟨k4.mono fun b' _ hb' => hL2.Fa b' hb', Ok.mk (ref_op' hd k1 ?_)⟩
      rw [onF_some hget, if_neg (by rw [← hbl]; exact hle)]
      have hk4 : Keep (fun b' => x.F b' ∨ blk (some (⟨b, off, none⟩ : Addr)) = some b') w2 w4 := (k3.mono fun b' _ hb' => .inl (hbx.self b' hb')).then (k4.mono fun _ _ h => .inr h)
      have hdd := hL2.dom
      have hbx4 : Lst cU8 5 (fun b' => blk a' = some b') w4 a' (x.n + bn) c' (x.f.bytes ++ bs) := ho3.alone.keep k4 fun b' hb' hc => by
        rcases hs3 b' hb' with h | h
        · exact (hin' b' h).2.2 hc
        · have := hdd b' (hL2.Fa b' hc).1; omega
      obtain ⟨F4, hL4, hev⟩ := hL2.turn (x' := ⟨a', x.n + bn, c', fun b' => blk a' = some b', { x.f with bytes := x.f.bytes ++ bs }⟩) hf' hx ho4 hk4 hbx4 (fun b hb => hs3 b hb)
      exact ⟨F4, rfl, ⟨_, _, _, _, hL4⟩, (Evo.mk hd2.keep fun _ h => .inl h : Evo F _ F w2).trans hev⟩
end
end Go.Proofs.YtpmakiecgphijaaGreatDoor

/- quaysideref19: a file goes, a file is laid in its place -/
namespace Go.Proofs.YtpmakiecgphijaaGreatDoor
open Go.Lift
set_option linter.unusedVariables false
set_option maxRecDepth 20000

theorem PIf.ltS {x y : ByteArray} {X Y : Prop} (h1 : ltK x y → X) (h2 : ¬ ltK x y → Y) : PIf (Op.bytesLess (ByteArray.toList x) (ByteArray.toList y)) X Y := by
  rw [bytesLess_ltK]; exact PIf.dec h1 h2

theorem DiskV.Fit.del {D : DiskV} (h : D.Fit) (k : ByteArray) : (D.delF k).Fit := by
  have hl := length_adel D.files k
  have hs := sumLen_adel (l := D.files) (k := k)
  have hf := h.fits
  have hm := h.many
  unfold DiskV.used at hf
  exact ⟨h.most, by show sumLen (adel D.files k) ≤ D.most; omega, by show (adel D.files k).length ≤ 64; omega, h.tidy.adel k, fun x hx => h.syn x (mem_adel_pair hx)⟩

section
variable {w w' : World} {p : Nat} {F S : Nat → Prop} {D : DiskV} {a : Option Addr} {n cap : Nat} {L : List RB}

/-- another list -/
theorem RefL.swap (h : RefL w p F D a n cap L) {w1 : World} (hk : Grew w w1) {a' : Option Addr} {n' cap' : Nat} {L' : List RB} {G : Nat → Prop} {fs : List (ByteArray × FileV)} (hl : Lst cBox 96 G w1 a' n' cap' L') (hfr : ∀ b, blk a' = some b → w.heap.size ≤ b)
    (each' : ∀ x ∈ L', Lst cU8 5 x.2.F w1 x.2.a x.2.n x.2.c x.2.f.bytes) (apart' : ∀ x ∈ L', ∀ y ∈ L', x.1 ≠ y.1 → ∀ b, x.2.F b → ¬ y.2.F b) (inF' : ∀ x ∈ L', ∀ b, x.2.F b → ((F b ∧ b ≠ p) ∨ w.heap.size ≤ b) ∧ blk a' ≠ some b)
    (sorted' : L'.Pairwise fun x y => ltK x.1 y.1) (same' : ∀ q, q ∈ L'.map rF ↔ q ∈ fs) {κ : World → Prop} (hκ : ∀ w2, RefL w2 p (fun b => F b ∨ (w.heap.size ≤ b ∧ b < w1.heap.size)) (D.withF fs) a' n' cap' L' → Keep (· = p) w w2 → Keep (· = p) w1 w2 → w2.heap.size = w1.heap.size → κ w2) : PS w1 ⟨p, 0 + 2, none⟩ (.slice a' n' cap') κ := by
  have hpl := lt_of_get h.head
  refine PS.mk (hk.get h.head id) (by simp) fun w2 k2 s2 g2 => hκ w2 ⟨g2, hl.alone.keep k2 (fun b hb e => by have := hfr b hb; omega), fun x hx => (each' x hx).keep k2 (fun b hb e => ?_), apart', fun x hx b hb => ?_, fun b hb => ?_, sorted', same', .inl h.self, fun b hb => ?_⟩ (hk.keep.then k2) k2 s2
  · rcases (inF' x hx b hb).1 with h1 | h1
    · exact h1.2 e
    · omega
  · refine ⟨?_, ?_, (inF' x hx b hb).2⟩
    · rcases (inF' x hx b hb).1 with h1 | h1
      · exact .inl h1.1
      · exact .inr ⟨h1, (each' x hx).dom b hb⟩
    · rcases (inF' x hx b hb).1 with h1 | h1
      · exact h1.2
      · omega
  · have h1 := hfr b hb
    exact ⟨.inr ⟨h1, hl.dom b (hl.self b hb)⟩, by omega⟩
  · rcases hb with hb | hb
    · have := h.dom b hb; have := hk.size; omega
    · omega

theorem ref_drop (h : RefL w p F D a n cap L) (hf : D.Fit) {k : ByteArray} : Calls Tryz.prog F_ref19_Disk_drop #[.pointer (some ⟨p, 0, none⟩), .string k] w
    (Ok fun v w' => v = .tuple #[] ∧ ∃ a' n' cap' F', RefL w' p F' (D.delF k) a' n' cap' (L.filter fun y => y.1 != k) ∧ Keep (· = p) w w' ∧ (∀ b, F' b → F b ∨ w.heap.size ≤ b) ∧ (∀ b, F b → F' b) ∧ ∀ b, blk a' = some b → w.heap.size ≤ b) := by
  have hn := h.n_eq; have hl := h.length hf; have hm := hf.many
  refine L_ref19_Disk_drop ⟨fun m oa on oc i w' => ∃ (j : Nat) (G : Nat → Prop), i = (j : Int) ∧ j ≤ n ∧ m = n - j ∧ Lst cBox 96 G w' oa on oc ((L.take j).filter fun y => y.1 != k) ∧ Grew w w' ∧ ∀ b, G b → w.heap.size ≤ b,
    ⟨_, 0, fun _ => False, rfl, Nat.zero_le _, rfl, by simpa using Lst.nil w, Keep.refl _, fun _ h => h.elim⟩, ?_⟩
  rintro m oa on oc i _ w1 ⟨j, G, rfl, hj, rfl, ho, hk, hG⟩
  have h1 := h.grew hk
  refine ⟨p, 0, rfl, a, n, cap, cell_at h1.head rfl, PIf.dec (fun hlt => ?_) (fun hge => ?_)⟩
  · obtain ⟨b, off, x, rfl, hx, hxm, c0, c1, c2, c3⟩ := h1.at hf (i := j) (by omega)
    have htl : ((L.take j).filter fun y => y.1 != k).length ≤ 64 := by
      have := List.length_filter_le (fun y : RB => y.1 != k) (L.take j)
      rw [List.length_take] at this
      omega
    have hst : (L.take (j + 1)).filter (fun y => y.1 != k) = (L.take j).filter (fun y => y.1 != k) ++ [x].filter (fun y => y.1 != k) := by
      rw [List.take_add_one, hx]; simp [List.filter_append]
    refine ⟨p, 0, rfl, _, n, cap, cell_at h1.head rfl, b, off, rfl, by omega, by omega, x.1, c0, PIf.neS (fun hne => ?_) (fun he => ⟨_, by omega, j + 1, G, wrap_succ (by omega), by omega, rfl, ?_, hk, hG⟩)⟩
    · refine ⟨p, 0, rfl, _, n, cap, cell_at h1.head rfl, b, off, rfl, by omega, by omega, x.1, _, _, _, _, _, c0, c1, c2, c3, papp ho slFile (x := x) (D := fun _ => False) ⟨rfl, trivial⟩ (fun _ h => h.elim) (by unfold Big; omega) (by unfold maxLen; omega) fun a' c' w3 F' ho3 hk3 hF3 _ => ?_⟩
      refine ⟨_, _, _, rfl, n - (j + 1), by omega, j + 1, F', wrap_succ (by omega), by omega, rfl, ?_, hk.new hk3 fun b hb => .inr (hG b (ho.self b hb)), ?_⟩
      · rw [hst]
        simpa [hne] using ho3
      · intro b hb
        rcases hF3 b hb with h | h | h
        · exact hG b h
        · exact h.elim
        · exact Nat.le_trans hk.size h
    · rw [hst]
      simpa [he] using ho
  · obtain rfl : j = n := by omega
    rw [List.take_of_length_le (by omega)] at ho
    have hmem : ∀ y ∈ L.filter (fun y => y.1 != k), y ∈ L ∧ y.1 ≠ k := fun y hy => by
      have := List.mem_filter.1 hy
      exact ⟨this.1, by simpa using this.2⟩
    have hdom := h.dom
    refine ⟨p, 0, rfl, h.swap hk (fs := adel D.files k) ho (fun b hb => hG b (ho.self b hb)) (fun x hx => h1.each x (hmem x hx).1) (fun x hx y hy => h.apart x (hmem x hx).1 y (hmem y hy).1)
      (fun x hx b hb => ⟨.inl ⟨(h.inF x (hmem x hx).1 b hb).1, (h.inF x (hmem x hx).1 b hb).2.1⟩, fun e => ?_⟩) (h.sorted.filter _) (fun q => ?_) fun w2 hR2 k02 k12 s2 => Ok.mk ⟨rfl, _, _, _, _, hR2, k02, fun b hb => hb.imp id (·.1), fun b hb => .inl hb, fun b hb => hG b (ho.self b hb)⟩⟩
    · have := hG b (ho.self b e)
      have := hdom b (h.inF x (hmem x hx).1 b hb).1
      omega
    · rw [mem_adel2 hf.tidy, ← h.same]
      constructor
      · intro hq
        obtain ⟨y, hy, rfl⟩ := List.mem_map.1 hq
        exact ⟨List.mem_map.2 ⟨y, (hmem y hy).1, rfl⟩, (hmem y hy).2⟩
      · rintro ⟨hq, hne⟩
        obtain ⟨y, hy, rfl⟩ := List.mem_map.1 hq
        exact List.mem_map.2 ⟨y, List.mem_filter.2 ⟨hy, by have hne' : y.1 ≠ k := hne; simpa using hne'⟩, rfl⟩

/-! what is laid -/
def loB (k : ByteArray) (y : RB) : Bool := decide (ltK y.1 k)
def hiB (k : ByteArray) (y : RB) : Bool := decide (ltK k y.1)
def layV (z : RB) (l : List RB) : List RB := if l.any (hiB z.1) then l.filter (loB z.1) ++ z :: l.filter (hiB z.1) else l.filter (loB z.1)
def layM (z : RB) (l : List RB) (y : RB) : List RB := if l.any (hiB z.1) = false ∧ ltK z.1 y.1 then layV z l ++ [z] else layV z l

theorem filter_hi_nil {k : ByteArray} {l : List RB} (h : l.any (hiB k) = false) : l.filter (hiB k) = [] := by
  rw [List.filter_eq_nil_iff]
  intro y hy
  rw [List.any_eq_false] at h
  exact h y hy

theorem layV_step (z : RB) (l : List RB) (y : RB) (hs : ∀ u ∈ l, ltK u.1 y.1) : layV z (l ++ [y]) = if y.1 = z.1 then layM z l y else layM z l y ++ [y] := by
  cases hA : l.any (hiB z.1) with
  | true =>
    obtain ⟨u, hu, hz⟩ := List.any_eq_true.1 hA
    have hzy : ltK z.1 y.1 := ltK_trans (of_decide_eq_true hz) (hs u hu)
    have hyz : ¬ ltK y.1 z.1 := fun h => ltK_irrefl _ (ltK_trans h hzy)
    have hne : ¬ y.1 = z.1 := fun e => ltK_irrefl _ (e ▸ hzy)
    have e1 : hiB z.1 y = true := decide_eq_true hzy
    have e2 : loB z.1 y = false := decide_eq_false hyz
    rw [if_neg hne]
    unfold layM layV
    simp [hA, List.filter_append, e1, e2]
  | false =>
    have hn := filter_hi_nil hA
    by_cases hzy : ltK z.1 y.1
    · have hyz : ¬ ltK y.1 z.1 := fun h => ltK_irrefl _ (ltK_trans h hzy)
      have hne : ¬ y.1 = z.1 := fun e => ltK_irrefl _ (e ▸ hzy)
      have e1 : hiB z.1 y = true := decide_eq_true hzy
      have e2 : loB z.1 y = false := decide_eq_false hyz
      rw [if_neg hne]
      unfold layM layV
      simp [hA, List.filter_append, e1, e2, hn, hzy]
    · have e1 : hiB z.1 y = false := decide_eq_false hzy
      by_cases hyz : ltK y.1 z.1
      · have hne : ¬ y.1 = z.1 := fun e => ltK_irrefl _ (e ▸ hyz)
        have e2 : loB z.1 y = true := decide_eq_true hyz
        rw [if_neg hne]
        unfold layM layV
        simp [hA, List.filter_append, e1, e2, hn, hzy]
      · have he : y.1 = z.1 := ltK_tri hyz hzy
        have e2 : loB z.1 y = false := decide_eq_false hyz
        rw [if_pos he]
        unfold layM layV
        simp [hA, List.filter_append, e1, e2, hn, hzy]

theorem layV_length (z : RB) (l : List RB) : (layV z l).length ≤ l.length + 1 := by
  have h : ∀ l : List RB, (l.filter (loB z.1)).length + (l.filter (hiB z.1)).length ≤ l.length := by
    intro l
    induction l with
    | nil => simp
    | cons y l ih =>
      simp only [List.filter_cons]
      by_cases h1 : ltK y.1 z.1
      · have h2 : ¬ ltK z.1 y.1 := fun h => ltK_irrefl _ (ltK_trans h h1)
        simp [loB, hiB, h1, h2] at ih ⊢; omega
      · by_cases h2 : ltK z.1 y.1
        · simp [loB, hiB, h1, h2] at ih ⊢; omega
        · simp [loB, hiB, h1, h2] at ih ⊢; omega
  have := h l
  unfold layV
  split
  · simp; omega
  · omega
theorem layM_length (z : RB) (l : List RB) (y : RB) : (layM z l y).length ≤ l.length + 2 := by
  have := layV_length z l
  unfold layM
  split
  · simp; omega
  · omega

def laid (z : RB) (l : List RB) : List RB := l.filter (loB z.1) ++ z :: l.filter (hiB z.1)
theorem mem_laid {z : RB} {l : List RB} {y : RB} : y ∈ laid z l ↔ y = z ∨ (y ∈ l ∧ y.1 ≠ z.1) := by
  unfold laid
  simp only [List.mem_append, List.mem_cons, List.mem_filter]
  constructor
  · rintro (⟨h1, h2⟩ | rfl | ⟨h1, h2⟩)
    · exact .inr ⟨h1, ltK_ne (of_decide_eq_true h2)⟩
    · exact .inl rfl
    · exact .inr ⟨h1, (ltK_ne (of_decide_eq_true h2)).symm⟩
  · rintro (rfl | ⟨h1, h2⟩)
    · exact .inr (.inl rfl)
    · by_cases hl : ltK y.1 z.1
      · exact .inl ⟨h1, decide_eq_true hl⟩
      · by_cases hh : ltK z.1 y.1
        · exact .inr (.inr ⟨h1, decide_eq_true hh⟩)
        · exact absurd (ltK_tri hl hh) h2
theorem sorted_laid {z : RB} {l : List RB} (h : l.Pairwise fun x y => ltK x.1 y.1) : (laid z l).Pairwise fun x y => ltK x.1 y.1 := by
  unfold laid
  refine List.pairwise_append.2 ⟨h.filter _, List.pairwise_cons.2 ⟨fun y hy => of_decide_eq_true (List.mem_filter.1 hy).2, h.filter _⟩, fun x hx y hy => ?_⟩
  have h1 : ltK x.1 z.1 := of_decide_eq_true (List.mem_filter.1 hx).2
  rcases List.mem_cons.1 hy with rfl | hy
  · exact h1
  · exact ltK_trans h1 (of_decide_eq_true (List.mem_filter.1 hy).2)

theorem ref_lay (h : RefL w p F D a n cap L) (hf : D.Fit) {k : ByteArray} {x : RBox} (hx : Lst cU8 5 x.F w x.a x.n x.c x.f.bytes) (hap : ∀ y ∈ L, y.1 ≠ k → ∀ b, x.F b → ¬ y.2.F b) (hin : ∀ b, x.F b → F b ∧ b ≠ p) :
    Calls Tryz.prog F_ref19_Disk_lay #[.pointer (some ⟨p, 0, none⟩), .agg #[.string k, .slice x.a x.n x.c, .int .i64 x.f.synced, .bool x.f.good]] w (Ok fun v w' => v = .tuple #[] ∧ ∃ F', RefAt w' p F' (D.setF k x.f) ∧ Evo F w F' w') := by
  have hn := h.n_eq; have hl := h.length hf; have hm := hf.many
  have hdom := h.dom
  refine L_ref19_Disk_lay (PA.mk fun w1 k1 s1 g1 => ?_)
  refine ⟨fun m oa on oc ld i w' => ∃ (j : Nat) (G : Nat → Prop), i = (j : Int) ∧ j ≤ n ∧ m = n - j ∧ ld = (L.take j).any (hiB k) ∧ Lst cBox 96 G w' oa on oc (layV (k, x) (L.take j)) ∧ Grew w1 w' ∧ ∀ b, G b → w1.heap.size ≤ b,
    ⟨_, 0, fun _ => False, rfl, Nat.zero_le _, rfl, by simp, by simpa [layV] using Lst.nil w1, Keep.refl _, fun _ h => h.elim⟩, ?_⟩
  rintro m oa on oc ld i _ w2 ⟨j, G, rfl, hj, rfl, rfl, ho, hk, hG⟩
  have h2 := (h.grew k1).grew hk
  have g2 := hk.get g1 id
  -- the end
  have fin : ∀ {w3 : World} {a' : Option Addr} {n' c' : Nat} {G' : Nat → Prop}, Lst cBox 96 G' w3 a' n' c' (laid (k, x) L) → Grew w1 w3 → (∀ b, G' b → w1.heap.size ≤ b) →
      PS w3 ⟨p, 0 + 2, none⟩ (.slice a' n' c') fun w4 => Ok (fun v w' => v = .tuple #[] ∧ ∃ F', RefAt w' p F' (D.setF k x.f) ∧ Evo F w F' w') (.returned (.tuple #[])) w4 := by
    intro w3 a' n' c' G' ho3 hk3 hG3
    have k03 : Grew w w3 := k1.grew hk3
    refine h.swap k03 (fs := aput D.files k x.f) ho3 (fun b hb => by have := hG3 b (ho3.self b hb); omega) (fun y hy => ?_) (fun y hy u hu hne b hb hbu => ?_) (fun y hy b hb => ?_) (sorted_laid h.sorted) (fun q => ?_) fun w4 hR4 k04 k34 s4 => Ok.mk ⟨rfl, _, ⟨_, _, _, _, hR4⟩, k04.mono fun b _ hb => hb ▸ h.self, fun b hb => hb.imp id (·.1)⟩
    · rcases mem_laid.1 hy with rfl | ⟨hy, hne⟩
      · exact hx.grew k03
      · exact (h.each y hy).grew k03
    · rcases mem_laid.1 hy with rfl | ⟨hy, hny⟩ <;> rcases mem_laid.1 hu with rfl | ⟨hu, hnu⟩
      · exact hne rfl
      · exact hap u hu hnu b hb hbu
      · exact hap y hy hny b hbu hb
      · exact h.apart y hy u hu hne b hb hbu
    · have hFb : F b ∧ b ≠ p := by
        rcases mem_laid.1 hy with rfl | ⟨hy, hny⟩
        · exact hin b hb
        · exact ⟨(h.inF y hy b hb).1, (h.inF y hy b hb).2.1⟩
      exact ⟨.inl hFb, fun e => by have := hG3 b (ho3.self b e); have := hdom b hFb.1; omega⟩
    · rw [mem_aput2 hf.tidy, ← h.same]
      constructor
      · intro hq
        obtain ⟨y, hy, rfl⟩ := List.mem_map.1 hq
        rcases mem_laid.1 hy with rfl | ⟨hy, hny⟩
        · exact .inl rfl
        · exact .inr ⟨List.mem_map.2 ⟨y, hy, rfl⟩, hny⟩
      · rintro (rfl | ⟨hq, hne⟩)
        · exact List.mem_map.2 ⟨(k, x), mem_laid.2 (.inl rfl), rfl⟩
        · obtain ⟨y, hy, rfl⟩ := List.mem_map.1 hq
          exact List.mem_map.2 ⟨y, mem_laid.2 (.inr ⟨hy, hne⟩), rfl⟩
  have hlv := layV_length (k, x) (L.take j)
  have hlt' : (L.take j).length ≤ 64 := by rw [List.length_take]; omega
  refine ⟨p, 0, rfl, a, n, cap, cell_at h2.head rfl, PIf.dec (fun hlt => ?_) (fun hge => ?_)⟩
  · obtain ⟨b, off, y, hab, hy, hym, -⟩ := h2.at hf (i := j) (by omega)
    have hsy : ∀ u ∈ L.take j, ltK u.1 y.1 := by
      intro u hu
      have hsp : L = L.take j ++ y :: L.drop (j + 1) := by
        have := List.take_append_drop j L
        rw [List.drop_eq_getElem_cons (by omega)] at this
        have e : L[j]'(by omega) = y := by
          have := (List.getElem?_eq_some_iff.1 hy).2
          exact this
        rw [e] at this
        exact this.symm
      have hso := h.sorted
      rw [hsp] at hso
      exact (List.pairwise_append.1 hso).2.2 u hu y (List.mem_cons_self ..)
    have hstep := layV_step (k, x) (L.take j) y hsy
    have htk : L.take (j + 1) = L.take j ++ [y] := by rw [List.take_add_one, hy]; rfl
    have hany : (L.take (j + 1)).any (hiB k) = ((L.take j).any (hiB k) || hiB k y) := by rw [htk]; simp
    have hlm := layM_length (k, x) (L.take j) y
    refine ⟨fun oa on oc ld w' => ld = (L.take (j + 1)).any (hiB k) ∧ ∃ G : Nat → Prop, Lst cBox 96 G w' oa on oc (layM (k, x) (L.take j) y) ∧ Grew w1 w' ∧ ∀ b, G b → w1.heap.size ≤ b, ?_, ?_⟩
    · refine PIf.not (PIf.mk (fun hld => fun w3 hd3 => ⟨?_, G, ?_, hk.grew hd3.keep, hG⟩) (fun hld => ?_))
      · rw [hany, hld]; rfl
      · have : layM (k, x) (L.take j) y = layV (k, x) (L.take j) := by unfold layM; rw [if_neg (by rintro ⟨e, -⟩; rw [hld] at e; cases e)]
        rw [this]; exact ho.grew hd3.keep
      · obtain ⟨b, off, y', rfl, hy', hym', c0, c1, c2, c3⟩ := h2.at hf (i := j) (by omega)
        rw [hy] at hy'; cases hy'
        refine ⟨k, cell_at g2 rfl, p, 0, rfl, _, n, cap, cell_at h2.head rfl, b, off, rfl, by omega, by omega, y.1, c0, fun w3 hd3 => PIf.ltS (fun hlt2 => ?_) (fun hge2 => ?_)⟩
        · have g3 := (hd3.keep (S := fun _ => False)).get g2 id
          refine ⟨k, x.a, x.n, x.c, _, _, cell_at g3 rfl, cell_at g3 rfl, cell_at g3 rfl, cell_at g3 rfl, papp (ho.grew hd3.keep) slFile (x := (k, x)) (D := fun _ => False) ⟨rfl, trivial⟩ (fun _ h => h.elim) (by unfold Big; omega) (by unfold maxLen; omega) fun a' c' w4 F' ho4 hk4 hF4 _ => ?_⟩
          refine ⟨_, _, _, rfl, ?_, F', ?_, (hk.grew hd3.keep).new hk4 fun b hb => .inr (hG b (ho.self b hb)), ?_⟩
          · rw [hany, hld, Bool.false_or]; exact (decide_eq_true hlt2).symm
          · have : layM (k, x) (L.take j) y = layV (k, x) (L.take j) ++ [(k, x)] := by unfold layM; rw [if_pos ⟨hld, hlt2⟩]
            rw [this]; exact ho4
          · intro b hb
            rcases hF4 b hb with h | h | h
            · exact hG b h
            · exact h.elim
            · have := hk.size; have := (hd3.keep (S := fun _ => False)).size; omega
        · refine ⟨?_, G, ?_, hk.grew hd3.keep, hG⟩
          · rw [hany, hld, Bool.false_or]; exact (decide_eq_false hge2).symm
          · have : layM (k, x) (L.take j) y = layV (k, x) (L.take j) := by unfold layM; rw [if_neg (fun e => hge2 e.2)]
            rw [this]; exact ho.grew hd3.keep
    · rintro oa3 on3 oc3 ld3 B3 w3 ⟨rfl, G3, ho3, hk3, hG3⟩
      have h3 := (h.grew k1).grew hk3
      have g3 := hk3.get g1 id
      obtain ⟨b, off, y', rfl, hy', hym', c0, c1, c2, c3⟩ := h3.at hf (i := j) (by omega)
      rw [hy] at hy'; cases hy'
      refine ⟨p, 0, rfl, _, n, cap, cell_at h3.head rfl, b, off, rfl, by omega, by omega, y.1, c0, k, cell_at g3 rfl, fun w4 hd4 => PIf.neS (fun hne => ?_) (fun he => ?_)⟩
      · have hd4' : Grew w3 w4 := hd4.keep
        have h4 := h3.grew hd4'
        obtain ⟨b4, off4, y4, hb4, hy4, hym4, d0, d1, d2, d3⟩ := h4.at hf (i := j) (by omega)
        rw [hy] at hy4; cases hy4
        cases hb4
        refine ⟨p, 0, rfl, _, n, cap, cell_at h4.head rfl, b, off, rfl, by omega, by omega, y.1, _, _, _, _, _, d0, d1, d2, d3, papp (ho3.grew hd4') slFile (x := y) (D := fun _ => False) ⟨rfl, trivial⟩ (fun _ h => h.elim) (by unfold Big; omega) (by unfold maxLen; omega) fun a' c' w5 F' ho5 hk5 hF5 _ => ?_⟩
        refine ⟨_, _, _, rfl, n - (j + 1), by omega, j + 1, F', wrap_succ (by omega), by omega, rfl, rfl, ?_, (hk3.grew hd4').new hk5 fun b hb => .inr (hG3 b (ho3.self b hb)), ?_⟩
        · rw [htk, hstep, if_neg hne]; exact ho5
        · intro b hb
          rcases hF5 b hb with h | h | h
          · exact hG3 b h
          · exact h.elim
          · have := hk3.size; have := hd4'.size; omega
      · refine ⟨n - (j + 1), by omega, j + 1, G3, wrap_succ (by omega), by omega, rfl, rfl, ?_, hk3.grew hd4.keep, hG3⟩
        rw [htk, hstep, if_pos he]; exact ho3.grew hd4.keep
  · obtain rfl : j = n := by omega
    have htk : L.take j = L := List.take_of_length_le (by omega)
    rw [htk] at ho hlv hlt'
    rw [htk]
    refine PIf.not (PIf.mk (fun hld => ⟨p, 0, rfl, fin (G' := G) ?_ hk hG⟩) (fun hld => ?_))
    · have : laid (k, x) L = layV (k, x) L := by unfold laid layV; rw [if_pos hld]
      rw [this]; exact ho
    · refine ⟨k, x.a, x.n, x.c, _, _, cell_at g2 rfl, cell_at g2 rfl, cell_at g2 rfl, cell_at g2 rfl, papp ho slFile (x := (k, x)) (D := fun _ => False) ⟨rfl, trivial⟩ (fun _ h => h.elim) (by unfold Big; omega) (by unfold maxLen; omega) fun a' c' w4 F' ho4 hk4 hF4 _ => ?_⟩
      refine ⟨_, _, _, rfl, p, 0, rfl, fin (G' := F') ?_ (hk.new hk4 fun b hb => .inr (hG b (ho.self b hb))) ?_⟩
      · have : laid (k, x) L = layV (k, x) L ++ [(k, x)] := by
          unfold laid layV
          rw [if_neg (by rw [hld]; simp)]
          have := filter_hi_nil hld
          show _ ++ (k, x) :: L.filter (hiB k) = _
          rw [this]
        rw [this]; exact ho4
      · intro b hb
        rcases hF4 b hb with h | h | h
        · exact hG b h
        · exact h.elim
        · have := hk.size; omega
end
end Go.Proofs.YtpmakiecgphijaaGreatDoor

/- quaysideref19: the other calls -/
namespace Go.Proofs.YtpmakiecgphijaaGreatDoor
open Go.Lift
set_option linter.unusedVariables false
set_option maxRecDepth 20000

section
variable {w w' : World} {p : Nat} {F S : Nat → Prop} {D : DiskV} {a : Option Addr} {n cap : Nat} {L : List RB}

/-- a variable for a file -/
theorem file_var {s : ByteArray} {fa : Option Addr} {fn fc : Nat} {i : Int} {g : Bool} {κ : World → Prop} (hκ : ∀ w1, Grew w w1 → w1.heap.size = w.heap.size + 1 → w1.heap[w.heap.size]? = some (.cells #[.string s, .slice fa fn fc, .int .i64 i, .bool g] 96 (0, 0)) → κ w1) :
    PA w (.cells #[.string (⟨#[]⟩ : ByteArray), .slice none 0 0, .int .i64 0, .bool false] 96) fun w2 => PS w2 ⟨w.heap.size, 0, none⟩ (.string s) fun w3 => PS w3 ⟨w.heap.size, 0 + 1, none⟩ (.slice fa fn fc) fun w4 => PS w4 ⟨w.heap.size, 0 + 2, none⟩ (.int .i64 i) fun w5 => PS w5 ⟨w.heap.size, 0 + 3, none⟩ (.bool g) κ := by
  refine PA.mk fun w2 k2 s2 g2 => PS.mk g2 (by simp) fun w3 k3 s3 g3 => ?_
  have g3' : w3.heap[w.heap.size]? = some (.cells #[.string s, .slice none 0 0, .int .i64 0, .bool false] 96 (0, 0)) := by rw [g3]; rfl
  refine PS.mk g3' (by simp) fun w4 k4 s4 g4 => ?_
  have g4' : w4.heap[w.heap.size]? = some (.cells #[.string s, .slice fa fn fc, .int .i64 0, .bool false] 96 (0, 0)) := by rw [g4]; rfl
  refine PS.mk g4' (by simp) fun w5 k5 s5 g5 => ?_
  have g5' : w5.heap[w.heap.size]? = some (.cells #[.string s, .slice fa fn fc, .int .i64 i, .bool false] 96 (0, 0)) := by rw [g5]; rfl
  refine PS.mk g5' (by simp) fun w6 k6 s6 g6 => ?_
  have g6' : w6.heap[w.heap.size]? = some (.cells #[.string s, .slice fa fn fc, .int .i64 i, .bool g] 96 (0, 0)) := by rw [g6]; rfl
  have hk26 : Keep (· = w.heap.size) w2 w6 := ((k3.then k4).then k5).then k6
  exact hκ w6 (k2.new hk26 fun b hb => .inr (by omega)) (by omega) g6'

theorem ref_New {m : Int} : Calls Tryz.prog F_ref19_New #[.int .i64 m] w (Ok fun v w' =>
    if m < 64 ∨ m > 262144 then v = .tuple #[.pointer none, .int .i64 1] ∧ w' = w
    else ∃ p F, v = .tuple #[.pointer (some ⟨p, 0, none⟩), .int .i64 0] ∧ RefAt w' p F ⟨m.toNat, [], false, 0, false⟩ ∧ Grew w w' ∧ ∀ b, F b → w.heap.size ≤ b) := by
  refine L_ref19_New (PIf.dec (fun h => ?_) (fun h => PIf.dec (fun h2 => ?_) (fun h2 => ?_)))
  · exact Ok.mk (by rw [if_pos (.inl h)]; exact ⟨rfl, rfl⟩)
  · exact Ok.mk (by rw [if_pos (.inr h2)]; exact ⟨rfl, rfl⟩)
  · refine PA.mk fun w1 k1 s1 g1 => Ok.mk ?_
    rw [if_neg (by omega)]
    refine ⟨w.heap.size, (· = w.heap.size), rfl, ⟨none, 0, 0, [], ?_, (Lst.nil w1).mono (fun _ h => h.elim) (fun b hb => (by cases hb)), by simp, by simp, by simp, fun b hb => (by cases hb), by simp, by simp, rfl, fun b hb => by omega⟩, k1, fun b hb => by omega⟩
    rw [g1]
    have : ((m.toNat : Nat) : Int) = m := by omega
    simp [this, rleft]

theorem ref_Delete {k : ByteArray} (h : RefAt w p F D) (hf : D.Fit) (h0 : 0 ≤ D.left) (hR : I64 D.left) : Calls Tryz.prog F_ref19_Disk_Delete #[.pointer (some ⟨p, 0, none⟩), .string k] w (Ok (RDid w p F (D.delete k))) := by
  refine L_ref19_Disk_Delete (PC.ok (ref_dies h h0 hR) ?_)
  rintro _ w1 ⟨rfl, h1, k1⟩
  refine ⟨_, rfl, PIf.mk (fun hd => Ok.mk (ref_op (g := 0) (args := #[]) (v := .bool true) hd h1 k1)) (fun hd => ?_)⟩
  rw [if_neg (by simp [hd])] at h1
  obtain ⟨a, n, cap, L, hL⟩ := h1
  have hf' := hf.armed
  refine PC.ok (ref_at hL hf') ?_
  rintro _ _ ⟨rfl, i, rfl, hi | ⟨j, x, rfl, hj, hx⟩⟩
  · refine ⟨_, rfl, PIf.tt (decide_eq_true hi.1) (Ok.mk (ref_op' hd k1 ?_))⟩
    rw [onF_none (hL.nof hi.2)]
    exact ⟨F, rfl, ⟨a, n, cap, L, hL⟩, Keep.refl _, fun _ h => .inl h⟩
  · have hget := hL.get hf' (List.mem_of_getElem? hx)
    refine ⟨_, rfl, PIf.ff (decide_eq_false (by omega)) (PC.ok (ref_drop hL hf') ?_)⟩
    rintro _ w2 ⟨rfl, a', n', cap', F', hL2, k2, hn2, -, -⟩
    refine ⟨rfl, Ok.mk (ref_op' hd k1 ?_)⟩
    rw [onF_some hget]
    exact ⟨F', rfl, ⟨_, _, _, _, hL2⟩, k2.mono fun b _ hb => hb ▸ hL.self, hn2⟩

theorem ref_Create {k : ByteArray} (hk : k.size ≤ 1000000) (h : RefAt w p F D) (hf : D.Fit) (h0 : 0 ≤ D.left) (hR : I64 D.left) : Calls Tryz.prog F_ref19_Disk_Create #[.pointer (some ⟨p, 0, none⟩), .string k] w (Ok (RDid w p F (D.create k))) := by
  refine L_ref19_Disk_Create (PC.ok (ref_dies h h0 hR) ?_)
  rintro _ w1 ⟨rfl, h1, k1⟩
  refine ⟨_, rfl, PIf.mk (fun hd => Ok.mk (ref_op (g := 0) (args := #[]) (v := .bool true) hd h1 k1)) (fun hd => ?_)⟩
  rw [if_neg (by simp [hd])] at h1
  obtain ⟨a, n, cap, L, hL⟩ := h1
  have hf' := hf.armed
  refine PC.ok (ref_isName hk) ?_
  rintro _ _ ⟨rfl, rfl⟩
  have same : ∀ e : Int, RDid w1 p F (e, D.armed) (.int .i64 e) w1 := fun e => ⟨F, rfl, ⟨a, n, cap, L, hL⟩, Keep.refl _, fun _ h => .inl h⟩
  refine ⟨_, rfl, PIf.not (PIf.mk (fun hn => PC.ok (ref_at hL hf') ?_) (fun hn => Ok.mk (ref_op' hd k1 ?_)))⟩
  · rintro _ _ ⟨rfl, i, rfl, hi | ⟨j, x, rfl, hj, hx⟩⟩
    · have hget := hL.nof hi.2
      have hnl := hL.n_eq
      have hll := hL.length hf'
      refine ⟨_, rfl, PIf.ff (decide_eq_false (by omega)) ⟨p, 0, rfl, a, n, cap, cell_at hL.head rfl, PIf.dec (fun h64 => Ok.mk (ref_op' hd k1 ?_)) (fun h64 => ?_)⟩⟩
      · rw [if_pos hn, if_neg (by rw [hget]; simp), if_pos (by omega)]
        exact same 12
      · refine PC.ok (ref_lay hL hf' (k := k) (x := ⟨none, 0, 0, fun _ => False, ⟨[], 0, false⟩⟩) (Lst.nil w1) (fun _ _ _ _ h => h.elim) (fun _ h => h.elim)) ?_
        rintro _ w2 ⟨rfl, F', hR2, hev⟩
        refine ⟨rfl, Ok.mk (ref_op' hd k1 ?_)⟩
        rw [if_pos hn, if_neg (by rw [hget]; simp), if_neg (by omega)]
        exact ⟨F', rfl, hR2, hev⟩
    · have hget := hL.get hf' (List.mem_of_getElem? hx)
      refine ⟨_, rfl, PIf.tt (decide_eq_true (by omega)) (Ok.mk (ref_op' hd k1 ?_))⟩
      rw [if_pos hn, if_pos (by rw [hget]; rfl)]
      exact same 16
  · rw [if_neg (by simp [hn])]
    exact same 1

theorem ref_Rename {k t : ByteArray} (hk : t.size ≤ 1000000) (h : RefAt w p F D) (hf : D.Fit) (h0 : 0 ≤ D.left) (hR : I64 D.left) : Calls Tryz.prog F_ref19_Disk_Rename #[.pointer (some ⟨p, 0, none⟩), .string k, .string t] w (Ok (RDid w p F (D.rename k t))) := by
  refine L_ref19_Disk_Rename (PC.ok (ref_dies h h0 hR) ?_)
  rintro _ w1 ⟨rfl, h1, k1⟩
  refine ⟨_, rfl, PIf.mk (fun hd => Ok.mk (ref_op (g := 0) (args := #[]) (v := .bool true) hd h1 k1)) (fun hd => ?_)⟩
  rw [if_neg (by simp [hd])] at h1
  obtain ⟨a, n, cap, L, hL⟩ := h1
  have hf' := hf.armed
  refine PC.ok (ref_at hL hf') ?_
  rintro _ _ ⟨rfl, i, rfl, hi | ⟨j, x, rfl, hj, hx⟩⟩
  · refine ⟨_, rfl, PIf.tt (decide_eq_true hi.1) (Ok.mk (ref_op' hd k1 ?_))⟩
    rw [onF_none (hL.nof hi.2)]
    exact ⟨F, rfl, ⟨a, n, cap, L, hL⟩, Keep.refl _, fun _ h => .inl h⟩
  · have hget := hL.get hf' (List.mem_of_getElem? hx)
    refine ⟨_, rfl, PIf.ff (decide_eq_false (by omega)) (PC.ok (ref_isName hk) ?_)⟩
    rintro _ _ ⟨rfl, rfl⟩
    refine ⟨_, rfl, PIf.not (PIf.mk (fun hn => ?_) (fun hn => Ok.mk (ref_op' hd k1 ?_)))⟩
    · obtain ⟨b, off, y, rfl, hy, hym, c0, c1, c2, c3⟩ := hL.at hf' hj
      rw [hx] at hy; cases hy
      have hin := hL.inF _ hym
      have hdom := hL.dom
      refine ⟨p, 0, rfl, _, n, cap, cell_at hL.head rfl, b, off, rfl, by omega, by omega, k, _, _, _, _, _, c0, c1, c2, c3, file_var fun w6 hk16 hs6 g6 => ?_⟩
      have hL6 := hL.grew hk16
      refine PC.ok (ref_drop hL6 hf' (k := k)) ?_
      rintro _ w7 ⟨rfl, a', n', cap', F', hL7, k7, hn7, hF7, ha7⟩
      have hne : w1.heap.size ≠ p := by have := lt_of_get hL.head; omega
      have g7 := k7.get g6 hne
      refine ⟨rfl, PS.mk g7 (by simp) fun w8 k8 s8 g8' => ?_⟩
      have g8 : w8.heap[w1.heap.size]? = some (.cells #[.string t, .slice x.a x.n x.c, .int .i64 x.f.synced, .bool x.f.good] 96 (0, 0)) := by rw [g8']; rfl
      refine PS.mk g8 (by simp) fun w9 k9 s9 g9' => ?_
      have g9 : w9.heap[w1.heap.size]? = some (.cells #[.string t, .slice x.a x.n x.c, .int .i64 x.f.synced, .bool true] 96 (0, 0)) := by rw [g9']; rfl
      refine ⟨t, x.a, x.n, x.c, _, _, cell_at g9 rfl, cell_at g9 rfl, cell_at g9 rfl, cell_at g9 rfl, ?_⟩
      have hk79 : Keep (· = w1.heap.size) w7 w9 := k8.then k9
      have hg7 : ¬ F' w1.heap.size := fun hb => by
        rcases hn7 _ hb with h | h
        · have := hdom _ h; omega
        · omega
      have hL9 := hL7.keep hk79 fun b hb e => hg7 (e ▸ hb)
      have hbx9 : Lst cU8 5 x.F w9 x.a x.n x.c x.f.bytes := (((hL.each _ hym).grew hk16).keep k7 fun b hb => (hin b hb).2.1).keep hk79 fun b hb e => by
        have := hdom b (hin b hb).1; omega
      refine PC.ok (ref_lay hL9 (hf'.del k) (k := t) (x := ⟨x.a, x.n, x.c, x.F, { x.f with good := true }⟩) hbx9 (fun y hy hny b hb hby => ?_) (fun b hb => ⟨hF7 b (hin b hb).1, (hin b hb).2.1⟩)) ?_
      · obtain ⟨hy1, hy2⟩ := List.mem_filter.1 hy
        exact hL.apart _ hym y hy1 (fun e => by have e' : k = y.1 := e; rw [← e'] at hy2; simp at hy2) b hb hby
      · rintro _ w10 ⟨rfl, F10, hR10, hev⟩
        refine ⟨rfl, Ok.mk (ref_op' hd k1 ?_)⟩
        rw [onF_some hget, if_pos hn]
        refine ⟨F10, rfl, hR10, ?_, fun b hb => ?_⟩
        · have e1 : Keep F w1 w9 := ((hk16.keep (S := F)).then (k7.mono fun b _ hb => hb ▸ hL.self)).new hk79 fun b hb => .inr (by omega)
          exact e1.new hev.keep fun b hb => by
            rcases hn7 b hb with h | h
            · exact .inl h
            · have := hk16.size; exact .inr (by omega)
        · rcases hev.new b hb with h | h
          · rcases hn7 b h with h | h
            · exact .inl h
            · have := hk16.size; exact .inr (by omega)
          · have := hk16.size; have := k7.size; have := hk79.size; exact .inr (by omega)
    · rw [onF_some hget, if_neg (by simp [hn])]
      exact ⟨F, rfl, ⟨a, n, cap, L, hL⟩, Keep.refl _, fun _ h => .inl h⟩

def cutR (keep : Int) (x : RB) : ByteArray × FileV := (x.1, cutK keep x.2.f)

theorem ref_Crash {keep : Int} (hkp : I64 keep) (h : RefAt w p F D) (hf : D.Fit) : Calls Tryz.prog F_ref19_Disk_Crash #[.pointer (some ⟨p, 0, none⟩), .int .i64 keep] w (Ok fun v w' => ∃ F', v = .tuple #[] ∧ RefAt w' p F' (D.crash keep) ∧ Evo F w F' w') := by
  obtain ⟨a, n, cap, L, h⟩ := h
  have hn := h.n_eq; have hl := h.length hf; have hm := hf.many
  have hdom := h.dom
  refine L_ref19_Disk_Crash ⟨fun m oa on oc i w' => ∃ (j : Nat) (O : List RB) (G : Nat → Prop), i = (j : Int) ∧ j ≤ n ∧ m = n - j ∧ Lst cBox 96 G w' oa on oc O ∧ O.map rF = ((L.take j).filter fun y => y.2.f.good).map (cutR keep) ∧ O.length ≤ j ∧ Grew w w' ∧ (∀ b, G b → w.heap.size ≤ b) ∧
      (∀ y ∈ O, Lst cU8 5 y.2.F w' y.2.a y.2.n y.2.c y.2.f.bytes) ∧ (∀ y ∈ O, ∀ u ∈ O, y.1 ≠ u.1 → ∀ b, y.2.F b → ¬ u.2.F b) ∧ ∀ y ∈ O, ∀ b, y.2.F b → w.heap.size ≤ b ∧ ¬ G b,
    ⟨_, 0, [], fun _ => False, rfl, Nat.zero_le _, rfl, by simpa using Lst.nil w, by simp, by simp, Keep.refl _, fun _ h => h.elim, by simp, by simp, by simp⟩, ?_⟩
  rintro m oa on oc i _ w1 ⟨j, O, G, rfl, hj, rfl, ho, hO, hOl, hk, hG, hOe, hOa, hOF⟩
  have h1 := h.grew hk
  refine ⟨p, 0, rfl, a, n, cap, cell_at h1.head rfl, PIf.dec (fun hlt => ?_) (fun hge => ?_)⟩
  · obtain ⟨b, off, x, rfl, hx, hxm, c0, c1, c2, c3⟩ := h1.at hf (i := j) (by omega)
    obtain ⟨hl1, hl2, hl3⟩ := h1.len hf hxm
    have hcapx := (h1.each _ hxm).cap_le
    have hin := h.inF _ hxm
    have hst : (L.take (j + 1)).filter (fun y => y.2.f.good) = (L.take j).filter (fun y => y.2.f.good) ++ [x].filter (fun y => y.2.f.good) := by
      rw [List.take_add_one, hx]; simp [List.filter_append]
    refine ⟨p, 0, rfl, _, n, cap, cell_at h1.head rfl, b, off, rfl, by omega, by omega, x.1, _, _, _, _, _, c0, c1, c2, c3, file_var fun w6 hk16 hs6 g6 => ?_⟩
    refine ⟨x.2.f.good, cell_at g6 rfl, PIf.mk (fun hgd => ?_) (fun hgd => ⟨_, by omega, j + 1, O, G, wrap_succ (by omega), by omega, rfl, ho.grew hk16, ?_, by omega, hk.grew hk16, hG, fun y hy => (hOe y hy).grew hk16, hOa, hOF⟩)⟩
    · have earg : (if (if (IntKind.wrap .i64 (((x.2.n : Nat) : Int) - (x.2.f.synced : Int))) < keep then (IntKind.wrap .i64 (((x.2.n : Nat) : Int) - (x.2.f.synced : Int))) else keep) > 0 then (if (IntKind.wrap .i64 (((x.2.n : Nat) : Int) - (x.2.f.synced : Int))) < keep then (IntKind.wrap .i64 (((x.2.n : Nat) : Int) - (x.2.f.synced : Int))) else keep) else 0) = max 0 (min keep ((x.2.f.bytes.length : Int) - x.2.f.synced)) := by
        rw [wrap_i64 (by unfold I64; omega), hl1]; omega
      have hkt : ((clampN (keepTo keep x.2.f) x.2.f.bytes.length : Nat) : Int) = x.2.f.synced + max 0 (min keep ((x.2.f.bytes.length : Int) - x.2.f.synced)) := by
        unfold clampN keepTo; omega
      have hcl := clampN_le (keepTo keep x.2.f) x.2.f.bytes.length
      refine ⟨_, _, _, cell_at g6 rfl, _, cell_at g6 rfl, _, _, _, cell_at g6 rfl, _, cell_at g6 rfl, ?_⟩
      rw [earg, wrap_i64 (by unfold I64 at *; omega), ← hkt, Int.toNat_natCast]
      refine ⟨by omega, by omega, PC.ok (kit_CopyBytes (((h1.bytes hf hxm).grew hk16).take (m := clampN (keepTo keep x.2.f) x.2.f.bytes.length) (by omega))) ?_⟩
      rintro _ w7 ⟨a7, n7, c7, F7, rfl, ho7, k7, hF7⟩
      have hn7 : n7 = clampN (keepTo keep x.2.f) x.2.f.bytes.length := by
        have := ho7.len (by decide)
        rw [this]; simp; omega
      refine ⟨_, _, _, rfl, PS.mk (k7.get g6 id) (by simp) fun w8 k8 s8 g8 => ⟨a7, n7, c7, cell_at g8 rfl, PS.mk g8 (by simp) fun w9 k9 s9 g9 => ⟨x.1, a7, n7, c7, _, _, cell_at g9 rfl, cell_at g9 rfl, cell_at g9 rfl, cell_at g9 rfl, ?_⟩⟩⟩
      have hk79 : Keep (· = w1.heap.size) w7 w9 := k8.then k9
      have s16 : w1.heap.size < w6.heap.size := by omega
      have hk19 : Grew w1 w9 := (hk16.grew k7).new hk79 fun b hb => .inr (by omega)
      have ho9 := ho.grew hk19
      have hx9 : Lst cU8 5 F7 w9 a7 n7 c7 (cutK keep x.2.f).bytes := ho7.keep hk79 fun b hb e => by have := hF7 b hb; omega
      have hgd' : x.2.f.good = true := hgd
      have hob := ho.dom
      refine papp ho9 slFile (x := (x.1, (⟨a7, n7, c7, F7, cutK keep x.2.f⟩ : RBox))) (D := fun _ => False) ⟨by rw [hgd']; subst hn7; rfl, trivial⟩ (fun _ h => h.elim) (by unfold Big; omega) (by unfold maxLen; omega) fun a' c' w10 F' ho10 hk10 hF10 _ => ?_
      have hk110 : Grew w w10 := (hk.grew hk19).new hk10 fun b hb => .inr (hG b (ho.self b hb))
      have hk10' : Keep (fun b => G b) w9 w10 := hk10.mono fun b _ hb => ho.self b hb
      have hws := hk.size
      refine ⟨_, _, _, rfl, n - (j + 1), by omega, j + 1, O ++ [(x.1, (⟨a7, n7, c7, F7, cutK keep x.2.f⟩ : RBox))], F', wrap_succ (by omega), by omega, rfl, ho10, ?_, by simp; omega, hk110, fun b hb => ?_, fun y hy => ?_, fun y hy u hu hne b hb hbu => ?_, fun y hy b hb => ?_⟩
      · rw [List.map_append, hO, hst, List.map_append]
        simp [hgd', rF, cutR]
      · rcases hF10 b hb with h | h | h
        · exact hG b h
        · exact h.elim
        · have := hk19.size; omega
      · rcases List.mem_append.1 hy with hy | hy
        · exact ((hOe y hy).grew hk19).keep hk10' fun b hb hg => (hOF y hy b hb).2 hg
        · simp only [List.mem_singleton] at hy; subst hy
          exact hx9.keep hk10' fun b hb hg => by have := hob b hg; have := hF7 b hb; omega
      · rcases List.mem_append.1 hy with hy | hy <;> rcases List.mem_append.1 hu with hu | hu
        · exact hOa y hy u hu hne b hb hbu
        · simp only [List.mem_singleton] at hu; subst hu
          have := (hOe y hy).dom b hb; have : w6.heap.size ≤ b := hF7 b hbu; omega
        · simp only [List.mem_singleton] at hy; subst hy
          have := (hOe u hu).dom b hbu; have : w6.heap.size ≤ b := hF7 b hb; omega
        · simp only [List.mem_singleton] at hy hu; subst hy; subst hu
          exact hne rfl
      · have hlt9 : b < w9.heap.size ∧ w.heap.size ≤ b ∧ ¬ G b := by
          rcases List.mem_append.1 hy with hy | hy
          · have := (hOe y hy).dom b hb
            have := hk19.size
            exact ⟨by omega, hOF y hy b hb⟩
          · simp only [List.mem_singleton] at hy; subst hy
            have h1 : w6.heap.size ≤ b := hF7 b hb
            exact ⟨hx9.dom b hb, by omega, fun hg => by have := hob b hg; omega⟩
        refine ⟨hlt9.2.1, fun hg => ?_⟩
        rcases hF10 b hg with h | h | h
        · exact hlt9.2.2 h
        · exact h
        · omega
    · rw [hO, hst]
      simp [hgd]
  · obtain rfl : j = n := by omega
    rw [List.take_of_length_le (by omega)] at hO
    have hkeys : O.map (·.1) = (L.filter fun y => y.2.f.good).map (·.1) := by
      have := congrArg (List.map Prod.fst) hO
      rw [List.map_map, List.map_map] at this
      exact this
    refine ⟨p, 0, rfl, h.swap hk (fs := (D.files.filter fun x => x.2.good).map (fun x => (x.1, cutK keep x.2))) ho (fun b hb => hG b (ho.self b hb)) hOe hOa (fun y hy b hb => ⟨.inr (hOF y hy b hb).1, fun e => (hOF y hy b hb).2 (ho.self b e)⟩) ?_ (fun q => ?_) fun w2 hR2 k02 k12 s2 => ?_⟩
    · have hs : ((L.filter fun y => y.2.f.good).map (·.1)).Pairwise ltK := List.pairwise_map.2 (h.sorted.filter _)
      rw [← hkeys] at hs
      exact List.pairwise_map.1 hs
    · rw [hO]
      constructor
      · intro hq
        obtain ⟨y, hy, rfl⟩ := List.mem_map.1 hq
        obtain ⟨hy1, hy2⟩ := List.mem_filter.1 hy
        exact List.mem_map.2 ⟨(y.1, y.2.f), List.mem_filter.2 ⟨h.file hy1, hy2⟩, rfl⟩
      · intro hq
        obtain ⟨d, hd, rfl⟩ := List.mem_map.1 hq
        obtain ⟨hd1, hd2⟩ := List.mem_filter.1 hd
        obtain ⟨y, hy, rfl⟩ := List.mem_map.1 ((h.same d).2 hd1)
        exact List.mem_map.2 ⟨y, List.mem_filter.2 ⟨hy, hd2⟩, rfl⟩
    · refine ⟨p, 0, rfl, PS.mk hR2.head (by simp) fun w3 k3 s3 g3 => ⟨p, 0, rfl, PS.mk g3 (by simp) fun w4 k4 s4 g4 => Ok.mk ?_⟩⟩
      have hR4 := hR2.remake (D' := D.crash keep) (k3.then k4) (by rw [g4]; rfl) rfl
      exact ⟨_, rfl, ⟨_, _, _, _, hR4⟩, ((k02.then k3).then k4).mono fun b _ hb => hb ▸ h.self, fun b hb => hb.imp id (·.1)⟩
end
end Go.Proofs.YtpmakiecgphijaaGreatDoor

/- the document's segments: an event's frame, loading -/
namespace Go.Proofs.YtpmakiecgphijaaGreatDoor
open Go.Lift
set_option linter.unusedVariables false
set_option maxRecDepth 20000

theorem ref20_Frame {w : World} {D : Nat → Prop} {e : EventV} {a : Option Addr} {n c : Nat} (hd : Row cI64 8 w D a n e.deps) (he : e.Ok) (hD : ∀ b, D b → b < w.heap.size) :
    Calls Tryz.prog F_ref20_Frame #[.agg (evCells e a n c).toArray] w (Ok fun v w' => ∃ a' n' c' F, v = .tuple #[.slice a' n' c', .int .i64 (segFrame e).2] ∧ Lst cU8 5 F w' a' n' c' (segFrame e).1 ∧ Grew w w' ∧ ∀ b, F b → w.heap.size ≤ b) := by
  refine L_ref20_Frame (PA.mk fun w1 k1 s1 g1 => ?_)
  refine ⟨_, _, _, _, _, _, _, _, _, _, _, _, cell_at g1 rfl, cell_at g1 rfl, cell_at g1 rfl, cell_at g1 rfl, cell_at g1 rfl, cell_at g1 rfl, cell_at g1 rfl, cell_at g1 rfl, cell_at g1 rfl, cell_at g1 rfl,
    PC.ok (ref05_Put (hd.grew k1) he fun b hb => Nat.lt_of_lt_of_le (hD b hb) k1.size) ?_⟩
  rintro _ w2 ⟨_, rfl, a2, n2, c2, F2, rfl, ho2, k2, hF2⟩
  refine ⟨_, _, _, _, rfl, PIf.neI (fun hne => ?_) (fun he0 => ?_)⟩
  · rw [show segFrame e = ([], (evPut e).2) by unfold segFrame; rw [if_pos hne]]
    exact Ok.mk ⟨none, 0, 0, fun _ => False, rfl, Lst.nil w2, k1.then k2, fun _ h => h.elim⟩
  rw [show segFrame e = frPut 1 (evPut e).1 by unfold segFrame; rw [if_neg (by simpa using he0)]]
  have hle : (evPut e).1.length ≤ 666 := by
    by_cases h : 64 < e.deps.length
    · simp [evPut, h]
    · have := ev_le he (by omega)
      simpa [evPut, h] using this
  refine PC.ok (ref03_Put (ho2.row (bytes := 1) (by decide) (by unfold Big; omega))) ?_
  rintro _ w3 ⟨_, rfl, a3, n3, c3, F3, rfl, ho3, k3, hF3⟩
  refine ⟨_, _, _, _, rfl, Ok.mk ⟨_, _, _, F3, rfl, ho3, (k1.then k2).then k3, fun b hb => ?_⟩⟩
  have := hF3 b hb; have := (k1.then k2).size; omega

theorem ref20_Load {w : World} {p : Nat} {F : Nat → Prop} {D : DiskV} {no : Int} (hD : RefAt w p F D) (hok : D.Ok) (hn : I64 no) :
    Calls Tryz.prog F_ref20_Load #[.pointer (some ⟨p, 0, none⟩), .int .i64 no] w (Ok fun v w' => ∃ a n c G, v = .tuple #[.slice a n c, .int .i64 ((segLoad (D.read (txt (segName no))).1).2 : Int)] ∧
      Lst cEvO 47 G w' a n c (segLoad (D.read (txt (segName no))).1).1 ∧ Grew w w' ∧ (∀ b, G b → w.heap.size ≤ b) ∧ (segLoad (D.read (txt (segName no))).1).1.length ≤ 262144) := by
  refine L_ref20_Load (PC.ok (ref20_Name hn) ?_)
  rintro _ w1 ⟨rfl, k1⟩
  refine ⟨_, rfl, PC.ok (ref_Read (hD.grew k1) hok.fit) ?_⟩
  rintro _ w2 ⟨_, rfl, a2, n2, c2, F2, rfl, ho2, k2, hF2⟩
  have hlen := read_len hok (txt (segName no))
  have hnil : (D.read (txt (segName no))).2 ≠ 0 → (D.read (txt (segName no))).1 = [] := by
    unfold DiskV.read
    split
    · intro _; rfl
    · split
      · intro _; rfl
      · intro h; exact absurd rfl h
  generalize D.read (txt (segName no)) = rd at ho2 hlen hnil
  obtain ⟨bs, er⟩ := rd
  simp only at ho2 hlen hnil ⊢
  refine ⟨_, _, _, _, rfl, PIf.neI (fun hne => ?_) (fun he => ?_)⟩
  · rw [hnil hne, segLoad_nil]
    exact Ok.mk ⟨none, 0, 0, fun _ => False, rfl, Lst.nil w2, k1.then k2, fun _ h => h.elim, by simp⟩
  have hn2 := ho2.len (by decide)
  have hc2 := ho2.cap_le
  have hrow2 : Row cU8 1 w2 F2 a2 n2 bs := ho2.row (by decide) (by unfold Big; omega)
  refine ⟨fun m oa on oc at' w' => ∃ (pos : Nat) (out : List EventV) (G : Nat → Prop), at' = pos ∧ pos ≤ bs.length ∧ m = bs.length - pos ∧ segLoad bs = (out ++ (segLoad (bs.drop pos)).1, pos + (segLoad (bs.drop pos)).2) ∧ out.length ≤ pos ∧
    Lst cEvO 47 G w' oa on oc out ∧ Grew w2 w' ∧ ∀ b, G b → w2.heap.size ≤ b, ⟨_, 0, [], fun _ => False, rfl, Nat.zero_le _, rfl, by simp, by simp, Lst.nil w2, Keep.refl _, fun _ h => h.elim⟩, ?_⟩
  rintro m oa on oc _ _ w3 ⟨pos, out, G, rfl, hpos, rfl, hseg, hout, ho3, k3, hG⟩
  have kk : Grew w w3 := (k1.then k2).then k3
  have stop : ¬ ((frGet (bs.drop pos)).no = 0 ∧ (frGet (bs.drop pos)).kind = 1 ∧ (evGet (frGet (bs.drop pos)).body).2 = 0) → ∀ w', Grew w3 w' →
      Ok (fun v w' => ∃ a n c G, v = .tuple #[.slice a n c, .int .i64 ((segLoad bs).2 : Int)] ∧ Lst cEvO 47 G w' a n c (segLoad bs).1 ∧ Grew w w' ∧ (∀ b, G b → w.heap.size ≤ b) ∧ (segLoad bs).1.length ≤ 262144) (.returned (.tuple #[.slice oa on oc, .int .i64 (pos : Int)])) w' := by
    intro h w' hk
    rw [hseg, segLoad_no h]
    refine Ok.mk ⟨oa, on, oc, G, by simp, by simpa using ho3.grew hk, kk.then hk, fun b hb => ?_, by simp; omega⟩
    have := hG b hb; have := (k1.then k2).size; omega
  refine PIf.dec (fun hlt => ?_) (fun hge => ?_)
  rotate_left
  · have h0 : bs.drop pos = [] := List.drop_of_length_le (by omega)
    exact stop (by rw [h0]; exact fun h => frGet_short (b := []) (by simp) h.1) w3 (Keep.refl _)
  refine ⟨by omega, by omega, ?_⟩
  have hpart := (hrow2.grew k3).part (lo := pos) (hi := n2) (cap := c2) (by omega) (Nat.le_refl _) hc2
  rw [drop_sub hn2.symm] at hpart
  rw [Int.toNat_natCast]
  refine PC.ok (ref03_Get hpart (by omega) fun b hb => by have := ho2.dom b hb; have := k3.size; omega) ?_
  rintro _ w4 ⟨a4, n4, c4, F4, rfl, ho4, k4, hF4⟩
  refine ⟨_, _, _, _, _, _, rfl, PA.mk fun w5 k5 s5 g5 => ?_⟩
  refine storeAll [.int .i64 (frGet (bs.drop pos)).kind, .slice a4 n4 c4] g5 rfl fun w6 k6 s6 g6 => ?_
  have k46 : Grew w4 w6 := k5.new k6 fun b hb => .inr (by omega)
  refine PIf.neI (fun hne => stop (fun h => hne h.1) w6 (k4.then k46)) (fun hno => ?_)
  refine ⟨_, cell_at g6 rfl, PIf.neI (fun hne => stop (fun h => hne h.2.1) w6 (k4.then k46)) (fun hkind => ?_)⟩
  obtain ⟨hle, h9, hbl⟩ := frGet_no hno
  rw [List.length_drop] at hle
  have ho6 := ho4.grew k46
  refine ⟨_, _, _, cell_at g6 rfl, PC.ok (ref05_Get (ho6.row (bytes := 1) (by decide) (by unfold Big; omega)) ho6.dom) ?_⟩
  rintro _ w7 ⟨a7, n7, c7, F7, rfl, ho7, k7, hF7⟩
  obtain ⟨hxok, hdl⟩ := evGet_ok (frGet (bs.drop pos)).body
  generalize hE : evGet (frGet (bs.drop pos)).body = E at ho7 hxok hdl
  obtain ⟨x, xe⟩ := E
  simp only at ho7 hxok hdl
  refine ⟨_, _, _, _, _, _, _, _, _, _, _, _, _, rfl, PA.mk fun w8 k8 s8 g8 => ?_⟩
  refine storeAll (evCells x a7 n7 c7) g8 rfl fun w9 k9 s9 g9 => ?_
  have k79 : Grew w7 w9 := k8.new k9 fun b hb => .inr (by omega)
  have k49 : Grew w4 w9 := (k46.then k7).then k79
  refine PIf.neI (fun hne => stop (fun h => hne (by have := h.2.2; rw [hE] at this; exact this)) w9 (k4.then k49)) (fun hxe => ?_)
  refine ⟨_, _, _, _, _, _, _, _, _, _, _, _, cell_at g9 rfl, cell_at g9 rfl, cell_at g9 rfl, cell_at g9 rfl, cell_at g9 rfl, cell_at g9 rfl, cell_at g9 rfl, cell_at g9 rfl, cell_at g9 rfl, cell_at g9 rfl, ?_⟩
  have k39 : Grew w3 w9 := k4.then k49
  have ho9 := ho3.grew k39
  have ho79 := ho7.grew k79
  have hs67 := (k4.then k46).size
  refine papp ho9 slEv (x := x) (D := F7) ⟨a7, n7, c7, F7, rfl, ho79, fun _ h => h, hxok, by unfold Big; omega⟩ (fun b hb => ⟨ho79.dom b hb, fun hc => ?_⟩) (by unfold Big; omega) (by unfold maxLen; omega) fun a' c' w10 F' ho10 hk10 hF10 _ => ?_
  · have h1 := ho3.dom b (ho3.self b hc)
    have h2 := hF7 b hb
    omega
  refine ⟨_, _, _, rfl, _, ?_, pos + (frGet (bs.drop pos)).n, out ++ [x], F', ?_, by omega, rfl, ?_, by simp; omega, ho10, ?_, ?_⟩
  · omega
  · rw [wrap_i64 (by unfold I64; omega)]; omega
  · rw [hseg, segLoad_yes ⟨hno, hkind, by rw [hE]; exact hxe⟩, hE, List.drop_drop]
    simp only [List.append_assoc, List.cons_append, List.nil_append, Nat.add_assoc]
  · exact (k3.then k39).new hk10 fun b hb => .inr (hG b (ho3.self b hb))
  · intro b hb
    have hz := (k3.then k39).size
    have hz3 := k3.size
    rcases hF10 b hb with h | h | h
    · exact hG b h
    · have := hF7 b h; omega
    · omega
end Go.Proofs.YtpmakiecgphijaaGreatDoor

/- what the statements share: numbers and events of our own, spoilt -/
namespace Go.Lift
open Go
set_option linter.unusedVariables false
/-- another slice, maybe of the same block -/
theorem Own.beside {w w' : World} {e : TypeId} {k : Nat} {a a0 : Option Addr} {n c n0 c0 : Nat} {cs cs0 cs0' : List Value} (h : Own w e k a n c cs) (h0 : Own w e k a0 n0 c0 cs0) (h0' : Own w' e k a0 n0 c0 cs0') (hk : Keep (fun b => blk a0 = some b) w w') : ∃ cs', Own w' e k a n c cs' := by
  by_cases hb : blk a = blk a0
  · rcases h.row.2 with ⟨he, hn⟩ | ⟨g, cp, cur, he, hz, hg, hnc, hm, hs, ht⟩
    · simp only [Value.slice.injEq] at he
      obtain ⟨rfl, rfl, rfl⟩ := he
      exact ⟨[], Own.nil _ _ _⟩
    · simp only [Value.slice.injEq] at he
      obtain ⟨rfl, -, rfl⟩ := he
      rcases h0.cases with ⟨rfl, _⟩ | ⟨g0, cur0, rfl, hg0, _, hs0, _⟩
      · cases hb
      rcases h0'.cases with ⟨ha, _⟩ | ⟨g1, cur1, ha, hg1, _, hs1, _⟩
      · cases ha
      cases ha
      simp only [blk, Option.some.injEq] at hb
      subst hb
      rw [hg] at hg0
      cases hg0
      have hs2 : cur1.size = c * k := by rw [hs1, ← hs0, hs]
      refine ⟨cur1.toList.take (n * k), ⟨⟨?_, .inr ⟨g, c, cur1, rfl, hz, hg1, hnc, hm, hs2, rfl⟩⟩⟩⟩
      have : n * k ≤ c * k := Nat.mul_le_mul_right _ hnc
      simp; omega
  · exact ⟨cs, h.keep hk (notIn_blk.2 fun b h1 h2 => hb (h1.trans h2.symm))⟩
end Go.Lift
namespace Go.Proofs.YtpmakiecgphijaaGreatDoor
open Go.Lift
set_option linter.unusedVariables false
set_option maxRecDepth 20000

theorem kit_SpoilIntsO {w : World} {a : Option Addr} {n c : Nat} {cs : List Value} (h : Own w 3 1 a n c cs) (hb : n * 8 ≤ Big) :
    Calls Tryz.prog F_kit_SpoilInts #[.slice a n c] w (Ok fun v w' => v = .tuple #[] ∧ Keep (fun b => blk a = some b) w w' ∧ w'.heap.size = w.heap.size ∧ ∃ cs', Own w' 3 1 a n c cs') := by
  unfold Big at hb
  refine L_kit_SpoilInts ⟨fun k i w' => ∃ (j : Nat) (cs : List Value), i = (j : Int) ∧ j ≤ n ∧ k = n - j ∧ Own w' 3 1 a n c cs ∧ Keep (fun b => blk a = some b) w w' ∧ w'.heap.size = w.heap.size, ⟨_, 0, _, rfl, by omega, rfl, h, Keep.refl _, rfl⟩, ?_⟩
  rintro k i _ w1 ⟨j, cs, rfl, hj, rfl, ho, k1, s1⟩
  refine PIf.dec (fun h1 => ?_) (fun h1 => Ok.mk ⟨rfl, k1, s1, _, ho⟩)
  have hl := ho.length
  rcases ho.cases with ⟨_, rfl, _⟩ | ⟨g, cur, rfl, _⟩
  · omega
  refine PC.ok (φ := fun v w' => v = .int .i64 (IntKind.wrap .i64 (7001 + (IntKind.wrap .i64 (13 * (IntKind.wrap .i64 ((j : Int) + 7)))))) ∧ w1 = w') (L_kit_markInts (Ok.mk ⟨rfl, rfl⟩)) ?_
  rintro _ _ ⟨rfl, rfl⟩
  refine ⟨_, rfl, g, 0, rfl, by omega, by omega, ?_⟩
  rw [Int.toNat_natCast]
  exact ho.set (m := j) (by omega) rfl fun w2 ho2 k2 s2 => ⟨_, by omega, j + 1, _, wrap_succ (by omega), by omega, rfl, ho2, k1.then k2, by omega⟩

theorem kit_SpoilEvents {w : World} {F : Nat → Prop} {a : Option Addr} {n c : Nat} {l : List EventV} (h : Lst cEvO 47 F w a n c l) (hl : l.length ≤ 1000000) :
    Calls Tryz.prog F_kit_SpoilEvents #[.slice a n c] w (Ok fun v w' => v = .tuple #[] ∧ Keep F w w' ∧ w'.heap.size = w.heap.size) := by
  have hn := h.len (by decide)
  obtain ⟨cs, D0, ho, hr, hD0⟩ := h.body
  have hself := h.self
  have start : ∀ i, i < n → ∃ x y z, cs[i * 10 + 3]? = some (.slice x y z) ∧ (∃ ds, Own w 3 1 x y z ds) ∧ (∀ b, blk x = some b → F b ∧ blk a ≠ some b) ∧ y * 8 ≤ Big := fun i hi => by
    obtain ⟨e, he⟩ : ∃ e, l[i]? = some e := ⟨l[i]'(by omega), List.getElem?_eq_getElem (by omega)⟩
    obtain ⟨es, hes, x, y, z, G, rfl, hx, hG, _, hb⟩ := hr.at he
    obtain ⟨ds, D1, hox, _, _⟩ := hx.body
    have hy := hx.len (by decide)
    exact ⟨x, y, z, hes 3 (by decide), ⟨ds, hox⟩, fun b hb => hD0 b (hG b (hx.self b hb)), by rw [hy]; exact hb⟩
  refine L_kit_SpoilEvents ⟨fun k i w' => ∃ (j : Nat) (cs : List Value), i = (j : Int) ∧ j ≤ n ∧ k = n - j ∧ Own w' 47 10 a n c cs ∧ (∀ i, i < n → ∃ x y z, cs[i * 10 + 3]? = some (.slice x y z) ∧ (∃ ds, Own w' 3 1 x y z ds) ∧ (∀ b, blk x = some b → F b ∧ blk a ≠ some b) ∧ y * 8 ≤ Big) ∧
    Keep F w w' ∧ w'.heap.size = w.heap.size, ⟨_, 0, cs, rfl, by omega, rfl, ho, start, Keep.refl _, rfl⟩, ?_⟩
  rintro k i _ w1 ⟨j, cs1, rfl, hj, rfl, ho1, hall, k1, s1⟩
  refine PIf.dec (fun h1 => ?_) (fun h1 => Ok.mk ⟨rfl, k1, s1⟩)
  obtain ⟨x, y, z, hc, ⟨ds, hox⟩, hbx, hy⟩ := hall j (by omega)
  obtain ⟨g, rfl, _, hcell⟩ := ho1.cell hc
  have hl1 := ho1.length
  rw [Int.toNat_natCast]
  refine ⟨g, 0, rfl, by omega, by omega, x, y, z, by rw [Nat.zero_add]; exact hcell, PC.ok (kit_SpoilIntsO hox hy) ?_⟩
  rintro _ w2 ⟨rfl, k2, s2, cs2, hox2⟩
  have ho2 : Own w2 47 10 (some ⟨g, 0, none⟩) n c cs1 := ho1.keep k2 (notIn_blk.2 fun b h1 h2 => (hbx b h2).2 h1)
  refine ⟨rfl, g, 0, rfl, by omega, by omega, ?_⟩
  rw [Nat.add_assoc 0 (j * 10) 2]
  refine ho2.set (m := j * 10 + 2) (by omega) rfl fun w3 ho3 k3 s3 => ⟨g, 0, rfl, by omega, by omega, ?_⟩
  rw [Nat.add_assoc 0 (j * 10) 8]
  refine ho3.set (m := j * 10 + 8) (by rw [List.length_set]; omega) rfl fun w4 ho4 k4 s4 => ⟨_, by omega, j + 1, _, wrap_succ (by omega), by omega, rfl, ho4, fun i hi => ?_, ?_, by omega⟩
  · obtain ⟨x', y', z', hc', ⟨ds', hox'⟩, hbx', hy'⟩ := hall i hi
    obtain ⟨ds2, hx2⟩ := hox'.beside hox hox2 k2
    refine ⟨x', y', z', ?_, ⟨ds2, ?_⟩, hbx', hy'⟩
    · rw [List.getElem?_set_ne (by omega), List.getElem?_set_ne (by omega)]; exact hc'
    · exact (hx2.keep k3 (notIn_blk.2 fun b h1 h2 => (hbx' b h1).2 h2)).keep k4 (notIn_blk.2 fun b h1 h2 => (hbx' b h1).2 h2)
  · exact ((k1.then (k2.mono fun b _ hb => (hbx b hb).1)).then (k3.mono fun b _ hb => hself b hb)).then (k4.mono fun b _ hb => hself b hb)
end Go.Proofs.YtpmakiecgphijaaGreatDoor

/- VdiskApart: its walk, and its plain law -/
namespace Go.Proofs.YtpmakiecgphijaaGreatDoor
open Go.Lift
set_option linter.unusedVariables false
set_option maxRecDepth 20000

def tru (w0 : World) (v : Value) (w : World) : Prop := v = .bool true ∧ Grew w0 w
def zz : ByteArray := ⟨#[122, 122, 46, 111, 116, 104, 101, 114, 46, 57]⟩

/-- no fuse burns -/
structure Calm (D : DiskV) : Prop where
  dead : D.dead = false
  fused : D.fused = false
theorem Calm.op {D : DiskV} (h : Calm D) (body : DiskV → Int × DiskV) : D.op body = body D := by
  unfold DiskV.op DiskV.dies DiskV.armed
  rw [h.dead, h.fused]
  rfl
theorem Calm.dies {D : DiskV} (h : Calm D) : D.dies = false := by unfold DiskV.dies; rw [h.dead, h.fused]; rfl

structure ZInv (D : DiskV) (b : List UInt8) : Prop where
  calm : Calm D
  tidy : Tidy D.files
  file : aget D.files zz = some ⟨b, b.length, true⟩

theorem ZInv.setF {D : DiskV} {b : List UInt8} (h : ZInv D b) {k : ByteArray} (hk : k ≠ zz) (f : FileV) : ZInv (D.setF k f) b :=
  ⟨⟨h.calm.dead, h.calm.fused⟩, h.tidy.aput _ _, by show aget (aput D.files k f) zz = _; rw [aget_aput, if_neg (by simpa using Ne.symm hk)]; exact h.file⟩
theorem ZInv.delF {D : DiskV} {b : List UInt8} (h : ZInv D b) {k : ByteArray} (hk : k ≠ zz) : ZInv (D.delF k) b :=
  ⟨⟨h.calm.dead, h.calm.fused⟩, h.tidy.adel _, by show aget (adel D.files k) zz = _; rw [aget_adel h.tidy, if_neg (by simpa using Ne.symm hk)]; exact h.file⟩

theorem aget_filter_map {l : List (ByteArray × FileV)} (ht : Tidy l) (q : FileV → Bool) (g : FileV → FileV) (k : ByteArray) :
    aget ((l.filter fun x => q x.2).map fun x => (x.1, g x.2)) k = (aget l k).bind fun f => if q f then some (g f) else none := by
  induction l with
  | nil => rfl
  | cons p l ih =>
    obtain ⟨x, u⟩ := p
    unfold Tidy at ht ih
    simp only [List.map_cons, List.nodup_cons] at ht
    rw [List.filter_cons]
    by_cases hx : (k == x) = true
    · have hkx : k = x := eq_of_beq hx
      subst hkx
      have hn : aget ((l.filter fun x => q x.2).map fun x => (x.1, g x.2)) k = none := by
        rw [aget_none]
        intro hm
        apply ht.1
        simp only [List.map_map, List.mem_map, List.mem_filter] at hm ⊢
        obtain ⟨y, ⟨hy, _⟩, he⟩ := hm
        exact ⟨y, hy, he⟩
      by_cases hq : q u = true
      · simp [hq, aget]
      · rw [if_neg (by simpa using hq), hn]; simp [hq, aget]
    · have hx' : (k == x) = false := by simpa using hx
      by_cases hq : q u = true
      · simp only [hq, if_true, List.map_cons, aget, hx', Bool.false_eq_true, if_false]
        exact ih ht.2
      · rw [if_neg (by simpa using hq)]
        simp only [aget, hx', Bool.false_eq_true, if_false]
        exact ih ht.2

theorem cutK_full (keep : Int) (b : List UInt8) : cutK keep ⟨b, b.length, true⟩ = ⟨b, b.length, true⟩ := by
  have e : clampN (keepTo keep ⟨b, b.length, true⟩) b.length = b.length := by
    unfold clampN keepTo; simp only; omega
  unfold cutK FileV.cut
  simp only [e, List.take_length]

theorem tidy_crash {D : DiskV} (h : Tidy D.files) (n : Int) : Tidy (D.crash n).files := by
  show (((D.files.filter fun x => x.2.good).map fun x => (x.1, cutK n x.2)).map (·.1)).Nodup
  rw [List.map_map]
  exact (tidy_filter h fun x => x.2.good)

theorem ZInv.crash {D : DiskV} {b : List UInt8} (h : ZInv D b) (n : Int) : ZInv (D.crash n) b :=
  ⟨⟨rfl, rfl⟩, tidy_crash h.tidy n, by
    show aget ((D.files.filter fun x => x.2.good).map fun x => (x.1, cutK n x.2)) zz = _
    rw [aget_filter_map h.tidy (fun f => f.good) (cutK n), h.file]
    simp [cutK_full]⟩

theorem ZInv.onF {D : DiskV} {b : List UInt8} (h : ZInv D b) {k : ByteArray} {body : DiskV → FileV → Int × DiskV} (hb : ∀ f, ZInv (body D f).2 b) : ZInv (DiskV.onF k body D).2 b := by
  unfold DiskV.onF
  split
  · exact h
  · exact hb _

theorem ZInv.does {D : DiskV} {b : List UInt8} (h : ZInv D b) {x : ActV} (hk : pick x.kind 10 ≠ 8) (h1 : x.name ≠ zz) (h2 : x.to ≠ zz) : ZInv (D.does x).2 b := by
  unfold DiskV.does
  split
  · unfold DiskV.create
    rw [h.calm.op]
    split
    · split
      · exact h
      · split
        · exact h
        · exact h.setF h1 _
    · exact h
  · split
    · unfold DiskV.append
      rw [h.calm.op]
      refine h.onF fun f => ?_
      split
      · exact h
      · exact h.setF h1 _
    · split
      · unfold DiskV.sync; rw [h.calm.op]; exact h.onF fun f => h.setF h1 _
      · split
        · unfold DiskV.rename
          rw [h.calm.op]
          refine h.onF fun f => ?_
          split
          · exact (h.delF h1).setF h2 _
          · exact h
        · split
          · unfold DiskV.delete; rw [h.calm.op]; exact h.onF fun f => h.delF h1
          · split
            · unfold DiskV.cutF; rw [h.calm.op]; exact h.onF fun f => h.setF h1 _
            · split
              · exact h.crash _
              · exact h

theorem ZInv.read {D : DiskV} {b : List UInt8} (h : ZInv D b) : D.read zz = (b, 0) := by
  unfold DiskV.read
  rw [h.calm.dead, h.file]
  rfl

theorem keys_aput {β : Type} {l : List (ByteArray × β)} {k : ByteArray} {v : β} (h : (aget l k).isSome = true) : (aput l k v).map (·.1) = l.map (·.1) := by
  induction l with
  | nil => simp [aget] at h
  | cons p l ih =>
    obtain ⟨x, u⟩ := p
    simp only [aput, aget] at h ⊢
    split
    · rename_i hk
      have : k = x := eq_of_beq hk
      simp [this]
    · rename_i hk
      rw [if_neg hk] at h
      simp [ih h]

end Go.Proofs.YtpmakiecgphijaaGreatDoor

/- disks, in plain Lean: what a list tells -/
namespace Go.Proofs.YtpmakiecgphijaaGreatDoor
open Go.Lift
set_option linter.unusedVariables false

theorem leS_total (a b : ByteArray) : leS a b || leS b a := by
  unfold leS
  rw [Bool.or_eq_true, decide_eq_true_eq, decide_eq_true_eq]
  exact List.le_total _ _
theorem leS_trans (a b c : ByteArray) (h1 : leS a b = true) (h2 : leS b c = true) : leS a c = true := by
  unfold leS at *
  rw [decide_eq_true_eq] at *
  exact List.le_trans h1 h2
theorem leS_lt {a b : ByteArray} (h : leS a b = true) (hne : a ≠ b) : Op.bytesLess a.toList b.toList = true := by
  unfold leS at h
  rw [decide_eq_true_eq] at h
  rw [bytesLess_eq, decide_eq_true_eq, ByteArray.toList_eq, ByteArray.toList_eq]
  have hne' : a.data.toList ≠ b.data.toList := fun e => hne (ByteArray.ext (Array.toList_inj.1 e))
  exact Std.lt_of_le_of_ne h hne'

theorem sortS_perm (l : List ByteArray) : (sortS l).Perm l := List.mergeSort_perm _ _
theorem mem_list {D : DiskV} {k : ByteArray} : k ∈ D.list ↔ (aget D.files k).isSome = true := by
  unfold DiskV.list
  rw [(sortS_perm _).mem_iff]
  constructor
  · intro h
    cases hk : aget D.files k with
    | none => exact absurd h (aget_none.1 hk)
    | some f => rfl
  · intro h
    obtain ⟨f, hf⟩ := Option.isSome_iff_exists.1 h
    exact List.mem_map.2 ⟨_, aget_mem hf, rfl⟩
theorem list_length (D : DiskV) : D.list.length = D.files.length := by unfold DiskV.list sortS; simp
theorem list_sorted {D : DiskV} (ht : Tidy D.files) : D.list.Pairwise (fun a b => Op.bytesLess a.toList b.toList = true) := by
  have h1 : D.list.Pairwise (fun a b => leS a b = true) := List.pairwise_mergeSort leS_trans leS_total _
  have h2 : D.list.Nodup := (sortS_perm _).nodup_iff.2 ht
  exact (h1.and h2).imp fun ⟨h1, h2⟩ => leS_lt h1 h2

def lenOf (D : DiskV) (k : ByteArray) : Nat := ((aget D.files k).map fun f => f.bytes.length).getD 0
theorem sum_keys {l : List (ByteArray × FileV)} (ht : Tidy l) : ((l.map (·.1)).map fun k => ((aget l k).map fun f => f.bytes.length).getD 0).sum = sumLen l := by
  unfold sumLen
  rw [List.map_map]
  congr 1
  refine List.map_congr_left fun x hx => ?_
  show ((aget l x.1).map fun f => f.bytes.length).getD 0 = x.2.bytes.length
  rw [mem_aget ht (k := x.1) (v := x.2) hx]; rfl
theorem sum_list {D : DiskV} (ht : Tidy D.files) : (D.list.map (lenOf D)).sum = D.used := by
  have := ((sortS_perm (D.files.map (·.1))).map (lenOf D)).sum_nat
  unfold DiskV.list
  rw [this]
  exact sum_keys ht

theorem read_alive {D : DiskV} (h : D.dead = false) (k : ByteArray) : (D.read k).1.length = lenOf D k := by
  unfold DiskV.read lenOf
  rw [h]
  cases aget D.files k <;> rfl

/-- what is refused changes no file -/
structure Refused (D : DiskV) (r : Int × DiskV) : Prop where
  files : r.1 ≠ 0 → r.2.files = D.files
  most : r.2.most = D.most

theorem Refused.op {D : DiskV} {body : DiskV → Int × DiskV} (h : ∀ E : DiskV, E.files = D.files → E.most = D.most → Refused E (body E)) : Refused D (D.op body) := by
  unfold DiskV.op
  split
  · exact ⟨fun _ => rfl, rfl⟩
  · have h1 := h D.armed (armed_files D) (armed_most D)
    exact ⟨fun hne => (h1.files hne).trans (armed_files D), h1.most.trans (armed_most D)⟩
theorem Refused.onF {D : DiskV} {k : ByteArray} {body : DiskV → FileV → Int × DiskV} (h : ∀ f, Refused D (body D f)) : Refused D (DiskV.onF k body D) := by
  unfold DiskV.onF
  split
  · exact ⟨fun _ => rfl, rfl⟩
  · exact h _
theorem Refused.same (D : DiskV) (e : Int) : Refused D (e, D) := ⟨fun _ => rfl, rfl⟩
theorem Refused.done {D E : DiskV} (h : E.most = D.most) : Refused D (0, E) := ⟨fun h => absurd rfl h, h⟩

theorem refused_does (D : DiskV) (x : ActV) : Refused D (D.does x) := by
  unfold DiskV.does
  split
  · refine Refused.op fun E _ _ => ?_
    show Refused E (if isNameV x.name then (if (aget E.files x.name).isSome then (16, E) else if 64 ≤ E.files.length then (12, E) else (0, E.setF x.name ⟨[], 0, false⟩)) else (1, E))
    split
    · split
      · exact Refused.same _ _
      · split
        · exact Refused.same _ _
        · exact Refused.done rfl
    · exact Refused.same _ _
  · split
    · refine Refused.op fun E _ _ => Refused.onF fun f => ?_
      split
      · exact Refused.same _ _
      · exact Refused.done rfl
    · split
      · exact Refused.op fun E _ _ => Refused.onF fun f => Refused.done rfl
      · split
        · refine Refused.op fun E _ _ => Refused.onF fun f => ?_
          split
          · exact Refused.done rfl
          · exact Refused.same _ _
        · split
          · exact Refused.op fun E _ _ => Refused.onF fun f => Refused.done rfl
          · split
            · exact Refused.op fun E _ _ => Refused.onF fun f => Refused.done rfl
            · split
              · exact Refused.done rfl
              · split
                · exact Refused.done rfl
                · exact Refused.same _ _
end Go.Proofs.YtpmakiecgphijaaGreatDoor

/- two things beside each other, each in its own blocks -/
namespace Go.Lift
open Go
set_option linter.unusedVariables false

structure Thing where
  at' : World → (Nat → Prop) → Prop
  keep : ∀ {S F : Nat → Prop} {w w' : World}, at' w F → Keep S w w' → (∀ b, F b → ¬ S b) → at' w' F
  dom : ∀ {F : Nat → Prop} {w : World}, at' w F → ∀ b, F b → b < w.heap.size

/-- two things that were made behind w0, apart from one another and from X -/
def Duo (w0 w : World) (A B : Thing) (X : Nat → Prop) : Prop := ∃ F G, A.at' w F ∧ B.at' w G ∧ Grew w0 w ∧ (∀ b, F b → w0.heap.size ≤ b ∧ ¬ X b ∧ ¬ G b) ∧ (∀ b, G b → w0.heap.size ≤ b ∧ ¬ X b) ∧ ∀ b, X b → b < w.heap.size

section
variable {P : Program} {w0 w w1 w' : World} {A A' B : Thing} {X Y : Nat → Prop}
theorem Duo.gr (h : Duo w0 w A B X) : Grew w0 w := by obtain ⟨F, G, h1, h2, h3, _⟩ := h; exact h3
theorem Duo.swap (h : Duo w0 w A B X) : Duo w0 w B A X := by
  obtain ⟨F, G, h1, h2, h3, h4, h5, h6⟩ := h
  exact ⟨G, F, h2, h1, h3, fun b hb => ⟨(h5 b hb).1, (h5 b hb).2, fun hf => (h4 b hf).2.2 hb⟩, fun b hb => ⟨(h4 b hb).1, (h4 b hb).2.1⟩, h6⟩
theorem Duo.grew (h : Duo w0 w A B X) (hk : Grew w w') : Duo w0 w' A B X := by
  obtain ⟨F, G, h1, h2, h3, h4, h5, h6⟩ := h
  exact ⟨F, G, A.keep h1 hk fun _ _ h => h, B.keep h2 hk fun _ _ h => h, h3.grew hk, h4, h5, fun b hb => Nat.lt_of_lt_of_le (h6 b hb) hk.size⟩
theorem Duo.mono (h : Duo w0 w A B X) (hx : ∀ b, Y b → X b) : Duo w0 w A B Y := by
  obtain ⟨F, G, h1, h2, h3, h4, h5, h6⟩ := h
  exact ⟨F, G, h1, h2, h3, fun b hb => ⟨(h4 b hb).1, fun hy => (h4 b hb).2.1 (hx b hy), (h4 b hb).2.2⟩, fun b hb => ⟨(h5 b hb).1, fun hy => (h5 b hb).2 (hx b hy)⟩, fun b hb => h6 b (hx b hb)⟩
theorem Duo.add (h : Duo w0 w A B X) (hk : Grew w w') (hY : ∀ b, Y b → w.heap.size ≤ b ∧ b < w'.heap.size) : Duo w0 w' A B (fun b => X b ∨ Y b) := by
  obtain ⟨F, G, h1, h2, h3, h4, h5, h6⟩ := h
  exact ⟨F, G, A.keep h1 hk fun _ _ h => h, B.keep h2 hk fun _ _ h => h, h3.grew hk, fun b hb => ⟨(h4 b hb).1, fun hx => hx.elim (h4 b hb).2.1 fun hy => by have := A.dom h1 b hb; have := (hY b hy).1; omega, (h4 b hb).2.2⟩,
    fun b hb => ⟨(h5 b hb).1, fun hx => hx.elim (h5 b hb).2 fun hy => by have := B.dom h2 b hb; have := (hY b hy).1; omega⟩, fun b hb => hb.elim (fun h => Nat.lt_of_lt_of_le (h6 b h) hk.size) fun h => (hY b h).2⟩
/-- what others do, in blocks of X -/
theorem Duo.other (h : Duo w0 w A B X) (hk : Keep Y w w') (hY : ∀ b, Y b → X b) (hX : ∀ b, Y b → w0.heap.size ≤ b) : Duo w0 w' A B X := by
  obtain ⟨F, G, h1, h2, h3, h4, h5, h6⟩ := h
  exact ⟨F, G, A.keep h1 hk fun b hb hy => (h4 b hb).2.1 (hY b hy), B.keep h2 hk fun b hb hy => (h5 b hb).2 (hY b hy), h3.new hk fun b hb => .inr (hX b hb), h4, h5, fun b hb => Nat.lt_of_lt_of_le (h6 b hb) hk.size⟩

/-- two made one behind the other -/
theorem Duo.of {F G : Nat → Prop} (hg : Grew w0 w) (hA : A.at' w1 F) (hF : ∀ b, F b → w.heap.size ≤ b) (hk : Grew w w1) (hB : B.at' w' G) (hG : ∀ b, G b → w1.heap.size ≤ b) (hk2 : Grew w1 w') : Duo w0 w' A B (fun b => b < w.heap.size) := by
  have s0 := hg.size; have s1 := hk.size; have s2 := hk2.size
  refine ⟨F, G, A.keep hA hk2 fun _ _ h => h, hB, (hg.grew hk).grew hk2, fun b hb => ⟨by have := hF b hb; omega, fun h => by have := hF b hb; omega, fun h => by have := A.dom hA b hb; have := hG b h; omega⟩, fun b hb => ⟨by have := hG b hb; omega, fun h => by have := hG b hb; omega⟩, fun b hb => by omega⟩

/-- a call that turns the first one -/
theorem Duo.call {g : FuncId} {args : Array Value} {Q : Value → World → Prop} (h : Duo w0 w A B X)
    (hc : ∀ F, A.at' w F → (∀ b, F b → w0.heap.size ≤ b ∧ ¬ X b) → Calls P g args w (Ok fun v w' => ∃ F', Q v w' ∧ A'.at' w' F' ∧ Evo F w F' w')) : Calls P g args w (Ok fun v w' => Q v w' ∧ Duo w0 w' A' B X ∧ Keep (fun b => ¬ X b) w w') := by
  obtain ⟨F, G, h1, h2, h3, h4, h5, h6⟩ := h
  refine Calls.ok (hc F h1 fun b hb => ⟨(h4 b hb).1, (h4 b hb).2.1⟩) ?_
  rintro v w' ⟨F', hq, hA, hev⟩
  have := h3.size; have := hev.keep.size
  exact ⟨hq, ⟨F', G, hA, B.keep h2 hev.keep fun b hb hf => (h4 b hf).2.2 hb, h3.new hev.keep fun b hb => .inr (h4 b hb).1,
    fun b hb => (hev.new b hb).elim (h4 b) fun h => ⟨by omega, fun hx => by have := h6 b hx; omega, fun hg => by have := B.dom h2 b hg; omega⟩, h5, fun b hb => by have := h6 b hb; omega⟩, hev.keep.mono fun b _ hb => (h4 b hb).2.1⟩
/-- one that reads it -/
theorem Duo.look {g : FuncId} {args : Array Value} {Q : Value → World → Prop} (h : Duo w0 w A B X) (hc : ∀ F, A.at' w F → Calls P g args w (Ok fun v w' => Q v w' ∧ Grew w w')) : Calls P g args w (Ok fun v w' => Q v w' ∧ Duo w0 w' A B X ∧ Grew w w') := by
  have h0 := h
  obtain ⟨F, G, h1, h2, h3⟩ := h
  refine Calls.ok (hc F h1) ?_
  rintro v w' ⟨hq, hk⟩
  exact ⟨hq, h0.grew hk, hk⟩
end
end Go.Lift

/- VdiskFuse: its walk, and its plain law -/
namespace Go.Proofs.YtpmakiecgphijaaGreatDoor
open Go.Lift
set_option linter.unusedVariables false
set_option maxRecDepth 20000

def diskT (p : Nat) (D : DiskV) : Thing := ⟨fun w F => DiskAt w p F D, fun h hk hd => h.keep hk hd, fun h => h.dom⟩

section
variable {w0 w w' : World} {p : Nat} {D : DiskV} {B : Thing} {X : Nat → Prop}
end
end Go.Proofs.YtpmakiecgphijaaGreatDoor
namespace Go.Lift
open Go.Proofs Go.Proofs.YtpmakiecgphijaaGreatDoor
set_option linter.unusedVariables false
set_option maxRecDepth 20000
section
variable {w0 w w' : World} {p : Nat} {D : DiskV} {B : Thing} {X : Nat → Prop}
theorem Duo.does {Db : Nat → Prop} {x : ActV} {a : Option Addr} {n c : Nat} (h : Duo w0 w (diskT p D) B X) (hn : I64 x.n) (hb : Row cU8 1 w Db a n x.b) :
    Calls Tryz.prog F_law19_Does #[.pointer (some ⟨p, 0, none⟩), .agg #[.int .i64 x.kind, .int .i64 x.n, .string x.name, .string x.to, .slice a n c]] w (Ok fun v w' => v = .int .i64 (D.does x).1 ∧ Duo w0 w' (diskT p (D.does x).2) B X ∧ Keep (fun b => ¬ X b) w w') :=
  h.call (A' := diskT p (D.does x).2) (Q := fun v _ => v = .int .i64 (D.does x).1) fun F hD _ => Calls.ok (law_Does hD hn hb) fun v w' ⟨F', h1, h2, h3⟩ => ⟨F', h1, h2, h3⟩
theorem Duo.create {k : ByteArray} (h : Duo w0 w (diskT p D) B X) : Calls Tryz.prog F_vdisk_Disk_Create #[.pointer (some ⟨p, 0, none⟩), .string k] w (Ok fun v w' => v = .int .i64 (D.create k).1 ∧ Duo w0 w' (diskT p (D.create k).2) B X ∧ Keep (fun b => ¬ X b) w w') :=
  h.call (A' := diskT p (D.create k).2) (Q := fun v _ => v = .int .i64 (D.create k).1) fun F hD _ => Calls.ok (Disk_Create hD) fun v w' ⟨F', h1, h2, h3⟩ => ⟨F', h1, h2, h3⟩
theorem Duo.crash {n : Int} (h : Duo w0 w (diskT p D) B X) (hn : I64 n) : Calls Tryz.prog F_vdisk_Disk_Crash #[.pointer (some ⟨p, 0, none⟩), .int .i64 n] w (Ok fun v w' => v = .tuple #[] ∧ Duo w0 w' (diskT p (D.crash n)) B X ∧ Keep (fun b => ¬ X b) w w') :=
  h.call (A' := diskT p (D.crash n)) (Q := fun v _ => v = .tuple #[]) fun F hD _ => Calls.ok (Disk_Crash hD hn) fun v w' ⟨F', h1, h2, h3⟩ => ⟨F', h1, h2, h3⟩
theorem Duo.fuse {n : Int} (h : Duo w0 w (diskT p D) B X) (hn : I64 n) : Calls Tryz.prog F_vdisk_Disk_Fuse #[.pointer (some ⟨p, 0, none⟩), .int .i64 n] w (Ok fun v w' => v = .tuple #[] ∧ Duo w0 w' (diskT p (D.fuse n)) B X ∧ Keep (fun b => ¬ X b) w w') :=
  h.call (A' := diskT p (D.fuse n)) (Q := fun v _ => v = .tuple #[]) fun F hD _ => Calls.ok (Disk_Fuse hn hD) fun v w' ⟨h1, h2, h3⟩ => ⟨F, h1, h2, h3⟩
theorem Duo.dead (h : Duo w0 w (diskT p D) B X) : Calls Tryz.prog F_vdisk_Disk_Dead #[.pointer (some ⟨p, 0, none⟩)] w (Ok fun v w' => v = .bool D.dead ∧ w = w') := by
  obtain ⟨F, G, h1, _⟩ := h; exact Disk_Dead h1
theorem Duo.room (h : Duo w0 w (diskT p D) B X) : Calls Tryz.prog F_vdisk_Disk_Room #[.pointer (some ⟨p, 0, none⟩)] w (Ok fun v w' => v = .int .i64 D.room ∧ Duo w0 w' (diskT p D) B X ∧ Grew w w') :=
  h.look (Q := fun v _ => v = .int .i64 D.room) fun F hD => Disk_Room hD
theorem Duo.ok (h : Duo w0 w (diskT p D) B X) : D.Ok := by obtain ⟨F, G, h1, _⟩ := h; exact DiskAt.ok h1
theorem Duo.list (h : Duo w0 w (diskT p D) B X) : Calls Tryz.prog F_vdisk_Disk_List #[.pointer (some ⟨p, 0, none⟩)] w (Ok fun v w' => ∃ a n c F, v = .slice a n c ∧ Lst cStr 9 F w' a n c D.list ∧ (∀ b, F b → w.heap.size ≤ b) ∧ Duo w0 w' (diskT p D) B (fun b => X b ∨ F b) ∧ Grew w w') := by
  have h0 := h
  obtain ⟨F, G, h1, _⟩ := h
  refine Calls.ok (Disk_List h1) ?_
  rintro v w' ⟨a, n, c, G, rfl, ho, hk, hG⟩
  exact ⟨a, n, c, G, rfl, ho, hG, h0.add hk fun b hb => ⟨hG b hb, ho.dom b hb⟩, hk⟩
theorem Duo.read {k : ByteArray} (h : Duo w0 w (diskT p D) B X) : Calls Tryz.prog F_vdisk_Disk_Read #[.pointer (some ⟨p, 0, none⟩), .string k] w (Ok fun v w' => ∃ a n c F, v = .tuple #[.slice a n c, .int .i64 (D.read k).2] ∧ Lst cU8 5 F w' a n c (D.read k).1 ∧ (∀ b, F b → w.heap.size ≤ b) ∧ Duo w0 w' (diskT p D) B (fun b => X b ∨ F b) ∧ Grew w w') := by
  have h0 := h
  obtain ⟨F, G, h1, _⟩ := h
  refine Calls.ok (Disk_Read h1) ?_
  rintro v w' ⟨u, rfl, a, n, c, G, rfl, ho, hk, hG⟩
  exact ⟨a, n, c, G, rfl, ho, hG, h0.add hk fun b hb => ⟨hG b hb, ho.dom b hb⟩, hk⟩
end
end Go.Lift
namespace Go.Proofs.YtpmakiecgphijaaGreatDoor
open Go.Lift
set_option linter.unusedVariables false
set_option maxRecDepth 20000
section
variable {w0 w w' : World} {p : Nat} {D : DiskV} {B : Thing} {X : Nat → Prop}
end

/-- what an act that writes does, where nothing dies -/
def bodyOf (x : ActV) : DiskV → Int × DiskV :=
  if pick x.kind 10 = 0 then fun D => if isNameV x.name then (if (aget D.files x.name).isSome then (16, D) else if 64 ≤ D.files.length then (12, D) else (0, D.setF x.name ⟨[], 0, false⟩)) else (1, D)
  else if pick x.kind 10 = 1 ∨ pick x.kind 10 = 2 then DiskV.onF x.name fun D f => if (x.b.length : Int) > D.room then (12, D) else (0, D.setF x.name { f with bytes := f.bytes ++ x.b })
  else if pick x.kind 10 = 3 then DiskV.onF x.name fun D f => (0, D.setF x.name (f.cut f.bytes.length))
  else if pick x.kind 10 = 4 then DiskV.onF x.name fun D f => if isNameV x.to then (0, (D.delF x.name).setF x.to { f with good := true }) else (1, D)
  else if pick x.kind 10 = 5 then DiskV.onF x.name fun D f => (0, D.delF x.name)
  else DiskV.onF x.name fun D f => (0, D.setF x.name (f.cut x.n))

theorem does_body {D : DiskV} {x : ActV} (h : ¬ pick x.kind 10 > 6) : D.does x = D.op (bodyOf x) := by
  have hr := pick_range (k := x.kind) (n := 10) (by omega)
  unfold DiskV.does bodyOf
  split
  · rfl
  · split
    · rfl
    · split
      · rfl
      · split
        · rfl
        · split
          · rfl
          · split
            · rfl
            · omega

/-- it hangs on the files, and the size, alone -/
def Uni (fs : List (ByteArray × FileV)) (ms : Nat) (body : DiskV → Int × DiskV) : Prop := ∃ c fs', ∀ D : DiskV, D.files = fs → D.most = ms → body D = (c, D.withF fs')
theorem Uni.onF {fs : List (ByteArray × FileV)} {ms : Nat} {k : ByteArray} {body : DiskV → FileV → Int × DiskV} (h : ∀ f, Uni fs ms fun D => body D f) : Uni fs ms (DiskV.onF k body) := by
  cases hk : aget fs k with
  | none => exact ⟨14, fs, fun D h1 h2 => by unfold DiskV.onF; rw [h1, hk]; unfold DiskV.withF; rw [← h1]⟩
  | some f =>
    obtain ⟨c, fs', hc⟩ := h f
    exact ⟨c, fs', fun D h1 h2 => by unfold DiskV.onF; rw [h1, hk]; exact hc D h1 h2⟩
theorem Uni.same {fs : List (ByteArray × FileV)} {ms : Nat} (e : Int) : Uni fs ms fun D => (e, D) := ⟨e, fs, fun D h1 h2 => by unfold DiskV.withF; rw [← h1]⟩
theorem Uni.set {fs : List (ByteArray × FileV)} {ms : Nat} (k : ByteArray) (f : FileV) : Uni fs ms fun D => (0, D.setF k f) := ⟨0, aput fs k f, fun D h1 h2 => by unfold DiskV.withF DiskV.setF; rw [← h1]⟩
theorem Uni.del {fs : List (ByteArray × FileV)} {ms : Nat} (k : ByteArray) : Uni fs ms fun D => (0, D.delF k) := ⟨0, adel fs k, fun D h1 h2 => by unfold DiskV.withF DiskV.delF; rw [← h1]⟩
theorem Uni.ite {fs : List (ByteArray × FileV)} {ms : Nat} {q : Prop} [Decidable q] {a b : DiskV → Int × DiskV} (ha : Uni fs ms a) (hb : Uni fs ms b) : Uni fs ms fun D => if q then a D else b D := by
  by_cases h : q
  · simp only [if_pos h]; exact ha
  · simp only [if_neg h]; exact hb

theorem uni_body (x : ActV) (fs : List (ByteArray × FileV)) (ms : Nat) : Uni fs ms (bodyOf x) := by
  unfold bodyOf
  split
  · have h : Uni fs ms fun D => if isNameV x.name then (if (aget fs x.name).isSome then (16, D) else if 64 ≤ fs.length then (12, D) else (0, D.setF x.name ⟨[], 0, false⟩)) else (1, D) :=
      Uni.ite (Uni.ite (Uni.same _) (Uni.ite (Uni.same _) (Uni.set _ _))) (Uni.same _)
    obtain ⟨c, fs', hc⟩ := h
    exact ⟨c, fs', fun D h1 h2 => by have e := hc D h1 h2; rw [← h1] at e; exact e⟩
  · split
    · refine Uni.onF fun f => ?_
      have h : Uni fs ms fun D => if (x.b.length : Int) > (ms : Int) - sumLen fs then (12, D) else (0, D.setF x.name { f with bytes := f.bytes ++ x.b }) := Uni.ite (Uni.same _) (Uni.set _ _)
      obtain ⟨c, fs', hc⟩ := h
      exact ⟨c, fs', fun D h1 h2 => by have e := hc D h1 h2; rw [← h1, ← h2] at e; exact e⟩
    · split
      · exact Uni.onF fun f => Uni.set _ _
      · split
        · refine Uni.onF fun f => Uni.ite ?_ (Uni.same _)
          exact ⟨0, aput (adel fs x.name) x.to { f with good := true }, fun D h1 h2 => by unfold DiskV.withF DiskV.setF DiskV.delF; rw [← h1]⟩
        · split
          · exact Uni.onF fun f => Uni.del _
          · exact Uni.onF fun f => Uni.set _ _

/-- a disk with a fuse, and the same without one -/
structure Burns (n : Nat) (k : Nat) (D E : DiskV) : Prop where
  files : D.files = E.files
  most : D.most = E.most
  calm : Calm E
  fused : D.fused = true
  dead : D.dead = decide (n < k)
  left : D.left = ((n - k : Nat) : Int)

theorem Burns.step {n k : Nat} {D E : DiskV} (h : Burns n k D E) {x : ActV} (hx : ¬ pick x.kind 10 > 6) :
    (k + 1 ≤ n → (D.does x).1 = (E.does x).1 ∧ Burns n (k + 1) (D.does x).2 (E.does x).2) ∧ (n < k + 1 → (D.does x).1 = 15 ∧ Burns n (k + 1) (D.does x).2 E) := by
  obtain ⟨c, fs', hu⟩ := uni_body x E.files E.most
  rw [does_body hx, does_body hx]
  have hE : E.op (bodyOf x) = (c, E.withF fs') := by rw [h.calm.op, hu E rfl rfl]
  refine ⟨fun hk => ?_, fun hk => ?_⟩
  · have hnd : D.dies = false := by
      unfold DiskV.dies
      rw [h.dead, h.fused, h.left, decide_eq_false (by omega)]
      simp; omega
    have ha : D.armed = { D with left := D.left - 1 } := by unfold DiskV.armed; rw [if_pos h.fused]
    have hD : D.op (bodyOf x) = (c, D.armed.withF fs') := by
      unfold DiskV.op
      rw [if_neg (by simp [hnd]), hu D.armed ((armed_files D).trans h.files) ((armed_most D).trans h.most)]
    rw [hD, hE]
    refine ⟨rfl, ⟨rfl, (armed_most D).trans h.most, ⟨h.calm.dead, h.calm.fused⟩, ?_, ?_, ?_⟩⟩
    · rw [ha]; exact h.fused
    · rw [ha]; show D.dead = _; rw [h.dead, decide_eq_false (by omega), decide_eq_false (by omega)]
    · rw [ha]; show D.left - 1 = _; rw [h.left]; omega
  · have hd : D.dies = true := by
      unfold DiskV.dies
      rw [h.fused, h.left]
      have : n - k = 0 := by omega
      rw [this]; simp
    have hD : D.op (bodyOf x) = (15, D.gone) := by unfold DiskV.op; rw [if_pos hd]
    rw [hD]
    refine ⟨rfl, ⟨h.files, h.most, h.calm, h.fused, ?_, ?_⟩⟩
    · show true = _; rw [decide_eq_true (by omega)]
    · show D.left = _; rw [h.left]; omega

theorem crash_files {D E : DiskV} (h : D.files = E.files) (n : Int) : (D.crash n).files = (E.crash n).files := by
  show (D.files.filter _).map _ = (E.files.filter _).map _
  rw [h]
theorem read_files {D E : DiskV} (h : D.files = E.files) (hd : D.dead = E.dead) (k : ByteArray) : D.read k = E.read k := by unfold DiskV.read; rw [h, hd]

end Go.Proofs.YtpmakiecgphijaaGreatDoor

/- VdiskPlays: the disk beside the document's: its walk -/
namespace Go.Proofs.YtpmakiecgphijaaGreatDoor
open Go.Lift
set_option linter.unusedVariables false
set_option maxRecDepth 20000

theorem uR : Tryz.prog.underlying 30 = some (.pointer 83) := by kernel_rfl

def refT (p : Nat) (D : DiskV) : Thing := ⟨fun w F => RefAt w p F D, fun h hk hd => h.keep hk hd, fun h => h.dom⟩

theorem rdid_int {w w0 : World} {p : Nat} {F : Nat → Prop} {r : Int × DiskV} (v : Value) (w' : World) (hk : Grew w0 w) (h : RDid w p F r v w') : ∃ n : Int, v = .int .i64 n ∧ Ok (RDid w0 p F r) (.returned (.int .i64 n)) w' := by
  obtain ⟨F', rfl, hD, hev⟩ := h
  exact ⟨_, rfl, Ok.mk ⟨F', rfl, hD, (Evo.mk hk.keep fun _ h => .inl h : Evo F w0 F w).trans hev⟩⟩

theorem law_Said {w : World} {p : Nat} {F Db : Nat → Prop} {D : DiskV} {x : ActV} {a : Option Addr} {n c : Nat} (h : RefAt w p F D) (hok : D.Ok) (hn : I64 x.n) (hs1 : x.name.size ≤ 100) (hs2 : x.to.size ≤ 100) (hb : Row cU8 1 w Db a n x.b) (hDb : ∀ b, Db b → b < w.heap.size ∧ ¬ F b) :
    Calls Tryz.prog F_law19_Said #[.pointer (some ⟨p, 0, none⟩), .agg #[.int .i64 x.kind, .int .i64 x.n, .string x.name, .string x.to, .slice a n c]] w (Ok (RDid w p F (D.does x))) := by
  refine L_law19_Said (PA.mk fun w1 k1 s1 g1 => ⟨_, cell_at g1 rfl, PC.ok (kit_Pick (by unfold I64; omega)) ?_⟩)
  rintro _ _ ⟨rfl, rfl⟩
  have h1 := h.grew k1
  have hf := hok.fit
  have h0 := hok.left0
  have hR := hok.leftR
  have fin : ∀ {v w'} {r : Int × DiskV}, RDid w1 p F r v w' → D.does x = r → ∃ t : Int, v = .int .i64 t ∧ Ok (RDid w p F (D.does x)) (.returned (.int .i64 t)) w' := fun hd he => by
    rw [he]; exact rdid_int _ _ k1 hd
  refine ⟨_, rfl, PIf.eqI (fun h0' => ⟨_, cell_at g1 rfl, PC.ok (ref_Create (by omega) h1 hf h0 hR) fun v w' hd => fin hd (by unfold DiskV.does; rw [if_pos h0'])⟩) (fun h0' => ?_)⟩
  refine ⟨fun b w' => b = decide (pick x.kind 10 = 1 ∨ pick x.kind 10 = 2) ∧ w' = w1, PIf.eqI (fun h1 => ⟨by simp [h1], rfl⟩) (fun h1 => ⟨by by_cases h2 : pick x.kind 10 = 2 <;> simp [h1, h2], rfl⟩), ?_⟩
  rintro _ B _ ⟨rfl, rfl⟩
  refine PIf.dec (fun h12 => ?_) (fun h12 => ?_)
  · refine ⟨_, cell_at g1 rfl, a, n, c, cell_at g1 rfl, PC.ok (ref_Append h1 hf h0 hR (hb.grew k1) fun b hb => ⟨by have := (hDb b hb).1; omega, (hDb b hb).2⟩) fun v w' hd => fin hd (by unfold DiskV.does; rw [if_neg h0', if_pos h12])⟩
  · have e12 : D.does x = (if pick x.kind 10 = 3 then D.sync x.name
      else if pick x.kind 10 = 4 then D.rename x.name x.to
      else if pick x.kind 10 = 5 then D.delete x.name
      else if pick x.kind 10 = 6 then D.cutF x.name x.n
      else if pick x.kind 10 = 7 then (0, D.crash x.n)
      else if pick x.kind 10 = 8 then (0, D.fuse x.n)
      else ((D.read x.name).2, D)) := by unfold DiskV.does; rw [if_neg h0', if_neg h12]
    refine PIf.eqI (fun h3 => ⟨_, cell_at g1 rfl, PC.ok (ref_Sync h1 hf h0 hR) fun v w' hd => fin hd (by rw [e12, if_pos h3])⟩) (fun h3 => ?_)
    refine PIf.eqI (fun h4 => ⟨_, cell_at g1 rfl, _, cell_at g1 rfl, PC.ok (ref_Rename (by omega) h1 hf h0 hR) fun v w' hd => fin hd (by rw [e12, if_neg h3, if_pos h4])⟩) (fun h4 => ?_)
    refine PIf.eqI (fun h5 => ⟨_, cell_at g1 rfl, PC.ok (ref_Delete h1 hf h0 hR) fun v w' hd => fin hd (by rw [e12, if_neg h3, if_neg h4, if_pos h5])⟩) (fun h5 => ?_)
    refine PIf.eqI (fun h6 => ⟨_, cell_at g1 rfl, _, cell_at g1 rfl, PC.ok (ref_Cut h1 hf h0 hR) fun v w' hd => fin hd (by rw [e12, if_neg h3, if_neg h4, if_neg h5, if_pos h6])⟩) (fun h6 => ?_)
    refine PIf.eqI (fun h7 => ⟨_, cell_at g1 rfl, PC.ok (ref_Crash hn h1 hf) ?_⟩) (fun h7 => ?_)
    · rintro v w' ⟨F', rfl, hD, hev⟩
      have e : D.does x = (0, D.crash x.n) := by rw [e12, if_neg h3, if_neg h4, if_neg h5, if_neg h6, if_pos h7]
      rw [e]
      exact ⟨rfl, Ok.mk ⟨F', rfl, hD, (Evo.mk k1.keep fun _ h => .inl h : Evo F w F _).trans hev⟩⟩
    refine PIf.eqI (fun h8 => ⟨_, cell_at g1 rfl, PC.ok (ref_Fuse h1) ?_⟩) (fun h8 => ?_)
    · rintro v w' ⟨rfl, hD, hk⟩
      have e : D.does x = (0, D.fuse x.n) := by rw [e12, if_neg h3, if_neg h4, if_neg h5, if_neg h6, if_neg h7, if_pos h8]
      rw [e]
      exact ⟨rfl, Ok.mk ⟨F, rfl, hD, (Grew.keep k1).then hk, fun _ h => .inl h⟩⟩
    refine PIf.eqI (fun h9 => ⟨_, cell_at g1 rfl, PC.ok (ref_Read h1 hf) ?_⟩) (fun h9 => ?_)
    · rintro v w' ⟨u, rfl, a9, n9, c9, F9, rfl, ho9, hk9, hF9⟩
      have e : D.does x = ((D.read x.name).2, D) := by rw [e12, if_neg h3, if_neg h4, if_neg h5, if_neg h6, if_neg h7, if_neg h8]
      rw [e]
      exact ⟨_, _, _, _, rfl, Ok.mk ⟨F, rfl, h1.grew hk9, Grew.keep (k1.grew hk9), fun _ h => .inl h⟩⟩
    · exfalso
      have := pick_range (k := x.kind) (n := 10) (by omega)
      omega

section
variable {w0 w w' : World} {p q : Nat} {D E : DiskV} {B : Thing} {X : Nat → Prop}
end
end Go.Proofs.YtpmakiecgphijaaGreatDoor
namespace Go.Lift
open Go.Proofs Go.Proofs.YtpmakiecgphijaaGreatDoor
set_option linter.unusedVariables false
set_option maxRecDepth 20000
section
variable {w0 w w' : World} {p q : Nat} {D E : DiskV} {B : Thing} {X : Nat → Prop}
theorem Duo.said {Db : Nat → Prop} {x : ActV} {a : Option Addr} {n c : Nat} (h : Duo w0 w (refT q D) B X) (hok : D.Ok) (hn : I64 x.n) (hs1 : x.name.size ≤ 100) (hs2 : x.to.size ≤ 100) (hb : Row cU8 1 w Db a n x.b) (hDb : ∀ b, Db b → X b) :
    Calls Tryz.prog F_law19_Said #[.pointer (some ⟨q, 0, none⟩), .agg #[.int .i64 x.kind, .int .i64 x.n, .string x.name, .string x.to, .slice a n c]] w (Ok fun v w' => v = .int .i64 (D.does x).1 ∧ Duo w0 w' (refT q (D.does x).2) B X ∧ Keep (fun b => ¬ X b) w w') := by
  have hX : ∀ b, X b → b < w.heap.size := by obtain ⟨F, G, h1, h2, h3, h4, h5, h6⟩ := h; exact h6
  exact h.call (A' := refT q (D.does x).2) (Q := fun v _ => v = .int .i64 (D.does x).1) fun F hD hF => Calls.ok (law_Said (Db := Db) hD hok hn hs1 hs2 hb fun b hb => ⟨hX b (hDb b hb), fun hf => (hF b hf).2 (hDb b hb)⟩) fun v w' ⟨F', h1, h2, h3⟩ => ⟨F', h1, h2, h3⟩
theorem Duo.rcrash {n : Int} (h : Duo w0 w (refT q D) B X) (hok : D.Ok) (hn : I64 n) : Calls Tryz.prog F_ref19_Disk_Crash #[.pointer (some ⟨q, 0, none⟩), .int .i64 n] w (Ok fun v w' => v = .tuple #[] ∧ Duo w0 w' (refT q (D.crash n)) B X ∧ Keep (fun b => ¬ X b) w w') :=
  h.call (A' := refT q (D.crash n)) (Q := fun v _ => v = .tuple #[]) fun F hD _ => Calls.ok (ref_Crash hn hD hok.fit) fun v w' ⟨F', h1, h2, h3⟩ => ⟨F', h1, h2, h3⟩
theorem Duo.rdead (h : Duo w0 w (refT q D) B X) : Calls Tryz.prog F_ref19_Disk_Dead #[.pointer (some ⟨q, 0, none⟩)] w (Ok fun v w' => v = .bool D.dead ∧ w = w') := by
  obtain ⟨F, G, h1, _⟩ := h; exact ref_Dead h1
theorem Duo.rroom (h : Duo w0 w (refT q D) B X) (hok : D.Ok) : Calls Tryz.prog F_ref19_Disk_Room #[.pointer (some ⟨q, 0, none⟩)] w (Ok fun v w' => v = .int .i64 D.room ∧ w = w') := by
  obtain ⟨F, G, h1, _⟩ := h; exact ref_Room h1 hok.fit
theorem Duo.rlist (h : Duo w0 w (refT q D) B X) (hok : D.Ok) : Calls Tryz.prog F_ref19_Disk_List #[.pointer (some ⟨q, 0, none⟩)] w (Ok fun v w' => ∃ a n c F, v = .slice a n c ∧ Lst cStr 9 F w' a n c D.list ∧ (∀ b, F b → w.heap.size ≤ b) ∧ Duo w0 w' (refT q D) B (fun b => X b ∨ F b) ∧ Grew w w') := by
  have h0 := h
  obtain ⟨F, G, h1, _⟩ := h
  refine Calls.ok (ref_List h1 hok.fit) ?_
  rintro v w' ⟨a, n, c, G, rfl, ho, hk, hG⟩
  exact ⟨a, n, c, G, rfl, ho, hG, h0.add hk fun b hb => ⟨hG b hb, ho.dom b hb⟩, hk⟩
theorem Duo.rread {k : ByteArray} (h : Duo w0 w (refT q D) B X) (hok : D.Ok) : Calls Tryz.prog F_ref19_Disk_Read #[.pointer (some ⟨q, 0, none⟩), .string k] w (Ok fun v w' => ∃ a n c F, v = .tuple #[.slice a n c, .int .i64 (D.read k).2] ∧ Lst cU8 5 F w' a n c (D.read k).1 ∧ (∀ b, F b → w.heap.size ≤ b) ∧ Duo w0 w' (refT q D) B (fun b => X b ∨ F b) ∧ Grew w w') := by
  have h0 := h
  obtain ⟨F, G, h1, _⟩ := h
  refine Calls.ok (ref_Read h1 hok.fit) ?_
  rintro v w' ⟨u, rfl, a, n, c, G, rfl, ho, hk, hG⟩
  exact ⟨a, n, c, G, rfl, ho, hG, h0.add hk fun b hb => ⟨hG b hb, ho.dom b hb⟩, hk⟩
end
end Go.Lift
namespace Go.Proofs.YtpmakiecgphijaaGreatDoor
open Go.Lift
set_option linter.unusedVariables false
set_option maxRecDepth 20000
section
variable {w0 w w' : World} {p q : Nat} {D E : DiskV} {B : Thing} {X : Nat → Prop}
theorem law_Same (h : Duo w0 w (diskT p D) (refT q D) X) : Calls Tryz.prog F_law19_Same #[.pointer (some ⟨p, 0, none⟩), .pointer (some ⟨q, 0, none⟩)] w (Ok fun v w' => v = .bool true ∧ Duo w0 w' (diskT p D) (refT q D) X ∧ Keep (fun b => ¬ b < w.heap.size) w w') := by
  have hok := h.ok
  have hX : ∀ b, X b → b < w.heap.size := by obtain ⟨F, G, h1, h2, h3, h4, h5, h6⟩ := h; exact h6
  have hDl : D.list.length ≤ 64 := by rw [list_length]; exact hok.many
  refine L_law19_Same (PC.ok h.list ?_)
  rintro _ w1 ⟨a1, n1, c1, F1, rfl, ho1, hF1, h1, k1⟩
  refine ⟨_, _, _, rfl, PC.ok (h1.swap.rlist hok) ?_⟩
  rintro _ w2 ⟨a2, n2, c2, F2, rfl, ho2, hF2, h2, k2⟩
  refine ⟨_, _, _, rfl, PC.ok (kit_SameTexts ((ho1.grew k2).row (by decide) (by unfold Big; omega)) (ho2.row (by decide) (by unfold Big; omega))) ?_⟩
  rintro _ w3 ⟨rfl, d3⟩
  have h3 := h2.swap.grew d3.keep
  refine ⟨_, rfl, PIf.not (PIf.tt (by simp) (PC.ok h3.room ?_))⟩
  rintro _ w4 ⟨rfl, h4, k4⟩
  refine ⟨_, rfl, PC.ok (h4.swap.rroom hok) ?_⟩
  rintro _ _ ⟨rfl, rfl⟩
  refine ⟨_, rfl, PIf.ff (by simp) (PC.ok h4.dead ?_)⟩
  rintro _ _ ⟨rfl, rfl⟩
  refine ⟨_, rfl, PC.ok h4.swap.rdead ?_⟩
  rintro _ _ ⟨rfl, rfl⟩
  have hn1 : n1 = D.list.length := ho1.len (by decide)
  refine ⟨_, rfl, PIf.ff (by simp) ?_⟩
  have k14 : Grew w1 w4 := (k2.grew d3.keep).grew k4
  have hrow := (ho1.row (bytes := 16) (by decide) (by unfold Big; omega)).grew k14
  have s1 := k1.size
  have kw : Grew w w4 := k1.grew k14
  refine ⟨fun m i w' => ∃ j : Nat, i = j ∧ j ≤ n1 ∧ m = n1 - j ∧ Duo w0 w' (diskT p D) (refT q D) (fun b => X b ∨ F1 b) ∧ Row cStr 16 w' F1 a1 n1 D.list ∧ Keep (fun b => ¬ b < w.heap.size) w w', ⟨_, 0, rfl, Nat.zero_le _, rfl, h4.mono fun b hb => .inl hb, hrow, kw.keep⟩, ?_⟩
  rintro m i B w5 ⟨j, rfl, hj, rfl, h5, hr5, k5⟩
  refine PIf.dec (fun hlt => ?_) (fun hge => Ok.mk ⟨rfl, h5.mono fun b hb => .inl hb, k5⟩)
  obtain ⟨b1, o1, y, rfl, hy, _, hcy⟩ := hr5.at1 (i := j) (by omega)
  have hrl := read_len hok y
  refine ⟨b1, o1, rfl, by omega, by omega, y, hcy, PC.ok h5.read ?_⟩
  rintro _ w6 ⟨a6, n6, c6, F6, rfl, ho6, hF6, h6, k6⟩
  have hr6 := hr5.grew k6
  obtain ⟨b2, o2, y', hb2, hy', _, hcy'⟩ := hr6.at1 (i := j) (by omega)
  rw [hy] at hy'; cases hy'
  refine ⟨_, _, _, _, rfl, b2, o2, hb2, by omega, by omega, y, hcy', PC.ok (h6.swap.rread hok) ?_⟩
  rintro _ w7 ⟨a7, n7, c7, F7, rfl, ho7, hF7, h7, k7⟩
  have ho67 := ho6.grew k7
  refine ⟨_, _, _, _, rfl, PIf.ff (by simp) (PC.ok (kit_SameBytes (lst_bytes ho67 (by omega)) (lst_bytes ho7 (by omega))) ?_)⟩
  rintro _ w8 ⟨rfl, d8⟩
  have hn6 : n6 = (D.read y).1.length := ho6.len (by decide)
  have hd5 : ∀ b, F1 b → b < w5.heap.size := by obtain ⟨F, G, g1, g2, g3, g4, g5, g6⟩ := h5; exact fun b hb => g6 b (.inr hb)
  have hg0 := h5.gr.size
  refine ⟨_, rfl, PIf.not (PIf.tt (by simp) (PC.ok (kit_SpoilBytes (ho67.grew d8.keep) (by unfold Big; omega)) ?_))⟩
  rintro _ w9 ⟨rfl, k9, s9⟩
  have h8 := h7.swap.grew d8.keep
  have h9 := h8.other (Y := F6) k9 (fun b hb => .inl (.inr hb)) (fun b hb => by have := hF6 b hb; omega)
  have s5 := k5.size
  refine ⟨rfl, n1 - (j + 1), by omega, j + 1, wrap_succ (by omega), by omega, rfl, h9.mono fun b hb => .inl (.inl hb), ?_, ?_⟩
  · exact ((hr6.grew k7).grew d8.keep).keep k9 fun b hb h => by have := hd5 b hb; have := hF6 b h; omega
  · exact (((k5.grew k6).grew k7).grew d8.keep).then (k9.mono fun b _ hb => by have := hF6 b hb; omega)
end

end Go.Proofs.YtpmakiecgphijaaGreatDoor

/- SegmentLoads: the walk -/
namespace Go.Proofs.YtpmakiecgphijaaGreatDoor
open Go.Lift
set_option linter.unusedVariables false
set_option maxRecDepth 20000

section
variable {w0 w w' : World} {p q : Nat} {D E : DiskV} {B : Thing} {X : Nat → Prop}
end
end Go.Proofs.YtpmakiecgphijaaGreatDoor
namespace Go.Lift
open Go.Proofs Go.Proofs.YtpmakiecgphijaaGreatDoor
set_option linter.unusedVariables false
set_option maxRecDepth 20000
section
variable {w0 w w' : World} {p q : Nat} {D E : DiskV} {B : Thing} {X : Nat → Prop}
theorem Duo.lt (h : Duo w0 w (diskT p D) B X) : ∀ b, X b → b < w.heap.size := by obtain ⟨F, G, h1, h2, h3, h4, h5, h6⟩ := h; exact h6
theorem Duo.append {k : ByteArray} {a : Option Addr} {n c : Nat} {bs : List UInt8} {Db : Nat → Prop} (h : Duo w0 w (diskT p D) B X) (hb : Row cU8 1 w Db a n bs) (hnil : a = none → n = 0 ∧ c = 0) (hDb : ∀ b, Db b → b < w0.heap.size ∨ X b) :
    Calls Tryz.prog F_vdisk_Disk_Append #[.pointer (some ⟨p, 0, none⟩), .string k, .slice a n c] w (Ok fun v w' => v = .int .i64 (D.append k bs).1 ∧ Duo w0 w' (diskT p (D.append k bs).2) B X ∧ Keep (fun b => ¬ X b) w w') := by
  have hX := h.lt
  have hg := h.gr.size
  exact h.call (A' := diskT p (D.append k bs).2) (Q := fun v _ => v = .int .i64 (D.append k bs).1) fun F hD hF => Calls.ok (Disk_Append hD hb hnil fun b hb => ⟨(hDb b hb).elim (fun h => by omega) (hX b), fun hf => (hDb b hb).elim (fun h => by have := (hF b hf).1; omega) (hF b hf).2⟩) fun v w' ⟨F', h1, h2, h3⟩ => ⟨F', h1, h2, h3⟩
theorem Duo.rltX (h : Duo w0 w (refT q D) B X) : ∀ b, X b → b < w.heap.size := by obtain ⟨F, G, h1, h2, h3, h4, h5, h6⟩ := h; exact h6
theorem Duo.rcreate {k : ByteArray} (h : Duo w0 w (refT q D) B X) (hok : D.Ok) (hk : k.size ≤ 1000000) :
    Calls Tryz.prog F_ref19_Disk_Create #[.pointer (some ⟨q, 0, none⟩), .string k] w (Ok fun v w' => v = .int .i64 (D.create k).1 ∧ Duo w0 w' (refT q (D.create k).2) B X ∧ Keep (fun b => ¬ X b) w w') :=
  h.call (A' := refT q (D.create k).2) (Q := fun v _ => v = .int .i64 (D.create k).1) fun F hD hF => Calls.ok (ref_Create hk hD hok.fit hok.left0 hok.leftR) fun v w' ⟨F', h1, h2, h3⟩ => ⟨F', h1, h2, h3⟩
theorem Duo.rappend {k : ByteArray} {a : Option Addr} {n c : Nat} {bs : List UInt8} {Db : Nat → Prop} (h : Duo w0 w (refT q D) B X) (hok : D.Ok) (hb : Row cU8 1 w Db a n bs) (hDb : ∀ b, Db b → b < w0.heap.size ∨ X b) :
    Calls Tryz.prog F_ref19_Disk_Append #[.pointer (some ⟨q, 0, none⟩), .string k, .slice a n c] w (Ok fun v w' => v = .int .i64 (D.append k bs).1 ∧ Duo w0 w' (refT q (D.append k bs).2) B X ∧ Keep (fun b => ¬ X b) w w') := by
  have hX := h.rltX
  have hg := h.gr.size
  exact h.call (A' := refT q (D.append k bs).2) (Q := fun v _ => v = .int .i64 (D.append k bs).1) fun F hD hF => Calls.ok (ref_Append hD hok.fit hok.left0 hok.leftR hb fun b hb => ⟨(hDb b hb).elim (fun h => by omega) (hX b), fun hf => (hDb b hb).elim (fun h => by have := (hF b hf).1; omega) (hF b hf).2⟩) fun v w' ⟨F', h1, h2, h3⟩ => ⟨F', h1, h2, h3⟩
theorem Duo.load {n : Int} (h : Duo w0 w (diskT p D) B X) (hw : Laid w0) (hn : I64 n) : Calls Tryz.prog F_segment_Load #[.pointer (some ⟨p, 0, none⟩), .int .i64 n] w (Ok fun v w' =>
    ∃ a m c G, v = .tuple #[.slice a m c, .int .i64 ((segLoad (D.read (txt (segName n))).1).2 : Int)] ∧ Lst cEvO 47 G w' a m c (segLoad (D.read (txt (segName n))).1).1 ∧
      (∀ b, G b → w.heap.size ≤ b) ∧ Duo w0 w' (diskT p D) B (fun b => X b ∨ G b) ∧ Grew w w' ∧ (segLoad (D.read (txt (segName n))).1).1.length ≤ 262144) := by
  have h0 := h
  have hg := h.gr
  obtain ⟨F, G, h1, _⟩ := h
  refine Calls.ok (seg_Load (hw.grew hg) h1 hn) ?_
  rintro v w' ⟨a, m, c, G, rfl, ho, hk, hG, hl⟩
  exact ⟨a, m, c, G, rfl, ho, hG, h0.add hk fun b hb => ⟨hG b hb, ho.dom b hb⟩, hk, hl⟩
theorem Duo.rload {n : Int} (h : Duo w0 w (refT q D) B X) (hok : D.Ok) (hn : I64 n) : Calls Tryz.prog F_ref20_Load #[.pointer (some ⟨q, 0, none⟩), .int .i64 n] w (Ok fun v w' =>
    ∃ a m c G, v = .tuple #[.slice a m c, .int .i64 ((segLoad (D.read (txt (segName n))).1).2 : Int)] ∧ Lst cEvO 47 G w' a m c (segLoad (D.read (txt (segName n))).1).1 ∧
      (∀ b, G b → w.heap.size ≤ b) ∧ Duo w0 w' (refT q D) B (fun b => X b ∨ G b) ∧ Grew w w' ∧ (segLoad (D.read (txt (segName n))).1).1.length ≤ 262144) := by
  have h0 := h
  obtain ⟨F, G, h1, _⟩ := h
  refine Calls.ok (ref20_Load h1 hok hn) ?_
  rintro v w' ⟨a, m, c, G, rfl, ho, hk, hG, hl⟩
  exact ⟨a, m, c, G, rfl, ho, hG, h0.add hk fun b hb => ⟨hG b hb, ho.dom b hb⟩, hk, hl⟩
end
end Go.Lift
namespace Go.Proofs.YtpmakiecgphijaaGreatDoor
open Go.Lift
set_option linter.unusedVariables false
set_option maxRecDepth 20000
section
variable {w0 w w' : World} {p q : Nat} {D E : DiskV} {B : Thing} {X : Nat → Prop}
end

theorem i64_wrap (x : Int) : I64 (IntKind.wrap .i64 x) := by
  unfold I64 IntKind.wrap
  simp [IntKind.signed, IntKind.bits]
  omega
/-- what the other name's file has -/
theorem loads_other (no : Int) (hno : I64 no) (bs : List UInt8) (hb : bs.length ≤ 4096) : (((((newD 8192).create (txt (segName no))).2.append (txt (segName no)) bs).2).read (txt (segName (IntKind.wrap .i64 (no + 1))))).1 = [] := by
  by_cases h : 0 ≤ no ∧ no < 1000000000000
  · have hcr : (newD 8192).create (txt (segName no)) = (0, oneD 8192 (txt (segName no)) []) := create_one (seg_name_ok h.1 h.2)
    rw [hcr]
    show ((((oneD 8192 _ []).append _ bs).2).read _).1 = []
    rw [append_one (by simp; omega)]
    show ((oneD 8192 _ _).read _).1 = []
    rw [read_two]
    rw [wrap_i64 (by unfold I64; omega)]
    intro e
    have := segName_inj h.1 h.2 (txt_inj e)
    omega
  · have e : segName no = [] := by unfold segName; rw [if_pos (by omega)]
    rw [e]
    have h0 : isNameV (txt []) = false := by decide +kernel
    have e1 : (newD 8192).create (txt []) = (1, newD 8192) := by simp [DiskV.create, DiskV.op, DiskV.dies, DiskV.armed, newD, h0]
    rw [e1]
    have e2 : (newD 8192).append (txt []) bs = (14, newD 8192) := by simp [DiskV.append, DiskV.op, DiskV.dies, DiskV.armed, newD, DiskV.onF, aget]
    show ((((newD 8192).append (txt []) bs).2).read _).1 = []
    rw [e2]
    simp [DiskV.read, newD, aget]

theorem SegmentLoads {ba la : Option Addr} {bn bc ln lc : Nat} {bs : List UInt8} {l : List EventV} {no : Int} {w : World} {Db Dl : Nat → Prop} (hb : Row cU8 1 w Db ba bn bs) (hnil : ba = none → bn = 0 ∧ bc = 0) (hDb : ∀ b, Db b → b < w.heap.size) (hno : I64 no) (ha : Row cEv 96 w Dl la ln l) (hDl : ∀ b, Dl b → b < w.heap.size) (hw : Laid w) :
    Calls Tryz.prog F_law20_SegmentLoads #[.slice ba bn bc, .int .i64 no, .slice la ln lc] w (Ok fun v w' => v = .bool true ∧ Grew w w') := by
  have hnb := hb.len
  have ha0 := ha.len
  refine L_law20_SegmentLoads (PIf.dec (fun _ => fin hw (Keep.refl _)) (fun h4096 => PC.ok (law10_Long ha) ?_))
  rintro _ _ ⟨rfl, rfl⟩
  refine ⟨_, rfl, PIf.dec (fun _ => fin hw (Keep.refl _)) (fun hlong => PC.ok vdisk_New ?_)⟩
  intro _ w1 hN
  rw [if_neg (by omega)] at hN
  obtain ⟨p, F1, rfl, hD1, k1, hF1⟩ := hN
  refine ⟨_, _, rfl, PC.ok ref_New ?_⟩
  intro _ w2 hN
  rw [if_neg (by omega)] at hN
  obtain ⟨q, F2, rfl, hD2, k2, hF2⟩ := hN
  have h2 : Duo w w2 (diskT p (newD 8192)) (refT q (newD 8192)) (fun b => b < w.heap.size) := Duo.of (Keep.refl w) hD1 hF1 k1 hD2 hF2 k2
  refine ⟨_, _, rfl, PIf.ff rfl (PIf.ff rfl (eq_nil_ptr uD ⟨_, rfl, PIf.ff rfl (PC.ok (seg_Name (hw.grew h2.gr) hno) ?_)⟩))⟩
  rintro _ w3 ⟨rfl, k3⟩
  refine ⟨_, rfl, PC.ok (h2.grew k3).create ?_⟩
  rintro _ w4 ⟨rfl, h4, -⟩
  refine ⟨_, rfl, PC.ok (seg_Name (hw.grew h4.gr) hno) ?_⟩
  rintro _ w5 ⟨rfl, k5⟩
  have h5 := h4.grew k5
  refine ⟨_, rfl, PC.ok (h5.append (hb.grew h5.gr) hnil fun b hb => .inl (hDb b hb)) ?_⟩
  rintro _ w6 ⟨rfl, h6, -⟩
  refine ⟨_, rfl, PC.ok (ref20_Name hno) ?_⟩
  rintro _ w7 ⟨rfl, k7⟩
  have hsz : (txt (segName no)).size ≤ 1000000 := by rw [txt_size]; have := segName_length no; omega
  have ok0 : (newD 8192).Ok := h2.ok
  refine ⟨_, rfl, PC.ok ((h6.grew k7).swap.rcreate ok0 hsz) ?_⟩
  rintro _ w8 ⟨rfl, h8, -⟩
  refine ⟨_, rfl, PC.ok (ref20_Name hno) ?_⟩
  rintro _ w9 ⟨rfl, k9⟩
  have h9 := h8.grew k9
  have ok1 : ((newD 8192).create (txt (segName no))).2.Ok := h4.ok
  refine ⟨_, rfl, PC.ok (h9.rappend ok1 (hb.grew h9.gr) fun b hb => .inl (hDb b hb)) ?_⟩
  rintro _ w10 ⟨rfl, h10, -⟩
  have hoth := loads_other no hno bs (by omega)
  generalize hDD : (((newD 8192).create (txt (segName no))).2.append (txt (segName no)) bs).2 = D at h10 hoth
  replace h10 := h10.swap
  have ok2 : D.Ok := h10.ok
  refine ⟨_, rfl, PC.ok (h10.load hw hno) ?_⟩
  rintro _ w11 ⟨a11, n11, c11, G11, rfl, ho11, hG11, h11, k11, hl11⟩
  refine ⟨_, _, _, _, rfl, PC.ok (h11.swap.rload ok2 hno) ?_⟩
  rintro _ w12 ⟨a12, n12, c12, G12, rfl, ho12, hG12, h12, k12, hl12⟩
  replace h12 := h12.swap
  refine ⟨_, _, _, _, rfl, PC.ok (h12.load hw (i64_wrap _)) ?_⟩
  rintro _ w13 ⟨a13, n13, c13, G13, rfl, ho13, hG13, h13, k13, hl13⟩
  rw [hoth, segLoad_nil] at ho13 ⊢
  have hn13 : n13 = 0 := ho13.len (by decide)
  refine ⟨_, _, _, _, rfl, PIf.ff (by simp) (PC.ok (kit_SameEvents (lst_evs (ho11.grew (k12.then k13)) (by omega)) (lst_evs (ho12.grew k13) (by omega))) ?_)⟩
  rintro _ w14 ⟨rfl, k14⟩
  refine ⟨_, rfl, PIf.ff (by simp) (PIf.ff (by rw [hn13]; rfl) (PIf.ff rfl (PC.ok (kit_SpoilEvents (((ho11.grew (k12.then k13)).grew k14)) (by omega)) ?_)))⟩
  rintro _ w15 ⟨rfl, k15, s15⟩
  have h14 := h13.grew k14
  have h10s := h10.gr.size
  have h15 := h14.other k15 (fun b hb => .inl (.inl (.inr hb))) (fun b hb => by have := hG11 b hb; omega)
  have ho12' := ((ho12.grew k13).grew k14).keep k15 fun b hb hc => by have := ho11.dom b hc; have := hG12 b hb; omega
  refine ⟨rfl, PC.ok (h15.load hw hno) ?_⟩
  rintro _ w16 ⟨a16, n16, c16, G16, rfl, ho16, hG16, h16, k16, hl16⟩
  refine ⟨_, _, _, _, rfl, PC.ok (kit_SameEvents (lst_evs ho16 (by omega)) (lst_evs (ho12'.grew k16) (by omega))) ?_⟩
  rintro _ w17 ⟨rfl, k17⟩
  have k017 : Grew w w17 := h16.gr.then k17
  refine ⟨_, rfl, PIf.ff (by simp) ⟨fun m i w' => ∃ j : Nat, i = j ∧ j ≤ ln ∧ m = ln - j ∧ Grew w w', ⟨_, 0, rfl, Nat.zero_le _, rfl, k017⟩, ?_⟩⟩
  rintro m i _ w18 ⟨j, rfl, hj, rfl, k18⟩
  refine PIf.dec (fun hlt => ?_) (fun hge => fin hw k18)
  have rd : ∀ {w' : World}, Grew w w' → ∃ b off x a n c, la = some ⟨b, off, none⟩ ∧ l[j]? = some x ∧ Row cI64 8 w' Dl a n x.deps ∧ x.Ok ∧ ∀ i, i < 10 → w'.cell? ⟨b, off + j * 10 + i, none⟩ = (evCells x a n c)[i]? := by
    intro w' hk
    obtain ⟨b, off, x, es, rfl, _, _, hx, hc, a1, n1, c1, rfl, hr, hxok⟩ := (ha.grew hk).atN (i := j) (by omega)
    exact ⟨b, off, x, a1, n1, c1, rfl, hx, hr, hxok, fun i hi => hc i hi⟩
  obtain ⟨b, off, x, a1, n1, c1, rfl, hx, hr, hxok, e1⟩ := rd k18
  refine ⟨b, off, rfl, by omega, by omega, _, _, _, _, _, _, _, _, _, _, _, _, e1 0 (by decide), e1 1 (by decide), e1 2 (by decide), e1 3 (by decide), e1 4 (by decide), e1 5 (by decide), e1 6 (by decide), e1 7 (by decide), e1 8 (by decide), e1 9 (by decide), ?_⟩
  refine PC.ok (seg_Frame (hw.grew k18) hr hxok fun b hb => Nat.lt_of_lt_of_le (hDl b hb) k18.size) ?_
  rintro _ w19 ⟨a19, n19, c19, F19, rfl, ho19, k19, hF19⟩
  obtain ⟨b', off', x', a2, n2, c2, hab, hx', hr2, hxok2, e2⟩ := rd (k18.then k19)
  cases hab
  rw [hx] at hx'
  cases hx'
  refine ⟨_, _, _, _, rfl, b, off, rfl, by omega, by omega, _, _, _, _, _, _, _, _, _, _, _, _, e2 0 (by decide), e2 1 (by decide), e2 2 (by decide), e2 3 (by decide), e2 4 (by decide), e2 5 (by decide), e2 6 (by decide), e2 7 (by decide), e2 8 (by decide), e2 9 (by decide), ?_⟩
  refine PC.ok (ref20_Frame hr2 hxok fun b hb => Nat.lt_of_lt_of_le (hDl b hb) (k18.then k19).size) ?_
  rintro _ w20 ⟨a20, n20, c20, F20, rfl, ho20, k20, hF20⟩
  have hfl : (segFrame x).1.length ≤ 1000000 := by
    by_cases hd : x.deps.length ≤ 64
    · rw [segFrame_ok hxok hd]; have := evFr_length hxok hd; show (evFr x).length ≤ _; omega
    · rw [segFrame_no hd]; simp
  refine ⟨_, _, _, _, rfl, PIf.ff (by simp) (PC.ok (kit_SameBytes (lst_bytes (ho19.grew k20) hfl) (lst_bytes ho20 hfl)) ?_)⟩
  rintro _ w21 ⟨rfl, d21⟩
  exact ⟨_, rfl, PIf.ff (by simp) ⟨_, by omega, j + 1, wrap_succ (by omega), by omega, rfl, ((k18.then k19).then k20).then d21.keep⟩⟩
end Go.Proofs.YtpmakiecgphijaaGreatDoor

/- SegmentTorn: the walk -/
namespace Go.Lift
open Go
theorem evFrs_snoc (l : List EventV) {j : Nat} {x : EventV} (h : l[j]? = some x) : evFrs (l.take (j + 1)) = evFrs (l.take j) ++ evFr x := by
  rw [List.take_add_one, h, evFrs_append]
  congr 1
  simp [evFrs]
theorem torn_uniq {l : List EventV} {n q c : Nat} (hn : n ≤ l.length) (h1 : (evFrs (l.take n)).length ≤ c) (h2 : n < l.length → c < (evFrs (l.take (n + 1))).length)
    (hq : q ≤ l.length) (h3 : (evFrs (l.take q)).length ≤ c) (h4 : q < l.length → c < (evFrs (l.take (q + 1))).length) : n = q := by
  rcases Nat.lt_trichotomy n q with h | h | h
  · have := h2 (by omega)
    have := evFrs_take (l := l) (i := n + 1) (j := q) (by omega)
    omega
  · exact h
  · have := h4 (by omega)
    have := evFrs_take (l := l) (i := q + 1) (j := n) (by omega)
    omega
end Go.Lift
namespace Go.Proofs.YtpmakiecgphijaaGreatDoor
open Go.Lift
set_option linter.unusedVariables false
set_option maxRecDepth 20000

section
variable {w0 w w1 w' : World} {p : Nat} {D D' : DiskV} {X Y Z : Nat → Prop}
/-- what others do, in blocks of X, and what they make -/
theorem NDisk.step (h : NDisk w0 w p D X) (hk : Keep Y w w') (hY : ∀ b, Y b → X b) (hX : ∀ b, X b → w0.heap.size ≤ b) (hZ : ∀ b, Z b → X b ∨ (w.heap.size ≤ b ∧ b < w'.heap.size)) : NDisk w0 w' p D Z := by
  obtain ⟨F, h1, h2, h3, h4⟩ := h
  exact ⟨F, h1.keep hk fun b hb hy => (h3 b hb).2 (hY b hy), h2.new hk fun b hb => .inr (hX b (hY b hb)), fun b hb => ⟨(h3 b hb).1, fun hz => (hZ b hz).elim (h3 b hb).2 fun h => by have := h1.dom b hb; omega⟩,
    fun b hb => (hZ b hb).elim (fun h => Nat.lt_of_lt_of_le (h4 b h) hk.size) (·.2)⟩
end

theorem SegmentTorn {la : Option Addr} {ln lc : Nat} {l : List EventV} {cut nn : Int} {w : World} {Dl : Nat → Prop} (ha : Row cEv 96 w Dl la ln l) (hDl : ∀ b, Dl b → b < w.heap.size) (hlc : ln ≤ lc) (hcut : I64 cut) (hno : I64 nn) (hw : Laid w) :
    Calls Tryz.prog F_law20_SegmentTorn #[.slice la ln lc, .int .i64 cut, .int .i64 nn] w (Ok fun v w' => v = .bool true ∧ Grew w w') := by
  have ha0 := ha.len
  refine L_law20_SegmentTorn (PC.ok (law10_Long ha) ?_)
  rintro _ _ ⟨rfl, rfl⟩
  refine ⟨_, rfl, PIf.dec (fun h => fin hw (Keep.refl _)) (fun hlong => PIf.dec (fun h => fin hw (Keep.refl _)) (fun h60 => PC.ok (kit_Pick (by unfold I64; omega)) ?_))⟩
  rintro _ _ ⟨rfl, rfl⟩
  have hp := pick_range (k := nn) (n := 1000) (by omega)
  generalize pick nn 1000 = k at hp
  refine ⟨_, rfl, PC.ok (new_ok (Keep.refl w) (by omega) (by omega)) ?_⟩
  rintro _ w1 ⟨p, rfl, h1, -⟩
  replace h1 := h1.mono (Y := no) fun _ h => h.elim
  refine ⟨_, _, rfl, PIf.ff rfl (eq_nil_ptr uD ⟨_, rfl, PIf.ff rfl (PC.ok (seg_Name (hw.grew h1.gr) (by unfold I64; omega)) ?_)⟩)⟩
  rintro _ w2 ⟨rfl, k2⟩
  have h2 := h1.grew k2
  refine ⟨_, rfl, PC.ok h2.create ?_⟩
  rintro _ w3 ⟨rfl, h3, -⟩
  have hcr : (newD (Int.toNat 65536)).create (txt (segName k)) = (0, oneD 65536 (txt (segName k)) []) := create_one (seg_name_ok hp.1 (by omega))
  rw [hcr] at h3 ⊢
  generalize hnm : txt (segName k) = nm at h3 hcr ⊢
  have hl60 : l.length ≤ 60 := by omega
  have hs3 := h3.gr.size
  refine ⟨_, rfl, PIf.ff rfl ⟨fun m oa on oc ea en ec i w' => ∃ j : Nat, i = j ∧ j ≤ ln ∧ m = ln - j ∧ (∀ e ∈ l.take j, e.Ok ∧ e.deps.length ≤ 64) ∧ ∃ F G : Nat → Prop, Lst cU8 5 F w' oa on oc (evFrs (l.take j)) ∧ Lst cI64 3 G w' ea en ec (ends (l.take j)) ∧
    NDisk w w' p (oneD 65536 nm []) (fun b => F b ∨ G b) ∧ (∀ b, F b → w.heap.size ≤ b) ∧ (∀ b, G b → w.heap.size ≤ b) ∧ (∀ b, F b → ¬ G b),
    ⟨_, 0, rfl, Nat.zero_le _, rfl, by simp, fun _ => False, fun _ => False, by simpa [evFrs] using Lst.nil w3, by simpa [ends] using Lst.nil w3, h3.mono fun _ h => h.elim id id, fun _ h => h.elim, fun _ h => h.elim, fun _ h => h.elim⟩, ?_⟩⟩
  rintro m oa on oc ea en ec i _ w4 ⟨j, rfl, hj, rfl, hok, F, G, ho, he, h4, hF, hG, hFG⟩
  have hgr := h4.gr
  have hfl := evFrs_le hok
  have htl : (l.take j).length = j := by simp; omega
  refine PIf.dec (fun hlt => ?_) (fun hge => ?_)
  · obtain ⟨b, off, x, es, rfl, _, _, hx, hc, a1, n1, c1, rfl, hr, hxok⟩ := (ha.grew hgr).atN (i := j) (by omega)
    have e1 := fun i (hi : i < 10) => hc i hi
    refine ⟨b, off, rfl, by omega, by omega, _, _, _, _, _, _, _, _, _, _, _, _, e1 0 (by decide), e1 1 (by decide), e1 2 (by decide), e1 3 (by decide), e1 4 (by decide), e1 5 (by decide), e1 6 (by decide), e1 7 (by decide), e1 8 (by decide), e1 9 (by decide), ?_⟩
    refine PC.ok (seg_Frame (hw.grew hgr) hr hxok fun b hb => Nat.lt_of_lt_of_le (hDl b hb) hgr.size) ?_
    rintro _ w5 ⟨a5, n5, c5, F5, rfl, ho5, k5, hF5⟩
    have h5 := h4.add k5 fun b hb => ⟨hF5 b hb, ho5.dom b hb⟩
    by_cases hd : x.deps.length ≤ 64
    rotate_left
    · rw [segFrame_no hd]
      obtain ⟨b', off', x', es', hb', _, _, hx', hc', a1', n1', c1', rfl, hr', -⟩ := (ha.grew h5.gr).atN (i := j) (by omega)
      cases hb'
      rw [hx] at hx'; cases hx'
      have hlen' := hr'.len
      exact ⟨_, _, _, _, rfl, PIf.tt rfl ⟨b, off, rfl, by omega, by omega, _, _, _, hc' 3 (by decide), PIf.tt (by simp; omega) (fin hw h5.gr)⟩⟩
    rw [segFrame_ok hxok hd] at ho5 ⊢
    simp only at ho5 ⊢
    have hxl := evFr_length hxok hd
    have hn5 := ho5.len (by decide)
    have ho' := ho.grew k5
    have he' := he.grew k5
    rw [htl] at hfl
    refine ⟨_, _, _, _, rfl, PIf.ff rfl (appRow' ho' slU8 (ho5.row (bytes := 1) (by decide) (by unfold Big; omega)) (fun e => ho5.nil0 e) (fun b hb => ⟨ho5.dom b hb, fun hc => ?_⟩) (by unfold Big; omega) (by unfold maxLen; omega) fun a6 c6 w6 F6 ho6 hk6 _ hs6 => ?_)⟩
    · have h1 := ho.dom b (ho.self b hc); have h2 := hF5 b hb; omega
    replace ho6 := ho6.alone
    have h6 : NDisk w w6 p (oneD 65536 nm []) (fun b => blk a6 = some b ∨ G b) := h5.step hk6 (fun b hb => .inl (.inl (ho.self b hb))) (fun b hb => hb.elim (fun h => h.elim (hF b) (hG b)) fun h => by have := hF5 b h; have := hgr.size; omega) fun b hb => by
      rcases hb with hb | hb
      · rcases hs6 b hb with h | h
        · exact .inl (.inl (.inl h))
        · exact .inr ⟨h, ho6.dom b hb⟩
      · exact .inl (.inl (.inr hb))
    have he6 := he'.keep hk6 fun b hb hc => hFG b (ho.self b hc) hb
    have hb6 : ∀ b, blk a6 = some b → w.heap.size ≤ b ∧ ¬ G b := fun b hb => by
      rcases hs6 b hb with h | h
      · exact ⟨hF b h, hFG b h⟩
      · have := k5.size; have := hgr.size
        exact ⟨by omega, fun hg => by have := he.dom b hg; omega⟩
    rw [← evFrs_snoc l hx] at ho6
    have hn6 := ho6.len (by decide)
    have hsn : (ends (l.take j)) ++ [((on + n5 : Nat) : Int)] = ends (l.take (j + 1)) := by
      rw [hn6, List.take_add_one, hx, Option.toList_some, ends_snoc]
    refine ⟨_, _, _, rfl, papp he6 slI64 (x := ((on + n5 : Nat) : Int)) (D := fun _ => False) ⟨rfl, by have := ho.len (by decide); unfold I64; omega⟩ (fun _ h => h.elim) (by rw [ends_length, htl]; unfold Big; omega) (by rw [ends_length, htl]; unfold maxLen; omega) fun a7 c7 w7 F7 ho7 hk7 _ hs7 => ?_⟩
    replace ho7 := ho7.alone
    rw [hsn] at ho7
    refine ⟨_, _, _, rfl, ln - (j + 1), by omega, j + 1, wrap_succ (by omega), by omega, rfl, ?_, (fun b => blk a6 = some b), (fun b => blk a7 = some b), ?_, ho7, ?_, fun b hb => (hb6 b hb).1, ?_, ?_⟩
    · intro e hem
      rw [List.take_add_one, hx] at hem
      rcases List.mem_append.1 hem with h | h
      · exact hok e h
      · simp at h; subst h; exact ⟨hxok, hd⟩
    · exact ho6.keep hk7 fun b hb hc => (hb6 b hb).2 (he.self b hc)
    · refine h6.step hk7 (fun b hb => .inr (he.self b hb)) (fun b hb => hb.elim (fun h => (hb6 b h).1) (hG b)) fun b hb => ?_
      rcases hb with hb | hb
      · exact .inl (.inl hb)
      · rcases hs7 b hb with h | h
        · exact .inl (.inr h)
        · exact .inr ⟨h, ho7.dom b hb⟩
    · intro b hb
      rcases hs7 b hb with h | h
      · exact hG b h
      · have := h6.gr.size; omega
    · intro b hb hc
      rcases hs7 b hc with h | h
      · exact (hb6 b hb).2 h
      · have := ho6.dom b hb; omega
  · obtain rfl : j = ln := by omega
    rw [List.take_of_length_le (by omega)] at ho he hok hfl
    have hon := ho.len (by decide)
    have hen := he.len (by decide)
    rw [ends_length] at hen
    refine PIf.dec (fun h => fin hw hgr) (fun hbig => ?_)
    rw [show IntKind.wrap .i64 ((on : Int) + 1) = ((on + 1 : Nat) : Int) from wrap_succ (by omega)]
    refine PC.ok (kit_Pick (by unfold I64; omega)) ?_
    rintro _ _ ⟨rfl, rfl⟩
    have hpc := pick_range (k := cut) (n := ((on + 1 : Nat) : Int)) (by omega)
    generalize pick cut ((on + 1 : Nat) : Int) = ct at hpc
    obtain ⟨c, rfl⟩ := Int.eq_ofNat_of_zero_le hpc.1
    refine ⟨_, rfl, fun n at' w' => w4 = w' ∧ ∃ q : Nat, n = q ∧ q ≤ l.length ∧ at' = (((evFrs (l.take q)).length : Nat) : Int) ∧ (evFrs (l.take q)).length ≤ c ∧ (q < l.length → c < (evFrs (l.take (q + 1))).length),
      ⟨fun m n at' w' => w4 = w' ∧ ∃ q : Nat, m = l.length - q ∧ n = q ∧ q ≤ l.length ∧ at' = (((evFrs (l.take q)).length : Nat) : Int) ∧ (evFrs (l.take q)).length ≤ c, ⟨_, rfl, 0, rfl, rfl, Nat.zero_le _, by simp [evFrs], by simp [evFrs]⟩, ?_⟩, ?_⟩
    · rintro m n at' _ _ ⟨rfl, q, rfl, rfl, hq, rfl, hqc⟩
      refine PIf.dec (fun hlt => ?_) (fun hge => ⟨rfl, q, rfl, hq, rfl, hqc, fun h => by omega⟩)
      obtain ⟨b, off, x, rfl, hx, hxr, hc⟩ := (he.row (bytes := 8) (by decide) (by rw [ends_length]; unfold Big; omega)).at1 (i := q) (by omega)
      rw [ends_get (by omega)] at hx
      cases hx
      refine ⟨b, off, rfl, by omega, by omega, _, hc, PIf.dec (fun hle => ?_) (fun hgt => ⟨rfl, q, rfl, hq, rfl, hqc, fun h => by omega⟩)⟩
      exact ⟨b, off, rfl, by omega, by omega, _, hc, l.length - (q + 1), by omega, rfl, q + 1, rfl, wrap_succ (by omega), by omega, rfl, by omega⟩
    · rintro n at' _ _ ⟨rfl, q, rfl, hq, rfl, hqc, hqn⟩
      intro w5 d5
      have k5 : Grew w4 w5 := d5.keep
      have hoc := ho.cap_le
      refine ⟨by omega, by omega, PC.ok (seg_Name (hw.grew (hgr.then k5)) (by unfold I64; omega)) ?_⟩
      rintro _ w6 ⟨rfl, k6⟩
      have h6 := (h4.grew k5).grew k6
      have ho6 := (ho.grew k5).grew k6
      refine ⟨_, rfl, ?_⟩
      rw [Int.toNat_natCast]
      refine PC.ok (h6.append (((ho6.row (bytes := 1) (by decide) (by unfold Big; omega))).take (m := c) (by omega)) (fun e => ⟨by have := (ho6.nil0 e).1; omega, (ho6.nil0 e).2⟩) fun b hb => .inr (.inl hb)) ?_
      rintro _ w7 ⟨rfl, h7, k7⟩
      rw [hnm, append_one (by rw [List.length_take, List.length_nil]; omega), List.nil_append] at h7 ⊢
      refine ⟨_, rfl, PIf.ff rfl (PC.ok (h7.load hw (by unfold I64; omega)) ?_)⟩
      rintro _ w8 ⟨a8, n8, c8, F8, rfl, ho8, hF8, h8, k8, -⟩
      rw [hnm, read_one] at ho8 ⊢
      obtain ⟨n, hn, hseg, hnc, hnn⟩ := segLoad_torn hok c
      obtain rfl := torn_uniq hn hnc hnn hq hqc hqn
      rw [hseg] at ho8 ⊢
      refine ⟨_, _, _, _, rfl, PIf.tt (by simp) ⟨by omega, by omega, ?_⟩⟩
      rw [Int.toNat_natCast]
      refine PC.ok (kit_SameEvents (lst_evs ho8 (by simp; omega)) ((ha.grew h8.gr).take (m := n) (by omega))) ?_
      rintro _ w9 ⟨rfl, k9⟩
      exact ⟨_, rfl, PIf.tt (by simp) (fin hw (h8.gr.then k9))⟩
end Go.Proofs.YtpmakiecgphijaaGreatDoor
