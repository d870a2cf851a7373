/- Log, LogBegin, LogLoad, LogOpen, LogApp, DEff, LogPlain, Compact, LogPlain2, LogPlain3, CmpPlain, CmpTwo, SegWorks, L22, Papp2, L23, Known23, Works22, SlRefuses, SlPieces -/
import Derived.Test.YtpbpjojdfcdbbaaGreatDoorMfAgain
import Derived.Test.YtpbpjojdfcdbbaaGreatDoorSegCon
import Derived.Test.YtpbpjojdfcdbbaaGreatDoorMf
import Derived.Test.YtpbpjojdfcdbbaaGreatDoorDOk
import Derived.Test.YtpbpjojdfcdbbaaGreatDoorOneD
import Derived.Test.YtpbpjojdfcdbbaaGreatDoorPick
import Derived.Test.YtpbpjojdfcdbbaaGreatDoorRep
/- seglog: how a log lies; its name, its next number, its beginning of a segment -/
namespace Go.Proofs.YtpbpjojdfcdbbaaGreatDoor
open Go.Lift
set_option linter.unusedVariables false
set_option maxRecDepth 20000

theorem slices_Clone_I {a : Option Addr} {n c : Nat} {xs : List Int} {w : World} {D : Nat → Prop} (h : Row cI64 8 w D a n xs) (hD : ∀ b, D b → b < w.heap.size) :
    Calls Tryz.prog 58 #[.slice a n c] w (Ok (New cI64 3 w xs)) := by
  have hl := h.len; have hb := h.big
  refine L_slices_Clone_int_int (eq_nil_slice slI64.under ⟨_, rfl, PIf.mk (fun h1 => ?_) (fun h1 => PA.mk fun w1 hk1 hs1 hg1 => ?_)⟩)
  · have : xs = [] := by
      cases a with
      | none =>
        cases xs with
        | nil => rfl
        | cons x r => obtain ⟨b, off, es, ha, _⟩ := h.el 0 x rfl; cases ha
      | some p => cases h1
    subst this
    exact Ok.mk ⟨none, 0, 0, fun _ => False, rfl, Lst.nil w, Keep.refl _, fun _ h => h.elim⟩
  · cases a with
    | none => cases h1
    | some p =>
      have ho : Lst cI64 3 (· = w.heap.size) w1 (some ⟨w.heap.size, 0, none⟩) 0 0 [] :=
        ⟨⟨[], fun _ => False, Own.of_new (cur := #[]) hg1 rfl (Nat.zero_le _), rfl, fun _ h => h.elim⟩, fun b hb => by simpa [blk] using hb.symm, fun b hb => by omega⟩
      refine appRow ho slI64 (D := D) (h.grew hk1) (fun b hb => ⟨by have := hD b hb; omega, by have := hD b hb; simp only [blk]; intro e; cases e; omega⟩) (by simp; omega) (by unfold Big at hb; unfold maxLen; simp; omega) fun a' c' w2 F' ho2 hk2 _ hs2 => ?_
      refine ⟨_, _, _, rfl, Ok.mk ⟨a', _, c', fun b => blk a' = some b, rfl, by have h := ho2.alone; rw [List.nil_append] at h; exact h, hk1.new hk2 fun b hb => .inr ?_, fun b hb => ?_⟩⟩
      · simp only [blk, Option.some.injEq] at hb; omega
      · rcases hs2 b hb with h | h <;> omega

def nextStep (n : Int) (s : ByteArray) : Int := if (segNoV s).2 then max n ((segNoV s).1 + 1) else n
def nextL (l : List ByteArray) : Int := l.foldl nextStep 1
def nextV (D : DiskV) : Int := nextL D.list
theorem segNoV_lt (s : ByteArray) : 0 ≤ (segNoV s).1 ∧ (segNoV s).1 < 1000000000000 := by
  unfold segNoV
  split
  · rename_i k hk
    have := (segNo_some hk).2
    simp; omega
  · simp
theorem nextStep_rng {n : Int} (h : 1 ≤ n ∧ n ≤ 1000000000000) (s : ByteArray) : 1 ≤ nextStep n s ∧ nextStep n s ≤ 1000000000000 := by
  have := segNoV_lt s
  unfold nextStep
  split <;> omega
theorem fold_rng : ∀ (l : List ByteArray) (n : Int), (1 ≤ n ∧ n ≤ 1000000000000) → 1 ≤ l.foldl nextStep n ∧ l.foldl nextStep n ≤ 1000000000000
  | [], n, h => h
  | s :: l, n, h => fold_rng l _ (nextStep_rng h s)
theorem nextL_rng (l : List ByteArray) : 1 ≤ nextL l ∧ nextL l ≤ 1000000000000 := fold_rng l 1 (by omega)

theorem seglog_next {w : World} {p : Nat} {F : Nat → Prop} {D : DiskV} (hw : Laid w) (hD : DiskAt w p F D) :
    Calls Tryz.prog F_seglog_next #[.pointer (some ⟨p, 0, none⟩)] w (Ok fun v w' => v = .int .i64 (nextV D) ∧ Grew w w') := by
  refine L_seglog_next (PC.ok (Disk_List hD) ?_)
  rintro _ w1 ⟨a, n, c, G, rfl, ho, k1, hG⟩
  have hl : D.list.length ≤ 64 := by rw [list_length']; exact hD.ok.many
  have hn := ho.len (by decide)
  have hr : Row cStr 16 w1 G a n D.list := ho.row (by decide) (by unfold Big; omega)
  refine ⟨_, _, _, rfl, fun m x t w' => ∃ j : Nat, t = j ∧ j ≤ n ∧ m = n - j ∧ x = nextL (D.list.take j) ∧ Grew w1 w', ⟨_, 0, rfl, Nat.zero_le _, rfl, rfl, Keep.refl _⟩, ?_⟩
  rintro m x t _ w2 ⟨j, rfl, hj, rfl, rfl, k2⟩
  refine PIf.dec (fun hlt => ?_) (fun hge => ?_)
  · obtain ⟨b, off, s, rfl, hx, _, hc⟩ := (hr.grew k2).at1 (i := j) (by omega)
    refine ⟨b, off, rfl, by omega, by omega, _, hc, PC.ok (seg_Number (hw.grew (k1.then k2))) ?_⟩
    rintro _ w3 ⟨rfl, k3⟩
    have h1 := segNoV_lt s
    have h2 := nextL_rng (D.list.take j)
    have e : nextL (D.list.take (j + 1)) = nextStep (nextL (D.list.take j)) s := by
      unfold nextL
      rw [List.take_add_one, hx, List.foldl_append]; rfl
    refine ⟨_, _, rfl, PIf.mk (fun hb => ⟨_, ?_, j + 1, wrap_succ (by omega), by omega, rfl, ?_, k2.then k3⟩) (fun hb => ⟨_, ?_, j + 1, wrap_succ (by omega), by omega, rfl, ?_, k2.then k3⟩)⟩
    · omega
    · rw [e, wrap_i64 (by unfold I64; omega)]
      unfold nextStep
      rw [if_pos hb]; split <;> omega
    · omega
    · rw [e]; unfold nextStep; rw [if_neg (by simp [hb])]
  · obtain rfl : j = n := by omega
    rw [List.take_of_length_le (by omega)]
    exact Ok.mk ⟨rfl, k1.then k2⟩

structure LogV where
  size : Int
  segs : List Int
  bytes : Int
  next : Int

/-- block q is a log on the disk at p; its blocks: G -/
structure LogAt (w : World) (p q : Nat) (G : Nat → Prop) (V : LogV) : Prop where
  body : ∃ a n c E, w.heap[q]? = some (.cells #[.pointer (some ⟨p, 0, none⟩), .int .i64 V.size, .slice a n c, .int .i64 V.bytes, .int .i64 V.next] 83 (0, 0)) ∧ Lst cI64 3 E w a n c V.segs ∧ ∀ b, E b → G b ∧ b ≠ q
  self : G q
  dom : ∀ b, G b → b < w.heap.size
  many : V.segs.length ≤ 64
  nextR : I64 V.next

section
variable {w0 w w1 w' : World} {p q : Nat} {D D' : DiskV} {V V' : LogV} {X Y G S : Nat → Prop}
theorem LogAt.keep (h : LogAt w p q G V) (hk : Keep S w w') (hd : ∀ b, G b → ¬ S b) : LogAt w' p q G V := by
  obtain ⟨a, n, c, E, g, ho, hE⟩ := h.body
  exact ⟨⟨a, n, c, E, hk.get g (hd q h.self), ho.keep hk fun b hb => hd b (hE b hb).1, hE⟩, h.self, fun b hb => Nat.lt_of_lt_of_le (h.dom b hb) hk.size, h.many, h.nextR⟩
theorem LogAt.grew (h : LogAt w p q G V) (hk : Grew w w') : LogAt w' p q G V := h.keep hk fun _ _ h => h

/-- a log made behind w0, apart from blocks X, on a disk apart from both -/
def NLog (w0 w : World) (p q : Nat) (V : LogV) (D : DiskV) (X : Nat → Prop) : Prop := ∃ G, NDisk w0 w p D (fun b => X b ∨ G b) ∧ LogAt w p q G V ∧ ∀ b, G b → w0.heap.size ≤ b ∧ ¬ X b

theorem NLog.gr (h : NLog w0 w p q V D X) : Grew w0 w := by obtain ⟨G, h1, h2, h3⟩ := h; exact h1.gr
theorem NLog.ok (h : NLog w0 w p q V D X) : D.Ok := by obtain ⟨G, h1, h2, h3⟩ := h; exact h1.ok
theorem NLog.many (h : NLog w0 w p q V D X) : V.segs.length ≤ 64 := by obtain ⟨G, h1, h2, h3⟩ := h; exact h2.many
theorem NLog.nextR (h : NLog w0 w p q V D X) : I64 V.next := by obtain ⟨G, h1, h2, h3⟩ := h; exact h2.nextR
theorem NLog.dom (h : NLog w0 w p q V D X) : ∀ b, X b → b < w.heap.size := by obtain ⟨G, ⟨F, h1, h2, h3, h4⟩, h5, h6⟩ := h; exact fun b hb => h4 b (.inl hb)
theorem NLog.q_lt (h : NLog w0 w p q V D X) : q < w.heap.size ∧ w0.heap.size ≤ q ∧ ¬ X q := by obtain ⟨G, h1, h2, h3⟩ := h; exact ⟨h2.dom q h2.self, h3 q h2.self⟩
theorem NLog.disk (h : NLog w0 w p q V D X) : NDisk w0 w p D X := by obtain ⟨G, h1, h2, h3⟩ := h; exact h1.mono fun b hb => .inl hb
theorem NLog.grew (h : NLog w0 w p q V D X) (hk : Grew w w') : NLog w0 w' p q V D X := by
  obtain ⟨G, h1, h2, h3⟩ := h; exact ⟨G, h1.grew hk, h2.grew hk, h3⟩
theorem NLog.mono (h : NLog w0 w p q V D X) (hx : ∀ b, Y b → X b) : NLog w0 w p q V D Y := by
  obtain ⟨G, h1, h2, h3⟩ := h; exact ⟨G, h1.mono fun b hb => hb.imp (hx b) id, h2, fun b hb => ⟨(h3 b hb).1, fun hy => (h3 b hb).2 (hx b hy)⟩⟩
theorem NLog.add (h : NLog w0 w p q V D X) (hk : Grew w w') (hY : ∀ b, Y b → w.heap.size ≤ b ∧ b < w'.heap.size) : NLog w0 w' p q V D (fun b => X b ∨ Y b) := by
  obtain ⟨G, h1, h2, h3⟩ := h
  refine ⟨G, (h1.add hk hY).mono fun b hb => ?_, h2.grew hk, fun b hb => ⟨(h3 b hb).1, fun hx => hx.elim (h3 b hb).2 fun hy => by have := h2.dom b hb; have := (hY b hy).1; omega⟩⟩
  rcases hb with (hb | hb) | hb
  · exact .inl (.inl hb)
  · exact .inr hb
  · exact .inl (.inr hb)
/-- what others do, in blocks of X -/
theorem NLog.other (h : NLog w0 w p q V D X) (hk : Keep Y w w') (hY : ∀ b, Y b → X b ∧ w0.heap.size ≤ b) : NLog w0 w' p q V D X := by
  obtain ⟨G, ⟨F, h1, h2, h3, h4⟩, h5, h6⟩ := h
  exact ⟨G, ⟨F, h1.keep hk fun b hb hy => (h3 b hb).2 (.inl (hY b hy).1), h2.new hk fun b hb => .inr (hY b hb).2, h3, fun b hb => Nat.lt_of_lt_of_le (h4 b hb) hk.size⟩, h5.keep hk fun b hb hy => (h6 b hb).2 (hY b hy).1, h6⟩

/-- a call on the disk alone -/
theorem NLog.on {g : FuncId} {args : Array Value} {r : Int × DiskV} (h : NLog w0 w p q V D X)
    (hc : ∀ Z, (∀ b, X b → Z b) → NDisk w0 w p D Z → Calls Tryz.prog g args w (Ok (Does2 w0 w p Z r))) : Calls Tryz.prog g args w (Ok fun v w' => v = .int .i64 r.1 ∧ NLog w0 w' p q V r.2 X ∧ Keep (Not' X) w w') := by
  obtain ⟨G, h1, h2, h3⟩ := h
  refine Calls.ok (hc _ (fun b hb => .inl hb) h1) ?_
  rintro v w' ⟨hv, hD, hk⟩
  exact ⟨hv, ⟨G, hD, h2.keep hk fun b hb hn => hn (.inr hb), h3⟩, hk.mono fun b _ hb hx => hb (.inl hx)⟩

def LogV.last (V : LogV) : ByteArray := txt (segName (V.segs.getLast?.getD 0))

theorem LogAt.row (h : LogAt w p q G V) : ∃ a n c E, w.heap[q]? = some (.cells #[.pointer (some ⟨p, 0, none⟩), .int .i64 V.size, .slice a n c, .int .i64 V.bytes, .int .i64 V.next] 83 (0, 0)) ∧ Row cI64 8 w E a n V.segs ∧ (∀ b, E b → G b ∧ b ≠ q) ∧ n = V.segs.length := by
  obtain ⟨a, n, c, E, g, ho, hE⟩ := h.body
  have := h.many
  exact ⟨a, n, c, E, g, ho.row (by decide) (by unfold Big; omega), hE, ho.len (by decide)⟩

theorem log_name (hw : Laid w) (h : LogAt w p q G V) (hne : V.segs ≠ []) : Calls Tryz.prog F_seglog_Log_name #[.pointer (some ⟨q, 0, none⟩)] w (Ok fun v w' => v = .string V.last ∧ Grew w w') := by
  obtain ⟨a, n, c, E, g, hr, hE, hn⟩ := h.row
  have hpos : 0 < V.segs.length := List.length_pos_iff.2 hne
  have hm := h.many
  refine L_seglog_Log_name fun w1 d1 => ?_
  have k1 : Grew w w1 := d1.keep
  have g1 := k1.get g id
  have hi : IntKind.wrap .i64 ((n : Int) - 1) = ((n - 1 : Nat) : Int) := by rw [wrap_i64 (by unfold I64; omega)]; omega
  obtain ⟨b, off, x, rfl, hx, hxr, hc⟩ := (hr.grew k1).at1 (i := n - 1) (by omega)
  refine ⟨q, 0, rfl, _, _, _, cell_at g1 rfl, q, 0, rfl, _, _, _, cell_at g1 rfl, b, off, rfl, ?_⟩
  rw [hi]
  refine ⟨by omega, by omega, x, hc, PC.ok (seg_Name (hw.grew k1) hxr) ?_⟩
  rintro _ w2 ⟨rfl, k2⟩
  refine ⟨_, rfl, Ok.mk ⟨?_, k1.then k2⟩⟩
  unfold LogV.last
  rw [List.getLast?_eq_getElem?, ← hn, hx]; rfl

theorem log_Sync (hL : Laid w0) (h : NLog w0 w p q V D X) (hne : V.segs ≠ []) : Calls Tryz.prog F_seglog_Log_Sync #[.pointer (some ⟨q, 0, none⟩)] w (Ok fun v w' => v = .int .i64 (D.sync V.last).1 ∧ NLog w0 w' p q V (D.sync V.last).2 X ∧ Keep (Not' X) w w') := by
  refine L_seglog_Log_Sync fun w1 d1 => ?_
  have k1 : Grew w w1 := d1.keep
  have h1 := h.grew k1
  obtain ⟨G, hD, hl, hG⟩ := h1
  obtain ⟨a, n, c, E, g, hr, hE, hn⟩ := hl.row
  have hq := hG q hl.self
  have hq1 := hl.dom q hl.self
  refine ⟨fun b => b ≠ q ∧ ¬ X b, q, 0, rfl, fun hs => hs.1 rfl, _, cell_at g rfl, PC.ok (log_name (hL.grew (h.gr.then k1)) hl hne) ?_⟩
  rintro _ w2 ⟨rfl, k2⟩
  have hd2 := hl.grew k2
  have hD2 := hD.grew k2
  refine ⟨_, rfl, k2.keep, PC.ok hD2.sync ?_⟩
  rintro _ w3 ⟨rfl, hD3, k3⟩
  refine ⟨_, rfl, k3.mono fun b _ hb => ⟨fun e => hb (.inr (e ▸ hl.self)), fun hx => hb (.inl hx)⟩, Ok.mk ⟨rfl, ⟨G, hD3, hd2.keep k3 fun b hb hn => hn (.inr hb), hG⟩, ?_⟩⟩
  exact (Grew.keep (k1.then k2)).then (k3.mono fun b _ hb hx => hb (.inl hx))

theorem log_Segments (h : LogAt w p q G V) : Calls Tryz.prog F_seglog_Log_Segments #[.pointer (some ⟨q, 0, none⟩)] w (Ok (New cI64 3 w V.segs)) := by
  obtain ⟨a, n, c, E, g, hr, hE, hn⟩ := h.row
  refine L_seglog_Log_Segments ⟨q, 0, rfl, _, _, _, cell_at g rfl, PC.ok (slices_Clone_I hr fun b hb => h.dom b (hE b hb).1) ?_⟩
  rintro _ w1 ⟨a1, n1, c1, F1, rfl, ho, hk, hF⟩
  exact ⟨_, _, _, rfl, Ok.mk ⟨_, _, _, F1, rfl, ho, hk, hF⟩⟩
theorem log_Next (h : LogAt w p q G V) : Calls Tryz.prog F_seglog_Log_Next #[.pointer (some ⟨q, 0, none⟩)] w (Ok fun v w' => v = .int .i64 V.next ∧ w = w') := by
  obtain ⟨a, n, c, E, g, hr, hE, hn⟩ := h.row
  exact L_seglog_Log_Next ⟨q, 0, rfl, _, cell_at g rfl, Ok.mk ⟨rfl, rfl⟩⟩
end
end Go.Proofs.YtpbpjojdfcdbbaaGreatDoor

/- seglog: a segment begun -/
namespace Go.Proofs.YtpbpjojdfcdbbaaGreatDoor
open Go.Lift
set_option linter.unusedVariables false
set_option maxRecDepth 20000

/-- the new segment's file is there: it is synced, and the manifest written -/
def begin3 (V : LogV) (D : DiskV) : Int × LogV × DiskV :=
  let nm := txt (segName V.next)
  let s := D.sync nm
  if s.1 ≠ 0 then (s.1, V, (s.2.delete nm).2) else
  let m := mfWrite s.2 (V.segs ++ [V.next])
  if m.1 ≠ 0 then (m.1, V, (m.2.delete nm).2) else
  (0, ⟨V.size, V.segs ++ [V.next], 0, IntKind.wrap .i64 (V.next + 1)⟩, m.2)
def begin2 (V : LogV) (D : DiskV) : Int × LogV × DiskV :=
  let c := D.create (txt (segName V.next))
  if c.1 ≠ 0 then (c.1, V, c.2) else begin3 V c.2
def logBegin (V : LogV) (D : DiskV) : Int × LogV × DiskV :=
  if V.segs = [] then begin2 V D else
  let s := D.sync V.last
  if s.1 ≠ 0 then (s.1, V, s.2) else begin2 V s.2

/-- what a call on a log hands back -/
def Does3 (w0 w : World) (p q : Nat) (X : Nat → Prop) (r : Int × LogV × DiskV) (v : Value) (w' : World) : Prop := v = .int .i64 r.1 ∧ NLog w0 w' p q r.2.1 r.2.2 X ∧ Keep (Not' X) w w'

theorem i64_wrap (x : Int) : I64 (IntKind.wrap .i64 x) := by
  unfold I64 IntKind.wrap
  simp [IntKind.signed, IntKind.bits]
  omega
theorem mfWrite_long {D : DiskV} {l : List Int} (h : (mfWrite D l).1 = 0) : l.length ≤ 64 := by
  unfold mfWrite at h
  split at h
  · cases h
  · omega

theorem log_begin {w0 w : World} {p q : Nat} {V : LogV} {D : DiskV} {X : Nat → Prop} (hL : Laid w0) (h : NLog w0 w p q V D X) :
    Calls Tryz.prog F_seglog_Log_begin #[.pointer (some ⟨q, 0, none⟩)] w (Ok (Does3 w0 w p q X (logBegin V D))) := by
  have hXd := h.dom
  obtain ⟨hq1, hq2, hq3⟩ := h.q_lt
  have hg0 := h.gr.size
  have hnR := h.nextR
  have hmany := h.many
  refine L_seglog_Log_begin (PA.mk fun w1 k1 s1 g1 => PA.mk fun w2 k2 s2 g2 => ?_)
  have k02 : Grew w w2 := k1.then k2
  let Y : Nat → Prop := fun b => X b ∨ (b = w.heap.size ∨ b = w1.heap.size)
  have hY : NLog w0 w2 p q V D Y := h.add k02 fun b hb => by omega
  have gl2 := k2.get g1 id
  /- a state: the log and the disk, in front of the deferred call -/
  refine ⟨fun w' => ∃ D1, NLog w0 w' p q V D1 Y ∧ Keep (Not' X) w w' ∧ w2.heap.size ≤ w'.heap.size ∧ w'.heap[w.heap.size]? = some (.cells #[.pointer (some ⟨q, 0, none⟩)] 30 (0, 0)) ∧ w'.heap[w1.heap.size]? = some (.cells #[.int .i64 0] 26 (0, 0)) ∧ logBegin V D = begin2 V D1, ?_, ?_⟩
  · obtain ⟨G, hD, hl, hG⟩ := id hY
    obtain ⟨a, n, c, E, g, hr, hE, hn⟩ := hl.row
    refine ⟨_, cell_at gl2 rfl, q, 0, rfl, _, _, _, cell_at g rfl, PIf.dec (fun hpos => ?_) (fun hz => ?_)⟩
    · have hne : V.segs ≠ [] := fun e => by rw [e] at hn; simp at hn; omega
      refine ⟨_, cell_at gl2 rfl, PC.ok (log_Sync hL hY hne) ?_⟩
      rintro _ w3 ⟨rfl, hN3, k3⟩
      have kX : Keep (Not' X) w w3 := (Grew.keep k02).then (k3.mono fun b _ hb hx => hb (.inl hx))
      have gl3 := k3.get gl2 fun hn => hn (.inr (.inl rfl))
      have gn3 := k3.get g2 fun hn => hn (.inr (.inr rfl))
      have hB : logBegin V D = if (D.sync V.last).1 ≠ 0 then ((D.sync V.last).1, V, (D.sync V.last).2) else begin2 V (D.sync V.last).2 := by unfold logBegin; rw [if_neg hne]
      refine ⟨_, rfl, PIf.neI (fun hne2 => ?_) (fun h0 => ⟨_, hN3, kX, k3.size, gl3, gn3, by rw [hB, if_neg (by simpa using h0)]⟩)⟩
      refine PS.mk gn3 (by simp) fun w4 k4 s4 g4 => ⟨_, cell_at g4 rfl, Ok.mk ?_⟩
      rw [hB, if_pos hne2]
      exact ⟨rfl, (hN3.other k4 fun b hb => ⟨hb ▸ .inr (.inr rfl), by omega⟩).mono fun b hb => .inl hb, kX.then (k4.mono fun b _ hb hx => by have := hXd b hx; omega)⟩
    · have he : V.segs = [] := List.eq_nil_of_length_eq_zero (by omega)
      exact ⟨D, hY, Grew.keep k02, Nat.le_refl _, gl2, g2, by unfold logBegin; rw [if_pos he]⟩
  rintro _ w3 ⟨D1, hN3, kX3, hsz3, gl3, gn3, hB⟩
  rw [hB]
  obtain ⟨G3, hD3, hl3, hG3⟩ := id hN3
  obtain ⟨a3, n3, c3, E3, gq3, -, -, -⟩ := hl3.row
  refine ⟨_, cell_at gl3 rfl, q, 0, rfl, _, cell_at gq3 rfl, PC.ok (seg_Name (hL.grew hN3.gr) hnR) ?_⟩
  rintro _ w4 ⟨rfl, k4⟩
  refine ⟨_, rfl, PA.mk fun w5 k5 s5 g5 => PS.mk g5 (by simp) fun w6 k6 s6 g6 => ?_⟩
  let Z : Nat → Prop := fun b => Y b ∨ b = w4.heap.size
  have hN4 := hN3.grew k4
  have hg4 := hN4.gr.size
  have h24 := k4.size
  have hN6 : NLog w0 w6 p q V D1 Z := (hN4.add (Y := (· = w4.heap.size)) k5 fun b hb => by omega).other k6 fun b hb => ⟨.inr hb, by omega⟩
  have kX6 : Keep (Not' X) w w6 := ((kX3.grew k4).grew k5).then (k6.mono fun b _ hb hx => by have := hXd b hx; have := kX3.size; omega)
  have hzX : ∀ {b}, X b → Z b := fun hx => .inl (.inl hx)
  intro w7 d7
  have k7 : Grew w6 w7 := d7.keep
  have hN7 := hN6.grew k7
  have gn : w6.heap[w4.heap.size]? = some (.cells #[.string (txt (segName V.next))] 9 (0, 0)) := g6
  have gl6 := k6.get (k5.get (k4.get gl3 id) id) (by omega)
  have gno6 := k6.get (k5.get (k4.get gn3 id) id) (by omega)
  /- the three cells -/
  let C : World → Int → Prop := fun w' e => w'.heap[w.heap.size]? = some (.cells #[.pointer (some ⟨q, 0, none⟩)] 30 (0, 0)) ∧ w'.heap[w1.heap.size]? = some (.cells #[.int .i64 e] 26 (0, 0)) ∧ w'.heap[w4.heap.size]? = some (.cells #[.string (txt (segName V.next))] 9 (0, 0))
  have C6 : C w6 0 := ⟨gl6, gno6, gn⟩
  have keepC : ∀ {w' w'' : World} {e : Int} {S : Nat → Prop}, C w' e → Keep S w' w'' → (∀ b, S b → ¬ (b = w.heap.size ∨ b = w1.heap.size ∨ b = w4.heap.size)) → C w'' e := fun hC hk hS =>
    ⟨hk.get hC.1 fun hs => hS _ hs (.inl rfl), hk.get hC.2.1 fun hs => hS _ hs (.inr (.inl rfl)), hk.get hC.2.2 fun hs => hS _ hs (.inr (.inr rfl))⟩
  have keepZ : ∀ {w' w'' : World} {e : Int}, C w' e → Keep (Not' Z) w' w'' → C w'' e := fun hC hk => keepC hC hk fun b hb hc => hb (by
    rcases hc with rfl | rfl | rfl
    · exact .inl (.inr (.inl rfl))
    · exact .inl (.inr (.inr rfl))
    · exact .inr rfl)
  have toX : ∀ {w' w'' : World}, Keep (Not' X) w w' → Keep (Not' Z) w' w'' → Keep (Not' X) w w'' := fun a b => a.then (b.mono fun b _ hb hx => hb (hzX hx))
  have C7 : C w7 0 := keepC C6 k7 fun b hb => hb.elim
  obtain ⟨G7, hD7, hl7, hG7⟩ := id hN7
  obtain ⟨a7, n7, c7, E7, gq7, -, -, -⟩ := hl7.row
  refine ⟨_, cell_at C7.1 rfl, q, 0, rfl, _, cell_at gq7 rfl, _, cell_at C7.2.2 rfl, PC.ok (hN7.on (fun Z hZ hd => hd.create)) ?_⟩
  rintro _ w8 ⟨rfl, hN8, k8⟩
  have C8 := keepZ C7 k8
  have kX8 := toX (kX6.grew k7) k8
  have hB2 : begin2 V D1 = if (D1.create (txt (segName V.next))).1 ≠ 0 then ((D1.create (txt (segName V.next))).1, V, (D1.create (txt (segName V.next))).2) else begin3 V (D1.create (txt (segName V.next))).2 := rfl
  rw [hB2]
  generalize hcr : D1.create (txt (segName V.next)) = cr at hN8 ⊢
  obtain ⟨e8, D8⟩ := cr
  simp only at hN8 ⊢
  have hz1 : w1.heap.size < w2.heap.size := by omega
  have hXw : ∀ {w' : World} {r : Int × LogV × DiskV} {e : Int} {w'' : World}, NLog w0 w' p q r.2.1 r.2.2 Z → Keep (Not' X) w w' → Keep (· = w1.heap.size) w' w'' → e = r.1 → Does3 w0 w p q X r (.int .i64 e) w'' := by
    intro w' r e w'' hn hk hs he
    exact ⟨by rw [he], (hn.other hs fun b hb => ⟨hb ▸ .inl (.inr (.inr rfl)), by omega⟩).mono fun b hb => hzX hb, hk.then (hs.mono fun b _ hb hx => by have := hXd b hx; omega)⟩
  refine ⟨_, rfl, PIf.neI (fun hne => ?_) (fun h0 => ?_)⟩
  · refine PS.mk C8.2.1 (by simp) fun w9 k9 s9 g9 => ⟨_, cell_at g9 rfl, Ok.mk ?_⟩
    rw [if_pos hne]
    exact hXw hN8 kX8 k9 rfl
  rw [if_neg (by simpa using h0)]
  /- what leaves by an error: the file is deleted -/
  have leave : ∀ {r : Int × LogV × DiskV} (e : Int) (E : DiskV) (w' : World), NLog w0 w' p q V E Z → Keep (Not' X) w w' → C w' e → e ≠ 0 → r = (e, V, (E.delete (txt (segName V.next))).2) →
      Lv Tryz.prog (fun w49 => ∃ r50 : Int, w49.cell? ⟨w1.heap.size, 0, none⟩ = some (.int .i64 r50) ∧ Ok (Does3 w0 w p q X r) (.returned (.int .i64 r50)) w49) (fun ch w' => Ok (Does3 w0 w p q X r) (.panicked ch) w')
        ([{ target := .fn (.func 85) #[.pointer (some ⟨w1.heap.size, 0, none⟩), .pointer (some ⟨w.heap.size, 0, none⟩), .pointer (some ⟨w4.heap.size, 0, none⟩)], args := #[] }] : List Deferred) .returning w' := by
    intro r e E w' hn hk hC hne hr
    refine Lv.one (by simp) (by kernel_rfl) (CallsD.mono (LD_seglog_Log_begin_1 (R := fun e' w7 => e' = .returned (.tuple #[]) ∧ ∃ r37 : Int, w7.cell? ⟨w1.heap.size, 0, none⟩ = some (.int .i64 r37) ∧ Ok (Does3 w0 w p q X r) (.returned (.int .i64 r37)) w7) ⟨_, cell_at hC.2.1 rfl, PIf.neI (fun _ => ?_) (fun h0 => absurd h0 hne)⟩) ?_)
    · intro wa da
      have ka : Grew w' wa := da.keep
      have hna := hn.grew ka
      have hCa : C wa e := keepC hC ka fun b hb => hb.elim
      obtain ⟨Ga, hDa, hla, hGa⟩ := id hna
      obtain ⟨aa, na, ca, Ea, gqa, -, -, -⟩ := hla.row
      refine ⟨_, cell_at hCa.1 rfl, q, 0, rfl, _, cell_at gqa rfl, _, cell_at hCa.2.2 rfl, PC.ok (hna.on (fun Z hZ hd => hd.delete)) ?_⟩
      rintro _ wb ⟨rfl, hnb, kb⟩
      have hCb := keepZ hCa kb
      refine ⟨_, rfl, rfl, _, cell_at hCb.2.1 rfl, Ok.mk ?_⟩
      rw [hr]
      exact ⟨rfl, hnb.mono fun b hb => hzX hb, toX (hk.grew ka) kb⟩
    · rintro e' u' w7 ⟨rfl, rfl, hX⟩
      exact Lv.ret rfl hX
  intro w9 d9
  have k9 : Grew w8 w9 := d9.keep
  have hN9 := hN8.grew k9
  have C9 : C w9 0 := keepC C8 k9 fun b hb => hb.elim
  obtain ⟨G9, hD9, hl9, hG9⟩ := id hN9
  obtain ⟨a9, n9, c9, E9, gq9, -, -, -⟩ := hl9.row
  refine ⟨_, cell_at C9.1 rfl, q, 0, rfl, _, cell_at gq9 rfl, _, cell_at C9.2.2 rfl, PC.ok (hN9.on (fun Z hZ hd => hd.sync)) ?_⟩
  rintro _ w10 ⟨rfl, hN10, k10⟩
  have C10 := keepZ C9 k10
  have kX10 := toX (kX8.grew k9) k10
  have hB3 : begin3 V D8 = if (D8.sync (txt (segName V.next))).1 ≠ 0 then ((D8.sync (txt (segName V.next))).1, V, ((D8.sync (txt (segName V.next))).2.delete (txt (segName V.next))).2) else
      if (mfWrite (D8.sync (txt (segName V.next))).2 (V.segs ++ [V.next])).1 ≠ 0 then ((mfWrite (D8.sync (txt (segName V.next))).2 (V.segs ++ [V.next])).1, V, ((mfWrite (D8.sync (txt (segName V.next))).2 (V.segs ++ [V.next])).2.delete (txt (segName V.next))).2) else
      (0, ⟨V.size, V.segs ++ [V.next], 0, IntKind.wrap .i64 (V.next + 1)⟩, (mfWrite (D8.sync (txt (segName V.next))).2 (V.segs ++ [V.next])).2) := rfl
  rw [hB3]
  generalize hsy : D8.sync (txt (segName V.next)) = sy at hN10 ⊢
  obtain ⟨e10, D10⟩ := sy
  dsimp only at hN10
  refine ⟨_, rfl, PIf.neI (fun hne => ?_) (fun h0 => ?_)⟩
  · refine PS.mk C10.2.1 (by simp) fun w11 k11 s11 g11 => ?_
    rw [if_pos hne]
    exact leave _ D10 w11 (hN10.other k11 fun b hb => ⟨hb ▸ .inl (.inr (.inr rfl)), by omega⟩) (kX10.then (k11.mono fun b _ hb hx => by have := hXd b hx; omega)) ⟨k11.get C10.1 (by omega), g11, k11.get C10.2.2 (by have := kX3.size; omega)⟩ hne rfl
  rw [if_neg (by simpa using h0)]
  have hz10 : w4.heap.size < w10.heap.size := lt_of_get C10.2.2
  refine ⟨fun a n c w' => ∃ E, Lst cI64 3 E w' a n c (V.segs ++ [V.next]) ∧ (∀ b, E b → w10.heap.size ≤ b) ∧ Grew w10 w', ?_, ?_⟩
  · intro w11 d11
    have k11 : Grew w10 w11 := d11.keep
    have hN11 := hN10.grew k11
    have C11 : C w11 0 := keepC C10 k11 fun b hb => hb.elim
    obtain ⟨G11, hD11, hl11, hG11⟩ := id hN11
    obtain ⟨a11, n11, c11, E11, gq11, hr11, hE11, hn11⟩ := hl11.row
    have hq11 := hl11.dom q hl11.self
    have fin : ∀ {wa wb wc : World} {g : Nat} {a n c : _} {F : Nat → Prop}, Lst cI64 3 F wb a n c V.segs → (∀ b, F b → w11.heap.size ≤ b ∧ b ≠ g) → wb.heap[g]? = some (.cells #[.int .i64 V.next] 3 (0, 0)) → Grew w11 wb →
        ∀ κ ε, (∀ a' n' c' w', (∃ E, Lst cI64 3 E w' a' n' c' (V.segs ++ [V.next]) ∧ (∀ b, E b → w10.heap.size ≤ b) ∧ Grew w10 w') → Keep (fun b => w11.heap.size ≤ b) wb w' → κ (.slice a' n' c') w') →
        PRun Tryz.prog (Builtin.append_ #[37, 37] 37 #[.slice a n c, .slice (some ⟨g, 0, none⟩) 1 1]) wb κ ε := by
      intro wa wb wc g a n c F ho hF hg hk κ ε hκ
      refine appRow ho slI64 (D := (· = g)) (Row.lit hg [V.next] rfl (fun x hx => by simp at hx; subst hx; exact hnR) (by unfold Big; simp)) (fun b e => ⟨e ▸ lt_of_get hg, fun e2 => (hF b (ho.self b e2)).2 e⟩) (by unfold Big; simp; omega) (by unfold maxLen; simp; omega) fun a' c' w' F' ho' hk' _ hs' => ?_
      refine hκ a' _ c' w' ⟨fun b => blk a' = some b, ho'.alone, fun b hb => ?_, ?_⟩ (hk'.mono fun b _ hb => (hF b (ho.self b hb)).1)
      · have := k11.size; have := hk.size
        rcases hs' b hb with h | h
        · have := (hF b h).1; omega
        · omega
      · exact (k11.then hk).new hk' fun b hb => .inr (by have := (hF b (ho.self b hb)).1; have := k11.size; omega)
    have hzl : w.heap.size < w11.heap.size := lt_of_get C11.1
    refine ⟨fun b => w11.heap.size ≤ b, by omega, _, cell_at C11.1 rfl, q, 0, rfl, by omega, _, _, _, cell_at gq11 rfl, by omega, _, cell_at C11.1 rfl, q, 0, rfl, by omega, _, cell_at gq11 rfl, ?_, ?_⟩
    · refine PC.ok (slices_Clone_I hr11 fun b hb => hl11.dom b (hE11 b hb).1) ?_
      rintro _ w12 ⟨a12, n12, c12, F12, rfl, ho12, k12, hF12⟩
      refine ⟨_, _, _, rfl, k12.keep, PA.mk fun w13 k13 s13 g13 => ⟨k13.keep, fin (wa := w13) (wc := w13) (ho12.grew k13) (fun b hb => ⟨hF12 b hb, by have := ho12.dom b hb; omega⟩) g13 (k12.then k13) _ _ fun a' n' c' w' hJ hk => ⟨_, _, _, rfl, hk, trivial, hJ⟩⟩⟩
    · refine PA.mk fun w12 k12 s12 g12 => ⟨k12.keep, PC.ok (slices_Clone_I (hr11.grew k12) fun b hb => by have := hl11.dom b (hE11 b hb).1; have := k12.size; omega) ?_⟩
      rintro _ w13 ⟨a13, n13, c13, F13, rfl, ho13, k13, hF13⟩
      exact ⟨_, _, _, rfl, k13.keep, fin (wa := w13) (wc := w13) ho13 (fun b hb => ⟨by have := hF13 b hb; omega, by have := hF13 b hb; omega⟩) (k13.get g12 id) (k12.then k13) _ _ fun a' n' c' w' hJ hk => ⟨_, _, _, rfl, hk, trivial, hJ⟩⟩
  rintro a n c _ w11 ⟨E, ho, hE, k11⟩
  have hlen : (V.segs ++ [V.next]).length ≤ 65 := by simp; omega
  have hN11 : NLog w0 w11 p q V D10 (fun b => Z b ∨ E b) := hN10.add k11 fun b hb => ⟨hE b hb, ho.dom b hb⟩
  have C11 : C w11 0 := keepC C10 k11 fun b hb => hb.elim
  have hrow : Row cI64 8 w11 E a n (V.segs ++ [V.next]) := ho.row (by decide) (by unfold Big; omega)
  have hsegR : ∀ x ∈ V.segs ++ [V.next], I64 x := row_i64 hrow
  obtain ⟨G11, hD11, hl11, hG11⟩ := id hN11
  obtain ⟨a11, n11, c11, E11, gq11, -, -, -⟩ := hl11.row
  refine ⟨_, cell_at C11.1 rfl, q, 0, rfl, _, cell_at gq11 rfl, PC.ok (hN11.on fun Z' hZ' hd => hd.mfWrite hL.tabs hrow hsegR fun b hb => .inr (hZ' b (.inr hb))) ?_⟩
  rintro _ w12 ⟨rfl, hN12, k12⟩
  have k12Z : Keep (Not' Z) w11 w12 := k12.mono fun b _ hb hz => hb (.inl hz)
  have C12 := keepZ C11 k12Z
  have kX12 := toX (kX10.grew k11) k12Z
  have ho12 := ho.keep k12 fun b hb hn => hn (.inr hb)
  have hml := @mfWrite_long D10 (V.segs ++ [V.next])
  have hB4 : True := trivial
  generalize hmw : mfWrite D10 (V.segs ++ [V.next]) = mw at hN12 hml hB4 ⊢
  obtain ⟨e12, D12⟩ := mw
  dsimp only at hN12 hml hB4 ⊢
  refine ⟨_, rfl, PIf.neI (fun hne => ?_) (fun h0 => ?_)⟩
  · refine PS.mk C12.2.1 (by simp) fun w13 k13 s13 g13 => ?_
    rw [if_pos hne]
    have hN12' : NLog w0 w12 p q V D12 Z := hN12.mono fun b hb => .inl hb
    exact leave _ D12 w13 (hN12'.other k13 fun b hb => ⟨hb ▸ .inl (.inr (.inr rfl)), by omega⟩) (kX12.then (k13.mono fun b _ hb hx => by have := hXd b hx; omega)) ⟨k13.get C12.1 (by omega), g13, k13.get C12.2.2 (by have := kX3.size; omega)⟩ hne rfl
  rw [if_neg (by simpa using h0)]
  have hml := hml h0
  intro w13 d13
  have k13 : Grew w12 w13 := d13.keep
  have hN13 := hN12.grew k13
  have C13 : C w13 0 := keepC C12 k13 fun b hb => hb.elim
  have ho13 := ho12.grew k13
  obtain ⟨G13, hD13, hl13, hG13⟩ := id hN13
  obtain ⟨a13, n13, c13, E13, gq13, -, -, -⟩ := hl13.row
  have hEq : ∀ b, E b → b ≠ q := fun b hb e => by have := hE b hb; omega
  have hqw : q ≠ w.heap.size ∧ q ≠ w1.heap.size ∧ q ≠ w4.heap.size := by have := kX3.size; omega
  refine ⟨(· = q), _, cell_at C13.1 rfl, fun e => hqw.1 e.symm, _, cell_at C13.1 rfl, q, 0, rfl, PS.mk gq13 (by simp) fun w14 k14 s14 g14 => ⟨k14, q, 0, rfl, PS.mk g14 (by simp) fun w15 k15 s15 g15 => ⟨k15, ?_⟩⟩⟩
  have k1315 := k14.then k15
  have C15 : C w15 0 := keepC C13 k1315 fun b hb hc => by subst hb; omega
  refine ⟨_, cell_at C15.1 rfl, q, 0, rfl, _, cell_at g15 rfl, q, 0, rfl, PS.mk g15 (by simp) fun w16 k16 s16 g16 => ?_⟩
  have C16 : C w16 0 := keepC C15 k16 fun b hb hc => by subst hb; omega
  have k1316 : Keep (· = q) w13 w16 := k1315.then k16
  refine PS.mk C16.2.1 (by simp) fun w17 k17 s17 g17 => Lv.one (by simp) (by kernel_rfl) (CallsD.mono (LD_seglog_Log_begin_1 (R := fun e' w7 => e' = .returned (.tuple #[]) ∧ w7 = w17) ⟨_, cell_at g17 rfl, PIf.neI (fun hc => absurd rfl hc) (fun _ => ⟨rfl, rfl⟩)⟩) ?_)
  rintro e' u' _ ⟨rfl, rfl, rfl⟩
  refine Lv.ret rfl ⟨_, cell_at g17 rfl, Ok.mk ?_⟩
  have g16' : w16.heap[q]? = some (.cells #[.pointer (some ⟨p, 0, none⟩), .int .i64 V.size, .slice a n c, .int .i64 0, .int .i64 (IntKind.wrap .i64 (V.next + 1))] 83 (0, 0)) := g16
  have hnew : NLog w0 w16 p q ⟨V.size, V.segs ++ [V.next], 0, IntKind.wrap .i64 (V.next + 1)⟩ D12 Z := by
    refine ⟨fun b => b = q ∨ E b, ?_, ⟨⟨a, n, c, E, g16', ho13.keep k1316 fun b hb e => hEq b hb e, fun b hb => ⟨.inr hb, hEq b hb⟩⟩, .inl rfl, ?_, hml, ?_⟩, ?_⟩
    · have h1 : NDisk w0 w13 p D12 (fun b => Z b ∨ (b = q ∨ E b)) := hD13.mono fun b hb => by
        rcases hb with hb | hb | hb
        · exact .inl (.inl hb)
        · exact .inr (hb ▸ hl13.self)
        · exact .inl (.inr hb)
      obtain ⟨F, f1, f2, f3, f4⟩ := h1
      exact ⟨F, f1.keep k1316 fun b hb e => (f3 b hb).2 (.inr (.inl e)), f2.new k1316 fun b hb => .inr (by omega), f3, fun b hb => Nat.lt_of_lt_of_le (f4 b hb) k1316.size⟩
    · rintro b (rfl | hb)
      · exact lt_of_get g16
      · exact Nat.lt_of_lt_of_le (ho13.dom b hb) k1316.size
    · show I64 (IntKind.wrap .i64 (V.next + 1))
      exact i64_wrap _
    · rintro b (rfl | hb)
      · exact ⟨hq2, fun hz => by
          rcases hz with (hz | hz | hz) | hz
          · exact hq3 hz
          · omega
          · omega
          · omega⟩
      · have := hE b hb
        exact ⟨by have := hN10.gr.size; omega, fun hz => by have := hN10.dom b hz; omega⟩
  exact hXw hnew ((kX12.grew k13).then (k1316.mono fun b _ hb hx => hq3 (hb ▸ hx))) k17 rfl
end Go.Proofs.YtpbpjojdfcdbbaaGreatDoor

/- seglog: the segments of a manifest loaded; a log opened -/
namespace Go.Proofs.YtpbpjojdfcdbbaaGreatDoor
open Go.Lift
set_option linter.unusedVariables false
set_option maxRecDepth 20000

def segNm (no : Int) : ByteArray := txt (segName no)
structure Loaded where
  no : Int
  out : List EventV
  V : LogV
  D : DiskV
def loadGo : List Int → List EventV → LogV → DiskV → Loaded
  | [], out, V, D => ⟨0, out, V, D⟩
  | no :: l, out, V, D =>
    if (D.read (segNm no)).2 ≠ 0 then ⟨0, out, V, D⟩ else
    if (segLoad (D.read (segNm no)).1).2 < (D.read (segNm no)).1.length then
      ⟨(D.cutF (segNm no) (segLoad (D.read (segNm no)).1).2).1, out ++ (segLoad (D.read (segNm no)).1).1, ⟨V.size, V.segs ++ [no], (segLoad (D.read (segNm no)).1).2, V.next⟩, (D.cutF (segNm no) (segLoad (D.read (segNm no)).1).2).2⟩
    else loadGo l (out ++ (segLoad (D.read (segNm no)).1).1) ⟨V.size, V.segs ++ [no], (segLoad (D.read (segNm no)).1).2, V.next⟩ D

section
variable {w0 w w1 w' : World} {p q : Nat} {D D' : DiskV} {V V' : LogV} {X Y Z G S : Nat → Prop}
theorem NDisk.turn (h : NDisk w0 w p D X) (hk : Keep Y w w') (hY : ∀ b, Y b → X b ∧ w0.heap.size ≤ b) (hZ : ∀ b, Z b → (X b ∨ w.heap.size ≤ b) ∧ b < w'.heap.size) : NDisk w0 w' p D Z := by
  obtain ⟨F, h1, h2, h3, h4⟩ := h
  exact ⟨F, h1.keep hk fun b hb hy => (h3 b hb).2 (hY b hy).1, h2.new hk fun b hb => .inr (hY b hb).2, fun b hb => ⟨(h3 b hb).1, fun hz => (hZ b hz).1.elim (h3 b hb).2 fun h => by have := h1.dom b hb; omega⟩, fun b hb => (hZ b hb).2⟩
theorem NLog.turn (h : NLog w0 w p q V D X) (hk : Keep Y w w') (hY : ∀ b, Y b → X b ∧ w0.heap.size ≤ b) (hZ : ∀ b, Z b → (X b ∨ w.heap.size ≤ b) ∧ b < w'.heap.size) : NLog w0 w' p q V D Z := by
  obtain ⟨G, h1, h2, h3⟩ := h
  refine ⟨G, h1.turn hk (fun b hb => ⟨.inl (hY b hb).1, (hY b hb).2⟩) fun b hb => ?_, h2.keep hk fun b hb hy => (h3 b hb).2 (hY b hy).1, fun b hb => ⟨(h3 b hb).1, fun hz => (hZ b hz).1.elim (h3 b hb).2 fun h => by have := h2.dom b hb; omega⟩⟩
  rcases hb with hb | hb
  · exact ⟨(hZ b hb).1.imp .inl id, (hZ b hb).2⟩
  · exact ⟨.inl (.inr hb), Nat.lt_of_lt_of_le (h2.dom b hb) hk.size⟩

/-- one segment more -/
theorem log_push {no nb : Int} (h : NLog w0 w p q V D X) (hno : I64 no) (hlen : V.segs.length + 1 ≤ 64) {κ : World → Prop} {ε : Value → World → Prop}
    (hκ : ∀ w', NLog w0 w' p q ⟨V.size, V.segs ++ [no], nb, V.next⟩ D X → Keep (Not' X) w w' → κ w') :
    ∃ b39 o40, (some ⟨q, 0, none⟩ : Option Addr) = some ⟨b39, o40, none⟩ ∧ ∃ (a : Option Addr) (n c : Nat), w.cell? ⟨b39, o40 + 2, none⟩ = some (.slice a n c) ∧
      PA w (.cells #[.int .i64 no] 3) fun w42 => PRun Tryz.prog (Builtin.append_ #[37, 37] 37 #[.slice a n c, .slice (some ⟨w.heap.size, 0, none⟩) 1 1]) w42 (fun v43 w44 =>
        ∃ (a' : Option Addr) (n' c' : Nat), v43 = .slice a' n' c' ∧ ∃ b46 o47, (some ⟨q, 0, none⟩ : Option Addr) = some ⟨b46, o47, none⟩ ∧ PS w44 ⟨b46, o47 + 2, none⟩ (.slice a' n' c') fun w48 =>
          ∃ b49 o50, (some ⟨q, 0, none⟩ : Option Addr) = some ⟨b49, o50, none⟩ ∧ PS w48 ⟨b49, o50 + 3, none⟩ (.int .i64 nb) κ) ε := by
  obtain ⟨G, hD, hl, hG⟩ := id h
  obtain ⟨a, n, c, E, g, ho, hE⟩ := hl.body
  have hqlt := hl.dom q hl.self
  refine ⟨q, 0, rfl, _, _, _, cell_at g rfl, PA.mk fun w1 k1 s1 g1 => ?_⟩
  refine appRow (ho.grew k1) slI64 (D := (· = w.heap.size)) (Row.lit g1 [no] rfl (fun x hx => by simp at hx; subst hx; exact hno) (by unfold Big; simp)) (fun b e => ⟨by omega, fun e2 => by have := ho.dom b (ho.self b e2); omega⟩) (by unfold Big; simp; omega) (by unfold maxLen; simp; omega) fun a' c' w2 F' ho2 hk2 _ hs2 => ?_
  replace ho2 := ho2.alone
  have hbq : ¬ blk a = some q := fun e => (hE q (ho.self q e)).2 rfl
  have g2 := hk2.get (k1.get g id) hbq
  have z2 := hk2.size
  have hnq : ¬ blk a' = some q := fun e => by
    rcases hs2 q e with h | h
    · exact (hE q h).2 rfl
    · omega
  refine ⟨_, _, _, rfl, q, 0, rfl, PS.mk g2 (by simp) fun w3 k3 s3 g3 => ⟨q, 0, rfl, PS.mk g3 (by simp) fun w4 k4 s4 g4 => hκ w4 ?_ ?_⟩⟩
  · have k14 : Keep (fun b => blk a = some b ∨ b = q) w1 w4 := ((hk2.mono fun b _ hb => .inl hb).then (k3.mono fun b _ hb => .inr hb)).then (k4.mono fun b _ hb => .inr hb)
    have kG : Keep G w w4 := (Grew.keep k1).then (k14.mono fun b _ hb => hb.elim (fun h => (hE b (ho.self b h)).1) fun h => h ▸ hl.self)
    have hdom : ∀ b, blk a' = some b → b < w4.heap.size := fun b hb => by have := ho2.dom b hb; omega
    refine ⟨fun b => b = q ∨ blk a' = some b, hD.turn kG (fun b hb => ⟨.inr hb, (hG b hb).1⟩) fun b hb => ?_, ⟨⟨a', _, c', (fun b => blk a' = some b), g4, ?_, fun b hb => ⟨.inr hb, fun e => hnq (e ▸ hb)⟩⟩, .inl rfl, ?_, by simpa using hlen, hl.nextR⟩, ?_⟩
    · rcases hb with hb | rfl | hb
      · exact ⟨.inl (.inl hb), by have := h.dom b hb; omega⟩
      · exact ⟨.inl (.inr hl.self), by omega⟩
      · refine ⟨?_, hdom b hb⟩
        rcases hs2 b hb with h | h
        · exact .inl (.inr (hE b h).1)
        · exact .inr (by omega)
    · exact (ho2.keep k3 fun b hb e => hnq (e ▸ hb)).keep k4 fun b hb e => hnq (e ▸ hb)
    · rintro b (rfl | hb)
      · omega
      · exact hdom b hb
    · rintro b (rfl | hb)
      · exact hG _ hl.self
      · rcases hs2 b hb with h' | h'
        · exact hG b (hE b h').1
        · exact ⟨by have := h.gr.size; omega, fun hx => by have := h.dom b hx; omega⟩
  · refine (((Grew.keep k1).then (hk2.mono fun b _ hb => ?_)).then (k3.mono fun b _ hb => ?_)).then (k4.mono fun b _ hb => ?_)
    · exact (hG b (hE b (ho.self b hb)).1).2
    · exact (hG b (hb ▸ hl.self)).2
    · exact (hG b (hb ▸ hl.self)).2

theorem le64 {j x : Nat} (hj : j ≤ 64) (h : x ≤ j * 262144) : x ≤ 16777216 := by omega
/-- what load hands back -/
def LoadDid (w0 w : World) (p q : Nat) (X : Nat → Prop) (r : Loaded) (v : Value) (w' : World) : Prop :=
  ∃ a n c G, v = .tuple #[.slice a n c, .int .i64 r.no] ∧ Lst cEvO 39 G w' a n c r.out ∧ NLog w0 w' p q r.V r.D (fun b => X b ∨ G b) ∧ Keep (Not' X) w w' ∧ (∀ b, G b → w.heap.size ≤ b) ∧ r.out.length ≤ 16777216

theorem log_load {a : Option Addr} {n c : Nat} {l : List Int} {Dm : Nat → Prop} (hL : Laid w0) (h : NLog w0 w p q V D X) (hm : Row cI64 8 w Dm a n l) (hDm : ∀ b, Dm b → X b) (hlen : V.segs.length + l.length ≤ 64) :
    Calls Tryz.prog F_seglog_Log_load #[.pointer (some ⟨q, 0, none⟩), .agg #[.slice a n c]] w (Ok (LoadDid w0 w p q X (loadGo l [] V D))) := by
  have hn := hm.len
  have hXd := h.dom
  have hg0 := h.gr.size
  refine L_seglog_Log_load (PA.mk fun w1 k1 s1 g1 => ⟨_, _, _, cell_at g1 rfl, fun m oa on oc t w' => ∃ (j : Nat) (Vj : LogV) (out : List EventV) (G : Nat → Prop), t = j ∧ j ≤ l.length ∧ m = l.length - j ∧ loadGo l [] V D = loadGo (l.drop j) out Vj D ∧ Vj.segs.length = V.segs.length + j ∧ out.length ≤ j * 262144 ∧
    Lst cEvO 39 G w' oa on oc out ∧ NLog w0 w' p q Vj D (fun b => X b ∨ G b) ∧ Keep (Not' X) w w' ∧ ∀ b, G b → w.heap.size ≤ b,
    ⟨_, 0, V, [], fun _ => False, rfl, Nat.zero_le _, rfl, rfl, rfl, Nat.zero_le _, Lst.nil w1, (h.grew k1).mono fun b hb => hb.elim id fun h => h.elim, Grew.keep k1, fun _ h => h.elim⟩, ?_⟩)
  rintro m oa on oc t _ w2 ⟨j, Vj, out, G, rfl, hj, rfl, hgo, hVj, hout, ho, hN, kX, hG⟩
  rw [hgo]
  refine PIf.dec (fun hlt => ?_) (fun hge => ?_)
  rotate_left
  · obtain rfl : j = l.length := by omega
    rw [List.drop_of_length_le (Nat.le_refl _)]
    exact Ok.mk ⟨_, _, _, G, rfl, ho, hN, kX, hG, le64 (by omega) hout⟩
  obtain ⟨b, off, no, rfl, hx, hnoR, hc⟩ := (hm.keep kX fun b hb hn => hn (hDm b hb)).at1 (i := j) (by omega)
  have hdrop : l.drop j = no :: l.drop (j + 1) := by
    obtain ⟨hj2, rfl⟩ := List.getElem?_eq_some_iff.1 hx
    exact List.drop_eq_getElem_cons hj2
  rw [hdrop] at hgo ⊢
  refine ⟨b, off, rfl, by omega, by omega, no, hc, fun w3 d3 => ?_⟩
  have k3 : Grew w2 w3 := d3.keep
  have hN3 := hN.grew k3
  obtain ⟨G3, hD3, hl3, hG3⟩ := id hN3
  obtain ⟨a3, n3, c3, E3, gq3, -, -, -⟩ := hl3.row
  refine ⟨fun _ => False, q, 0, rfl, id, _, cell_at gq3 rfl, PC.ok (seg_Name (hL.grew hN3.gr) hnoR) ?_⟩
  rintro _ w4 ⟨rfl, k4⟩
  have hN4 := hN3.grew k4
  refine ⟨_, rfl, k4, PC.ok ((hD3.grew k4).read (k := segNm no)) ?_⟩
  rintro _ w5 ⟨a5, n5, c5, F5, rfl, ho5, hF5, -, k5⟩
  have hN5 := hN4.grew k5
  have k25 : Grew w2 w5 := (k3.then k4).then k5
  have hn5 := ho5.len (by decide)
  have hrl := read_len hN5.ok (segNm no)
  refine ⟨_, _, _, _, rfl, k5, PIf.neI (fun hne => ?_) (fun he => ?_)⟩
  · rw [show loadGo (no :: l.drop (j + 1)) out Vj D = ⟨0, out, Vj, D⟩ by unfold loadGo; rw [if_pos hne]]
    exact Ok.mk ⟨_, _, _, G, rfl, ho.grew k25, hN5, kX.grew k25, hG, le64 (by omega) hout⟩
  obtain ⟨G5, hD5, hl5, hG5⟩ := id hN5
  obtain ⟨a5', n5', c5', E5, gq5, -, -, -⟩ := hl5.row
  obtain ⟨F, hDk, -, -, -⟩ := id hD5
  refine ⟨q, 0, rfl, _, cell_at gq5 rfl, PC.ok (seg_Load (hL.grew hN5.gr) hDk hnoR) ?_⟩
  rintro _ w6 ⟨a6, n6, c6, F6, rfl, ho6, k6, hF6, hl6⟩
  have hN6 : NLog w0 w6 p q Vj D (fun b => (X b ∨ G b) ∨ F6 b) := hN5.add k6 fun b hb => ⟨hF6 b hb, ho6.dom b hb⟩
  have k26 := k25.then k6
  have hGd := ho.dom
  generalize hsl : segLoad (D.read (txt (segName no))).1 = sl at ho6 hl6
  obtain ⟨evs, nb⟩ := sl
  dsimp only at ho6 hl6
  have hsl' : segLoad (D.read (segNm no)).1 = (evs, nb) := hsl
  have ho6r : Row cEvO 96 w6 F6 a6 n6 evs := ho6.row (by decide) (by unfold Big; omega)
  refine ⟨_, _, _, _, rfl, appRow' (ho.grew k26) slEv ho6r (fun e => ho6.nil0 e) (fun b hb => ⟨ho6.dom b hb, fun hc => by have := hGd b (ho.self b hc); have := hF6 b hb; have := k25.size; omega⟩) (by unfold Big; omega) (by unfold maxLen; omega) fun a7 c7 w7 F7 ho7 hk7 hF7 _ => ?_⟩
  have z25 := k25.size; have z6 := k6.size
  have hF7d := ho7.dom
  have hN7 : NLog w0 w7 p q Vj D (fun b => X b ∨ F7 b) := hN6.turn hk7 (fun b hb => ⟨.inl (.inr (ho.self b hb)), by have := hG b (ho.self b hb); omega⟩) fun b hb => by
    rcases hb with hb | hb
    · exact ⟨.inl (.inl (.inl hb)), by have := hXd b hb; have := kX.size; have := hk7.size; omega⟩
    · refine ⟨?_, hF7d b hb⟩
      rcases hF7 b hb with h | h | h
      · exact .inl (.inl (.inr h))
      · exact .inl (.inr h)
      · exact .inr h
  have kX7 : Keep (Not' X) w w7 := (kX.grew k26).then (hk7.mono fun b _ hb hx => by have := hG b (ho.self b hb); have := hXd b hx; omega)
  have hG7 : ∀ b, F7 b → w.heap.size ≤ b := fun b hb => by
    have := kX.size
    rcases hF7 b hb with h | h | h
    · exact hG b h
    · have := hF6 b h; omega
    · omega
  refine ⟨_, _, _, rfl, log_push hN7 hnoR (by omega) fun w8 hN8 k8 => ?_⟩
  have kX8 : Keep (Not' X) w w8 := kX7.then (k8.mono fun b _ hb hx => hb (.inl hx))
  have ho8 := ho7.keep k8 fun b hb hn => hn (.inr hb)
  refine PIf.dec (fun hcut => ?_) (fun hall => ?_)
  · rw [show loadGo (no :: l.drop (j + 1)) out Vj D = ⟨(D.cutF (segNm no) nb).1, out ++ evs, ⟨Vj.size, Vj.segs ++ [no], nb, Vj.next⟩, (D.cutF (segNm no) nb).2⟩ by
      unfold loadGo; rw [hsl', if_neg (by simpa using he), if_pos (by show nb < _; omega)]]
    intro w9 d9
    have k9 : Grew w8 w9 := d9.keep
    have hN9 := hN8.grew k9
    obtain ⟨G9, hD9, hl9, hG9⟩ := id hN9
    obtain ⟨a9, n9, c9, E9, gq9, -, -, -⟩ := hl9.row
    refine ⟨fun b => b ≠ q, q, 0, rfl, fun hs => hs rfl, _, cell_at gq9 rfl, PC.ok (seg_Name (hL.grew hN9.gr) hnoR) ?_⟩
    rintro _ w10 ⟨rfl, k10⟩
    refine ⟨_, rfl, k10.keep, PC.ok ((hD9.grew k10).cutF (k := segNm no)) ?_⟩
    rintro _ w11 ⟨rfl, hD11, k11⟩
    have k11' : Keep (Not' X) w10 w11 := k11.mono fun b _ hb hx => hb (.inl (.inl hx))
    refine ⟨_, rfl, k11.mono fun b _ hb e => hb (.inr (e ▸ hl9.self)), Ok.mk ⟨_, _, _, F7, rfl, ?_, ⟨G9, hD11, (hl9.grew k10).keep k11 fun b hb hn => hn (.inr hb), hG9⟩, ((kX8.grew k9).grew k10).then k11', hG7, ?_⟩⟩
    · exact ((ho8.grew k9).grew k10).keep k11 fun b hb hn => hn (.inl (.inr hb))
    · exact le64 (j := j + 1) (by omega) (by simp; omega)
  · refine ⟨_, ?_, j + 1, ⟨Vj.size, Vj.segs ++ [no], nb, Vj.next⟩, out ++ evs, F7, wrap_succ (by omega), by omega, rfl, ?_, by simp; omega, by simp; omega, ho8, hN8, kX8, hG7⟩
    · omega
    · conv => lhs; unfold loadGo
      rw [hsl', if_neg (by simpa using he), if_neg (by show ¬ nb < _; omega)]
end
end Go.Proofs.YtpbpjojdfcdbbaaGreatDoor

/- seglog: a log opened; events laid -/
namespace Go.Proofs.YtpbpjojdfcdbbaaGreatDoor
open Go.Lift
set_option linter.unusedVariables false
set_option maxRecDepth 20000

def logStart (D : DiskV) (size : Int) : LogV := ⟨size, [], 0, nextV D⟩
def told (D : DiskV) : List Int := (mfTell D).getD []
/-- behind the loading: a first segment, or a manifest of what is there -/
def openEnd (m : Nat) (r : Loaded) : Loaded :=
  if r.no ≠ 0 then r else
  if r.V.segs = [] then ⟨(logBegin r.V r.D).1, r.out, (logBegin r.V r.D).2.1, (logBegin r.V r.D).2.2⟩ else
  if r.V.segs.length < m then ⟨(mfWrite r.D r.V.segs).1, r.out, r.V, (mfWrite r.D r.V.segs).2⟩ else r
def logOpen (D : DiskV) (size : Int) : Loaded := openEnd (told D).length (loadGo (told D) [] (logStart D size) D)

/-- what Open hands back -/
def OpenDid (w0 w : World) (p : Nat) (X : Nat → Prop) (r : Loaded) (v : Value) (w' : World) : Prop :=
  (r.no ≠ 0 ∧ v = .tuple #[.pointer none, .slice none 0 0, .int .i64 r.no] ∧ NDisk w0 w' p r.D X ∧ Keep (Not' X) w w') ∨
  (r.no = 0 ∧ ∃ q a n c G, v = .tuple #[.pointer (some ⟨q, 0, none⟩), .slice a n c, .int .i64 0] ∧ Lst cEvO 39 G w' a n c r.out ∧ NLog w0 w' p q r.V r.D (fun b => X b ∨ G b) ∧ Keep (Not' X) w w' ∧ (∀ b, G b → w.heap.size ≤ b) ∧ w.heap.size ≤ q ∧ r.out.length ≤ 16777216)

theorem log_Open {w0 w : World} {p : Nat} {D : DiskV} {X : Nat → Prop} {size : Int} (hL : Laid w0) (h : NDisk w0 w p D X) :
    Calls Tryz.prog F_seglog_Open #[.pointer (some ⟨p, 0, none⟩), .int .i64 size] w (Ok (OpenDid w0 w p X (logOpen D size))) := by
  have hXd : ∀ b, X b → b < w.heap.size := by obtain ⟨F, h1, h2, h3, h4⟩ := h; exact h4
  have hg0 := h.gr.size
  obtain ⟨F, hF, -, -, -⟩ := id h
  refine L_seglog_Open (PC.ok (seglog_next (hL.grew h.gr) hF) ?_)
  rintro _ w1 ⟨rfl, k1⟩
  have hD1 := h.grew k1
  have hnx := nextL_rng D.list
  refine ⟨_, rfl, PA.mk fun w2 k2 s2 g2 => PC.ok ((hD1.grew k2).mfRead hL.tabs) ?_⟩
  rintro _ w3 ⟨a3, n3, c3, F3, rfl, ho3, hF3, -, k3⟩
  have z1 := k1.size; have z3 := k3.size
  change Lst cI64 3 F3 w3 a3 n3 c3 (told D) at ho3
  have hml : (told D).length ≤ 64 := mfTell_le
  have k13 : Grew w1 w3 := k2.then k3
  refine ⟨_, _, _, _, rfl, PA.mk fun w4 k4 s4 g4 => PS.mk g4 (by simp) fun w5 k5 s5 g5 => ⟨_, _, _, cell_at g5 rfl, ?_⟩⟩
  have g5' : w5.heap[w3.heap.size]? = some (.cells #[.slice a3 n3 c3] 56 (0, 0)) := g5
  have k35 : Grew w3 w5 := k4.new k5 fun b hb => .inr (by omega)
  have k15 : Grew w1 w5 := k13.then k35
  have k05 : Grew w w5 := k1.then k15
  have gq5 := k35.get (k3.get g2 id) id
  have ho5 := ho3.grew k35
  /- the log -/
  let X5 : Nat → Prop := fun b => X b ∨ (F3 b ∨ b = w3.heap.size)
  have hN5 : NLog w0 w5 p w1.heap.size (logStart D size) D X5 := by
    refine ⟨(· = w1.heap.size), hD1.turn k15 (Y := fun _ => False) (fun b hb => hb.elim) fun b hb => ?_, ⟨⟨none, 0, 0, fun _ => False, gq5, Lst.nil w5, fun _ h => h.elim⟩, rfl, fun b hb => by omega, Nat.zero_le _, ?_⟩, fun b hb => ⟨by omega, fun hx => ?_⟩⟩
    · rcases hb with (hb | hb | hb) | hb
      · exact ⟨.inl hb, by have := hXd b hb; omega⟩
      · exact ⟨.inr (by have := hF3 b hb; omega), ho5.dom b hb⟩
      · exact ⟨.inr (by omega), by omega⟩
      · exact ⟨.inr (by omega), by omega⟩
    · show I64 (nextL D.list); unfold I64; omega
    · subst hb
      rcases hx with hx | hx | hx
      · have := hXd _ hx; omega
      · have := hF3 _ hx; omega
      · omega
  have hrow5 : Row cI64 8 w5 F3 a3 n3 (told D) := ho5.row (by decide) (by unfold Big; omega)
  refine PC.ok (log_load hL hN5 hrow5 (fun b hb => .inr (.inl hb)) (by show 0 + _ ≤ _; omega)) ?_
  rintro _ w6 ⟨a6, n6, c6, G6, rfl, ho6, hN6, k6, hG6, hl6⟩
  have z5 := k05.size
  have hq : w.heap.size ≤ w1.heap.size := z1
  have kX6 : Keep (Not' X) w w6 := (Grew.keep k05).then (k6.mono fun b _ hb hx => hb (.inl hx))
  have g6 := k6.get g5' fun hn => hn (.inr (.inr rfl))
  have hrow6 : Row cI64 8 w6 F3 a3 n3 (told D) := hrow5.keep k6 fun b hb hn => hn (.inr (.inl hb))
  have hn3 := hrow5.len
  show _
  unfold logOpen
  generalize loadGo (told D) [] (logStart D size) D = r at ho6 hN6 hl6
  have hG6' : ∀ b, G6 b → w.heap.size ≤ b := fun b hb => by have := hG6 b hb; omega
  refine ⟨_, _, _, _, rfl, fun no w' => ∃ V' D', openEnd (told D).length r = ⟨no, r.out, V', D'⟩ ∧ Lst cEvO 39 G6 w' a6 n6 c6 r.out ∧ NLog w0 w' p w1.heap.size V' D' (fun b => X b ∨ G6 b) ∧ Keep (Not' X) w w', ?_, ?_⟩
  · have toXG : ∀ {w' V' D'}, NLog w0 w' p w1.heap.size V' D' (fun b => X5 b ∨ G6 b) → NLog w0 w' p w1.heap.size V' D' (fun b => X b ∨ G6 b) := fun h => h.mono fun b hb => hb.imp .inl id
    refine PIf.neI (fun hne => ⟨r.V, r.D, by unfold openEnd; rw [if_pos hne], ho6, toXG hN6, kX6⟩) (fun h0 => ?_)
    obtain ⟨GL, hDL, hlL, hGL⟩ := id hN6
    obtain ⟨aL, nL, cL, EL, gL, hrL, hEL, hnL⟩ := hlL.row
    refine ⟨_, _, rfl, _, _, _, cell_at gL rfl, PIf.eqI (fun hz => ?_) (fun hnz => ?_)⟩
    · have he : r.V.segs = [] := List.eq_nil_of_length_eq_zero (by omega)
      refine PC.ok (log_begin hL hN6) ?_
      rintro _ w7 ⟨rfl, hN7, k7⟩
      exact ⟨_, rfl, _, _, by unfold openEnd; rw [if_neg (by simpa using h0), if_pos he], ho6.keep k7 fun b hb hn => hn (.inr hb), toXG hN7, kX6.then (k7.mono fun b _ hb hx => hb (.inl (.inl hx)))⟩
    · have hne : ¬ r.V.segs = [] := fun e => hnz (by rw [hnL, e]; rfl)
      refine ⟨_, _, rfl, _, _, _, cell_at gL rfl, _, _, _, cell_at g6 rfl, fun w7 d7 => ?_⟩
      have k7 : Grew w6 w7 := d7.keep
      have hN7 := hN6.grew k7
      have ho7 := ho6.grew k7
      have kX7 : Keep (Not' X) w w7 := kX6.grew k7
      refine PIf.dec (fun hlt => ?_) (fun hge => ⟨_, _, by unfold openEnd; rw [if_neg (by simpa using h0), if_neg hne, if_neg (by omega)], ho7, toXG hN7, kX7⟩)
      have gL7 := k7.get gL id
      refine ⟨_, _, rfl, _, _, _, cell_at gL7 rfl, PC.ok ((hDL.grew k7).mfWrite hL.tabs (hrL.grew k7) (row_i64 hrL) fun b hb => .inr (.inr (hEL b hb).1)) ?_⟩
      rintro _ w8 ⟨rfl, hD8, k8⟩
      have hN8 : NLog w0 w8 p w1.heap.size r.V (mfWrite r.D r.V.segs).2 (fun b => X5 b ∨ G6 b) := ⟨GL, hD8, (hlL.grew k7).keep k8 fun b hb hn => hn (.inr hb), hGL⟩
      exact ⟨_, rfl, _, _, by unfold openEnd; rw [if_neg (by simpa using h0), if_neg hne, if_pos (by omega)], ho7.keep k8 fun b hb hn => hn (.inl (.inr hb)), toXG hN8, kX7.then (k8.mono fun b _ hb hx => hb (.inl (.inl (.inl hx))))⟩
  · rintro no _ w7 ⟨V', D', he, ho7, hN7, kX7⟩
    rw [he]
    refine PIf.neI (fun hne => Ok.mk (.inl ⟨hne, rfl, hN7.disk.mono fun b hb => .inl hb, kX7⟩)) (fun h0 => Ok.mk (.inr ⟨h0, w1.heap.size, a6, n6, c6, G6, by rfl, ho7, hN7, kX7, hG6', hq, hl6⟩))
end Go.Proofs.YtpbpjojdfcdbbaaGreatDoor

/- seglog: events laid -/
namespace Go.Proofs.YtpbpjojdfcdbbaaGreatDoor
open Go.Lift
set_option linter.unusedVariables false
set_option maxRecDepth 20000

def tooLong (e : EventV) : Bool := decide (64 < e.deps.length)
def logAppend (V : LogV) (D : DiskV) (l : List EventV) : Int × LogV × DiskV :=
  if l.any tooLong then (3, V, D) else if l = [] then (0, V, D) else
  let r := if V.size ≤ V.bytes then logBegin V D else (0, V, D)
  if r.1 ≠ 0 then r else
  let a := r.2.2.append r.2.1.last (evFrs l)
  if a.1 ≠ 0 then (a.1, r.2.1, a.2) else (0, ⟨r.2.1.size, r.2.1.segs, IntKind.wrap .i64 (r.2.1.bytes + ((evFrs l).length : Nat)), r.2.1.next⟩, a.2)

theorem logBegin_segs {V : LogV} {D : DiskV} (h : (logBegin V D).1 = 0) : (logBegin V D).2.1.segs ≠ [] := by
  have h3 : ∀ E : DiskV, (begin3 V E).1 = 0 → (begin3 V E).2.1.segs ≠ [] := by
    intro E
    unfold begin3
    dsimp only
    split
    · rename_i hne; intro h; exact absurd h hne
    · split
      · rename_i hne; intro h; exact absurd h hne
      · intro _; simp
  have h2 : ∀ E : DiskV, (begin2 V E).1 = 0 → (begin2 V E).2.1.segs ≠ [] := by
    intro E
    unfold begin2
    dsimp only
    split
    · rename_i hne; intro h; exact absurd h hne
    · exact h3 _
  revert h
  unfold logBegin
  dsimp only
  split
  · exact h2 D
  · split
    · rename_i hne; intro h; exact absurd h hne
    · exact h2 _

theorem evFr_le {e : EventV} (he : e.Ok) (hd : e.deps.length ≤ 64) : (evFr e).length ≤ 675 := by
  have := ev_le he hd
  have h2 := segFrame_ok he hd
  unfold evFr at *
  rw [frBytes_length]
  omega
theorem evFrs_snoc (l : List EventV) (e : EventV) : evFrs (l ++ [e]) = evFrs l ++ evFr e := by simp [evFrs]

theorem log_Append {w0 w : World} {p q : Nat} {V : LogV} {D : DiskV} {X De : Nat → Prop} {a : Option Addr} {n c : Nat} {l : List EventV} (hL : Laid w0) (h : NLog w0 w p q V D X) (hne : V.segs ≠ []) (hr : Row cEv 96 w De a n l) (hDe : ∀ b, De b → b < w.heap.size) (hl : l.length ≤ 1000) :
    Calls Tryz.prog F_seglog_Log_Append #[.pointer (some ⟨q, 0, none⟩), .slice a n c] w (Ok (Does3 w0 w p q X (logAppend V D l))) := by
  have hn := hr.len
  have hXd := h.dom
  refine L_seglog_Log_Append ⟨fun m ba bn bc t w' => ∃ (j : Nat) (F : Nat → Prop), t = j ∧ j ≤ n ∧ m = n - j ∧ (∀ e ∈ l.take j, e.Ok ∧ e.deps.length ≤ 64) ∧ (evFrs (l.take j)).length ≤ 675 * j ∧ Lst cU8 5 F w' ba bn bc (evFrs (l.take j)) ∧ Grew w w' ∧ ∀ b, F b → w.heap.size ≤ b,
    ⟨_, 0, fun _ => False, rfl, Nat.zero_le _, rfl, by simp, by simp [evFrs], Lst.nil w, Keep.refl _, fun _ h => h.elim⟩, ?_⟩
  rintro m ba bn bc t _ w1 ⟨j, F, rfl, hj, rfl, hok, hfl, ho, k1, hF⟩
  have hbn := ho.len (by decide)
  refine PIf.dec (fun hlt => ?_) (fun hge => ?_)
  · obtain ⟨b, off, e, es, rfl, _, _, hx, hc, a1, n1, c1, rfl, hd, heok⟩ := (hr.grew k1).atN (i := j) (by omega)
    have e1 := fun i (hi : i < 10) => hc i hi
    refine ⟨b, off, rfl, by omega, by omega, _, _, _, _, _, _, _, _, _, _, _, _, e1 0 (by decide), e1 1 (by decide), e1 2 (by decide), e1 3 (by decide), e1 4 (by decide), e1 5 (by decide), e1 6 (by decide), e1 7 (by decide), e1 8 (by decide), e1 9 (by decide), PA.mk fun w2 k2 s2 g2 => ?_⟩
    refine storeAll (evCells e a1 n1 c1) g2 rfl fun w3 k3 s3 g3 => ?_
    have k13 : Grew w1 w3 := k2.new k3 fun b hb => .inr (by omega)
    refine ⟨_, _, _, _, _, _, _, _, _, _, _, _, cell_at g3 rfl, cell_at g3 rfl, cell_at g3 rfl, cell_at g3 rfl, cell_at g3 rfl, cell_at g3 rfl, cell_at g3 rfl, cell_at g3 rfl, cell_at g3 rfl, cell_at g3 rfl, ?_⟩
    refine PC.ok (seg_Frame (hL.grew ((h.gr.then k1).then k13)) (hd.grew k13) heok fun b hb => by have := hDe b hb; have := (k1.then k13).size; omega) ?_
    rintro _ w4 ⟨a4, n4, c4, F4, rfl, ho4, k4, hF4⟩
    by_cases hd64 : e.deps.length ≤ 64
    · have hsf := segFrame_ok heok hd64
      rw [hsf] at ho4 ⊢
      have hel := evFr_le heok hd64
      refine ⟨_, _, _, _, rfl, PIf.neI (fun hc => absurd rfl hc) (fun _ => ?_)⟩
      have k14 := k13.then k4
      have ho4r : Row cU8 1 w4 F4 a4 n4 (evFr e) := ho4.row (bytes := 1) (by decide) (by unfold Big; dsimp only; omega)
      have z14 := k14.size; have z13 := k13.size
      refine appRow' (ho.grew k14) slU8 ho4r (fun e => ho4.nil0 e) (fun b hb => ⟨ho4.dom b hb, fun hc => by have := ho.dom b (ho.self b hc); have := hF4 b hb; omega⟩) (by unfold Big; omega) (by unfold maxLen; omega) fun a5 c5 w5 F5 ho5 hk5 hF5 _ => ?_
      have htk : l.take (j + 1) = l.take j ++ [e] := by rw [List.take_add_one, hx]; rfl
      refine ⟨_, _, _, rfl, n - (j + 1), by omega, j + 1, F5, wrap_succ (by omega), by omega, rfl, ?_, ?_, ?_, (k1.then k14).new hk5 fun b hb => .inr (by have := hF b (ho.self b hb); omega), ?_⟩
      · rw [htk]
        intro x hx'
        rcases List.mem_append.1 hx' with h' | h'
        · exact hok x h'
        · simp at h'; subst h'; exact ⟨heok, hd64⟩
      · rw [htk, evFrs_snoc]; simp; omega
      · rw [htk, evFrs_snoc]; exact ho5
      · intro b hb
        have := k1.size
        rcases hF5 b hb with h' | h' | h'
        · exact hF b h'
        · have := hF4 b h'; omega
        · omega
    · have hsf := segFrame_no hd64
      rw [hsf] at ho4 ⊢
      refine ⟨_, _, _, _, rfl, PIf.neI (fun _ => ?_) (fun hc => absurd hc (by decide))⟩
      have hany : l.any tooLong = true := List.any_eq_true.2 ⟨e, List.mem_of_getElem? hx, by unfold tooLong; simp; omega⟩
      refine Ok.mk ?_
      rw [show logAppend V D l = (3, V, D) by unfold logAppend; rw [if_pos hany]]
      have k04 := (k1.then k13).then k4
      exact ⟨rfl, h.grew k04, Grew.keep k04⟩
  · obtain rfl : j = n := by omega
    rw [List.take_of_length_le (by omega)] at hok hfl ho hbn
    have hno : l.any tooLong = false := by
      rw [← Bool.not_eq_true]
      intro hc
      obtain ⟨e, he, h2⟩ := List.any_eq_true.1 hc
      have := (hok e he).2
      unfold tooLong at h2
      simp at h2
      omega
    refine PIf.eqI (fun hz => ?_) (fun hnz => ?_)
    · have he : l = [] := List.eq_nil_of_length_eq_zero (by omega)
      refine Ok.mk ?_
      rw [show logAppend V D l = (0, V, D) by unfold logAppend; rw [if_neg (by simp [hno]), if_pos he]]
      exact ⟨rfl, h.grew k1, Grew.keep k1⟩
    have hle : l ≠ [] := fun e => hnz (by rw [hn, e]; rfl)
    let X1 : Nat → Prop := fun b => X b ∨ F b
    have hN1 : NLog w0 w1 p q V D X1 := h.add k1 fun b hb => ⟨hF b hb, ho.dom b hb⟩
    have hApp : logAppend V D l = if (if V.size ≤ V.bytes then logBegin V D else (0, V, D)).1 ≠ 0 then (if V.size ≤ V.bytes then logBegin V D else (0, V, D)) else
        if ((if V.size ≤ V.bytes then logBegin V D else (0, V, D)).2.2.append (if V.size ≤ V.bytes then logBegin V D else (0, V, D)).2.1.last (evFrs l)).1 ≠ 0 then (((if V.size ≤ V.bytes then logBegin V D else (0, V, D)).2.2.append (if V.size ≤ V.bytes then logBegin V D else (0, V, D)).2.1.last (evFrs l)).1, (if V.size ≤ V.bytes then logBegin V D else (0, V, D)).2.1, ((if V.size ≤ V.bytes then logBegin V D else (0, V, D)).2.2.append (if V.size ≤ V.bytes then logBegin V D else (0, V, D)).2.1.last (evFrs l)).2)
        else (0, ⟨(if V.size ≤ V.bytes then logBegin V D else (0, V, D)).2.1.size, (if V.size ≤ V.bytes then logBegin V D else (0, V, D)).2.1.segs, IntKind.wrap .i64 ((if V.size ≤ V.bytes then logBegin V D else (0, V, D)).2.1.bytes + ((evFrs l).length : Nat)), (if V.size ≤ V.bytes then logBegin V D else (0, V, D)).2.1.next⟩, ((if V.size ≤ V.bytes then logBegin V D else (0, V, D)).2.2.append (if V.size ≤ V.bytes then logBegin V D else (0, V, D)).2.1.last (evFrs l)).2) := by
      unfold logAppend; rw [if_neg (by simp [hno]), if_neg hle]
    obtain ⟨GL, hDL, hlL, hGL⟩ := id hN1
    obtain ⟨aL, nL, cL, EL, gL, hrL, hEL, hnL⟩ := hlL.row
    rw [hApp]
    refine ⟨fun w' => ∃ V' D', (if V.size ≤ V.bytes then logBegin V D else (0, V, D)) = (0, V', D') ∧ V'.segs ≠ [] ∧ NLog w0 w' p q V' D' X1 ∧ Keep (Not' X) w w' ∧ Lst cU8 5 F w' ba bn bc (evFrs l), ?_, ?_⟩
    · refine ⟨q, 0, rfl, _, cell_at gL rfl, q, 0, rfl, _, cell_at gL rfl, fun w2 d2 => ?_⟩
      have k2 : Grew w1 w2 := d2.keep
      have hN2 := hN1.grew k2
      have ho2 := ho.grew k2
      have kX2 : Keep (Not' X) w w2 := Grew.keep (k1.then k2)
      refine PIf.dec (fun hge => ?_) (fun hlt => ⟨V, D, by rw [if_neg (by omega)], hne, hN2, kX2, ho2⟩)
      refine PC.ok (log_begin hL hN2) ?_
      rintro _ w3 ⟨rfl, hN3, k3⟩
      have kX3 : Keep (Not' X) w w3 := kX2.then (k3.mono fun b _ hb hx => hb (.inl hx))
      have hcond : (if V.size ≤ V.bytes then logBegin V D else (0, V, D)) = logBegin V D := if_pos (by omega)
      rw [hcond]
      refine ⟨_, rfl, PIf.neI (fun hne2 => ?_) (fun h0 => ⟨_, _, by rw [← h0], logBegin_segs h0, hN3, kX3, ho2.keep k3 fun b hb hn => hn (.inr hb)⟩)⟩
      rw [if_pos hne2]
      exact Ok.mk ⟨rfl, hN3.mono fun b hb => .inl hb, kX3⟩
    · rintro _ w2 ⟨V', D', hcond, hne', hN2, kX2, ho2⟩ w3 d3
      rw [hcond]
      have k3 : Grew w2 w3 := d3.keep
      have hN3 := hN2.grew k3
      have ho3 := ho2.grew k3
      obtain ⟨G3, hD3, hl3, hG3⟩ := id hN3
      obtain ⟨a3, n3, c3, E3, gq3, -, -, -⟩ := hl3.row
      refine ⟨fun b => b ≠ q, q, 0, rfl, fun hs => hs rfl, _, cell_at gq3 rfl, PC.ok (log_name (hL.grew hN3.gr) hl3 hne') ?_⟩
      rintro _ w4 ⟨rfl, k4⟩
      have ho4 := ho3.grew k4
      have hr4 : Row cU8 1 w4 F ba bn (evFrs l) := ho4.row (bytes := 1) (by decide) (by unfold Big; omega)
      refine ⟨_, rfl, k4.keep, PC.ok ((hD3.grew k4).append hr4 (fun e => ho4.nil0 e) fun b hb => .inr (.inl (.inr hb))) ?_⟩
      rintro _ w5 ⟨rfl, hD5, k5⟩
      have hl5 := (hl3.grew k4).keep k5 fun b hb hn => hn (.inr hb)
      have kX5 : Keep (Not' X) w w5 := ((kX2.grew k3).grew k4).then (k5.mono fun b _ hb hx => hb (.inl (.inl hx)))
      refine ⟨_, rfl, k5.mono fun b _ hb e => hb (.inr (e ▸ hl3.self)), ?_⟩
      rw [if_neg (fun hc : ((0, V', D') : Int × LogV × DiskV).1 ≠ 0 => hc rfl)]
      refine PIf.neI (fun hne2 => ?_) (fun h0 => ?_)
      · rw [if_pos hne2]
        exact Ok.mk ⟨rfl, NLog.mono (X := X1) ⟨G3, hD5, hl5, hG3⟩ fun b hb => .inl hb, kX5⟩
      · rw [if_neg (by simpa using h0)]
        obtain ⟨a5, n5, c5, E5, gq5, ho5, hE5⟩ := hl5.body
        refine ⟨q, 0, rfl, _, cell_at gq5 rfl, q, 0, rfl, PS.mk gq5 (by simp) fun w6 k6 s6 g6 => Ok.mk ⟨rfl, ?_, kX5.then (k6.mono fun b _ hb hx => (hG3 b (hb ▸ hl5.self)).2 (.inl hx))⟩⟩
        rw [hbn] at g6
        refine NLog.mono (X := X1) ⟨G3, hD5.turn k6 (fun b hb => ⟨.inr (hb ▸ hl5.self), (hG3 b (hb ▸ hl5.self)).1⟩) (fun b hb => ⟨.inl hb, by have := (hb.elim (NLog.dom (X := X1) ⟨G3, hD5, hl5, hG3⟩ b) (hl5.dom b) : b < w5.heap.size); omega⟩), ⟨⟨a5, n5, c5, E5, g6, ho5.keep k6 fun b hb e => (hE5 b hb).2 e, hE5⟩, hl5.self, fun b hb => by have := hl5.dom b hb; omega, hl5.many, hl5.nextR⟩, hG3⟩ fun b hb => .inl hb
end Go.Proofs.YtpbpjojdfcdbbaaGreatDoor

/- disks, in plain Lean: what each call does to the files; without a fuse, what it answers -/
namespace Go.Proofs.YtpbpjojdfcdbbaaGreatDoor
open Go.Lift
set_option linter.unusedVariables false
set_option maxRecDepth 20000

def fullF (b : List UInt8) : FileV := ⟨b, b.length, true⟩

/-- no fuse burns -/
structure Alive (D : DiskV) : Prop where
  dead : D.dead = false
  fused : D.fused = false

section
variable {D E : DiskV} {k : ByteArray} {l : List Int}
theorem op_cases (D : DiskV) (body : DiskV → Int × DiskV) : D.op body = (15, D.gone) ∨ D.op body = body D.armed := by
  unfold DiskV.op
  split
  · exact .inl rfl
  · exact .inr rfl
theorem Alive.op (h : Alive D) (body : DiskV → Int × DiskV) : D.op body = body D := by
  unfold DiskV.op DiskV.dies DiskV.armed
  rw [h.dead, h.fused]
  rfl
theorem Alive.same (h : Alive D) (h1 : E.dead = D.dead) (h2 : E.fused = D.fused) : Alive E := ⟨h1.trans h.dead, h2.trans h.fused⟩
theorem cut_full (f : FileV) : f.cut f.bytes.length = fullF f.bytes := by
  have hcl : clampN (f.bytes.length : Int) f.bytes.length = f.bytes.length := by unfold clampN; omega
  simp [FileV.cut, hcl, fullF]

theorem create_eff (D : DiskV) (k : ByteArray) : ((D.create k).1 ≠ 0 ∧ (D.create k).2.files = D.files) ∨ ((D.create k).1 = 0 ∧ isNameV k = true ∧ aget D.files k = none ∧ (D.create k).2.files = aput D.files k ⟨[], 0, false⟩) := by
  unfold DiskV.create
  rcases op_cases D fun D => if isNameV k then (if (aget D.files k).isSome then (16, D) else if 64 ≤ D.files.length then (12, D) else (0, D.setF k ⟨[], 0, false⟩)) else (1, D) with h | h
  · rw [h]; exact .inl ⟨by simp, rfl⟩
  · rw [h]
    have hf := armed_files D
    split
    · rename_i hn
      split
      · exact .inl ⟨by simp, hf⟩
      · split
        · exact .inl ⟨by simp, hf⟩
        · rename_i hs _
          refine .inr ⟨rfl, hn, ?_, ?_⟩
          · rw [← hf]; simpa using hs
          · show aput D.armed.files k _ = _; rw [hf]
    · exact .inl ⟨by simp, hf⟩
theorem Alive.create (h : Alive D) (k : ByteArray) : Alive (D.create k).2 ∧ (isNameV k = true → aget D.files k = none → (D.create k).1 = 0 ∨ (D.create k).1 = 12) := by
  unfold DiskV.create
  rw [h.op]
  split
  · split
    · rename_i h1 h2; exact ⟨h, fun _ hn => by rw [hn] at h2; cases h2⟩
    · split
      · exact ⟨h, fun _ _ => .inr rfl⟩
      · exact ⟨h.same rfl rfl, fun _ _ => .inl rfl⟩
  · rename_i hn; exact ⟨h, fun hc => absurd hc hn⟩

theorem on_cases (D : DiskV) (k : ByteArray) (body : DiskV → FileV → Int × DiskV) : ((D.op (DiskV.onF k body)).1 ≠ 0 ∧ (D.op (DiskV.onF k body)).2.files = D.files) ∨ ∃ f, aget D.files k = some f ∧ D.op (DiskV.onF k body) = body D.armed f := by
  rcases op_cases D (DiskV.onF k body) with h | h
  · rw [h]; exact .inl ⟨by simp, rfl⟩
  · rw [h]
    unfold DiskV.onF
    rw [armed_files]
    split
    · exact .inl ⟨by simp, armed_files D⟩
    · rename_i f hf; exact .inr ⟨f, hf, rfl⟩
theorem Alive.on (h : Alive D) {f : FileV} (hf : aget D.files k = some f) (body : DiskV → FileV → Int × DiskV) : D.op (DiskV.onF k body) = body D f := by
  rw [h.op]; unfold DiskV.onF; rw [hf]
theorem Alive.onA (h : Alive D) {body : DiskV → FileV → Int × DiskV} (hb : ∀ f, Alive (body D f).2) : Alive (D.op (DiskV.onF k body)).2 := by
  rw [h.op]
  unfold DiskV.onF
  split
  · exact h
  · exact hb _

theorem append_eff (D : DiskV) (k : ByteArray) (b : List UInt8) : ((D.append k b).1 ≠ 0 ∧ (D.append k b).2.files = D.files) ∨ ((D.append k b).1 = 0 ∧ ∃ f, aget D.files k = some f ∧ (D.append k b).2.files = aput D.files k { f with bytes := f.bytes ++ b }) := by
  unfold DiskV.append
  rcases on_cases D k fun D f => if (b.length : Int) > D.room then (12, D) else (0, D.setF k { f with bytes := f.bytes ++ b }) with h | ⟨f, hf, h⟩
  · exact .inl h
  · rw [h]
    split
    · exact .inl ⟨by simp, armed_files D⟩
    · exact .inr ⟨rfl, f, hf, by show aput D.armed.files k _ = _; rw [armed_files]⟩
theorem Alive.append (h : Alive D) (k : ByteArray) (b : List UInt8) : Alive (D.append k b).2 ∧ ∀ f, aget D.files k = some f → (D.append k b).1 = 0 ∨ (D.append k b).1 = 12 := by
  refine ⟨?_, fun f hf => ?_⟩
  · unfold DiskV.append
    refine h.onA fun f => ?_
    split
    · exact h
    · exact h.same rfl rfl
  · unfold DiskV.append
    rw [h.on hf]
    split
    · exact .inr rfl
    · exact .inl rfl
theorem sync_eff (D : DiskV) (k : ByteArray) : ((D.sync k).1 ≠ 0 ∧ (D.sync k).2.files = D.files) ∨ ((D.sync k).1 = 0 ∧ ∃ f, aget D.files k = some f ∧ (D.sync k).2.files = aput D.files k (fullF f.bytes)) := by
  unfold DiskV.sync
  rcases on_cases D k fun D f => (0, D.setF k (f.cut f.bytes.length)) with h | ⟨f, hf, h⟩
  · exact .inl h
  · rw [h, cut_full]; exact .inr ⟨rfl, f, hf, by show aput D.armed.files k _ = _; rw [armed_files]⟩
theorem Alive.sync (h : Alive D) (k : ByteArray) : Alive (D.sync k).2 ∧ ∀ f, aget D.files k = some f → (D.sync k).1 = 0 := by
  refine ⟨?_, fun f hf => ?_⟩
  · unfold DiskV.sync; exact h.onA fun f => h.same rfl rfl
  · unfold DiskV.sync; rw [h.on hf]
theorem Alive.cutF (h : Alive D) {f : FileV} (hf : aget D.files k = some f) (n : Int) : (D.cutF k n).1 = 0 ∧ (D.cutF k n).2 = D.setF k (f.cut n) ∧ Alive (D.cutF k n).2 := by
  unfold DiskV.cutF; rw [h.on hf]; exact ⟨rfl, rfl, h.same rfl rfl⟩
theorem delete_eff (D : DiskV) (k : ByteArray) : (D.delete k).2.files = D.files ∨ (D.delete k).2.files = adel D.files k := by
  unfold DiskV.delete
  rcases on_cases D k fun D f => (0, D.delF k) with h | ⟨f, hf, h⟩
  · exact .inl h.2
  · rw [h]; exact .inr (by show adel D.armed.files k = _; rw [armed_files])
theorem Alive.delete (h : Alive D) (k : ByteArray) : Alive (D.delete k).2 ∧ ((D.delete k).2.files = adel D.files k ∨ (aget D.files k = none ∧ (D.delete k).2.files = D.files)) := by
  unfold DiskV.delete
  refine ⟨h.onA fun f => h.same rfl rfl, ?_⟩
  rw [h.op]
  unfold DiskV.onF
  split
  · rename_i hn; exact .inr ⟨hn, rfl⟩
  · exact .inl rfl

/-- two disks' files, but for one's -/
def But (k : ByteArray) (D E : DiskV) : Prop := Tidy E.files ∧ ∀ x, x ≠ k → aget E.files x = aget D.files x
theorem But.refl (ht : Tidy D.files) : But k D D := ⟨ht, fun _ _ => rfl⟩
theorem But.of (h : But k D E) {F : DiskV} (hf : F.files = E.files) : But k D F := ⟨by rw [hf]; exact h.1, fun x hx => by rw [hf]; exact h.2 x hx⟩
theorem But.put (h : But k D E) {F : DiskV} {f : FileV} (hf : F.files = aput E.files k f) : But k D F := ⟨by rw [hf]; exact h.1.aput _ _, fun x hx => by rw [hf, aget_aput, if_neg (by simpa using hx)]; exact h.2 x hx⟩
theorem But.del (h : But k D E) {F : DiskV} (hf : F.files = adel E.files k) : But k D F := ⟨by rw [hf]; exact h.1.adel _, fun x hx => by rw [hf, aget_adel h.1, if_neg (by simpa using hx)]; exact h.2 x hx⟩
theorem But.clean (h : But mTemp D E) : But mTemp D (cleanV E).2 := by
  unfold cleanV
  split
  · rcases delete_eff E mTemp with e | e
    · exact h.of e
    · exact h.del e
  · exact h
theorem tn' : mTemp ≠ mName := fun h => by have := tn; rw [h] at this; simp at this

/-- what a writing of a manifest leaves: nothing of it, or all -/
def MfQ (D : DiskV) (l : List Int) (r : Int × DiskV) : Prop := (r.1 ≠ 0 ∧ But mTemp D r.2) ∨
    (r.1 = 0 ∧ l.length ≤ 64 ∧ Tidy r.2.files ∧ aget r.2.files mName = some (fullF (mfBytes l)) ∧ ∀ x, x ≠ mTemp → x ≠ mName → aget r.2.files x = aget D.files x)
theorem MfQ.step {i k : Nat} {r : Int × DiskV} (hr : mStep l i E = r) (h1 : r.1 ≠ 0 → But mTemp D r.2) (h2 : r.1 = 0 → MfQ D l (mRun l (i + 1) k r.2)) : MfQ D l (mRun l i (k + 1) E) := by
  rw [mRun, hr]
  split
  · rename_i e; exact .inl ⟨e, (h1 e).clean⟩
  · rename_i e; exact h2 (by simpa using e)
/-- ALL OR NOTHING -/
theorem mf_eff (ht : Tidy D.files) (l : List Int) : MfQ D l (mfWrite D l) := by
  unfold mfWrite
  split
  · exact .inl ⟨by simp, But.refl ht⟩
  rename_i hlen
  have h1 : But mTemp D (cleanV D).2 := (But.refl ht).clean
  refine MfQ.step (r := cleanV D) rfl (fun _ => h1) fun _ => ?_
  generalize (cleanV D).2 = D1 at h1
  have c2 := create_eff D1 mTemp
  refine MfQ.step (r := D1.create mTemp) rfl (fun e => ?_) fun e2 => ?_
  · rcases c2 with c2 | c2
    · exact h1.of c2.2
    · exact absurd c2.1 e
  rcases c2 with c2 | ⟨_, _, _, c2⟩
  · exact absurd e2 c2.1
  have h2 : But mTemp D (D1.create mTemp).2 := h1.put c2
  have t2 : aget (D1.create mTemp).2.files mTemp = some ⟨[], 0, false⟩ := by rw [c2, aget_aput]; simp
  generalize (D1.create mTemp).2 = D2 at h2 t2
  have c3 := append_eff D2 mTemp (mfBytes l)
  refine MfQ.step (r := D2.append mTemp (mfBytes l)) rfl (fun e => ?_) fun e3 => ?_
  · rcases c3 with c3 | c3
    · exact h2.of c3.2
    · exact absurd c3.1 e
  rcases c3 with c3 | ⟨_, f, hf, c3⟩
  · exact absurd e3 c3.1
  rw [t2] at hf; cases hf
  have h3 : But mTemp D (D2.append mTemp (mfBytes l)).2 := h2.put c3
  have t3 : aget (D2.append mTemp (mfBytes l)).2.files mTemp = some ⟨mfBytes l, 0, false⟩ := by rw [c3, aget_aput]; simp
  generalize (D2.append mTemp (mfBytes l)).2 = D3 at h3 t3
  have c4 := sync_eff D3 mTemp
  refine MfQ.step (r := D3.sync mTemp) rfl (fun e => ?_) fun e4 => ?_
  · rcases c4 with c4 | c4
    · exact h3.of c4.2
    · exact absurd c4.1 e
  rcases c4 with c4 | ⟨_, f, hf, c4⟩
  · exact absurd e4 c4.1
  rw [t3] at hf; cases hf
  have h4 : But mTemp D (D3.sync mTemp).2 := h3.put c4
  have t4 : aget (D3.sync mTemp).2.files mTemp = some (fullF (mfBytes l)) := by rw [c4, aget_aput]; simp
  generalize (D3.sync mTemp).2 = D4 at h4 t4
  have c5 : ((D4.rename mTemp mName).1 ≠ 0 ∧ (D4.rename mTemp mName).2.files = D4.files) ∨ ((D4.rename mTemp mName).1 = 0 ∧ (D4.rename mTemp mName).2.files = aput (adel D4.files mTemp) mName (fullF (mfBytes l))) := by
    unfold DiskV.rename
    rcases on_cases D4 mTemp fun D f => if isNameV mName then (0, (D.delF mTemp).setF mName { f with good := true }) else (1, D) with h | ⟨f, hf, h⟩
    · exact .inl h
    · rw [h, if_pos name_ok']
      rw [t4] at hf; cases hf
      exact .inr ⟨rfl, by show aput (adel D4.armed.files mTemp) mName _ = _; rw [armed_files]; rfl⟩
  refine MfQ.step (r := D4.rename mTemp mName) rfl (fun e => ?_) fun e5 => ?_
  · rcases c5 with c5 | c5
    · exact h4.of c5.2
    · exact absurd c5.1 e
  rcases c5 with c5 | ⟨_, c5⟩
  · exact absurd e5 c5.1
  refine .inr ⟨rfl, by omega, ?_, ?_, fun x hx1 hx2 => ?_⟩
  · show Tidy (D4.rename mTemp mName).2.files; rw [c5]; exact (h4.1.adel _).aput _ _
  · show aget (D4.rename mTemp mName).2.files mName = _; rw [c5, aget_aput]; simp
  · show aget (D4.rename mTemp mName).2.files x = _
    rw [c5, aget_aput, if_neg (by simpa using hx2), aget_adel h4.1, if_neg (by simpa using hx1)]
    exact h4.2 x hx1

/-! without a fuse -/
def MfA (r : Int × DiskV) : Prop := Alive r.2 ∧ (r.1 = 0 ∨ r.1 = 3 ∨ r.1 = 12)
theorem Alive.clean (h : Alive D) : Alive (cleanV D).2 := by
  unfold cleanV
  split
  · exact (h.delete _).1
  · exact h
theorem clean_gone (h : Alive D) (ht : Tidy D.files) : (cleanV D).1 = 0 ∧ aget (cleanV D).2.files mTemp = none ∧ Tidy (cleanV D).2.files := by
  unfold cleanV
  split
  · rename_i hs
    obtain ⟨f, hf⟩ := Option.isSome_iff_exists.1 hs
    have e : D.delete mTemp = (0, D.delF mTemp) := by unfold DiskV.delete; rw [h.on hf]
    rw [e]
    exact ⟨rfl, by show aget (adel _ _) _ = _; rw [aget_adel ht]; simp, ht.adel _⟩
  · rename_i hs; exact ⟨rfl, by simpa using hs, ht⟩
theorem MfA.step {i k : Nat} {r : Int × DiskV} (hr : mStep l i E = r) (h1 : Alive r.2) (h3 : r.1 = 0 ∨ r.1 = 3 ∨ r.1 = 12) (h2 : r.1 = 0 → MfA (mRun l (i + 1) k r.2)) : MfA (mRun l i (k + 1) E) := by
  rw [mRun, hr]
  split
  · exact ⟨h1.clean, h3⟩
  · rename_i e; exact h2 (by simpa using e)
theorem Alive.mfWrite (h : Alive D) (ht : Tidy D.files) (l : List Int) : MfA (mfWrite D l) := by
  unfold Go.Proofs.YtpbpjojdfcdbbaaGreatDoor.mfWrite
  split
  · exact ⟨h, .inr (.inl rfl)⟩
  obtain ⟨z1, n1, ht1⟩ := clean_gone h ht
  have h1 := h.clean
  refine MfA.step (r := cleanV D) rfl h1 (.inl z1) fun _ => ?_
  generalize (cleanV D).2 = D1 at h1 n1 ht1
  have c2 := create_eff D1 mTemp
  obtain ⟨h2, a2⟩ := h1.create mTemp
  refine MfA.step (r := D1.create mTemp) rfl h2 ((a2 temp_ok n1).imp id .inr) fun e2 => ?_
  rcases c2 with c2 | ⟨_, _, _, c2⟩
  · exact absurd e2 c2.1
  have t2 : aget (D1.create mTemp).2.files mTemp = some ⟨[], 0, false⟩ := by rw [c2, aget_aput]; simp
  generalize (D1.create mTemp).2 = D2 at h2 t2
  have c3 := append_eff D2 mTemp (mfBytes l)
  obtain ⟨h3, a3⟩ := h2.append mTemp (mfBytes l)
  refine MfA.step (r := D2.append mTemp (mfBytes l)) rfl h3 ((a3 _ t2).imp id .inr) fun e3 => ?_
  rcases c3 with c3 | ⟨_, f, hf, c3⟩
  · exact absurd e3 c3.1
  have t3 : ∃ f, aget (D2.append mTemp (mfBytes l)).2.files mTemp = some f := by rw [c3, aget_aput]; simp
  generalize (D2.append mTemp (mfBytes l)).2 = D3 at h3 t3
  obtain ⟨f3, t3⟩ := t3
  have c4 := sync_eff D3 mTemp
  obtain ⟨h4, a4⟩ := h3.sync mTemp
  refine MfA.step (r := D3.sync mTemp) rfl h4 (.inl (a4 _ t3)) fun e4 => ?_
  rcases c4 with c4 | ⟨_, f, hf4, c4⟩
  · exact absurd e4 c4.1
  have t4 : aget (D3.sync mTemp).2.files mTemp = some (fullF f.bytes) := by rw [c4, aget_aput]; simp
  generalize (D3.sync mTemp).2 = D4 at h4 t4
  have e5 : D4.rename mTemp mName = (0, (D4.delF mTemp).setF mName { fullF f.bytes with good := true }) := by
    unfold DiskV.rename; rw [h4.on t4, if_pos name_ok']
  refine MfA.step (r := D4.rename mTemp mName) rfl (by rw [e5]; exact h4.same rfl rfl) (.inl (by rw [e5])) fun e5' => ?_
  rw [e5]
  exact ⟨h4.same rfl rfl, .inl rfl⟩

/-! crashes -/
theorem aget_good {l : List (ByteArray × FileV)} (ht : Tidy l) (q : FileV → Bool) (g : FileV → FileV) (k : ByteArray) :
    aget ((l.filter fun x => q x.2).map fun x => (x.1, g x.2)) k = (aget l k).bind fun f => if q f then some (g f) else none := by
  induction l with
  | nil => rfl
  | cons p l ih =>
    obtain ⟨x, u⟩ := p
    unfold Tidy at ht ih
    simp only [List.map_cons, List.nodup_cons] at ht
    rw [List.filter_cons]
    by_cases hx : (k == x) = true
    · have hkx : k = x := eq_of_beq hx
      subst hkx
      have hn : aget ((l.filter fun x => q x.2).map fun x => (x.1, g x.2)) k = none := by
        rw [aget_none]
        intro hm
        apply ht.1
        simp only [List.map_map, List.mem_map, List.mem_filter] at hm ⊢
        obtain ⟨y, ⟨hy, _⟩, he⟩ := hm
        exact ⟨y, hy, he⟩
      by_cases hq : q u = true
      · simp [hq, aget]
      · rw [if_neg (by simpa using hq), hn]; simp [hq, aget]
    · have hx' : (k == x) = false := by simpa using hx
      by_cases hq : q u = true
      · simp only [hq, if_true, List.map_cons, aget, hx', Bool.false_eq_true, if_false]
        exact ih ht.2
      · rw [if_neg (by simpa using hq)]
        simp only [aget, hx', Bool.false_eq_true, if_false]
        exact ih ht.2
theorem crash_get (ht : Tidy D.files) (n : Int) (k : ByteArray) : aget (D.crash n).files k = (aget D.files k).bind fun f => if f.good then some (cutK n f) else none :=
  aget_good ht (fun f => f.good) (cutK n) k
theorem crash_tidy (h : Tidy D.files) (n : Int) : Tidy (D.crash n).files := by
  show (((D.files.filter fun x => x.2.good).map fun x => (x.1, cutK n x.2)).map (·.1)).Nodup
  rw [List.map_map]
  exact (tidy_filter h fun x => x.2.good)
theorem crash_alive (D : DiskV) (n : Int) : Alive (D.crash n) := ⟨rfl, rfl⟩
/-- what a crash leaves of a file that lasts -/
theorem cutK_some (n : Int) (b : List UInt8) {s : Nat} (hs : s ≤ b.length) : ∃ m, s ≤ m ∧ m ≤ b.length ∧ cutK n ⟨b, s, true⟩ = fullF (b.take m) := by
  refine ⟨clampN (keepTo n ⟨b, s, true⟩) b.length, ?_, clampN_le _ _, ?_⟩
  · unfold clampN keepTo; simp only; omega
  · have := clampN_le (keepTo n ⟨b, s, true⟩) b.length
    unfold cutK FileV.cut fullF
    simp only [List.length_take, Nat.min_eq_left this]
theorem crash_full (ht : Tidy D.files) (n : Int) {k : ByteArray} {b : List UInt8} (h : aget D.files k = some (fullF b)) : aget (D.crash n).files k = some (fullF b) := by
  rw [crash_get ht, h]
  obtain ⟨m, h1, h2, h3⟩ := cutK_some n b (Nat.le_refl _)
  show (if true then some (cutK n ⟨b, b.length, true⟩) else none) = _
  rw [h3, List.take_of_length_le (by omega)]; rfl
end
end Go.Proofs.YtpbpjojdfcdbbaaGreatDoor

/- seglog, in plain Lean: what lasts -/
namespace Go.Proofs.YtpbpjojdfcdbbaaGreatDoor
open Go.Lift
set_option linter.unusedVariables false
set_option maxRecDepth 20000

abbrev Segs := List (Int × List EventV)
def nums (A : Segs) : List Int := A.map (·.1)
def evsOf (A : Segs) (l : List EventV) : List EventV := (A.map (·.2)).flatten ++ l

/-- full segments A, a last one with events l, of which k last; the manifest says just them -/
structure Held (D : DiskV) (A : Segs) (no : Int) (l : List EventV) (k : Nat) : Prop where
  tidy : Tidy D.files
  full : ∀ x ∈ A, aget D.files (segNm x.1) = some (fullF (evFrs x.2))
  last : ∃ s, aget D.files (segNm no) = some ⟨evFrs l, s, true⟩ ∧ (evFrs (l.take k)).length ≤ s ∧ s ≤ (evFrs l).length
  kl : k ≤ l.length
  man : aget D.files mName = some (fullF (mfBytes (nums A ++ [no])))
  rng : ∀ n ∈ nums A ++ [no], 1 ≤ n ∧ n < 1000000000000
  rise : (nums A ++ [no]).Pairwise (· < ·)
  evs : ∀ e ∈ evsOf A l, e.Ok ∧ e.deps.length ≤ 64
  many : A.length + 1 ≤ 64

/-- the log in memory -/
structure VOk (V : LogV) (A : Segs) (no : Int) (l : List EventV) : Prop where
  segs : V.segs = nums A ++ [no]
  bytes : V.bytes = ((evFrs l).length : Nat)
  next : no < V.next ∧ V.next ≤ 1000000000000

theorem segNm_ne {n : Int} (h : isNameV (segNm n) = true ∨ 0 ≤ n ∧ n < 1000000000000) : segNm n ≠ mName ∧ segNm n ≠ mTemp := by
  have hm : mName.data.toList.take 4 ≠ segPre := by decide +kernel
  have ht : mTemp.data.toList.take 4 ≠ segPre := by decide +kernel
  have h4 : (segNm n).data.toList.take 4 = segPre ∨ (segNm n).data.toList = [] := by
    unfold segNm
    rw [txt_list]
    unfold segName
    split
    · exact .inr rfl
    · exact .inl (by simp [segPre])
  refine ⟨fun e => ?_, fun e => ?_⟩
  · rw [e] at h4
    rcases h4 with h4 | h4
    · exact hm h4
    · revert h4; decide +kernel
  · rw [e] at h4
    rcases h4 with h4 | h4
    · exact ht h4
    · revert h4; decide +kernel
theorem segNm_inj {a b : Int} (ha : 0 ≤ a ∧ a < 1000000000000) (h : segNm b = segNm a) : b = a := segName_inj ha.1 ha.2 (txt_inj h)
theorem segNm_name {n : Int} (hn : 0 ≤ n) : isNameV (segNm n) = true ↔ n < 1000000000000 := by
  constructor
  · intro h
    by_cases hc : n < 1000000000000
    · exact hc
    · have : segNm n = txt [] := by unfold segNm segName; rw [if_pos (.inr (by omega))]
      have hx : isNameV (txt []) = false := by decide +kernel
      rw [this, hx] at h; cases h
  · intro h; exact seg_name_ok hn h

theorem evFrs_nil : evFrs [] = [] := rfl
theorem evFrs_take_le (l : List EventV) (k : Nat) : (evFrs (l.take k)).length ≤ (evFrs l).length := by
  have h := List.take_append_drop k l
  conv => rhs; rw [← h, evFrs_append, List.length_append]
  omega
theorem evsOf_snoc (A : Segs) (no : Int) (l m : List EventV) : evsOf (A ++ [(no, l)]) m = evsOf A l ++ m := by simp [evsOf]

section
variable {D E : DiskV} {A : Segs} {no : Int} {l x : List EventV} {k j : Nat} {V : LogV}

/-- files that matter, the same -/
theorem Held.same (h : Held D A no l k) (ht : Tidy E.files) (hs : ∀ n ∈ nums A ++ [no], aget E.files (segNm n) = aget D.files (segNm n)) (hm : aget E.files mName = aget D.files mName) : Held E A no l k :=
  ⟨ht, fun x hx => (hs x.1 (List.mem_append_left _ (List.mem_map.2 ⟨x, hx, rfl⟩))).trans (h.full x hx), by
    obtain ⟨s, h1, h2⟩ := h.last
    exact ⟨s, (hs no (List.mem_append_right _ (List.mem_singleton.2 rfl))).trans h1, h2⟩, h.kl, hm.trans h.man, h.rng, h.rise, h.evs, h.many⟩
theorem Held.files (h : Held D A no l k) (he : E.files = D.files) : Held E A no l k := h.same (by rw [he]; exact h.tidy) (fun _ _ => by rw [he]) (by rw [he])
theorem Held.no_rng (h : Held D A no l k) : 1 ≤ no ∧ no < 1000000000000 := h.rng no (List.mem_append_right _ (List.mem_singleton.2 rfl))
theorem Held.no_ne (h : Held D A no l k) : ∀ y ∈ A, segNm y.1 ≠ segNm no := fun y hy e => by
  have h1 := h.no_rng
  have := segNm_inj ⟨by omega, h1.2⟩ e
  have h2 := h.rise
  rw [List.pairwise_append] at h2
  have := h2.2.2 y.1 (List.mem_map.2 ⟨y, hy, rfl⟩) no (List.mem_singleton.2 rfl)
  omega
/-- the last segment's file turned -/
theorem Held.put (h : Held D A no l k) {l' : List EventV} {s k' : Nat} (he : E.files = aput D.files (segNm no) ⟨evFrs l', s, true⟩) (hk : k' ≤ l'.length) (h1 : (evFrs (l'.take k')).length ≤ s) (h2 : s ≤ (evFrs l').length) (hev : ∀ e ∈ l', e.Ok ∧ e.deps.length ≤ 64) : Held E A no l' k' :=
  ⟨by rw [he]; exact h.tidy.aput _ _, fun y hy => by rw [he, aget_aput, if_neg (by simpa using h.no_ne y hy)]; exact h.full y hy, ⟨s, by rw [he, aget_aput]; simp, h1, h2⟩, hk, by
    have := (segNm_ne (n := no) (.inr (by have := h.no_rng; omega))).1
    rw [he, aget_aput, if_neg (by simpa using this.symm)]; exact h.man, h.rng, h.rise, fun e he => by
    rcases List.mem_append.1 he with h' | h'
    · exact h.evs e (List.mem_append_left _ h')
    · exact hev e h', h.many⟩
theorem Held.evl (h : Held D A no l k) : ∀ e ∈ l, e.Ok ∧ e.deps.length ≤ 64 := fun e he => h.evs e (List.mem_append_right _ he)
theorem Held.lastNm (hv : VOk V A no l) : V.last = segNm no := by unfold LogV.last; rw [hv.segs]; simp [segNm]

theorem Held.mono (h : Held D A no l k) (hj : j ≤ k) : Held D A no l j := by
  obtain ⟨s, h1, h2, h3⟩ := h.last
  exact ⟨h.tidy, h.full, ⟨s, h1, Nat.le_trans (evFrs_take hj) h2, h3⟩, Nat.le_trans hj h.kl, h.man, h.rng, h.rise, h.evs, h.many⟩

/-- SYNC -/
theorem held_sync (h : Held D A no l k) : ((D.sync (segNm no)).1 = 0 ∧ Held (D.sync (segNm no)).2 A no l l.length) ∨ ((D.sync (segNm no)).1 ≠ 0 ∧ Held (D.sync (segNm no)).2 A no l k) := by
  rcases sync_eff D (segNm no) with ⟨h1, h2⟩ | ⟨h1, f, hf, h2⟩
  · exact .inr ⟨h1, h.files h2⟩
  · obtain ⟨s, g1, g2, g3⟩ := h.last
    rw [g1] at hf; cases hf
    exact .inl ⟨h1, h.put h2 (Nat.le_refl _) (by rw [List.take_length]; exact Nat.le_refl _) (Nat.le_refl _) h.evl⟩

/-- what the beginning of a segment does to any disk -/
theorem begin2_eff (ht : Tidy D.files) (hn : 0 ≤ V.next) : ((begin2 V D).1 ≠ 0 ∧ (begin2 V D).2.1 = V ∧ Tidy (begin2 V D).2.2.files ∧ ∀ x, x ≠ segNm V.next → x ≠ mTemp → aget (begin2 V D).2.2.files x = aget D.files x) ∨
    ((begin2 V D).1 = 0 ∧ V.next < 1000000000000 ∧ V.segs.length + 1 ≤ 64 ∧ aget D.files (segNm V.next) = none ∧ (begin2 V D).2.1 = ⟨V.size, V.segs ++ [V.next], 0, V.next + 1⟩ ∧ Tidy (begin2 V D).2.2.files ∧ aget (begin2 V D).2.2.files (segNm V.next) = some (fullF []) ∧
      aget (begin2 V D).2.2.files mName = some (fullF (mfBytes (V.segs ++ [V.next]))) ∧ ∀ x, x ≠ segNm V.next → x ≠ mTemp → x ≠ mName → aget (begin2 V D).2.2.files x = aget D.files x) := by
  unfold begin2
  dsimp only
  rw [show txt (segName V.next) = segNm V.next from rfl]
  rcases create_eff D (segNm V.next) with ⟨c1, c2⟩ | ⟨c1, c2, c3, c4⟩
  · rw [if_pos c1]
    exact .inl ⟨c1, rfl, by show Tidy (D.create _).2.files; rw [c2]; exact ht, fun x _ _ => by show aget (D.create (segNm V.next)).2.files x = _; rw [c2]⟩
  have hlt := (segNm_name hn).1 c2
  obtain ⟨nm, nt⟩ := segNm_ne (n := V.next) (.inr ⟨hn, hlt⟩)
  rw [if_neg (show ¬ (D.create (segNm V.next)).1 ≠ 0 by simpa using c1)]
  have t1 : But (segNm V.next) D (D.create (segNm V.next)).2 := (But.refl ht).put c4
  have g1 : aget (D.create (segNm V.next)).2.files (segNm V.next) = some ⟨[], 0, false⟩ := by rw [c4, aget_aput]; simp
  generalize (D.create (segNm V.next)).2 = D1 at t1 g1
  unfold begin3
  dsimp only
  rw [show txt (segName V.next) = segNm V.next from rfl]
  have del : ∀ {F : DiskV}, Tidy F.files → (∀ x, x ≠ segNm V.next → x ≠ mTemp → aget F.files x = aget D.files x) → Tidy (F.delete (segNm V.next)).2.files ∧ ∀ x, x ≠ segNm V.next → x ≠ mTemp → aget (F.delete (segNm V.next)).2.files x = aget D.files x := by
    intro F hF hs
    rcases delete_eff F (segNm V.next) with e | e
    · rw [e]; exact ⟨hF, hs⟩
    · rw [e]; exact ⟨hF.adel _, fun x h1 h2 => by rw [aget_adel hF, if_neg (by simpa using h1)]; exact hs x h1 h2⟩
  rcases sync_eff D1 (segNm V.next) with ⟨d1, d2⟩ | ⟨d1, f, hf, d2⟩
  · rw [if_pos d1]
    have := del (F := (D1.sync (segNm V.next)).2) (by rw [d2]; exact t1.1) fun x h1 _ => by rw [d2]; exact t1.2 x h1
    exact .inl ⟨d1, rfl, this⟩
  rw [g1] at hf; cases hf
  have t2 : But (segNm V.next) D (D1.sync (segNm V.next)).2 := t1.put d2
  have g2 : aget (D1.sync (segNm V.next)).2.files (segNm V.next) = some (fullF []) := by rw [d2, aget_aput]; simp
  rw [if_neg (show ¬ (D1.sync (segNm V.next)).1 ≠ 0 by simpa using d1)]
  generalize (D1.sync (segNm V.next)).2 = D2 at t2 g2
  rcases mf_eff t2.1 (V.segs ++ [V.next]) with ⟨m1, m2⟩ | ⟨m1, m2, m3, m4, m5⟩
  · rw [if_pos m1]
    have := del (F := (mfWrite D2 (V.segs ++ [V.next])).2) m2.1 fun x h1 h2 => (m2.2 x h2).trans (t2.2 x h1)
    exact .inl ⟨m1, rfl, this⟩
  · rw [if_neg (by simpa using m1)]
    refine .inr ⟨rfl, hlt, by simpa using m2, c3, ?_, m3, (m5 _ nt nm).trans g2, m4, fun x h1 h2 h3 => (m5 x h2 h3).trans (t2.2 x h1)⟩
    rw [wrap_i64 (by unfold I64; omega)]

theorem Held.begin2 (h : Held D A no l l.length) (hv : VOk V A no l) : ((begin2 V D).1 ≠ 0 ∧ (begin2 V D).2.1 = V ∧ Held (begin2 V D).2.2 A no l l.length) ∨
    ((begin2 V D).1 = 0 ∧ (begin2 V D).2.1.size = V.size ∧ Held (begin2 V D).2.2 (A ++ [(no, l)]) V.next [] 0 ∧ VOk (begin2 V D).2.1 (A ++ [(no, l)]) V.next [] ∧ (begin2 V D).2.1.next = V.next + 1) := by
  have hnr := h.no_rng
  have hvn := hv.next
  have hlt : ∀ n ∈ nums A ++ [no], n < V.next := fun n hn => by
    rcases List.mem_append.1 hn with h1 | h1
    · have h2 := h.rise
      rw [List.pairwise_append] at h2
      have := h2.2.2 n h1 no (List.mem_singleton.2 rfl)
      omega
    · have := List.mem_singleton.1 h1; omega
  have hne : ∀ n ∈ nums A ++ [no], segNm n ≠ segNm V.next := fun n hn e => by
    have h1 := h.rng n hn
    have h2 := hlt n hn
    have := segNm_inj (a := n) ⟨by omega, h1.2⟩ e.symm
    omega
  have hnm : ∀ n ∈ nums A ++ [no], segNm n ≠ mName ∧ segNm n ≠ mTemp := fun n hn => segNm_ne (.inr (by have := h.rng n hn; omega))
  have hmn : mName ≠ segNm V.next := fun e => by
    by_cases hc : V.next < 1000000000000
    · exact (segNm_ne (n := V.next) (.inr (by omega))).1 e.symm
    · have h0 : segNm V.next = txt [] := by unfold segNm segName; rw [if_pos (.inr (by omega))]
      rw [h0] at e
      revert e; decide +kernel
  rcases begin2_eff (V := V) h.tidy (by omega) with ⟨b1, b2, b3, b4⟩ | ⟨b1, b2, b3, b4, b5, b6, b7, b8, b9⟩
  · exact .inl ⟨b1, b2, h.same b3 (fun n hn => b4 _ (hne n hn) (hnm n hn).2) (b4 _ hmn fun e => tn' e.symm)⟩
  · rw [hv.segs] at b3 b8
    have hA : A.length + 1 + 1 ≤ 64 := by simpa [nums] using b3
    have hnums : nums (A ++ [(no, l)]) = nums A ++ [no] := by simp [nums]
    refine .inr ⟨b1, by rw [b5], ⟨b6, fun y hy => ?_, ⟨0, b7, by simp [evFrs], Nat.zero_le _⟩, Nat.le_refl _, by rw [hnums]; exact b8, ?_, ?_, by rw [evsOf_snoc, List.append_nil]; exact h.evs, by simpa using hA⟩, ⟨by rw [b5, hnums, hv.segs], by rw [b5]; simp [evFrs], by rw [b5]; simp only; omega⟩, by rw [b5]⟩
    · rcases List.mem_append.1 hy with h1 | h1
      · have hm : y.1 ∈ nums A ++ [no] := List.mem_append_left _ (List.mem_map.2 ⟨y, h1, rfl⟩)
        rw [b9 _ (hne _ hm) (hnm _ hm).2 (hnm _ hm).1]; exact h.full y h1
      · rw [List.mem_singleton] at h1
        subst h1
        have hm : no ∈ nums A ++ [no] := List.mem_append_right _ (List.mem_singleton.2 rfl)
        obtain ⟨s, g1, g2, g3⟩ := h.last
        rw [List.take_length] at g2
        have hs : s = (evFrs l).length := by omega
        show aget _ (segNm no) = _
        rw [b9 _ (hne _ hm) (hnm _ hm).2 (hnm _ hm).1, g1, hs]; rfl
    · rw [hnums]
      intro n hn
      rcases List.mem_append.1 hn with h1 | h1
      · exact h.rng n h1
      · have := List.mem_singleton.1 h1; omega
    · rw [hnums, List.pairwise_append]
      exact ⟨h.rise, List.pairwise_singleton _ _, fun n hn m hm => by have := List.mem_singleton.1 hm; have := hlt n hn; omega⟩

/-- A SEGMENT BEGUN -/
theorem Held.begin (h : Held D A no l k) (hv : VOk V A no l) : ((logBegin V D).1 ≠ 0 ∧ (logBegin V D).2.1 = V ∧ Held (logBegin V D).2.2 A no l k) ∨
    ((logBegin V D).1 = 0 ∧ (logBegin V D).2.1.size = V.size ∧ Held (logBegin V D).2.2 (A ++ [(no, l)]) V.next [] 0 ∧ VOk (logBegin V D).2.1 (A ++ [(no, l)]) V.next [] ∧ (logBegin V D).2.1.next = V.next + 1) := by
  have hne : ¬ V.segs = [] := by rw [hv.segs]; simp
  have e : logBegin V D = if (D.sync (segNm no)).1 ≠ 0 then ((D.sync (segNm no)).1, V, (D.sync (segNm no)).2) else Go.Proofs.YtpbpjojdfcdbbaaGreatDoor.begin2 V (D.sync (segNm no)).2 := by
    unfold logBegin; rw [if_neg hne, Held.lastNm hv]
  rw [e]
  rcases held_sync h with ⟨s1, s2⟩ | ⟨s1, s2⟩
  · rw [if_neg (by simpa using s1)]
    rcases s2.begin2 hv with ⟨b1, b2, b3⟩ | b
    · exact .inl ⟨b1, b2, b3.mono h.kl⟩
    · exact .inr b
  · rw [if_pos s1]; exact .inl ⟨s1, rfl, s2⟩
end
end Go.Proofs.YtpbpjojdfcdbbaaGreatDoor

/- compact: frames; a segment of these bytes the only one; a log written anew -/
namespace Go.Proofs.YtpbpjojdfcdbbaaGreatDoor
open Go.Lift
set_option linter.unusedVariables false
set_option maxRecDepth 20000

def cmpFrames (l : List EventV) : List UInt8 × Int := if l.any tooLong then ([], 3) else (evFrs l, 0)
theorem cmp_frames {w : World} {De : Nat → Prop} {a : Option Addr} {n c : Nat} {l : List EventV} (hL : Laid w) (hr : Row cEv 96 w De a n l) (hDe : ∀ b, De b → b < w.heap.size) (hl : l.length ≤ 1000) :
    Calls Tryz.prog F_compact_frames #[.slice a n c] w (Ok fun v w' => ∃ a' n' c' F, v = .tuple #[.slice a' n' c', .int .i64 (cmpFrames l).2] ∧ Lst cU8 5 F w' a' n' c' (cmpFrames l).1 ∧ Grew w w' ∧ ∀ b, F b → w.heap.size ≤ b) := by
  have hn := hr.len
  refine L_compact_frames ⟨fun m ba bn bc t w' => ∃ (j : Nat) (F : Nat → Prop), t = j ∧ j ≤ n ∧ m = n - j ∧ (∀ e ∈ l.take j, e.Ok ∧ e.deps.length ≤ 64) ∧ (evFrs (l.take j)).length ≤ 675 * j ∧ Lst cU8 5 F w' ba bn bc (evFrs (l.take j)) ∧ Grew w w' ∧ ∀ b, F b → w.heap.size ≤ b,
    ⟨_, 0, fun _ => False, rfl, Nat.zero_le _, rfl, by simp, by simp [evFrs], Lst.nil w, Keep.refl _, fun _ h => h.elim⟩, ?_⟩
  rintro m ba bn bc t _ w1 ⟨j, F, rfl, hj, rfl, hok, hfl, ho, k1, hF⟩
  refine PIf.dec (fun hlt => ?_) (fun hge => ?_)
  · obtain ⟨b, off, e, es, rfl, _, _, hx, hc, a1, n1, c1, rfl, hd, heok⟩ := (hr.grew k1).atN (i := j) (by omega)
    have e1 := fun i (hi : i < 10) => hc i hi
    refine ⟨b, off, rfl, by omega, by omega, _, _, _, _, _, _, _, _, _, _, _, _, e1 0 (by decide), e1 1 (by decide), e1 2 (by decide), e1 3 (by decide), e1 4 (by decide), e1 5 (by decide), e1 6 (by decide), e1 7 (by decide), e1 8 (by decide), e1 9 (by decide), PA.mk fun w2 k2 s2 g2 => ?_⟩
    refine storeAll (evCells e a1 n1 c1) g2 rfl fun w3 k3 s3 g3 => ?_
    have k13 : Grew w1 w3 := k2.new k3 fun b hb => .inr (by omega)
    refine ⟨_, _, _, _, _, _, _, _, _, _, _, _, cell_at g3 rfl, cell_at g3 rfl, cell_at g3 rfl, cell_at g3 rfl, cell_at g3 rfl, cell_at g3 rfl, cell_at g3 rfl, cell_at g3 rfl, cell_at g3 rfl, cell_at g3 rfl, ?_⟩
    refine PC.ok (seg_Frame (hL.grew (k1.then k13)) (hd.grew k13) heok fun b hb => by have := hDe b hb; have := (k1.then k13).size; omega) ?_
    rintro _ w4 ⟨a4, n4, c4, F4, rfl, ho4, k4, hF4⟩
    by_cases hd64 : e.deps.length ≤ 64
    · have hsf := segFrame_ok heok hd64
      rw [hsf] at ho4 ⊢
      have hel := evFr_le heok hd64
      refine ⟨_, _, _, _, rfl, PIf.neI (fun hc => absurd rfl hc) (fun _ => ?_)⟩
      have k14 := k13.then k4
      have ho4r : Row cU8 1 w4 F4 a4 n4 (evFr e) := ho4.row (bytes := 1) (by decide) (by unfold Big; dsimp only; omega)
      have z14 := k14.size; have z13 := k13.size
      refine appRow' (ho.grew k14) slU8 ho4r (fun e => ho4.nil0 e) (fun b hb => ⟨ho4.dom b hb, fun hc => by have := ho.dom b (ho.self b hc); have := hF4 b hb; omega⟩) (by unfold Big; omega) (by unfold maxLen; omega) fun a5 c5 w5 F5 ho5 hk5 hF5 _ => ?_
      have htk : l.take (j + 1) = l.take j ++ [e] := by rw [List.take_add_one, hx]; rfl
      refine ⟨_, _, _, rfl, n - (j + 1), by omega, j + 1, F5, wrap_succ (by omega), by omega, rfl, ?_, ?_, ?_, (k1.then k14).new hk5 fun b hb => .inr (by have := hF b (ho.self b hb); omega), ?_⟩
      · rw [htk]
        intro x hx'
        rcases List.mem_append.1 hx' with h' | h'
        · exact hok x h'
        · simp at h'; subst h'; exact ⟨heok, hd64⟩
      · rw [htk, evFrs_snoc]; simp; omega
      · rw [htk, evFrs_snoc]; exact ho5
      · intro b hb
        have := k1.size
        rcases hF5 b hb with h' | h' | h'
        · exact hF b h'
        · have := hF4 b h'; omega
        · omega
    · have hsf := segFrame_no hd64
      rw [hsf] at ho4 ⊢
      refine ⟨_, _, _, _, rfl, PIf.neI (fun _ => ?_) (fun hc => absurd hc (by decide))⟩
      have hany : l.any tooLong = true := List.any_eq_true.2 ⟨e, List.mem_of_getElem? hx, by unfold tooLong; simp; omega⟩
      rw [show cmpFrames l = ([], 3) by unfold cmpFrames; rw [if_pos hany]]
      exact Ok.mk ⟨none, 0, 0, fun _ => False, rfl, Lst.nil w4, (k1.then k13).then k4, fun _ h => h.elim⟩
  · obtain rfl : j = n := by omega
    rw [List.take_of_length_le (by omega)] at hok hfl ho
    have hno : l.any tooLong = false := by
      rw [← Bool.not_eq_true]
      intro hc
      obtain ⟨e, he, h2⟩ := List.any_eq_true.1 hc
      have := (hok e he).2
      unfold tooLong at h2
      simp at h2
      omega
    rw [show cmpFrames l = (evFrs l, 0) by unfold cmpFrames; rw [if_neg (by simp [hno])]]
    exact Ok.mk ⟨_, _, _, F, rfl, ho, k1, hF⟩

/-- a segment of these bytes the only one, all or nothing -/
def cmpWrite (no : Int) (b : List UInt8) (D : DiskV) : Int × DiskV :=
  let nm := txt (segName no)
  let c := D.create nm
  if c.1 ≠ 0 then (c.1, c.2) else
  let a := c.2.append nm b
  if a.1 ≠ 0 then (a.1, (a.2.delete nm).2) else
  let s := a.2.sync nm
  if s.1 ≠ 0 then (s.1, (s.2.delete nm).2) else
  let m := mfWrite s.2 [no]
  (m.1, if m.1 ≠ 0 then (m.2.delete nm).2 else m.2)

theorem cmp_write {w0 w : World} {p : Nat} {D : DiskV} {X Db : Nat → Prop} {no : Int} {a : Option Addr} {n c : Nat} {bs : List UInt8} (hL : Laid w0) (h : NDisk w0 w p D X) (hno : I64 no) (hb : Row cU8 1 w Db a n bs) (hnil : a = none → n = 0 ∧ c = 0) (hDb : ∀ b, Db b → X b) :
    Calls Tryz.prog F_compact_write #[.pointer (some ⟨p, 0, none⟩), .int .i64 no, .slice a n c] w (Ok (Does2 w0 w p X (cmpWrite no bs D))) := by
  have hg0 := h.gr.size
  have hX : ∀ b, X b → b < w.heap.size := by obtain ⟨F, f1, f2, f3, f4⟩ := h; exact f4
  refine L_compact_write (PA.mk fun w1 k1 s1 g1 => PA.mk fun w2 k2 s2 g2 => PC.ok (seg_Name (hL.grew ((h.gr.then k1).then k2)) hno) ?_)
  rintro _ w3 ⟨rfl, k3⟩
  have z3 := k3.size
  refine ⟨_, rfl, PA.mk fun w4 k4 s4 g4 => PS.mk g4 (by simp) fun w5 k5 s5 g5 => ?_⟩
  let Y : Nat → Prop := fun b => X b ∨ (b = w.heap.size ∨ b = w1.heap.size ∨ b = w3.heap.size)
  have k05 : Grew w w5 := ((((k1.then k2).then k3).then k4)).new k5 fun b hb => .inr (by omega)
  have hN5 : NDisk w0 w5 p D Y := h.add k05 fun b hb => by omega
  let C : World → Int → Prop := fun w' e => w'.heap[w.heap.size]? = some (.cells #[.pointer (some ⟨p, 0, none⟩)] 25 (0, 0)) ∧ w'.heap[w1.heap.size]? = some (.cells #[.int .i64 e] 26 (0, 0)) ∧ w'.heap[w3.heap.size]? = some (.cells #[.string (txt (segName no))] 9 (0, 0))
  have C5 : C w5 0 := ⟨k5.get (k4.get (k3.get (k2.get g1 id) id) id) (by omega), k5.get (k4.get (k3.get g2 id) id) (by omega), g5⟩
  have keepC : ∀ {w' w'' : World} {e : Int}, C w' e → Keep (Not' Y) w' w'' → C w'' e := fun hC hk =>
    ⟨hk.get hC.1 fun hn => hn (.inr (.inl rfl)), hk.get hC.2.1 fun hn => hn (.inr (.inr (.inl rfl))), hk.get hC.2.2 fun hn => hn (.inr (.inr (.inr rfl)))⟩
  have toX : ∀ {w' w'' : World}, Keep (Not' X) w w' → Keep (Not' Y) w' w'' → Keep (Not' X) w w'' := fun a b => a.then (b.mono fun b _ hb hx => hb (.inl hx))
  /- the answer's cell turned -/
  have turnC : ∀ {w' : World} {e e' : Int} {E : DiskV} {κ : World → Prop}, C w' e → NDisk w0 w' p E Y → Keep (Not' X) w w' → (∀ w'', C w'' e' → NDisk w0 w'' p E Y → Keep (Not' X) w w'' → Keep (· = w1.heap.size) w' w'' → κ w'') → PS w' ⟨w1.heap.size, 0, none⟩ (.int .i64 e') κ := by
    intro w' e e' E κ hC hN hk hκ
    have h1 := lt_of_get hC.2.1
    refine PS.mk hC.2.1 (by simp) fun w'' k'' s'' g'' => hκ w'' ⟨k''.get hC.1 (by omega), g'', k''.get hC.2.2 (by omega)⟩ ?_ (hk.then (k''.mono fun b _ hb hx => by have := hX b hx; omega)) k''
    obtain ⟨F, f1, f2, f3, f4⟩ := hN
    exact ⟨F, f1.keep k'' fun b hb e => (f3 b hb).2 (.inr (.inr (.inl e))), f2.new k'' fun b hb => .inr (by omega), f3, fun b hb => Nat.lt_of_lt_of_le (f4 b hb) k''.size⟩
  have leave : ∀ {r : Int × DiskV} (e : Int) (E : DiskV) (w' : World), NDisk w0 w' p E Y → Keep (Not' X) w w' → C w' e → r = (e, if e ≠ 0 then (E.delete (txt (segName no))).2 else E) →
      Lv Tryz.prog (fun w49 => ∃ r50 : Int, w49.cell? ⟨w1.heap.size, 0, none⟩ = some (.int .i64 r50) ∧ Ok (Does2 w0 w p X r) (.returned (.int .i64 r50)) w49) (fun ch w' => Ok (Does2 w0 w p X r) (.panicked ch) w')
        ([{ target := .fn (.func 116) #[.pointer (some ⟨w1.heap.size, 0, none⟩), .pointer (some ⟨w.heap.size, 0, none⟩), .pointer (some ⟨w3.heap.size, 0, none⟩)], args := #[] }] : List Deferred) .returning w' := by
    intro r e E w' hn hk hC hr
    refine Lv.one (by simp) (by kernel_rfl) (CallsD.mono (LD_compact_write_1 (R := fun e' w7 => e' = .returned (.tuple #[]) ∧ ∃ r37 : Int, w7.cell? ⟨w1.heap.size, 0, none⟩ = some (.int .i64 r37) ∧ Ok (Does2 w0 w p X r) (.returned (.int .i64 r37)) w7) ⟨_, cell_at hC.2.1 rfl, PIf.neI (fun hne => ⟨_, cell_at hC.1 rfl, _, cell_at hC.2.2 rfl, PC.ok hn.delete ?_⟩) (fun h0 => ⟨rfl, _, cell_at hC.2.1 rfl, Ok.mk ?_⟩)⟩) ?_)
    · rintro _ wb ⟨rfl, hnb, kb⟩
      have hCb := keepC hC kb
      refine ⟨_, rfl, rfl, _, cell_at hCb.2.1 rfl, Ok.mk ?_⟩
      rw [hr, if_pos hne]
      exact ⟨rfl, hnb.mono fun b hb => .inl hb, toX hk kb⟩
    · rw [hr, if_neg (by simpa using h0)]
      exact ⟨rfl, hn.mono fun b hb => .inl hb, hk⟩
    · rintro e' u' w7 ⟨rfl, rfl, hX⟩
      exact Lv.ret rfl hX
  refine ⟨_, cell_at C5.1 rfl, _, cell_at C5.2.2 rfl, PC.ok hN5.create ?_⟩
  rintro _ w6 ⟨rfl, hN6, k6⟩
  have C6 := keepC C5 k6
  have kX6 := toX (Grew.keep k05) k6
  have hW : cmpWrite no bs D = if (D.create (txt (segName no))).1 ≠ 0 then ((D.create (txt (segName no))).1, (D.create (txt (segName no))).2) else
      if ((D.create (txt (segName no))).2.append (txt (segName no)) bs).1 ≠ 0 then (((D.create (txt (segName no))).2.append (txt (segName no)) bs).1, (((D.create (txt (segName no))).2.append (txt (segName no)) bs).2.delete (txt (segName no))).2) else
      if ((((D.create (txt (segName no))).2.append (txt (segName no)) bs).2).sync (txt (segName no))).1 ≠ 0 then (((((D.create (txt (segName no))).2.append (txt (segName no)) bs).2).sync (txt (segName no))).1, (((((D.create (txt (segName no))).2.append (txt (segName no)) bs).2).sync (txt (segName no))).2.delete (txt (segName no))).2) else
      ((mfWrite ((((D.create (txt (segName no))).2.append (txt (segName no)) bs).2).sync (txt (segName no))).2 [no]).1, if (mfWrite ((((D.create (txt (segName no))).2.append (txt (segName no)) bs).2).sync (txt (segName no))).2 [no]).1 ≠ 0 then ((mfWrite ((((D.create (txt (segName no))).2.append (txt (segName no)) bs).2).sync (txt (segName no))).2 [no]).2.delete (txt (segName no))).2 else (mfWrite ((((D.create (txt (segName no))).2.append (txt (segName no)) bs).2).sync (txt (segName no))).2 [no]).2) := rfl
  rw [hW]
  generalize D.create (txt (segName no)) = cr at hN6 ⊢
  refine ⟨_, rfl, turnC C6 hN6 kX6 fun w7 C7 hN7 kX7 k7 => ⟨_, cell_at C7.2.1 rfl, PIf.neI (fun hne => ?_) (fun h0 => ?_)⟩⟩
  · refine ⟨_, cell_at C7.2.1 rfl, turnC C7 hN7 kX7 fun w8 C8 hN8 kX8 k8 => ⟨_, cell_at C8.2.1 rfl, Ok.mk ?_⟩⟩
    rw [if_pos hne]
    exact ⟨rfl, hN8.mono fun b hb => .inl hb, kX8⟩
  rw [if_neg (by simpa using h0)]
  have hb7 : Row cU8 1 w7 Db a n bs := hb.keep kX7 fun b hb hn => hn (hDb b hb)
  refine ⟨_, cell_at C7.1 rfl, _, cell_at C7.2.2 rfl, PC.ok (hN7.append hb7 hnil fun b hb => .inr (.inl (hDb b hb))) ?_⟩
  rintro _ w8 ⟨rfl, hN8, k8⟩
  have C8 := keepC C7 k8
  have kX8 := toX kX7 k8
  generalize cr.2.append (txt (segName no)) bs = ap at hN8 ⊢
  refine ⟨_, rfl, turnC C8 hN8 kX8 fun w9 C9 hN9 kX9 k9 => ⟨_, cell_at C9.2.1 rfl, PIf.neI (fun hne => ?_) (fun h0 => ?_)⟩⟩
  · refine ⟨_, cell_at C9.2.1 rfl, turnC C9 hN9 kX9 fun w10 C10 hN10 kX10 k10 => ?_⟩
    rw [if_pos hne]
    exact leave _ _ w10 hN10 kX10 C10 (by rw [if_pos hne])
  rw [if_neg (by simpa using h0)]
  refine ⟨_, cell_at C9.1 rfl, _, cell_at C9.2.2 rfl, PC.ok hN9.sync ?_⟩
  rintro _ w10 ⟨rfl, hN10, k10⟩
  have C10 := keepC C9 k10
  have kX10 := toX kX9 k10
  generalize ap.2.sync (txt (segName no)) = sy at hN10 ⊢
  refine ⟨_, rfl, turnC C10 hN10 kX10 fun w11 C11 hN11 kX11 k11 => ⟨_, cell_at C11.2.1 rfl, PIf.neI (fun hne => ?_) (fun h0 => ?_)⟩⟩
  · refine ⟨_, cell_at C11.2.1 rfl, turnC C11 hN11 kX11 fun w12 C12 hN12 kX12 k12 => ?_⟩
    rw [if_pos hne]
    exact leave _ _ w12 hN12 kX12 C12 (by rw [if_pos hne])
  rw [if_neg (by simpa using h0)]
  refine ⟨_, cell_at C11.1 rfl, PA.mk fun w12 k12 s12 g12 => ?_⟩
  have hN12 : NDisk w0 w12 p sy.2 (fun b => Y b ∨ b = w11.heap.size) := hN11.add k12 fun b hb => by subst hb; exact ⟨Nat.le_refl _, lt_of_get g12⟩
  have hrow : Row cI64 8 w12 (· = w11.heap.size) (some ⟨w11.heap.size, 0, none⟩) 1 [no] := Row.lit g12 [no] rfl (fun x hx => by simp at hx; subst hx; exact hno) (by unfold Big; simp)
  refine PC.ok (hN12.mfWrite hL.tabs hrow (fun x hx => by simp at hx; subst hx; exact hno) fun b hb => .inr (.inr hb)) ?_
  rintro _ w13 ⟨rfl, hN13, k13⟩
  have k13Y : Keep (Not' Y) w12 w13 := k13.mono fun b _ hb hy => hb (.inl hy)
  have C12 : C w12 sy.1 := keepC C11 (Grew.keep k12)
  have C13 := keepC C12 k13Y
  have kX13 := toX (kX11.grew k12) k13Y
  exact ⟨_, rfl, turnC C13 (hN13.mono fun b hb => .inl hb) kX13 fun w14 C14 hN14 kX14 k14 => leave _ _ w14 hN14 kX14 C14 rfl⟩

/-- files let go, till one is not -/
def delAll : List Int → DiskV → DiskV
  | [], D => D
  | no :: l, D => if (D.delete (segNm no)).1 ≠ 0 then (D.delete (segNm no)).2 else delAll l (D.delete (segNm no)).2
def logCompact (V : LogV) (D : DiskV) (l : List EventV) (size : Int) : Loaded :=
  if (cmpFrames l).2 ≠ 0 then ⟨(cmpFrames l).2, [], V, D⟩ else
  if (cmpWrite V.next (cmpFrames l).1 D).1 ≠ 0 then ⟨(cmpWrite V.next (cmpFrames l).1 D).1, [], V, (cmpWrite V.next (cmpFrames l).1 D).2⟩ else
  logOpen (delAll V.segs (cmpWrite V.next (cmpFrames l).1 D).2) size

/-- what Compact hands back; the old log lies as it lay -/
def CompactDid (w0 w : World) (p q : Nat) (V : LogV) (X : Nat → Prop) (r : Loaded) (v : Value) (w' : World) : Prop :=
  ∃ G, LogAt w' p q G V ∧ (∀ b, G b → w0.heap.size ≤ b ∧ ¬ X b) ∧ Keep (Not' X) w w' ∧
    ((r.no ≠ 0 ∧ v = .tuple #[.pointer none, .int .i64 r.no] ∧ NDisk w0 w' p r.D (fun b => X b ∨ G b)) ∨
     (r.no = 0 ∧ ∃ q2, v = .tuple #[.pointer (some ⟨q2, 0, none⟩), .int .i64 0] ∧ NLog w0 w' p q2 r.V r.D (fun b => X b ∨ G b)))

theorem cmp_Compact {w0 w : World} {p q : Nat} {V : LogV} {D : DiskV} {X De : Nat → Prop} {size : Int} {a : Option Addr} {n c : Nat} {l : List EventV} (hL : Laid w0) (h : NLog w0 w p q V D X) (hr : Row cEv 96 w De a n l) (hDe : ∀ b, De b → b < w.heap.size) (hl : l.length ≤ 1000) :
    Calls Tryz.prog F_compact_Compact #[.pointer (some ⟨p, 0, none⟩), .pointer (some ⟨q, 0, none⟩), .slice a n c, .int .i64 size] w (Ok (CompactDid w0 w p q V X (logCompact V D l size))) := by
  obtain ⟨G, hD, hla, hG⟩ := id h
  have hmany := hla.many
  refine L_compact_Compact (PC.ok (cmp_frames (hL.grew h.gr) hr hDe hl) ?_)
  rintro _ w1 ⟨a1, n1, c1, F1, rfl, ho1, k1, hF1⟩
  have hz : ∀ b, (X b ∨ G b) → b < w.heap.size := by obtain ⟨F, f1, f2, f3, f4⟩ := hD; exact f4
  refine ⟨_, _, _, _, rfl, PIf.neI (fun hne => Ok.mk ?_) (fun h0 => PC.ok (log_Next (hla.grew k1)) ?_)⟩
  · rw [show logCompact V D l size = ⟨(cmpFrames l).2, [], V, D⟩ by unfold logCompact; rw [if_pos hne]]
    exact ⟨G, hla.grew k1, hG, Grew.keep k1, .inl ⟨hne, rfl, hD.grew k1⟩⟩
  rintro _ _ ⟨rfl, rfl⟩
  have hD1 : NDisk w0 w1 p D (fun b => (X b ∨ G b) ∨ F1 b) := hD.add k1 fun b hb => ⟨hF1 b hb, ho1.dom b hb⟩
  have hlen1 : (cmpFrames l).1.length ≤ 675000 := by
    unfold cmpFrames
    split
    · simp
    · rename_i hno
      have : ∀ e ∈ l, e.Ok ∧ e.deps.length ≤ 64 := fun e he => by
        obtain ⟨i, hi⟩ := List.mem_iff_getElem?.1 he
        obtain ⟨b, off, es, -, -, -, -, a1, n1, c1, -, -, hok⟩ := hr.el i e hi
        refine ⟨hok, ?_⟩
        have : ¬ tooLong e = true := fun hc => hno (List.any_eq_true.2 ⟨e, he, hc⟩)
        unfold tooLong at this
        simp at this; omega
      have := evFrs_le this
      show (evFrs l).length ≤ _
      omega
  refine ⟨_, rfl, PC.ok (cmp_write hL hD1 hla.nextR (ho1.row (bytes := 1) (by decide) (by unfold Big; omega)) (fun e => ho1.nil0 e) fun b hb => .inr hb) ?_⟩
  rintro _ w2 ⟨rfl, hD2, k2⟩
  have hD2' : NDisk w0 w2 p (cmpWrite V.next (cmpFrames l).1 D).2 (fun b => X b ∨ G b) := hD2.mono fun b hb => .inl hb
  have hl2 := (hla.grew k1).keep k2 fun b hb hn => hn (.inl (.inr hb))
  have kX2 : Keep (Not' X) w w2 := (Grew.keep k1).then (k2.mono fun b _ hb hx => hb (.inl (.inl hx)))
  have hC : logCompact V D l size = if (cmpWrite V.next (cmpFrames l).1 D).1 ≠ 0 then ⟨(cmpWrite V.next (cmpFrames l).1 D).1, [], V, (cmpWrite V.next (cmpFrames l).1 D).2⟩ else logOpen (delAll V.segs (cmpWrite V.next (cmpFrames l).1 D).2) size := by
    unfold logCompact; rw [if_neg (by simpa using h0)]
  rw [hC]
  generalize cmpWrite V.next (cmpFrames l).1 D = cw at hD2' ⊢
  refine ⟨_, rfl, PIf.neI (fun hne => Ok.mk ?_) (fun h0 => ?_)⟩
  · rw [if_pos hne]
    exact ⟨G, hl2, hG, kX2, .inl ⟨hne, rfl, hD2'⟩⟩
  rw [if_neg (by simpa using h0)]
  refine ⟨fun w' => NDisk w0 w' p (delAll V.segs cw.2) (fun b => X b ∨ G b) ∧ LogAt w' p q G V ∧ Keep (Not' X) w w', PC.ok (log_Segments hl2) ?_, ?_⟩
  · rintro _ w3 ⟨a3, n3, c3, F3, rfl, ho3, k3, hF3⟩
    have hn3 := ho3.len (by decide)
    have hD3 : NDisk w0 w3 p cw.2 (fun b => (X b ∨ G b) ∨ F3 b) := hD2'.add k3 fun b hb => ⟨hF3 b hb, ho3.dom b hb⟩
    refine ⟨_, _, _, rfl, fun m t w' => ∃ (j : Nat) (Dj : DiskV), t = j ∧ j ≤ n3 ∧ m = n3 - j ∧ delAll V.segs cw.2 = delAll (V.segs.drop j) Dj ∧ NDisk w0 w' p Dj (fun b => (X b ∨ G b) ∨ F3 b) ∧ Lst cI64 3 F3 w' a3 n3 c3 V.segs ∧ LogAt w' p q G V ∧ Keep (Not' X) w w',
      ⟨_, 0, cw.2, rfl, Nat.zero_le _, rfl, rfl, hD3, ho3, hl2.grew k3, kX2.grew k3⟩, ?_⟩
    rintro m t _ w4 ⟨j, Dj, rfl, hj, rfl, hdel, hD4, ho4, hl4, kX4⟩
    refine PIf.dec (fun hlt => ?_) (fun hge => ?_)
    · have hr4 : Row cI64 8 w4 F3 a3 n3 V.segs := ho4.row (by decide) (by unfold Big; omega)
      obtain ⟨b, off, x, rfl, hx, hxr, hc⟩ := hr4.at1 (i := j) (by omega)
      refine ⟨b, off, rfl, by omega, by omega, x, hc, PC.ok (seg_Name (hL.grew hD4.gr) hxr) ?_⟩
      rintro _ w5 ⟨rfl, k5⟩
      refine ⟨_, rfl, PC.ok (hD4.grew k5).delete ?_⟩
      rintro _ w6 ⟨rfl, hD6, k6⟩
      have hdrop : V.segs.drop j = x :: V.segs.drop (j + 1) := by
        obtain ⟨hj2, rfl⟩ := List.getElem?_eq_some_iff.1 hx
        exact List.drop_eq_getElem_cons hj2
      rw [hdrop] at hdel
      have hd2 : delAll V.segs cw.2 = if (Dj.delete (txt (segName x))).1 ≠ 0 then (Dj.delete (txt (segName x))).2 else delAll (V.segs.drop (j + 1)) (Dj.delete (txt (segName x))).2 := hdel
      have hl6 := (hl4.grew k5).keep k6 fun b hb hn => hn (.inl (.inr hb))
      have kX6 : Keep (Not' X) w w6 := (kX4.grew k5).then (k6.mono fun b _ hb hx => hb (.inl (.inl hx)))
      have ho6 := (ho4.grew k5).keep k6 fun b hb hn => hn (.inr hb)
      generalize Dj.delete (txt (segName x)) = r at hd2 hD6 ⊢
      refine ⟨_, rfl, PIf.neI (fun hne => ?_) (fun h0 => ?_)⟩
      · rw [hd2, if_pos hne]
        exact ⟨hD6.mono fun b hb => .inl hb, hl6, kX6⟩
      · rw [if_neg (by simpa using h0)] at hd2
        exact ⟨n3 - (j + 1), by omega, j + 1, r.2, wrap_succ (by omega), by omega, rfl, hd2, hD6, ho6, hl6, kX6⟩
    · obtain rfl : j = n3 := by omega
      rw [List.drop_of_length_le (by omega)] at hdel
      rw [hdel]
      exact ⟨hD4.mono fun b hb => .inl hb, hl4, kX4⟩
  · rintro _ w3 ⟨hD3, hl3, kX3⟩
    refine PC.ok (log_Open (size := size) hL hD3) ?_
    rintro _ w4 (⟨hne, rfl, hD4, k4⟩ | ⟨h0, q2, a4, n4, c4, G4, rfl, ho4, hN4, k4, -, -, -⟩)
    · exact ⟨_, _, _, _, _, rfl, Ok.mk ⟨G, hl3.keep k4 fun b hb hn => hn (.inr hb), hG, kX3.then (k4.mono fun b _ hb hx => hb (.inl hx)), .inl ⟨hne, rfl, hD4⟩⟩⟩
    · exact ⟨_, _, _, _, _, rfl, Ok.mk ⟨G, hl3.keep k4 fun b hb hn => hn (.inr hb), hG, kX3.then (k4.mono fun b _ hb hx => hb (.inl hx)), .inr ⟨h0, q2, rfl, hN4.mono fun b hb => .inl hb⟩⟩⟩
end Go.Proofs.YtpbpjojdfcdbbaaGreatDoor

/- seglog, in plain Lean: events laid, a log opened -/
namespace Go.Proofs.YtpbpjojdfcdbbaaGreatDoor
open Go.Lift
set_option linter.unusedVariables false
set_option maxRecDepth 20000

theorem segLoad_all {l : List EventV} (h : ∀ e ∈ l, e.Ok ∧ e.deps.length ≤ 64) : segLoad (evFrs l) = (l, (evFrs l).length) := by
  have := segLoad_evs h []
  rw [List.append_nil, segLoad_nil] at this
  simpa using this
theorem evFrs_pre (l : List EventV) (q : Nat) : (evFrs l).take (evFrs (l.take q)).length = evFrs (l.take q) := by
  conv => lhs; rw [← List.take_append_drop q l, evFrs_append]
  rw [show (List.take q (List.take q l ++ List.drop q l)) = l.take q by rw [List.take_append_drop]]
  exact List.take_left

/-! the next number -/
theorem segNoV_nm {n : Int} (h : 0 ≤ n ∧ n < 1000000000000) : segNoV (segNm n) = (n, true) := by
  unfold segNoV segNm
  rw [txt_list, segNo_name h.1 h.2]
  simp; omega
theorem step_ge (n : Int) (s : ByteArray) : n ≤ nextStep n s := by unfold nextStep; split <;> omega
theorem fold_ge : ∀ (l : List ByteArray) (n : Int), n ≤ l.foldl nextStep n
  | [], n => Int.le_refl n
  | s :: l, n => Int.le_trans (step_ge n s) (fold_ge l _)
theorem fold_mem : ∀ (l : List ByteArray) (n : Int) {s : ByteArray}, s ∈ l → (segNoV s).2 = true → (segNoV s).1 + 1 ≤ l.foldl nextStep n
  | t :: l, n, s, hs, h2 => by
    rcases List.mem_cons.1 hs with rfl | hs
    · refine Int.le_trans ?_ (fold_ge l _)
      unfold nextStep; rw [if_pos h2]; omega
    · exact fold_mem l _ hs h2
theorem nextV_gt {D : DiskV} {n : Int} (h : 0 ≤ n ∧ n < 1000000000000) (hs : (aget D.files (segNm n)).isSome = true) : n < nextV D := by
  have h1 := fold_mem D.list 1 (mem_list'.2 hs) (by rw [segNoV_nm h])
  rw [segNoV_nm h] at h1
  unfold nextV nextL
  simp only at h1
  omega

section
variable {D E : DiskV} {A : Segs} {no : Int} {l x : List EventV} {k j n s : Nat} {V : LogV}
def dur (A : Segs) (k : Nat) : Nat := ((A.map (·.2)).flatten).length + k
/-- all but the last are full -/
def Fat (size : Int) (A : Segs) : Prop := ∀ y ∈ A, size ≤ ((evFrs y.2).length : Nat)

/-- EVENTS LAID -/
theorem held_append (h : Held D A no l k) (hv : VOk V A no l) (hx : ∀ e ∈ x, e.Ok) (hl : x.length ≤ 1000) (hok : D.Ok) (hfat : Fat V.size A) :
    ∃ A' no' l' k', Held (logAppend V D x).2.2 A' no' l' k' ∧ VOk (logAppend V D x).2.1 A' no' l' ∧ dur A k ≤ dur A' k' ∧ evsOf A' l' = (if (logAppend V D x).1 = 0 then evsOf A l ++ x else evsOf A l) ∧ (logAppend V D x).2.1.size = V.size ∧ Fat V.size A' ∧
      ((A' = A ∧ no' = no ∧ (logAppend V D x).2.1.next = V.next) ∨ (A' = A ++ [(no, l)] ∧ no' = V.next ∧ (logAppend V D x).2.1.next = V.next + 1)) := by
  unfold logAppend
  by_cases h3 : x.any tooLong = true
  · rw [if_pos h3]
    exact ⟨A, no, l, k, h, hv, Nat.le_refl _, rfl, rfl, hfat, .inl ⟨rfl, rfl, rfl⟩⟩
  rw [if_neg h3]
  by_cases h4 : x = []
  · rw [if_pos h4]
    exact ⟨A, no, l, k, h, hv, Nat.le_refl _, by rw [if_pos rfl, h4, List.append_nil], rfl, hfat, .inl ⟨rfl, rfl, rfl⟩⟩
  rw [if_neg h4]
  have hxe : ∀ e ∈ x, e.Ok ∧ e.deps.length ≤ 64 := fun e he => ⟨hx e he, by
    have : ¬ tooLong e = true := fun hc => h3 (List.any_eq_true.2 ⟨e, he, hc⟩)
    unfold tooLong at this
    simp at this; omega⟩
  have hxl := evFrs_le hxe
  have hll : (evFrs l).length ≤ 262144 := by
    obtain ⟨s, g1, _⟩ := h.last
    exact hok.len (aget_mem g1)
  /- behind the beginning of a segment -/
  have main : ∀ (r : Int × LogV × DiskV) (A' : Segs) (no' : Int) (l' : List EventV) (k' : Nat), r.1 = 0 → Held r.2.2 A' no' l' k' → VOk r.2.1 A' no' l' → (evFrs l').length ≤ 262144 → dur A k ≤ dur A' k' → evsOf A' l' = evsOf A l → r.2.1.size = V.size → Fat V.size A' →
      ((A' = A ∧ no' = no ∧ r.2.1.next = V.next) ∨ (A' = A ++ [(no, l)] ∧ no' = V.next ∧ r.2.1.next = V.next + 1)) →
      ∃ A' no' l' k', Held (if r.1 ≠ 0 then r else if (r.2.2.append r.2.1.last (evFrs x)).1 ≠ 0 then ((r.2.2.append r.2.1.last (evFrs x)).1, r.2.1, (r.2.2.append r.2.1.last (evFrs x)).2) else (0, ⟨r.2.1.size, r.2.1.segs, IntKind.wrap .i64 (r.2.1.bytes + ((evFrs x).length : Nat)), r.2.1.next⟩, (r.2.2.append r.2.1.last (evFrs x)).2)).2.2 A' no' l' k' ∧
        VOk (if r.1 ≠ 0 then r else if (r.2.2.append r.2.1.last (evFrs x)).1 ≠ 0 then ((r.2.2.append r.2.1.last (evFrs x)).1, r.2.1, (r.2.2.append r.2.1.last (evFrs x)).2) else (0, ⟨r.2.1.size, r.2.1.segs, IntKind.wrap .i64 (r.2.1.bytes + ((evFrs x).length : Nat)), r.2.1.next⟩, (r.2.2.append r.2.1.last (evFrs x)).2)).2.1 A' no' l' ∧ dur A k ≤ dur A' k' ∧
        evsOf A' l' = (if (if r.1 ≠ 0 then r else if (r.2.2.append r.2.1.last (evFrs x)).1 ≠ 0 then ((r.2.2.append r.2.1.last (evFrs x)).1, r.2.1, (r.2.2.append r.2.1.last (evFrs x)).2) else (0, ⟨r.2.1.size, r.2.1.segs, IntKind.wrap .i64 (r.2.1.bytes + ((evFrs x).length : Nat)), r.2.1.next⟩, (r.2.2.append r.2.1.last (evFrs x)).2)).1 = 0 then evsOf A l ++ x else evsOf A l) ∧
        (if r.1 ≠ 0 then r else if (r.2.2.append r.2.1.last (evFrs x)).1 ≠ 0 then ((r.2.2.append r.2.1.last (evFrs x)).1, r.2.1, (r.2.2.append r.2.1.last (evFrs x)).2) else (0, ⟨r.2.1.size, r.2.1.segs, IntKind.wrap .i64 (r.2.1.bytes + ((evFrs x).length : Nat)), r.2.1.next⟩, (r.2.2.append r.2.1.last (evFrs x)).2)).2.1.size = V.size ∧ Fat V.size A' ∧
        ((A' = A ∧ no' = no ∧ (if r.1 ≠ 0 then r else if (r.2.2.append r.2.1.last (evFrs x)).1 ≠ 0 then ((r.2.2.append r.2.1.last (evFrs x)).1, r.2.1, (r.2.2.append r.2.1.last (evFrs x)).2) else (0, ⟨r.2.1.size, r.2.1.segs, IntKind.wrap .i64 (r.2.1.bytes + ((evFrs x).length : Nat)), r.2.1.next⟩, (r.2.2.append r.2.1.last (evFrs x)).2)).2.1.next = V.next) ∨
          (A' = A ++ [(no, l)] ∧ no' = V.next ∧ (if r.1 ≠ 0 then r else if (r.2.2.append r.2.1.last (evFrs x)).1 ≠ 0 then ((r.2.2.append r.2.1.last (evFrs x)).1, r.2.1, (r.2.2.append r.2.1.last (evFrs x)).2) else (0, ⟨r.2.1.size, r.2.1.segs, IntKind.wrap .i64 (r.2.1.bytes + ((evFrs x).length : Nat)), r.2.1.next⟩, (r.2.2.append r.2.1.last (evFrs x)).2)).2.1.next = V.next + 1)) := by
    intro r A' no' l' k' r0 hh hv' hb hd he hs hf hc
    rw [if_neg (by simpa using r0)]
    rw [Held.lastNm hv']
    rcases append_eff r.2.2 (segNm no') (evFrs x) with ⟨a1, a2⟩ | ⟨a1, f, hf', a2⟩
    · rw [if_pos a1]
      exact ⟨A', no', l', k', hh.files a2, hv', hd, by rw [if_neg a1]; exact he, hs, hf, hc⟩
    · rw [if_neg (by simpa using a1)]
      obtain ⟨s, g1, g2, g3⟩ := hh.last
      rw [g1] at hf'; cases hf'
      refine ⟨A', no', l' ++ x, k', hh.put (s := s) (by rw [a2, evFrs_append]) (by have := hh.kl; simp; omega) ?_ (by rw [evFrs_append]; simp; omega) ?_, ⟨hv'.segs, ?_, hv'.next⟩, hd, ?_, hs, hf, hc⟩
      · rw [List.take_append_of_le_length hh.kl]; exact g2
      · intro e hee
        rcases List.mem_append.1 hee with h' | h'
        · exact hh.evl e h'
        · exact hxe e h'
      · show IntKind.wrap .i64 _ = _
        rw [hv'.bytes, wrap_i64 (by unfold I64; omega), evFrs_append]; simp
      · rw [if_pos rfl, ← he]; simp [evsOf]
  dsimp only
  by_cases hc : V.size ≤ V.bytes
  · rw [if_pos hc]
    rcases h.begin hv with ⟨b1, b2, b3⟩ | ⟨b1, b2, b3, b4, b5⟩
    · rw [if_pos b1]
      exact ⟨A, no, l, k, b3, by rw [b2]; exact hv, Nat.le_refl _, by rw [if_neg b1], by rw [b2], hfat, .inl ⟨rfl, rfl, by rw [b2]⟩⟩
    · refine main _ (A ++ [(no, l)]) V.next [] 0 b1 b3 b4 (by simp [evFrs]) ?_ (by rw [evsOf_snoc, List.append_nil]) b2 ?_ (.inr ⟨rfl, rfl, b5⟩)
      · have := h.kl; unfold dur; simp; omega
      · intro y hy
        rcases List.mem_append.1 hy with h' | h'
        · exact hfat y h'
        · rw [List.mem_singleton] at h'; subst h'
          rw [hv.bytes] at hc; exact hc
  · rw [if_neg hc]
    exact main (0, V, D) A no l k rfl h hv hll (Nat.le_refl _) rfl rfl hfat (.inl ⟨rfl, rfl, rfl⟩)

/-! without a fuse -/
theorem begin2_alive (ha : Alive D) (ht : Tidy D.files) (hn : 0 ≤ V.next ∧ V.next < 1000000000000) (hf : aget D.files (segNm V.next) = none) :
    Alive (begin2 V D).2.2 ∧ ((begin2 V D).1 = 0 ∨ (begin2 V D).1 = 3 ∨ (begin2 V D).1 = 12) ∧ ((begin2 V D).1 ≠ 0 → aget (begin2 V D).2.2.files (segNm V.next) = none) := by
  obtain ⟨nm, nt⟩ := segNm_ne (n := V.next) (.inr hn)
  unfold begin2
  dsimp only
  rw [show txt (segName V.next) = segNm V.next from rfl]
  obtain ⟨a1, a2⟩ := ha.create (segNm V.next)
  have a2 := a2 ((segNm_name hn.1).2 hn.2) hf
  rcases create_eff D (segNm V.next) with ⟨c1, c2⟩ | ⟨c1, c2, c3, c4⟩
  · rw [if_pos c1]
    exact ⟨a1, a2.imp id .inr, fun _ => by show aget (D.create _).2.files _ = none; rw [c2]; exact hf⟩
  rw [if_neg (show ¬ (D.create (segNm V.next)).1 ≠ 0 by simpa using c1)]
  have t1 : But (segNm V.next) D (D.create (segNm V.next)).2 := (But.refl ht).put c4
  have g1 : aget (D.create (segNm V.next)).2.files (segNm V.next) = some ⟨[], 0, false⟩ := by rw [c4, aget_aput]; simp
  generalize (D.create (segNm V.next)).2 = D1 at t1 g1 a1
  unfold begin3
  dsimp only
  rw [show txt (segName V.next) = segNm V.next from rfl]
  obtain ⟨s1, s2⟩ := a1.sync (segNm V.next)
  have s2 := s2 _ g1
  rw [if_neg (show ¬ (D1.sync (segNm V.next)).1 ≠ 0 by simpa using s2)]
  have t2 : Tidy (D1.sync (segNm V.next)).2.files := by
    rcases sync_eff D1 (segNm V.next) with ⟨d1, d2⟩ | ⟨d1, f, hf, d2⟩
    · rw [d2]; exact t1.1
    · rw [d2]; exact t1.1.aput _ _
  generalize (D1.sync (segNm V.next)).2 = D2 at t2 s1
  obtain ⟨m1, m2⟩ := s1.mfWrite t2 (V.segs ++ [V.next])
  have mt : Tidy (mfWrite D2 (V.segs ++ [V.next])).2.files := by
    rcases mf_eff t2 (V.segs ++ [V.next]) with ⟨-, e, -⟩ | ⟨-, -, e, -⟩ <;> exact e
  by_cases h0 : (mfWrite D2 (V.segs ++ [V.next])).1 = 0
  · rw [if_neg (by simpa using h0)]
    exact ⟨m1, .inl rfl, fun h => absurd rfl h⟩
  · rw [if_pos h0]
    obtain ⟨d1, d2⟩ := m1.delete (segNm V.next)
    refine ⟨d1, m2, fun _ => ?_⟩
    show aget ((mfWrite D2 (V.segs ++ [V.next])).2.delete (segNm V.next)).2.files _ = none
    rcases d2 with d2 | ⟨d2, d3⟩
    · rw [d2, aget_adel mt]; simp
    · rw [d3]; exact d2

/-- no file of a number from the next one on -/
def Fresh (V : LogV) (D : DiskV) : Prop := ∀ m, V.next ≤ m → m < 1000000000000 → aget D.files (segNm m) = none

theorem Held.begin_alive (h : Held D A no l k) (hv : VOk V A no l) (ha : Alive D) (hf : Fresh V D) (hn : V.next < 1000000000000) :
    Alive (logBegin V D).2.2 ∧ ((logBegin V D).1 = 0 ∨ (logBegin V D).1 = 3 ∨ (logBegin V D).1 = 12) ∧ Fresh (logBegin V D).2.1 (logBegin V D).2.2 := by
  have hne : ¬ V.segs = [] := by rw [hv.segs]; simp
  have hnr := h.no_rng
  have hvn := hv.next
  have e : logBegin V D = if (D.sync (segNm no)).1 ≠ 0 then ((D.sync (segNm no)).1, V, (D.sync (segNm no)).2) else Go.Proofs.YtpbpjojdfcdbbaaGreatDoor.begin2 V (D.sync (segNm no)).2 := by
    unfold logBegin; rw [if_neg hne, Held.lastNm hv]
  obtain ⟨s, g1, _⟩ := h.last
  obtain ⟨s1, s2⟩ := ha.sync (segNm no)
  have s2 := s2 _ g1
  rw [e, if_neg (by simpa using s2)]
  have hnen : ∀ m, V.next ≤ m → m < 1000000000000 → segNm m ≠ segNm no := fun m h1 h2 e => by
    have := segNm_inj (a := no) (by omega) e; omega
  have f1 : ∀ m, V.next ≤ m → m < 1000000000000 → aget (D.sync (segNm no)).2.files (segNm m) = none := fun m h1 h2 => by
    rcases sync_eff D (segNm no) with ⟨d1, d2⟩ | ⟨d1, f, hf', d2⟩
    · rw [d2]; exact hf m h1 h2
    · rw [d2, aget_aput, if_neg (by simpa using hnen m h1 h2)]; exact hf m h1 h2
  have t1 : Tidy (D.sync (segNm no)).2.files := by
    rcases sync_eff D (segNm no) with ⟨d1, d2⟩ | ⟨d1, f, hf', d2⟩
    · rw [d2]; exact h.tidy
    · rw [d2]; exact h.tidy.aput _ _
  generalize (D.sync (segNm no)).2 = D1 at s1 f1 t1
  obtain ⟨b1, b2, b3⟩ := begin2_alive s1 t1 ⟨by omega, hn⟩ (f1 _ (Int.le_refl _) hn)
  refine ⟨b1, b2, ?_⟩
  have hnm : ∀ m, V.next ≤ m → m < 1000000000000 → segNm m ≠ mName ∧ segNm m ≠ mTemp := fun m h1 h2 => segNm_ne (.inr (by omega))
  rcases begin2_eff (V := V) t1 (by omega) with ⟨c1, c2, c3, c4⟩ | ⟨c1, c2, c3, c4, c5, c6, c7, c8, c9⟩
  · rw [c2]
    intro m h1 h2
    by_cases hm : m = V.next
    · subst hm; exact b3 c1
    · rw [c4 _ (fun e => hm (segNm_inj (a := V.next) (by omega) e)) (hnm m h1 h2).2]; exact f1 m h1 h2
  · rw [c5]
    intro m h1 h2
    simp only at h1
    rw [c9 _ (fun e => by have := segNm_inj (a := V.next) (by omega) e; omega) (hnm m (by omega) h2).2 (hnm m (by omega) h2).1]; exact f1 m (by omega) h2

theorem append_alive (h : Held D A no l k) (hv : VOk V A no l) (ha : Alive D) (hf : Fresh V D) (hn : V.next < 1000000000000) (x : List EventV) :
    Alive (logAppend V D x).2.2 ∧ ((logAppend V D x).1 = 0 ∨ (logAppend V D x).1 = 3 ∨ (logAppend V D x).1 = 12) ∧ Fresh (logAppend V D x).2.1 (logAppend V D x).2.2 := by
  unfold logAppend
  split
  · exact ⟨ha, .inr (.inl rfl), hf⟩
  split
  · exact ⟨ha, .inl rfl, hf⟩
  dsimp only
  have main : ∀ (r : Int × LogV × DiskV) (A' : Segs) (no' : Int) (l' : List EventV) (k' : Nat), r.1 = 0 → Held r.2.2 A' no' l' k' → VOk r.2.1 A' no' l' → Alive r.2.2 → Fresh r.2.1 r.2.2 →
      Alive (if (r.2.2.append r.2.1.last (evFrs x)).1 ≠ 0 then ((r.2.2.append r.2.1.last (evFrs x)).1, r.2.1, (r.2.2.append r.2.1.last (evFrs x)).2) else (0, ⟨r.2.1.size, r.2.1.segs, IntKind.wrap .i64 (r.2.1.bytes + ((evFrs x).length : Nat)), r.2.1.next⟩, (r.2.2.append r.2.1.last (evFrs x)).2) : Int × LogV × DiskV).2.2 ∧
      ((if (r.2.2.append r.2.1.last (evFrs x)).1 ≠ 0 then ((r.2.2.append r.2.1.last (evFrs x)).1, r.2.1, (r.2.2.append r.2.1.last (evFrs x)).2) else (0, ⟨r.2.1.size, r.2.1.segs, IntKind.wrap .i64 (r.2.1.bytes + ((evFrs x).length : Nat)), r.2.1.next⟩, (r.2.2.append r.2.1.last (evFrs x)).2) : Int × LogV × DiskV).1 = 0 ∨
        (if (r.2.2.append r.2.1.last (evFrs x)).1 ≠ 0 then ((r.2.2.append r.2.1.last (evFrs x)).1, r.2.1, (r.2.2.append r.2.1.last (evFrs x)).2) else (0, ⟨r.2.1.size, r.2.1.segs, IntKind.wrap .i64 (r.2.1.bytes + ((evFrs x).length : Nat)), r.2.1.next⟩, (r.2.2.append r.2.1.last (evFrs x)).2) : Int × LogV × DiskV).1 = 3 ∨
        (if (r.2.2.append r.2.1.last (evFrs x)).1 ≠ 0 then ((r.2.2.append r.2.1.last (evFrs x)).1, r.2.1, (r.2.2.append r.2.1.last (evFrs x)).2) else (0, ⟨r.2.1.size, r.2.1.segs, IntKind.wrap .i64 (r.2.1.bytes + ((evFrs x).length : Nat)), r.2.1.next⟩, (r.2.2.append r.2.1.last (evFrs x)).2) : Int × LogV × DiskV).1 = 12) ∧
      Fresh (if (r.2.2.append r.2.1.last (evFrs x)).1 ≠ 0 then ((r.2.2.append r.2.1.last (evFrs x)).1, r.2.1, (r.2.2.append r.2.1.last (evFrs x)).2) else (0, ⟨r.2.1.size, r.2.1.segs, IntKind.wrap .i64 (r.2.1.bytes + ((evFrs x).length : Nat)), r.2.1.next⟩, (r.2.2.append r.2.1.last (evFrs x)).2) : Int × LogV × DiskV).2.1 (if (r.2.2.append r.2.1.last (evFrs x)).1 ≠ 0 then ((r.2.2.append r.2.1.last (evFrs x)).1, r.2.1, (r.2.2.append r.2.1.last (evFrs x)).2) else (0, ⟨r.2.1.size, r.2.1.segs, IntKind.wrap .i64 (r.2.1.bytes + ((evFrs x).length : Nat)), r.2.1.next⟩, (r.2.2.append r.2.1.last (evFrs x)).2) : Int × LogV × DiskV).2.2 := by
    intro r A' no' l' k' r0 hh hv' ha' hf'
    rw [Held.lastNm hv']
    obtain ⟨s, g1, _⟩ := hh.last
    obtain ⟨p1, p2⟩ := ha'.append (segNm no') (evFrs x)
    have p2 := p2 _ g1
    have hfr : ∀ m, r.2.1.next ≤ m → m < 1000000000000 → aget (r.2.2.append (segNm no') (evFrs x)).2.files (segNm m) = none := fun m h1 h2 => by
      rcases append_eff r.2.2 (segNm no') (evFrs x) with ⟨a1, a2⟩ | ⟨a1, f, hff, a2⟩
      · rw [a2]; exact hf' m h1 h2
      · have := hh.no_rng; have := hv'.next
        rw [a2, aget_aput, if_neg (by simpa using fun e => by have := segNm_inj (a := no') (by omega) e; omega)]; exact hf' m h1 h2
    split
    · exact ⟨p1, p2.imp id .inr, hfr⟩
    · exact ⟨p1, .inl rfl, hfr⟩
  by_cases hc : V.size ≤ V.bytes
  · rw [if_pos hc]
    obtain ⟨b1, b2, b3⟩ := h.begin_alive hv ha hf hn
    by_cases h0 : (logBegin V D).1 = 0
    · rw [if_neg (by simpa using h0)]
      rcases h.begin hv with ⟨c1, -⟩ | ⟨c1, c2, c3, c4, c5⟩
      · exact absurd h0 c1
      · exact main _ _ _ _ _ h0 c3 c4 b1 b3
    · rw [if_pos h0]; exact ⟨b1, b2, b3⟩
  · rw [if_neg hc, if_neg (fun hc : ((0, V, D) : Int × LogV × DiskV).1 ≠ 0 => hc rfl)]
    exact main (0, V, D) _ _ _ _ rfl h hv ha hf
end
end Go.Proofs.YtpbpjojdfcdbbaaGreatDoor

/- seglog, in plain Lean: a log opened -/
namespace Go.Proofs.YtpbpjojdfcdbbaaGreatDoor
open Go.Lift
set_option linter.unusedVariables false
set_option maxRecDepth 20000

section
variable {D E : DiskV} {A : Segs} {no : Int} {l x : List EventV} {k j n s : Nat} {V : LogV}
theorem Alive.read (ha : Alive D) {nm : ByteArray} {f : FileV} (hf : aget D.files nm = some f) : D.read nm = (f.bytes, 0) := by
  unfold DiskV.read; rw [ha.dead, hf]; rfl
theorem Alive.told (ha : Alive D) {L : List Int} (hm : aget D.files mName = some (fullF (mfBytes L))) (hr : ∀ x ∈ L, I64 x) (hl : L.length ≤ 64) : told D = L := by
  unfold Go.Proofs.YtpbpjojdfcdbbaaGreatDoor.told mfTell
  rw [ha.read hm, if_neg (by simp), show (fullF (mfBytes L)).bytes = mfBytes L from rfl, mfRead_bytes hr hl]; rfl

theorem loadGo_full (ha : Alive D) : ∀ (A : Segs) (rest : List Int) (out : List EventV) (V : LogV), (∀ x ∈ A, aget D.files (segNm x.1) = some (fullF (evFrs x.2))) → (∀ e ∈ (A.map (·.2)).flatten, e.Ok ∧ e.deps.length ≤ 64) →
    ∃ b, loadGo (nums A ++ rest) out V D = loadGo rest (out ++ (A.map (·.2)).flatten) ⟨V.size, V.segs ++ nums A, b, V.next⟩ D
  | [], rest, out, V, _, _ => ⟨V.bytes, by simp [nums]⟩
  | y :: A, rest, out, V, hf, he => by
    have hr := ha.read (hf y (List.mem_cons_self ..))
    have hs := segLoad_all (l := y.2) fun e hh => he e (by simp only [List.map_cons, List.flatten_cons]; exact List.mem_append_left _ hh)
    obtain ⟨b, hb⟩ := loadGo_full ha A rest (out ++ y.2) ⟨V.size, V.segs ++ [y.1], ((evFrs y.2).length : Nat), V.next⟩ (fun x hx => hf x (List.mem_cons_of_mem _ hx)) fun e hh => he e (by simp only [List.map_cons, List.flatten_cons]; exact List.mem_append_right _ hh)
    refine ⟨b, ?_⟩
    have e1 : nums (y :: A) ++ rest = y.1 :: (nums A ++ rest) := rfl
    rw [e1]
    conv => lhs; unfold loadGo
    have e2 : (fullF (evFrs y.2)).bytes = evFrs y.2 := rfl
    rw [hr, if_neg (by simp), e2]
    dsimp only
    rw [hs, if_neg (by simp)]
    dsimp only
    rw [hb]
    simp [nums, List.append_assoc]

/-- OPENED -/
theorem open_held {size : Int} (ha : Alive D) (ht : Tidy D.files) (h : Held E A no l k) (hfull : ∀ x ∈ A, aget D.files (segNm x.1) = some (fullF (evFrs x.2))) (hman : aget D.files mName = some (fullF (mfBytes (nums A ++ [no]))))
    (hlast : aget D.files (segNm no) = some ⟨(evFrs l).take n, s, true⟩) (hs : s ≤ min n (evFrs l).length) (hk : (evFrs (l.take k)).length ≤ s) :
    ∃ q, k ≤ q ∧ q ≤ l.length ∧ ((evFrs l).length ≤ n → q = l.length) ∧ (logOpen D size).no = 0 ∧ (logOpen D size).out = evsOf A (l.take q) ∧ VOk (logOpen D size).V A no (l.take q) ∧ (logOpen D size).V.size = size ∧ (logOpen D size).V.next = nextV D ∧
      Held (logOpen D size).D A no (l.take q) k ∧ Alive (logOpen D size).D ∧ (s = min n (evFrs l).length → Held (logOpen D size).D A no (l.take q) q) ∧ ∀ x, x ≠ segNm no → aget (logOpen D size).D.files x = aget D.files x := by
  have hel := h.evl
  obtain ⟨q, q1, q2, q3, q4⟩ := segLoad_torn hel n
  have hqt := evFrs_take_le l q
  have hkq : k ≤ q := by
    refine Nat.le_of_not_lt fun hlt => ?_
    have h1 := q4 (by have := h.kl; omega)
    have h2 := evFrs_take (l := l) (i := q + 1) (j := k) hlt
    omega
  have hqa : (evFrs l).length ≤ n → q = l.length := fun hn => by
    refine Nat.le_antisymm q1 (Nat.le_of_not_lt fun hlt => ?_)
    have h1 := q4 hlt
    have h2 := evFrs_take_le l (q + 1)
    omega
  have hnI : ∀ x ∈ nums A ++ [no], I64 x := fun x hx => by have := h.rng x hx; unfold I64; omega
  have hnl : (nums A ++ [no]).length ≤ 64 := by have := h.many; simpa [nums] using this
  have htold := ha.told hman hnI hnl
  obtain ⟨b, hb⟩ := loadGo_full ha A [no] [] (logStart D size) hfull fun e he => h.evs e (List.mem_append_left _ he)
  have hr := ha.read hlast
  simp only at hr
  have hrl : ((evFrs l).take n).length = min n (evFrs l).length := List.length_take
  have hnx : no < nextV D := nextV_gt (by have := h.no_rng; omega) (by rw [hlast]; rfl)
  have hnx2 := nextL_rng D.list
  have hev : ∀ e ∈ l.take q, e.Ok ∧ e.deps.length ≤ 64 := fun e he => hel e (List.mem_of_mem_take he)
  have hH : Held ⟨D.most, aput D.files (segNm no) ⟨evFrs l, (evFrs l).length, true⟩, D.fused, D.left, D.dead⟩ A no l k := by
    have hne := h.no_ne
    have hm := (segNm_ne (n := no) (.inr (by have := h.no_rng; omega))).1
    exact ⟨ht.aput _ _, fun x hx => by show aget (aput _ _ _) _ = _; rw [aget_aput, if_neg (by simpa using hne x hx)]; exact hfull x hx, ⟨_, by show aget (aput _ _ _) _ = _; rw [aget_aput]; simp, by exact evFrs_take_le l k, Nat.le_refl _⟩, h.kl, by show aget (aput _ _ _) _ = _; rw [aget_aput, if_neg (by simpa using hm.symm)]; exact hman, h.rng, h.rise, h.evs, h.many⟩
  have hlo : loadGo (told D) [] (logStart D size) D = loadGo [no] ((A.map (·.2)).flatten) ⟨size, nums A, b, nextV D⟩ D := by
    rw [htold, hb]; simp [logStart]
  have hone : loadGo [no] ((A.map (·.2)).flatten) ⟨size, nums A, b, nextV D⟩ D =
      if (evFrs (l.take q)).length < ((evFrs l).take n).length then ⟨(D.cutF (segNm no) (evFrs (l.take q)).length).1, evsOf A (l.take q), ⟨size, nums A ++ [no], ((evFrs (l.take q)).length : Nat), nextV D⟩, (D.cutF (segNm no) (evFrs (l.take q)).length).2⟩
      else ⟨0, evsOf A (l.take q), ⟨size, nums A ++ [no], ((evFrs (l.take q)).length : Nat), nextV D⟩, D⟩ := by
    unfold loadGo
    rw [hr, if_neg (by simp)]
    dsimp only
    rw [q2]
    dsimp only
    split
    · rfl
    · unfold loadGo; rfl
  have hend : ∀ (r : Loaded), r.no = 0 → r.V.segs = nums A ++ [no] → openEnd (told D).length r = r := fun r r0 r1 => by
    unfold openEnd
    rw [if_neg (by simpa using r0), if_neg (by rw [r1]; simp), if_neg (by rw [r1, htold]; omega)]
  have hfin : logOpen D size = loadGo (told D) [] (logStart D size) D := by
    unfold logOpen
    rw [hlo, hone]
    split
    · exact hend _ (ha.cutF hlast _).1 rfl
    · exact hend _ rfl rfl
  rw [hfin, hlo, hone]
  refine ⟨q, hkq, q1, hqa, ?_⟩
  split
  · rename_i hcut
    obtain ⟨c1, c2, c3⟩ := ha.cutF hlast ((evFrs (l.take q)).length : Nat)
    have hcl : clampN ((evFrs (l.take q)).length : Nat) ((evFrs l).take n).length = (evFrs (l.take q)).length := by unfold clampN; omega
    have hcf : (⟨(evFrs l).take n, s, true⟩ : FileV).cut ((evFrs (l.take q)).length : Nat) = ⟨evFrs (l.take q), (evFrs (l.take q)).length, true⟩ := by
      unfold FileV.cut
      simp only [hcl]
      rw [List.take_take, Nat.min_eq_left q3, evFrs_pre]
    have hfs : (D.cutF (segNm no) ((evFrs (l.take q)).length : Nat)).2.files = aput D.files (segNm no) ⟨evFrs (l.take q), (evFrs (l.take q)).length, true⟩ := by
      rw [c2, hcf]; rfl
    have hh : ∀ k', k' ≤ q → Held (D.cutF (segNm no) ((evFrs (l.take q)).length : Nat)).2 A no (l.take q) k' := fun k' hk' =>
      hH.put (s := (evFrs (l.take q)).length) (by rw [hfs]; show _ = aput (aput _ _ _) _ _; rw [aput_aput]) (by simp; omega) (evFrs_take_le _ _) (Nat.le_refl _) hev
    refine ⟨c1, rfl, ⟨rfl, rfl, hnx, hnx2.2⟩, rfl, rfl, hh k hkq, c3, fun _ => hh q (Nat.le_refl _), fun x hx => ?_⟩
    show aget (D.cutF (segNm no) ((evFrs (l.take q)).length : Nat)).2.files x = _
    rw [hfs, aget_aput, if_neg (by simpa using hx)]
  · rename_i hall
    have heq : (evFrs (l.take q)).length = min n (evFrs l).length := by omega
    have hbs : (evFrs l).take n = evFrs (l.take q) := by
      rw [← evFrs_pre l q, heq, List.take_eq_take_iff]; omega
    have hh : ∀ k', k' ≤ q → (evFrs (l.take k')).length ≤ s → Held D A no (l.take q) k' := fun k' hk' hks =>
      ⟨ht, hfull, ⟨s, by rw [hlast, hbs], by rw [List.take_take, Nat.min_eq_left hk']; exact hks, by omega⟩, by simp; omega, hman, h.rng, h.rise, fun e he => (List.mem_append.1 he).elim (fun h' => h.evs e (List.mem_append_left _ h')) (hev e), h.many⟩
    exact ⟨rfl, rfl, ⟨rfl, rfl, hnx, hnx2.2⟩, rfl, rfl, hh k hkq hk, ha, fun he => hh q (Nat.le_refl _) (by omega), fun _ _ => rfl⟩

/-- opened anew, of a disk that lives -/
theorem open_anew {size : Int} (h : Held D A no l k) (ha : Alive D) : (logOpen D size).no = 0 ∧ (logOpen D size).out = evsOf A l ∧ VOk (logOpen D size).V A no l ∧ (logOpen D size).V.size = size ∧ (logOpen D size).V.next = nextV D ∧ Held (logOpen D size).D A no l k ∧ Alive (logOpen D size).D ∧
    ∀ x, x ≠ segNm no → aget (logOpen D size).D.files x = aget D.files x := by
  obtain ⟨s, g1, g2, g3⟩ := h.last
  obtain ⟨q, h1, h2, h3, h4, h5, h6, h7, h8, h9, h10, h11, h12⟩ := open_held (size := size) (n := (evFrs l).length) ha h.tidy h h.full h.man (by rw [List.take_length]; exact g1) (by omega) g2
  obtain rfl := h3 (Nat.le_refl _)
  rw [List.take_length] at h5 h6 h9
  exact ⟨h4, h5, h6, h7, h8, h9, h10, h12⟩
/-- opened behind a crash -/
theorem open_crash {size keep : Int} (h : Held D A no l k) : ∃ q, k ≤ q ∧ q ≤ l.length ∧ (logOpen (D.crash keep) size).no = 0 ∧ (logOpen (D.crash keep) size).out = evsOf A (l.take q) ∧ VOk (logOpen (D.crash keep) size).V A no (l.take q) ∧ (logOpen (D.crash keep) size).V.size = size ∧
    Held (logOpen (D.crash keep) size).D A no (l.take q) q ∧ Alive (logOpen (D.crash keep) size).D := by
  obtain ⟨s, g1, g2, g3⟩ := h.last
  obtain ⟨m, m1, m2, m3⟩ := cutK_some keep (evFrs l) g3
  have hl : aget (D.crash keep).files (segNm no) = some ⟨(evFrs l).take m, ((evFrs l).take m).length, true⟩ := by
    rw [crash_get h.tidy, g1]
    show (if true then some (cutK keep ⟨evFrs l, s, true⟩) else none) = _
    rw [m3]; rfl
  have hml : ((evFrs l).take m).length = m := by simp; omega
  rw [hml] at hl
  obtain ⟨q, h1, h2, h3, h4, h5, h6, h7, h8, h9, h10, h11, h12⟩ := open_held (size := size) (n := m) (crash_alive D keep) (crash_tidy h.tidy keep) h (fun x hx => crash_full h.tidy keep (h.full x hx)) (crash_full h.tidy keep h.man) hl (by omega) (by omega)
  exact ⟨q, h1, h2, h4, h5, h6, h7, h11 (by omega), h10⟩

theorem next_fresh (D : DiskV) : ∀ m, nextV D ≤ m → m < 1000000000000 → aget D.files (segNm m) = none := fun m h1 h2 => by
  have := nextL_rng D.list
  cases hc : aget D.files (segNm m) with
  | none => rfl
  | some f =>
    have := nextV_gt (D := D) (n := m) ⟨by unfold nextV at h1; omega, h2⟩ (by rw [hc]; rfl)
    omega

theorem open_new_eq (N : Nat) (size : Int) : logOpen (newD N) size = ⟨(begin2 ⟨size, [], 0, 1⟩ (newD N)).1, [], (begin2 ⟨size, [], 0, 1⟩ (newD N)).2.1, (begin2 ⟨size, [], 0, 1⟩ (newD N)).2.2⟩ := by
  have hn : nextV (newD N) = 1 := by simp [nextV, nextL, DiskV.list, newD, sortS]
  have e1 : told (newD N) = [] := by
    have : (newD N).read mName = ([], 14) := by simp [DiskV.read, newD, aget]
    unfold told mfTell; rw [this]; rfl
  have hV : (logStart (newD N) size) = ⟨size, [], 0, 1⟩ := by unfold logStart; rw [hn]
  unfold logOpen
  rw [e1, hV]
  unfold loadGo openEnd
  rw [if_neg (by simp), if_pos rfl]
  unfold logBegin
  rw [if_pos rfl]
/-- the first opening, of an empty disk -/
theorem open_new (N : Nat) (size : Int) : ((logOpen (newD N) size).no = 3 ∨ (logOpen (newD N) size).no = 12) ∨
    ((logOpen (newD N) size).no = 0 ∧ (logOpen (newD N) size).out = [] ∧ Held (logOpen (newD N) size).D [] 1 [] 0 ∧ VOk (logOpen (newD N) size).V [] 1 [] ∧ (logOpen (newD N) size).V.size = size ∧ (logOpen (newD N) size).V.next = 2 ∧ Alive (logOpen (newD N) size).D ∧ Fresh (logOpen (newD N) size).V (logOpen (newD N) size).D) := by
  have ha : Alive (newD N) := ⟨rfl, rfl⟩
  have ht : Tidy (newD N).files := by simp [Tidy, newD]
  rw [open_new_eq]
  obtain ⟨b1, b2, b3⟩ := begin2_alive (V := ⟨size, [], 0, 1⟩) ha ht ⟨by simp, by simp⟩ (by simp [newD, aget])
  rcases begin2_eff (D := newD N) (V := ⟨size, [], 0, 1⟩) ht (by simp) with ⟨c1, c2, c3, c4⟩ | ⟨c1, c2, c3, c4, c5, c6, c7, c8, c9⟩
  · exact .inl (b2.resolve_left c1)
  · refine .inr ⟨c1, rfl, ⟨c6, by simp, ⟨0, c7, by simp [evFrs], Nat.zero_le _⟩, Nat.le_refl _, c8, by simp [nums], by simp [nums], by simp [evsOf], by simp⟩, ⟨by rw [c5]; rfl, by rw [c5]; rfl, by rw [c5]; simp⟩, by rw [c5], by rw [c5]; rfl, b1, ?_⟩
    show Fresh (begin2 ⟨size, [], 0, 1⟩ (newD N)).2.1 (begin2 ⟨size, [], 0, 1⟩ (newD N)).2.2
    rw [c5]
    intro m h1 h2
    simp only at h1
    have hnm := segNm_ne (n := m) (.inr (by omega))
    rw [c9 _ (fun e => by have := segNm_inj (a := 1) (by omega) e; omega) hnm.2 hnm.1]
    simp [newD, aget]
end
end Go.Proofs.YtpbpjojdfcdbbaaGreatDoor

/- compact, in plain Lean: what a writing anew leaves -/
namespace Go.Proofs.YtpbpjojdfcdbbaaGreatDoor
open Go.Lift
set_option linter.unusedVariables false
set_option maxRecDepth 20000

section
variable {D E : DiskV} {A : Segs} {no : Int} {l x : List EventV} {k : Nat} {V : LogV} {b : List UInt8} {size : Int}

/-- what is let go -/
theorem delAll_eff : ∀ (L : List Int) {D : DiskV}, Tidy D.files → Tidy (delAll L D).files ∧ ∀ y, (∀ n ∈ L, y ≠ segNm n) → aget (delAll L D).files y = aget D.files y
  | [], D, ht => ⟨ht, fun _ _ => rfl⟩
  | n :: L, D, ht => by
    have h1 : Tidy (D.delete (segNm n)).2.files ∧ ∀ y, y ≠ segNm n → aget (D.delete (segNm n)).2.files y = aget D.files y := by
      rcases delete_eff D (segNm n) with e | e
      · rw [e]; exact ⟨ht, fun _ _ => rfl⟩
      · rw [e]; exact ⟨ht.adel _, fun y hy => by rw [aget_adel ht, if_neg (by simpa using hy)]⟩
    unfold delAll
    split
    · exact ⟨h1.1, fun y hy => h1.2 y (hy n (List.mem_cons_self ..))⟩
    · obtain ⟨h2, h3⟩ := delAll_eff L h1.1
      exact ⟨h2, fun y hy => (h3 y fun m hm => hy m (List.mem_cons_of_mem _ hm)).trans (h1.2 y (hy n (List.mem_cons_self ..)))⟩
theorem delAll_alive : ∀ (L : List Int) {D : DiskV}, Alive D → Alive (delAll L D)
  | [], D, h => h
  | n :: L, D, h => by
    have h1 := (h.delete (segNm n)).1
    unfold delAll
    split
    · exact h1
    · exact delAll_alive L h1

/-- what a writing of a segment of its own does to any disk -/
theorem cmpWrite_eff (ht : Tidy D.files) (hn : 0 ≤ no) : ((cmpWrite no b D).1 ≠ 0 ∧ Tidy (cmpWrite no b D).2.files ∧ ∀ y, y ≠ segNm no → y ≠ mTemp → aget (cmpWrite no b D).2.files y = aget D.files y) ∨
    ((cmpWrite no b D).1 = 0 ∧ no < 1000000000000 ∧ aget D.files (segNm no) = none ∧ Tidy (cmpWrite no b D).2.files ∧ aget (cmpWrite no b D).2.files (segNm no) = some (fullF b) ∧
      aget (cmpWrite no b D).2.files mName = some (fullF (mfBytes [no])) ∧ ∀ y, y ≠ segNm no → y ≠ mTemp → y ≠ mName → aget (cmpWrite no b D).2.files y = aget D.files y) := by
  unfold cmpWrite
  dsimp only
  rw [show txt (segName no) = segNm no from rfl]
  rcases create_eff D (segNm no) with ⟨c1, c2⟩ | ⟨c1, c2, c3, c4⟩
  · rw [if_pos c1]
    exact .inl ⟨c1, by show Tidy (D.create _).2.files; rw [c2]; exact ht, fun y _ _ => by show aget (D.create (segNm no)).2.files y = _; rw [c2]⟩
  have hlt := (segNm_name hn).1 c2
  obtain ⟨nm, nt⟩ := segNm_ne (n := no) (.inr ⟨hn, hlt⟩)
  rw [if_neg (show ¬ (D.create (segNm no)).1 ≠ 0 by simpa using c1)]
  have t1 : But (segNm no) D (D.create (segNm no)).2 := (But.refl ht).put c4
  have g1 : aget (D.create (segNm no)).2.files (segNm no) = some ⟨[], 0, false⟩ := by rw [c4, aget_aput]; simp
  generalize (D.create (segNm no)).2 = D1 at t1 g1
  have del : ∀ {F : DiskV}, Tidy F.files → (∀ y, y ≠ segNm no → y ≠ mTemp → aget F.files y = aget D.files y) → Tidy (F.delete (segNm no)).2.files ∧ ∀ y, y ≠ segNm no → y ≠ mTemp → aget (F.delete (segNm no)).2.files y = aget D.files y := by
    intro F hF hs
    rcases delete_eff F (segNm no) with e | e
    · rw [e]; exact ⟨hF, hs⟩
    · rw [e]; exact ⟨hF.adel _, fun y h1 h2 => by rw [aget_adel hF, if_neg (by simpa using h1)]; exact hs y h1 h2⟩
  rcases append_eff D1 (segNm no) b with ⟨d1, d2⟩ | ⟨d1, f, hf, d2⟩
  · rw [if_pos d1]
    have := del (F := (D1.append (segNm no) b).2) (by rw [d2]; exact t1.1) fun y h1 _ => by rw [d2]; exact t1.2 y h1
    exact .inl ⟨d1, this⟩
  rw [g1] at hf; cases hf
  rw [if_neg (show ¬ (D1.append (segNm no) b).1 ≠ 0 by simpa using d1)]
  have t2 : But (segNm no) D (D1.append (segNm no) b).2 := t1.put d2
  have g2 : aget (D1.append (segNm no) b).2.files (segNm no) = some ⟨b, 0, false⟩ := by rw [d2, aget_aput]; simp
  generalize (D1.append (segNm no) b).2 = D2 at t2 g2
  rcases sync_eff D2 (segNm no) with ⟨d1, d2⟩ | ⟨d1, f, hf, d2⟩
  · rw [if_pos d1]
    have := del (F := (D2.sync (segNm no)).2) (by rw [d2]; exact t2.1) fun y h1 _ => by rw [d2]; exact t2.2 y h1
    exact .inl ⟨d1, this⟩
  rw [g2] at hf; cases hf
  have t3 : But (segNm no) D (D2.sync (segNm no)).2 := t2.put d2
  have g3 : aget (D2.sync (segNm no)).2.files (segNm no) = some (fullF b) := by rw [d2, aget_aput]; simp
  rw [if_neg (show ¬ (D2.sync (segNm no)).1 ≠ 0 by simpa using d1)]
  generalize (D2.sync (segNm no)).2 = D3 at t3 g3
  rcases mf_eff t3.1 [no] with ⟨m1, m2⟩ | ⟨m1, m2, m3, m4, m5⟩
  · rw [if_pos m1]
    have := del (F := (mfWrite D3 [no]).2) m2.1 fun y h1 h2 => (m2.2 y h2).trans (t3.2 y h1)
    exact .inl ⟨m1, this⟩
  · rw [if_neg (by simpa using m1)]
    exact .inr ⟨m1, hlt, c3, m3, (m5 _ nt nm).trans g3, m4, fun y h1 h2 h3 => (m5 y h2 h3).trans (t3.2 y h1)⟩

theorem Held.lt_next (h : Held D A no l k) (hv : VOk V A no l) : ∀ n ∈ nums A ++ [no], n < V.next := fun n hn => by
  have hvn := hv.next
  rcases List.mem_append.1 hn with h1 | h1
  · have h2 := h.rise
    rw [List.pairwise_append] at h2
    have := h2.2.2 n h1 no (List.mem_singleton.2 rfl)
    omega
  · have := List.mem_singleton.1 h1; omega
theorem Held.ne_next (h : Held D A no l k) (hv : VOk V A no l) : ∀ n ∈ nums A ++ [no], segNm n ≠ segNm V.next := fun n hn e => by
  have h1 := h.rng n hn
  have h2 := h.lt_next hv n hn
  have := segNm_inj (a := n) ⟨by omega, h1.2⟩ e.symm
  omega
theorem mn_next (hn : 0 ≤ no) : mName ≠ segNm no := fun e => by
  by_cases hc : no < 1000000000000
  · exact (segNm_ne (n := no) (.inr (by omega))).1 e.symm
  · have h0 : segNm no = txt [] := by unfold segNm segName; rw [if_pos (.inr (by omega))]
    rw [h0] at e
    revert e; decide +kernel

/-- one segment alone, all of it lasting -/
theorem held_one (ht : Tidy D.files) (hn : 1 ≤ no ∧ no < 1000000000000) (hs : aget D.files (segNm no) = some (fullF (evFrs x))) (hm : aget D.files mName = some (fullF (mfBytes [no]))) (hx : ∀ e ∈ x, e.Ok ∧ e.deps.length ≤ 64) : Held D [] no x x.length :=
  ⟨ht, fun y hy => (by cases hy), ⟨_, hs, by rw [List.take_length]; exact Nat.le_refl _, Nat.le_refl _⟩, Nat.le_refl _, hm, by simpa [nums] using hn, by simp [nums], by simpa [evsOf] using hx, by simp⟩

theorem Held.cmpWrite (h : Held D A no l k) (hv : VOk V A no l) (hx : ∀ e ∈ x, e.Ok ∧ e.deps.length ≤ 64) :
    ((cmpWrite V.next (evFrs x) D).1 ≠ 0 ∧ Held (cmpWrite V.next (evFrs x) D).2 A no l k) ∨ ((cmpWrite V.next (evFrs x) D).1 = 0 ∧ V.next < 1000000000000 ∧ Held (cmpWrite V.next (evFrs x) D).2 [] V.next x x.length) := by
  have hnr := h.no_rng
  have hvn := hv.next
  rcases cmpWrite_eff (b := evFrs x) h.tidy (show 0 ≤ V.next by omega) with ⟨b1, b2, b3⟩ | ⟨b1, b2, b3, b4, b5, b6, b7⟩
  · exact .inl ⟨b1, h.same b2 (fun n hn => b3 _ (h.ne_next hv n hn) (segNm_ne (.inr (by have := h.rng n hn; omega))).2) (b3 _ (mn_next (by omega)) fun e => tn' e.symm)⟩
  · exact .inr ⟨b1, b2, held_one b4 (by omega) b5 b6 hx⟩

/-! a log opened of a disk that is not dead: nothing is written -/
theorem read_still (hd : D.dead = false) {nm : ByteArray} {f : FileV} (hf : aget D.files nm = some f) : D.read nm = (f.bytes, 0) := by
  unfold DiskV.read; rw [hd, hf]; rfl
theorem loadGo_still (hd : D.dead = false) : ∀ (A : Segs) (rest : List Int) (out : List EventV) (V : LogV), (∀ x ∈ A, aget D.files (segNm x.1) = some (fullF (evFrs x.2))) → (∀ e ∈ (A.map (·.2)).flatten, e.Ok ∧ e.deps.length ≤ 64) →
    ∃ b, loadGo (nums A ++ rest) out V D = loadGo rest (out ++ (A.map (·.2)).flatten) ⟨V.size, V.segs ++ nums A, b, V.next⟩ D
  | [], rest, out, V, _, _ => ⟨V.bytes, by simp [nums]⟩
  | y :: A, rest, out, V, hf, he => by
    have hr := read_still hd (hf y (List.mem_cons_self ..))
    have hs := segLoad_all (l := y.2) fun e hh => he e (by simp only [List.map_cons, List.flatten_cons]; exact List.mem_append_left _ hh)
    obtain ⟨b, hb⟩ := loadGo_still hd A rest (out ++ y.2) ⟨V.size, V.segs ++ [y.1], ((evFrs y.2).length : Nat), V.next⟩ (fun x hx => hf x (List.mem_cons_of_mem _ hx)) fun e hh => he e (by simp only [List.map_cons, List.flatten_cons]; exact List.mem_append_right _ hh)
    refine ⟨b, ?_⟩
    have e1 : nums (y :: A) ++ rest = y.1 :: (nums A ++ rest) := rfl
    rw [e1]
    conv => lhs; unfold loadGo
    have e2 : (fullF (evFrs y.2)).bytes = evFrs y.2 := rfl
    rw [hr, if_neg (by simp), e2]
    dsimp only
    rw [hs, if_neg (by simp)]
    dsimp only
    rw [hb]
    simp [nums, List.append_assoc]
theorem open_still (h : Held D A no l k) (hd : D.dead = false) : logOpen D size = ⟨0, evsOf A l, ⟨size, nums A ++ [no], ((evFrs l).length : Nat), nextV D⟩, D⟩ := by
  obtain ⟨s, g1, g2, g3⟩ := h.last
  have hnI : ∀ x ∈ nums A ++ [no], I64 x := fun x hx => by have := h.rng x hx; unfold I64; omega
  have hnl : (nums A ++ [no]).length ≤ 64 := by have := h.many; simpa [nums] using this
  have htold : told D = nums A ++ [no] := by
    unfold told mfTell
    rw [read_still hd h.man, if_neg (by simp), show (fullF (mfBytes (nums A ++ [no]))).bytes = mfBytes (nums A ++ [no]) from rfl, mfRead_bytes hnI hnl]; rfl
  obtain ⟨b, hb⟩ := loadGo_still hd A [no] [] (logStart D size) h.full fun e he => h.evs e (List.mem_append_left _ he)
  have hr := read_still hd g1
  have hlo : loadGo (told D) [] (logStart D size) D = ⟨0, evsOf A l, ⟨size, nums A ++ [no], ((evFrs l).length : Nat), nextV D⟩, D⟩ := by
    rw [htold, hb]
    unfold loadGo
    rw [hr, if_neg (by simp)]
    dsimp only
    rw [segLoad_all h.evl, if_neg (by simp)]
    unfold loadGo
    simp [logStart, evsOf]
  unfold logOpen
  rw [hlo]
  unfold openEnd
  rw [if_neg (by simp), if_neg (by simp), if_neg (by rw [htold]; simp)]
theorem open_dead (hd : D.dead = true) : (logOpen D size).no = 15 ∧ (logOpen D size).D.files = D.files := by
  have e1 : told D = [] := by
    have : D.read mName = ([], 15) := by unfold DiskV.read; rw [hd]; rfl
    unfold told mfTell; rw [this]; rfl
  have e2 : ∀ V : LogV, V.segs = [] → logBegin V D = (15, V, D.gone) := fun V hV => by
    unfold logBegin
    rw [if_pos hV]
    have hc : D.create (txt (segName V.next)) = (15, D.gone) := by
      unfold DiskV.create DiskV.op DiskV.dies
      rw [hd]; rfl
    unfold begin2
    dsimp only
    rw [hc, if_pos (by simp)]
  unfold logOpen
  rw [e1]
  unfold loadGo openEnd
  rw [if_neg (by simp), if_pos (show (logStart D size).segs = [] from rfl), show logBegin _ _ = _ from e2 (logStart D size) rfl]
  exact ⟨rfl, rfl⟩

theorem alive_tidy_create (h : Alive D) (ht : Tidy D.files) (n : ByteArray) : Alive (D.create n).2 ∧ Tidy (D.create n).2.files := by
  refine ⟨(h.create n).1, ?_⟩
  rcases create_eff D n with e | e
  · rw [e.2]; exact ht
  · rw [e.2.2.2]; exact ht.aput _ _
theorem alive_tidy_append (h : Alive D) (ht : Tidy D.files) (n : ByteArray) (b : List UInt8) : Alive (D.append n b).2 ∧ Tidy (D.append n b).2.files := by
  refine ⟨(h.append n b).1, ?_⟩
  rcases append_eff D n b with e | ⟨-, f, -, e⟩
  · rw [e.2]; exact ht
  · rw [e]; exact ht.aput _ _
theorem alive_tidy_sync (h : Alive D) (ht : Tidy D.files) (n : ByteArray) : Alive (D.sync n).2 ∧ Tidy (D.sync n).2.files := by
  refine ⟨(h.sync n).1, ?_⟩
  rcases sync_eff D n with e | ⟨-, f, -, e⟩
  · rw [e.2]; exact ht
  · rw [e]; exact ht.aput _ _
theorem Alive.cmpWrite (h : Alive D) (ht : Tidy D.files) : Alive (cmpWrite no b D).2 := by
  unfold Go.Proofs.YtpbpjojdfcdbbaaGreatDoor.cmpWrite
  dsimp only
  obtain ⟨h1, t1⟩ := alive_tidy_create h ht (txt (segName no))
  split
  · exact h1
  obtain ⟨h2, t2⟩ := alive_tidy_append h1 t1 (txt (segName no)) b
  split
  · exact (h2.delete _).1
  obtain ⟨h3, t3⟩ := alive_tidy_sync h2 t2 (txt (segName no))
  split
  · exact (h3.delete _).1
  have h4 := (h3.mfWrite t3 [no]).1
  dsimp only
  split
  · exact (h4.delete _).1
  · exact h4

/-- written anew: what there was, or what was handed in -/
theorem Held.compact (h : Held D A no l k) (hv : VOk V A no l) (hx : ∀ e ∈ x, e.Ok ∧ e.deps.length ≤ 64) :
    (((logCompact V D x size).no ≠ 0 ∧ Held (logCompact V D x size).D A no l k) ∨
    (Held (logCompact V D x size).D [] V.next x x.length ∧ ((logCompact V D x size).no = 0 ∧ (logCompact V D x size).V.segs = [V.next] ∨ (logCompact V D x size).no = 15))) ∧ (Alive D → Alive (logCompact V D x size).D) := by
  have hf : cmpFrames x = (evFrs x, 0) := by
    unfold cmpFrames
    rw [if_neg]
    intro hc
    obtain ⟨e, he, h2⟩ := List.any_eq_true.1 hc
    have := (hx e he).2
    unfold tooLong at h2
    simp at h2; omega
  unfold logCompact
  rw [hf, if_neg (by simp)]
  rcases h.cmpWrite hv hx with ⟨b1, b2⟩ | ⟨b1, b2, b3⟩
  · dsimp only
    rw [if_pos b1]; exact ⟨.inl ⟨b1, b2⟩, fun ha => ha.cmpWrite h.tidy⟩
  dsimp only
  rw [if_neg (by simpa using b1)]
  have hal : Alive D → Alive (Go.Proofs.YtpbpjojdfcdbbaaGreatDoor.cmpWrite V.next (evFrs x) D).2 := fun ha => ha.cmpWrite h.tidy
  generalize (Go.Proofs.YtpbpjojdfcdbbaaGreatDoor.cmpWrite V.next (evFrs x) D).2 = D2 at b3 hal
  have hne := h.ne_next hv
  obtain ⟨d1, d2⟩ := delAll_eff V.segs b3.tidy
  have b4 : Held (delAll V.segs D2) [] V.next x x.length := by
    refine b3.same d1 (fun n hn => ?_) (d2 _ fun n hn e => ?_)
    · obtain rfl : n = V.next := by simpa [nums] using hn
      exact d2 _ fun m hm e => hne m (by rw [hv.segs] at hm; exact hm) e.symm
    · rw [hv.segs] at hn
      exact (segNm_ne (n := n) (.inr (by have := h.rng n hn; omega))).1 e.symm
  have hal2 : Alive D → Alive (delAll V.segs D2) := fun ha => delAll_alive _ (hal ha)
  generalize delAll V.segs D2 = D3 at b4 hal2
  cases hd : D3.dead with
  | false => rw [open_still b4 hd]; exact ⟨.inr ⟨b4, .inl ⟨rfl, by simp [nums]⟩⟩, hal2⟩
  | true =>
    obtain ⟨o1, o2⟩ := open_dead (size := size) hd
    exact ⟨.inr ⟨b4.files o2, .inr o1⟩, fun ha => by have := (hal2 ha).dead; rw [hd] at this; cases this⟩
end
end Go.Proofs.YtpbpjojdfcdbbaaGreatDoor

/- compact, in plain Lean: a disk of two files, a segment and the manifest -/
namespace Go.Proofs.YtpbpjojdfcdbbaaGreatDoor
open Go.Lift
set_option linter.unusedVariables false
set_option maxRecDepth 20000

section
variable {D E : DiskV} {A : Segs} {no : Int} {l x : List EventV} {k : Nat} {V : LogV} {b : List UInt8} {size : Int} {L : List Int}

theorem tidy_clean (h : Tidy D.files) : Tidy (cleanV D).2.files := by
  unfold cleanV
  split
  · rcases delete_eff D mTemp with e | e
    · rw [e]; exact h
    · rw [e]; exact h.adel _
  · exact h
theorem tidy_create (h : Tidy D.files) (n : ByteArray) : Tidy (D.create n).2.files := by
  rcases create_eff D n with e | e
  · rw [e.2]; exact h
  · rw [e.2.2.2]; exact h.aput _ _
theorem tidy_append (h : Tidy D.files) (n : ByteArray) (b : List UInt8) : Tidy (D.append n b).2.files := by
  rcases append_eff D n b with e | ⟨-, f, -, e⟩
  · rw [e.2]; exact h
  · rw [e]; exact h.aput _ _
theorem tidy_sync (h : Tidy D.files) (n : ByteArray) : Tidy (D.sync n).2.files := by
  rcases sync_eff D n with e | ⟨-, f, -, e⟩
  · rw [e.2]; exact h
  · rw [e]; exact h.aput _ _
theorem rename_eff (D : DiskV) (a c : ByteArray) : ((D.rename a c).1 ≠ 0 ∧ (D.rename a c).2.files = D.files) ∨ ((D.rename a c).1 = 0 ∧ ∃ f, aget D.files a = some f ∧ (D.rename a c).2.files = aput (adel D.files a) c { f with good := true }) := by
  unfold DiskV.rename
  rcases on_cases D a fun D f => if isNameV c then (0, (D.delF a).setF c { f with good := true }) else (1, D) with h | ⟨f, hf, h⟩
  · exact .inl h
  · rw [h]
    split
    · exact .inr ⟨rfl, f, hf, by show aput (adel D.armed.files a) c _ = _; rw [armed_files]⟩
    · exact .inl ⟨by simp, armed_files D⟩
/-- a manifest written: no file Temp is left -/
theorem mf_temp (ht : Tidy D.files) (h : (mfWrite D L).1 = 0) : aget (mfWrite D L).2.files mTemp = none := by
  unfold mfWrite at h ⊢
  split at h
  · cases h
  rename_i hl
  rw [if_neg hl] at *
  have step : ∀ (i k : Nat) (E : DiskV), (Tidy (mStep L i E).2.files) → ((mRun L (i + 1) k (mStep L i E).2).1 = 0 → aget (mRun L (i + 1) k (mStep L i E).2).2.files mTemp = none) → (mRun L i (k + 1) E).1 = 0 → aget (mRun L i (k + 1) E).2.files mTemp = none := by
    intro i k E _ hn h
    rw [mRun] at h ⊢
    split at h
    · rename_i hc; exact absurd h hc
    · rename_i hc; rw [if_neg hc]; exact hn h
  have t1 : Tidy (mStep L 0 D).2.files := tidy_clean ht
  have t2 : Tidy (mStep L 1 (mStep L 0 D).2).2.files := tidy_create t1 _
  have t3 : Tidy (mStep L 2 (mStep L 1 (mStep L 0 D).2).2).2.files := tidy_append t2 _ _
  have t4 : Tidy (mStep L 3 (mStep L 2 (mStep L 1 (mStep L 0 D).2).2).2).2.files := tidy_sync t3 _
  refine step 0 4 D t1 (step 1 3 _ t2 (step 2 2 _ t3 (step 3 1 _ t4 fun h => ?_))) h
  generalize (mStep L 3 (mStep L 2 (mStep L 1 (mStep L 0 D).2).2).2).2 = D4 at t4 h ⊢
  rw [mRun] at h ⊢
  split at h
  · rename_i hc; exact absurd h hc
  rename_i hc
  rw [if_neg hc]
  show aget (D4.rename mTemp mName).2.files mTemp = none
  rcases rename_eff D4 mTemp mName with ⟨e, -⟩ | ⟨-, f, -, e⟩
  · exact absurd (by show (D4.rename mTemp mName).1 ≠ 0; exact e) hc
  · rw [e, aget_aput, if_neg (by simpa using tn'), aget_adel t4]; simp
/-- a manifest of at most 64 segments, on a disk that lives: written, or there is no room -/
theorem mf_code (h : Alive D) (ht : Tidy D.files) (hl : L.length ≤ 64) : (mfWrite D L).1 = 0 ∨ (mfWrite D L).1 = 12 := by
  unfold mfWrite
  rw [if_neg (by omega)]
  have step : ∀ {i k : Nat} {E : DiskV} {r : Int × DiskV}, mStep L i E = r → (r.1 = 0 ∨ r.1 = 12) → (r.1 = 0 → (mRun L (i + 1) k r.2).1 = 0 ∨ (mRun L (i + 1) k r.2).1 = 12) → ((mRun L i (k + 1) E).1 = 0 ∨ (mRun L i (k + 1) E).1 = 12) := by
    intro i k E r hr h3 h2
    rw [mRun, hr]
    split
    · exact h3
    · rename_i e; exact h2 (by simpa using e)
  obtain ⟨z1, n1, ht1⟩ := clean_gone h ht
  have h1 := h.clean
  refine step (r := cleanV D) rfl (.inl z1) fun _ => ?_
  generalize (cleanV D).2 = D1 at h1 n1 ht1
  have c2 := create_eff D1 mTemp
  obtain ⟨h2, a2⟩ := h1.create mTemp
  refine step (r := D1.create mTemp) rfl (a2 temp_ok n1) fun e2 => ?_
  rcases c2 with c2 | ⟨_, _, _, c2⟩
  · exact absurd e2 c2.1
  have t2 : aget (D1.create mTemp).2.files mTemp = some ⟨[], 0, false⟩ := by rw [c2, aget_aput]; simp
  generalize (D1.create mTemp).2 = D2 at h2 t2
  have c3 := append_eff D2 mTemp (mfBytes L)
  obtain ⟨h3, a3⟩ := h2.append mTemp (mfBytes L)
  refine step (r := D2.append mTemp (mfBytes L)) rfl (a3 _ t2) fun e3 => ?_
  rcases c3 with c3 | ⟨_, f, hf, c3⟩
  · exact absurd e3 c3.1
  have t3 : ∃ f, aget (D2.append mTemp (mfBytes L)).2.files mTemp = some f := by rw [c3, aget_aput]; simp
  generalize (D2.append mTemp (mfBytes L)).2 = D3 at h3 t3
  obtain ⟨f3, t3⟩ := t3
  have c4 := sync_eff D3 mTemp
  obtain ⟨h4, a4⟩ := h3.sync mTemp
  refine step (r := D3.sync mTemp) rfl (.inl (a4 _ t3)) fun e4 => ?_
  rcases c4 with c4 | ⟨_, f, hf4, c4⟩
  · exact absurd e4 c4.1
  have t4 : aget (D3.sync mTemp).2.files mTemp = some (fullF f.bytes) := by rw [c4, aget_aput]; simp
  generalize (D3.sync mTemp).2 = D4 at h4 t4
  have e5 : D4.rename mTemp mName = (0, (D4.delF mTemp).setF mName { fullF f.bytes with good := true }) := by
    unfold DiskV.rename; rw [h4.on t4, if_pos name_ok']
  refine step (r := D4.rename mTemp mName) rfl (.inl (by rw [e5])) fun e5' => ?_
  rw [e5]
  exact .inl rfl

/-- on a disk that lives a segment is written, or there is no room -/
theorem cmpWrite_alive (h : Alive D) (ht : Tidy D.files) (hn : 0 ≤ no ∧ no < 1000000000000) (hf : aget D.files (segNm no) = none) :
    Alive (cmpWrite no b D).2 ∧ ((cmpWrite no b D).1 = 0 ∨ (cmpWrite no b D).1 = 12) ∧ ((cmpWrite no b D).1 = 0 → aget (cmpWrite no b D).2.files mTemp = none) := by
  unfold cmpWrite
  dsimp only
  rw [show txt (segName no) = segNm no from rfl]
  obtain ⟨h1, a1⟩ := h.create (segNm no)
  have c1 := a1 ((segNm_name hn.1).2 hn.2) hf
  have t1 := tidy_create ht (segNm no)
  rcases create_eff D (segNm no) with ⟨e1, -⟩ | ⟨e1, -, -, e2⟩
  · rw [if_pos e1]; exact ⟨h1, c1, fun h => absurd h e1⟩
  rw [if_neg (by simpa using e1)]
  have g1 : aget (D.create (segNm no)).2.files (segNm no) = some ⟨[], 0, false⟩ := by rw [e2, aget_aput]; simp
  generalize (D.create (segNm no)).2 = D1 at h1 t1 g1
  obtain ⟨h2, a2⟩ := h1.append (segNm no) b
  have c2 := a2 _ g1
  have t2 := tidy_append t1 (segNm no) b
  rcases append_eff D1 (segNm no) b with ⟨e1, -⟩ | ⟨e1, f, hf, e2⟩
  · rw [if_pos e1]; exact ⟨(h2.delete _).1, c2, fun h => absurd h e1⟩
  rw [if_neg (by simpa using e1)]
  have g2 : ∃ f, aget (D1.append (segNm no) b).2.files (segNm no) = some f := by rw [e2, aget_aput]; simp
  generalize (D1.append (segNm no) b).2 = D2 at h2 t2 g2
  obtain ⟨f2, g2⟩ := g2
  obtain ⟨h3, a3⟩ := h2.sync (segNm no)
  rw [if_neg (by simpa using a3 _ g2)]
  have t3 := tidy_sync t2 (segNm no)
  generalize (D2.sync (segNm no)).2 = D3 at h3 t3
  have hA := (h3.mfWrite t3 [no]).1
  rcases mf_code (L := [no]) h3 t3 (by simp) with c | c
  · rw [if_neg (by simpa using c)]; exact ⟨hA, .inl c, fun _ => mf_temp t3 c⟩
  · rw [if_pos (by rw [c]; simp)]; exact ⟨(hA.delete _).1, .inr c, fun h => by rw [c] at h; cases h⟩

/-- all segments that were are let go -/
theorem delAll_gone : ∀ (L : List Int) {D : DiskV}, Alive D → Tidy D.files → (∀ n ∈ L, (aget D.files (segNm n)).isSome = true) → L.Pairwise (fun a b => segNm a ≠ segNm b) → ∀ n ∈ L, aget (delAll L D).files (segNm n) = none
  | [], D, _, _, _, _, n, hn => by cases hn
  | m :: L, D, ha, ht, hs, hp, n, hn => by
    obtain ⟨f, hf⟩ := Option.isSome_iff_exists.1 (hs m (List.mem_cons_self ..))
    have e : D.delete (segNm m) = (0, D.delF (segNm m)) := by unfold DiskV.delete; rw [ha.on hf]
    have hd : (D.delF (segNm m)).files = adel D.files (segNm m) := rfl
    rw [List.pairwise_cons] at hp
    unfold delAll
    rw [e, if_neg (by simp)]
    have ht2 : Tidy (D.delF (segNm m)).files := ht.adel _
    have hs2 : ∀ n ∈ L, (aget (D.delF (segNm m)).files (segNm n)).isSome = true := fun n hn => by
      rw [hd, aget_adel ht, if_neg (by simpa using (hp.1 n hn).symm)]; exact hs n (List.mem_cons_of_mem _ hn)
    rcases List.mem_cons.1 hn with rfl | hn
    · show aget (delAll L (D.delF (segNm n))).files _ = _
      rw [(delAll_eff L ht2).2 _ fun q hq => hp.1 q hq, hd, aget_adel ht]; simp
    · exact delAll_gone L (D := D.delF (segNm m)) (ha.same rfl rfl) ht2 hs2 hp.2 n hn

/-- two files: a segment, and the manifest that says it -/
structure Two (D : DiskV) (no : Int) (x : List EventV) : Prop where
  held : Held D [] no x x.length
  alive : Alive D
  none : ∀ y, y ≠ segNm no → y ≠ mName → aget D.files y = none

theorem Two.perm (h : Two D no x) : D.files.Perm [(segNm no, fullF (evFrs x)), (mName, fullF (mfBytes [no]))] := by
  have ht := h.held.tidy
  have hnr := h.held.no_rng
  have hne := (segNm_ne (n := no) (.inr (by omega))).1
  obtain ⟨s, g1, g2, g3⟩ := h.held.last
  rw [List.take_length] at g2
  obtain rfl : s = (evFrs x).length := by omega
  have hm := h.held.man
  have hnd : D.files.Nodup := by
    have : (D.files.map (·.1)).Nodup := ht
    exact List.Pairwise.of_map (·.1) (fun a b hab he => hab (by rw [he])) this
  refine (List.perm_ext_iff_of_nodup hnd (by simp [hne])).2 fun y => ?_
  simp only [List.mem_cons, List.not_mem_nil, or_false]
  constructor
  · intro hy
    obtain ⟨y1, y2⟩ := y
    have := mem_aget ht hy
    by_cases h1 : y1 = segNm no
    · subst h1; rw [g1] at this; cases this; exact .inl rfl
    · by_cases h2 : y1 = mName
      · subst h2; rw [hm] at this; cases this; exact .inr rfl
      · rw [h.none _ h1 h2] at this; cases this
  · rintro (rfl | rfl)
    · exact aget_mem g1
    · exact aget_mem hm
theorem Two.list (h : Two D no x) : D.list.length = 2 := by rw [list_length', h.perm.length_eq]; rfl
theorem Two.used (h : Two D no x) : D.used = (evFrs x).length + (mfBytes [no]).length := by
  unfold DiskV.used sumLen
  rw [(h.perm.map _).sum_nat]
  simp [fullF]
theorem fold_le : ∀ (l : List ByteArray) (n m : Int), n ≤ m → (∀ s ∈ l, (segNoV s).2 = true → (segNoV s).1 + 1 ≤ m) → l.foldl nextStep n ≤ m
  | [], n, m, h, _ => h
  | s :: l, n, m, h, hs => by
    refine fold_le l _ m ?_ fun t ht => hs t (List.mem_cons_of_mem _ ht)
    unfold nextStep
    split
    · rename_i h1; have := hs s (List.mem_cons_self ..) h1; omega
    · exact h
theorem mName_no : (segNoV mName).2 = false := by decide +kernel
theorem Two.next (h : Two D no x) : nextV D = no + 1 := by
  have hnr := h.held.no_rng
  obtain ⟨s, g1, g2, g3⟩ := h.held.last
  have h1 : no < nextV D := nextV_gt (by omega) (by rw [g1]; rfl)
  have h2 : nextV D ≤ no + 1 := by
    unfold nextV nextL
    refine fold_le _ _ _ (by omega) fun s hs ht => ?_
    have hk := mem_list'.1 hs
    by_cases h1 : s = segNm no
    · subst h1; rw [segNoV_nm (by omega)]; exact Int.le_refl _
    · by_cases h2 : s = mName
      · subst h2; rw [mName_no] at ht; cases ht
      · rw [h.none _ h1 h2] at hk; cases hk
  omega

/-- written anew on such a disk: there is no room, or it is such a disk -/
theorem Two.compact (h : Two D no l) (hv : VOk V [] no l) (hnx : V.next = no + 1) (hlt : V.next < 1000000000000) (hx : ∀ e ∈ x, e.Ok ∧ e.deps.length ≤ 64) :
    (logCompact V D x size).no = 12 ∨ ((logCompact V D x size).no = 0 ∧ Two (logCompact V D x size).D V.next x ∧ VOk (logCompact V D x size).V [] V.next x ∧ (logCompact V D x size).V.next = V.next + 1) := by
  have hnr := h.held.no_rng
  have hne := h.held.ne_next hv
  have hnn : segNm no ≠ segNm V.next := hne no (by simp [nums])
  have hnm := segNm_ne (n := V.next) (.inr (by omega))
  have hom := segNm_ne (n := no) (.inr (by omega))
  have hf : cmpFrames x = (evFrs x, 0) := by
    unfold cmpFrames
    rw [if_neg]
    intro hc
    obtain ⟨e, he, h2⟩ := List.any_eq_true.1 hc
    have := (hx e he).2
    unfold tooLong at h2
    simp at h2; omega
  unfold logCompact
  rw [hf, if_neg (by simp)]
  obtain ⟨w1, w2, w3⟩ := cmpWrite_alive (b := evFrs x) (no := V.next) h.alive h.held.tidy (by omega) (h.none _ hnn.symm hnm.1)
  dsimp only
  rcases cmpWrite_eff (b := evFrs x) h.held.tidy (show 0 ≤ V.next by omega) with ⟨b1, -⟩ | ⟨b1, b2, b3, b4, b5, b6, b7⟩
  · rw [if_pos b1]; exact .inl (w2.resolve_left b1)
  rw [if_neg (by simpa using b1)]
  have w4 := w3 b1
  generalize (Go.Proofs.YtpbpjojdfcdbbaaGreatDoor.cmpWrite V.next (evFrs x) D).2 = D2 at w1 w4 b4 b5 b6 b7
  have hgs : ∃ f, aget D2.files (segNm no) = some f := by
    obtain ⟨s, g1, -⟩ := h.held.last
    exact ⟨_, (b7 _ hnn hom.2 hom.1).trans g1⟩
  obtain ⟨f0, hg0⟩ := hgs
  rw [show V.segs = [no] by rw [hv.segs]; simp [nums]]
  obtain ⟨d1, d2⟩ := delAll_eff [no] b4
  have d3 := delAll_alive [no] w1
  have d4 := delAll_gone [no] w1 b4 (by simp [hg0]) (by simp) no (by simp)
  generalize delAll [no] D2 = D3 at d1 d2 d3 d4
  have e1 : aget D3.files (segNm V.next) = some (fullF (evFrs x)) := (d2 _ fun n hn => by simp at hn; subst hn; exact hnn.symm).trans b5
  have e2 : aget D3.files mName = some (fullF (mfBytes [V.next])) := (d2 _ fun n hn => by simp at hn; subst hn; exact hom.1.symm).trans b6
  have hH := held_one d1 (show 1 ≤ V.next ∧ V.next < 1000000000000 by omega) e1 e2 hx
  have hT : Two D3 V.next x := ⟨hH, d3, fun y hy1 hy2 => by
    by_cases hy3 : y = segNm no
    · subst hy3; exact d4
    · rw [d2 y fun n hn => by simp at hn; subst hn; exact hy3]
      by_cases hy4 : y = mTemp
      · subst hy4; exact w4
      · rw [b7 y hy1 hy4 hy2, h.none y hy3 hy2]⟩
  right
  rw [open_still hH d3.dead]
  have := hT.next
  exact ⟨rfl, hT, ⟨by simp [nums], rfl, by simp only; omega⟩, this⟩

/-- the first opening -/
theorem open_two {N : Nat} (h : (logOpen (newD N) size).no = 0) : Two (logOpen (newD N) size).D 1 [] ∧ VOk (logOpen (newD N) size).V [] 1 [] ∧ (logOpen (newD N) size).V.next = 2 := by
  rcases open_new N size with h' | ⟨-, -, o3, o4, o5, o6, o7, o8⟩
  · omega
  refine ⟨⟨o3, o7, fun y hy1 hy2 => ?_⟩, o4, o6⟩
  have ht : Tidy (newD N).files := by simp [Tidy, newD]
  rw [open_new_eq] at h ⊢
  rcases begin2_eff (D := newD N) (V := ⟨size, [], 0, 1⟩) ht (by simp) with ⟨c1, -⟩ | ⟨c1, c2, c3, c4, c5, c6, c7, c8, c9⟩
  · exact absurd h c1
  by_cases hy : y = mTemp
  · subst hy
    show aget (begin2 ⟨size, [], 0, 1⟩ (newD N)).2.2.files mTemp = none
    have hb : (begin2 ⟨size, [], 0, 1⟩ (newD N)).1 = 0 := c1
    unfold begin2 at hb ⊢
    dsimp only at hb ⊢
    split at hb
    · rename_i hc; exact absurd hb hc
    rename_i hc
    rw [if_neg hc]
    have t1 := tidy_create ht (txt (segName 1))
    generalize ((newD N).create (txt (segName 1))).2 = D1 at hb t1 ⊢
    unfold begin3 at hb ⊢
    dsimp only at hb ⊢
    split at hb
    · rename_i hc; exact absurd hb hc
    rename_i hc
    rw [if_neg hc]
    have t2 := tidy_sync t1 (txt (segName 1))
    generalize (D1.sync (txt (segName 1))).2 = D2 at hb t2 ⊢
    split at hb
    · rename_i hc; exact absurd hb hc
    rename_i hc
    rw [if_neg hc]
    exact mf_temp t2 (by simpa using hc)
  · show aget (begin2 ⟨size, [], 0, 1⟩ (newD N)).2.2.files y = none
    rw [c9 y hy1 hy hy2]; rfl
end
end Go.Proofs.YtpbpjojdfcdbbaaGreatDoor

/- what each statement about segments asks: two frames, and half a third one -/
namespace Go.Lift
open Go
theorem Row.of_reps {α : Type} {c : Cod α} {bytes : Nat} {w : World} {D : Nat → Prop} {g : Nat} {e : TypeId} {f : Nat × Nat} {cs : List Value} {xs : List α} (hg : w.heap[g]? = some (.cells cs.toArray e f)) (hr : Reps c w D xs cs) (hD : D g) (hb : xs.length * bytes ≤ Big) :
    Row c bytes w D (some ⟨g, 0, none⟩) xs.length xs :=
  ⟨rfl, hb, fun i x hi => by
    obtain ⟨es, h1, h2⟩ := hr.at hi
    refine ⟨g, 0, es, rfl, lt_of_get hg, hD, fun j hj => ?_, h2⟩
    have hl := c.len h2
    have h3 := h1 j hj
    rw [List.getElem?_eq_getElem (show j < es.length by omega)] at h3 ⊢
    rw [Nat.zero_add]
    exact cell_at hg (by simpa using h3)⟩
theorem half_wrap {n : Nat} (h : n ≤ 1000000) : IntKind.wrap .i64 (Int.tdiv (n : Int) 2) = ((n / 2 : Nat) : Int) := by
  have : Int.tdiv (n : Int) 2 = ((n / 2 : Nat) : Int) := by rw [Int.tdiv_eq_ediv_of_nonneg (by omega)]; omega
  rw [this, wrap_i64 (by unfold I64; omega)]
end Go.Lift
namespace Go.Proofs.YtpbpjojdfcdbbaaGreatDoor
open Go.Lift
set_option linter.unusedVariables false
set_option maxRecDepth 20000

section
variable {w0 w w1 w' : World} {p : Nat} {D D' : DiskV} {X Y : Nat → Prop}
theorem NDisk.load {n : Int} (h : NDisk w0 w p D X) (hw : Laid w0) (hn : I64 n) : Calls Tryz.prog F_segment_Load #[.pointer (some ⟨p, 0, none⟩), .int .i64 n] w (Ok fun v w' =>
    ∃ a m c G, v = .tuple #[.slice a m c, .int .i64 ((segLoad (D.read (txt (segName n))).1).2 : Int)] ∧ Lst cEvO 39 G w' a m c (segLoad (D.read (txt (segName n))).1).1 ∧
      (∀ b, G b → w.heap.size ≤ b) ∧ NDisk w0 w' p D (fun b => X b ∨ G b) ∧ Grew w w' ∧ (segLoad (D.read (txt (segName n))).1).1.length ≤ 262144) := by
  obtain ⟨F, h1, h2⟩ := h
  refine Calls.ok (seg_Load (hw.grew h2.1) h1 hn) ?_
  rintro v w' ⟨a, m, c, G, rfl, ho, hk, hG, hl⟩
  exact ⟨a, m, c, G, rfl, ho, hG, NDisk.add ⟨F, h1, h2⟩ hk fun b hb => ⟨hG b hb, ho.dom b hb⟩, hk, hl⟩
/-- bytes of our own, appended -/
theorem NDisk.appendL {k : ByteArray} {a : Option Addr} {n c : Nat} {bs : List UInt8} {G : Nat → Prop} (h : NDisk w0 w p D X) (hb : Lst cU8 5 G w a n c bs) (hl : bs.length ≤ Big) (hG : ∀ b, G b → X b) :
    Calls Tryz.prog F_vdisk_Disk_Append #[.pointer (some ⟨p, 0, none⟩), .string k, .slice a n c] w (Ok (Does2 w0 w p X (D.append k bs))) :=
  h.append (hb.row (by decide) (by omega)) (fun e => hb.nil0 e) fun b hb => .inr (hG b hb)
end
theorem lst_evs {w : World} {G : Nat → Prop} {a : Option Addr} {n c : Nat} {l : List EventV} (h : Lst cEvO 39 G w a n c l) (hl : l.length ≤ 1000000) : Row cEv 96 w G a n l :=
  cEvO.row (h.row (by decide) (by unfold Big; omega))

theorem some_le {n : Int} (h : (evSome n).Ok) : (evFr (evSome n)).length ≤ 108 := by
  have := encInts_le (h.ints (by simp [evSome]))
  have hl : (evInts (evSome n)).length = 11 := by simp [evInts, evSome]
  unfold evFr
  rw [frBytes_length]; omega
theorem works_load : segLoad (evFr (evSome 1) ++ evFr (evSome 2) ++ (evFr (evSome 1)).take ((evFr (evSome 1)).length / 2)) = ([evSome 1, evSome 2], (evFr (evSome 1)).length + (evFr (evSome 2)).length) := by
  have o1 := evSome_ok (n := 1) (by decide) (by decide)
  have o2 := evSome_ok (n := 2) (by decide) (by decide)
  have h9 := evFr_length o1.1 o1.2
  have hend : segLoad ((evFr (evSome 1)).take ((evFr (evSome 1)).length / 2)) = ([], 0) :=
    segLoad_end (frGet_torn (by have := ev_le o1.1 o1.2; omega) (by show _ < (evFr (evSome 1)).length; omega))
  rw [List.append_assoc, segLoad_ev o1.1 o1.2, segLoad_ev o2.1 o2.2, hend]
  simp

def s7 : ByteArray := ⟨#[115, 101, 103, 46, 55]⟩
theorem s7_name : txt (segName 7) = s7 := by decide +kernel

end Go.Proofs.YtpbpjojdfcdbbaaGreatDoor

/- what the statements of chapter 22 share -/
namespace Go.Proofs.YtpbpjojdfcdbbaaGreatDoor
open Go.Lift
set_option linter.unusedVariables false
set_option maxRecDepth 20000

theorem law22_some {n : Int} {w : World} (h1 : 1 ≤ n) (h2 : n ≤ 1000) : Calls Tryz.prog F_law22_some #[.int .i64 n] w (Ok fun v w' => ∃ a m c F, v = .agg (evCells (evSome n) a m c).toArray ∧
    Lst cI64 3 F w' a m c (evSome n).deps ∧ (∀ b, F b → w.heap.size ≤ b) ∧ Grew w w') := by
  have e1 : IntKind.wrap .i64 (n - 1) = n - 1 := wrap_i64 (by unfold I64; omega)
  refine L_law22_some (PA.mk fun w1 k1 s1 g1 => PA.mk fun w2 k2 s2 g2 => ?_)
  have gq := k2.get g1 id
  rw [e1] at g2
  refine storeAll (evCells (evSome n) (some ⟨w1.heap.size, 0, none⟩) 1 1) gq rfl fun w3 k3 s3 g3 => ?_
  have gd := k3.get g2 (by omega)
  refine ⟨_, _, _, _, _, _, _, _, _, _, _, _, cell_at g3 rfl, cell_at g3 rfl, cell_at g3 rfl, cell_at g3 rfl, cell_at g3 rfl, cell_at g3 rfl, cell_at g3 rfl, cell_at g3 rfl, cell_at g3 rfl, cell_at g3 rfl,
    Ok.mk ⟨_, _, _, (· = w1.heap.size), rfl, ?_, ?_, ?_⟩⟩
  · refine ⟨⟨[.int .i64 (n - 1)], fun _ => False, Own.of_new (n := 1) (k := 1) gd rfl (by decide), ⟨[.int .i64 (n - 1)], [], rfl, ⟨rfl, by unfold I64; omega⟩, rfl⟩, fun _ h => h.elim⟩, fun b h => by cases h; rfl, fun b h => ?_⟩
    subst h; exact lt_of_get gd
  · rintro b rfl; omega
  · exact (k1.then k2).new k3 fun b hb => .inr (by omega)

theorem uL : Tryz.prog.underlying 30 = some (.pointer 83) := by kernel_rfl

theorem law22_Size {n : Int} {w : World} (hn : I64 n) : Calls Tryz.prog F_law22_Size #[.int .i64 n] w (Ok fun v w' => v = .int .i64 (64 + pick n 16384) ∧ w = w') := by
  refine L_law22_Size (PC.ok (kit_Pick (by unfold I64; omega)) ?_)
  rintro _ _ ⟨rfl, rfl⟩
  have hp := pick_range (k := n) (n := 16384) (by omega)
  refine ⟨_, rfl, Ok.mk ⟨?_, rfl⟩⟩
  rw [wrap_i64 (by unfold I64; omega)]

section
variable {w0 w w1 w' : World} {p q : Nat} {D D' : DiskV} {V V' : LogV} {X Y G S : Nat → Prop}
theorem NLog.at (h : NLog w0 w p q V D X) : ∃ G, LogAt w p q G V ∧ ∀ b, G b → w0.heap.size ≤ b ∧ ¬ X b := by obtain ⟨G, h1, h2, h3⟩ := h; exact ⟨G, h2, h3⟩
theorem NLog.segments (h : NLog w0 w p q V D X) : Calls Tryz.prog F_seglog_Log_Segments #[.pointer (some ⟨q, 0, none⟩)] w (Ok (New cI64 3 w V.segs)) := by
  obtain ⟨G, h1, -⟩ := h.at; exact log_Segments h1
/-- one event, laid -/
theorem row_one {e : EventV} {g : Nat} {f : Nat × Nat} {a : Option Addr} {n c : Nat} {F : Nat → Prop} (hg : w.heap[g]? = some (.cells (evCells e a n c).toArray 39 f)) (ho : Lst cI64 3 F w a n c e.deps) (he : e.Ok) (hd : e.deps.length ≤ 1000) :
    Row cEv 96 w (fun b => b < w.heap.size) (some ⟨g, 0, none⟩) 1 [e] :=
  Row.of_reps (xs := [e]) (cs := evCells e a n c) hg (Reps.one (c := cEv) ⟨a, n, c, rfl, (ho.row (by decide) (by unfold Big; omega)).mono fun b hb => ho.dom b hb, he⟩) (lt_of_get hg) (by unfold Big; simp)
end

def wkO : Int × LogV × DiskV := begin2 ⟨1, [], 0, 1⟩ (newD 1000)
def wkA : Int × LogV × DiskV := logAppend wkO.2.1 wkO.2.2 [evSome 1, evSome 2]
def wkS : Int × DiskV := wkA.2.2.sync wkA.2.1.last
def wkB : Int × LogV × DiskV := logAppend wkA.2.1 wkS.2 [evSome 3]
def wkC : DiskV := wkB.2.2.crash 0
theorem wk_facts : wkO.1 = 0 ∧ wkO.2.1.segs = [1] ∧ wkA.1 = 0 ∧ wkA.2.1.segs = [1] ∧ wkS.1 = 0 ∧ wkB.1 = 0 ∧ wkB.2.1.segs = [1, 2] := by decide +kernel
theorem wk_files : aget wkC.files (segNm 1) = some (fullF (evFrs [evSome 1, evSome 2])) ∧ aget wkC.files (segNm 2) = some ⟨evFrs [], 0, true⟩ ∧ aget wkC.files mName = some (fullF (mfBytes [1, 2])) ∧ (wkC.files.map (·.1)).Nodup := by decide +kernel
theorem wk_held : Held wkC [(1, [evSome 1, evSome 2])] 2 [] 0 := by
  obtain ⟨h1, h2, h3, h4⟩ := wk_files
  refine ⟨h4, ?_, ⟨0, h2, by simp [evFrs], Nat.zero_le _⟩, Nat.le_refl _, h3, ?_, ?_, ?_, by decide⟩
  · intro x hx; rw [List.mem_singleton] at hx; subst hx; exact h1
  · intro n hn
    simp [nums] at hn
    omega
  · simp [nums]
  · intro e he
    simp [evsOf] at he
    rcases he with rfl | rfl
    · exact evSome_ok (by decide) (by decide)
    · exact evSome_ok (by decide) (by decide)
theorem wk_open : (logOpen wkC 1).no = 0 ∧ (logOpen wkC 1).out = [evSome 1, evSome 2] := by
  obtain ⟨h1, h2, -⟩ := open_anew (size := 1) wk_held (crash_alive _ _)
  exact ⟨h1, h2⟩
end Go.Proofs.YtpbpjojdfcdbbaaGreatDoor

/- one more in a list, and whose block it is then -/
namespace Go.Proofs.YtpbpjojdfcdbbaaGreatDoor
open Go.Lift
set_option linter.unusedVariables false
set_option maxRecDepth 20000

/-- one more, that was laid in a block of its own just now -/
theorem papp2 {α : Type} {c : Cod α} {e : TypeId} {w : World} {F : Nat → Prop} {a : Option Addr} {n cap : Nat} {xs : List α} {P : Program} {t ty : TypeId} {bytes : Nat} {arr : Array Value} {x : α} {κ ε : Value → World → Prop} (h : Lst c e F w a n cap xs) (hT : SlT P t e c.k bytes)
    {D : Nat → Prop} (hx : c.rep w D x arr.toList) (hD : ∀ b, D b → b < w.heap.size ∧ blk a ≠ some b) (hb : (xs.length + 1) * bytes ≤ Big) (hm : xs.length + 1 ≤ maxLen)
    (hκ : ∀ a' cap' w' F', Lst c e F' w' a' (n + 1) cap' (xs ++ [x]) → Keep (fun j => blk a = some j) w w' → (∀ b, F' b → F b ∨ D b ∨ w.heap.size ≤ b) → (∀ b, blk a' = some b → blk a = some b ∨ w.heap.size ≤ b) → κ (.slice a' (n + 1) cap') w') :
    PA w (.cells arr e) fun w1 => PRun P (Builtin.append_ #[t, t] ty #[.slice a n cap, .slice (some ⟨w.heap.size, 0, none⟩) 1 1]) w1 κ ε := by
  have hl := h.len hT.pos
  obtain ⟨cs, D0, ho, hr, hD0⟩ := h.body
  refine PA.mk fun w1 k1 s1 g1 => ?_
  have hxl := c.len hx
  have hown1 := ho.grew k1
  refine app_own hT (news := arr.toList) hown1 g1 (by rw [List.take_of_length_le (by omega)]) (by omega) (c.one hx) (by rw [hl]; exact hb) (by rw [hl]; exact hm) fun a' c' w3 ho3 hk3 hl3 => ?_
  have hk : Keep (fun j => blk a = some j) w w3 := (Grew.keep k1).then (hk3.mono fun _ _ h => h.symm)
  let F' : Nat → Prop := fun b => F b ∨ D b ∨ (w.heap.size ≤ b ∧ b < w3.heap.size)
  have hsz : w1.heap.size ≤ w3.heap.size := hk3.size
  refine hκ a' c' w3 F' ⟨⟨_, fun b => D0 b ∨ D b, ho3, Reps.append ((hr.keep hk fun b hb => (hD0 b hb).2).mono fun b hb => .inl hb) (Reps.one (c.mono (c.keep hx hk fun b hb => (hD b hb).2) fun b hb => .inr hb)), ?_⟩, ?_, ?_⟩ hk ?_ ?_
  · intro b hb
    have hlt : b < w.heap.size := hb.elim (fun h1 => h.dom b (hD0 b h1).1) fun h1 => (hD b h1).1
    refine ⟨hb.elim (fun h1 => .inl (hD0 b h1).1) fun h1 => .inr (.inl h1), ?_⟩
    rcases hl3 with hl3 | hl3
    · rw [hl3]; exact hb.elim (fun h1 => (hD0 b h1).2) fun h1 => (hD b h1).2
    · rw [hl3]; intro he; cases he; omega
  · intro b hb
    rcases hl3 with hl3 | hl3
    · exact .inl (h.self b (hl3 ▸ hb))
    · have := ho3.lt hb
      rw [hl3] at hb; cases hb; exact .inr (.inr ⟨by omega, this⟩)
  · rintro b (hb | hb | hb)
    · have := h.dom b hb; omega
    · have := (hD b hb).1; omega
    · exact hb.2
  · rintro b (hb | hb | hb)
    · exact .inl hb
    · exact .inr (.inl hb)
    · exact .inr (.inr hb.1)
  · intro b hb
    rcases hl3 with hl3 | hl3
    · exact .inl (hl3 ▸ hb)
    · rw [hl3] at hb; cases hb; exact .inr (by omega)

end Go.Proofs.YtpbpjojdfcdbbaaGreatDoor

/- what the statements of chapter 23 share -/
namespace Go.Proofs.YtpbpjojdfcdbbaaGreatDoor
open Go.Lift
set_option linter.unusedVariables false
set_option maxRecDepth 20000

def evInc (n : Int) : EventV := ⟨0, n, n, [n - 1], 0, 0, 0, 1, 1, 0⟩
theorem evInc_ok {n : Int} (h1 : 1 ≤ n) (h2 : n ≤ 1000) : (evInc n).Ok ∧ (evInc n).deps.length ≤ 64 := by
  refine ⟨⟨?_, ?_, ?_, ?_, ?_, ?_, ?_, ?_, ?_, ?_⟩, by simp [evInc]⟩
  all_goals first | (unfold evInc I64; simp only; omega) | (intro x hx; simp [evInc] at hx; subst hx; unfold I64; omega)

theorem law23_ev {n : Int} {w : World} (h1 : 1 ≤ n) (h2 : n ≤ 1000) : Calls Tryz.prog F_law23_ev #[.int .i64 n] w (Ok fun v w' => ∃ a m c F, v = .agg (evCells (evInc n) a m c).toArray ∧
    Lst cI64 3 F w' a m c (evInc n).deps ∧ (∀ b, F b → w.heap.size ≤ b) ∧ Grew w w') := by
  have e1 : IntKind.wrap .i64 (n - 1) = n - 1 := wrap_i64 (by unfold I64; omega)
  refine L_law23_ev (PA.mk fun w1 k1 s1 g1 => PA.mk fun w2 k2 s2 g2 => ?_)
  have gq := k2.get g1 id
  rw [e1] at g2
  refine storeAll (evCells (evInc n) (some ⟨w1.heap.size, 0, none⟩) 1 1) gq rfl fun w3 k3 s3 g3 => ?_
  have gd := k3.get g2 (by omega)
  refine ⟨_, _, _, _, _, _, _, _, _, _, _, _, cell_at g3 rfl, cell_at g3 rfl, cell_at g3 rfl, cell_at g3 rfl, cell_at g3 rfl, cell_at g3 rfl, cell_at g3 rfl, cell_at g3 rfl, cell_at g3 rfl, cell_at g3 rfl,
    Ok.mk ⟨_, _, _, (· = w1.heap.size), rfl, ?_, ?_, ?_⟩⟩
  · refine ⟨⟨[.int .i64 (n - 1)], fun _ => False, Own.of_new (n := 1) (k := 1) gd rfl (by decide), ⟨[.int .i64 (n - 1)], [], rfl, ⟨rfl, by unfold I64; omega⟩, rfl⟩, fun _ h => h.elim⟩, fun b h => by cases h; rfl, fun b h => ?_⟩
    subst h; exact lt_of_get gd
  · rintro b rfl; omega
  · exact (k1.then k2).new k3 fun b hb => .inr (by omega)

theorem law09_Long {l : List EventV} {a : Option Addr} {n c : Nat} {w : World} {D : Nat → Prop} (ha : Row cEv 96 w D a n l) :
    Calls Tryz.prog F_law09_Long #[.slice a n c] w (Ok fun v w' => v = .bool (decide (60 < l.length ∨ ∃ e ∈ l, 80 < e.deps.length)) ∧ w = w') := by
  have ha0 := ha.len; have ha1 := ha.big
  unfold Big at ha1
  refine L_law09_Long (PIf.dec (fun h1 => Ok.mk ⟨by rw [decide_eq_true (.inl (by omega))], rfl⟩) (fun h60 => ⟨fun k i w' => ∃ j : Nat, i = j ∧ j ≤ n ∧ k = n - j ∧ (∀ e ∈ l.take j, ¬ 80 < e.deps.length) ∧ w = w', ⟨_, 0, rfl, Nat.zero_le _, rfl, by simp, rfl⟩, ?_⟩))
  rintro k i _ w1 ⟨j, rfl, hj, rfl, ht, rfl⟩
  refine PIf.dec (fun h1 => ?_) (fun h1 => ?_)
  · obtain ⟨b1, o1, x, es, rfl, _, _, hx, hc1, a1, n1, c1, rfl, hr1, ho1⟩ := ha.atN (i := j) (by omega)
    have hl := hr1.len
    refine ⟨b1, o1, rfl, by omega, by omega, _, _, _, hc1 3 (by decide), PIf.dec (fun h2 => ?_) (fun h2 => ?_)⟩
    · exact Ok.mk ⟨by rw [decide_eq_true (.inr ⟨x, List.mem_of_getElem? hx, by omega⟩)], rfl⟩
    · refine ⟨_, by omega, j + 1, wrap_succ (by omega), by omega, rfl, fun e he => ?_, rfl⟩
      rw [List.take_add_one, hx] at he
      rcases List.mem_append.1 he with he | he
      · exact ht e he
      · simp at he; subst he; omega
  · rw [List.take_of_length_le (by omega)] at ht
    refine Ok.mk ⟨?_, rfl⟩
    rw [decide_eq_false]
    rintro (h | ⟨e, he, h⟩)
    · omega
    · exact ht e he h

/-- the events that have frames, at most 20 -/
theorem law23_fit {l : List EventV} {a : Option Addr} {n c : Nat} {w : World} {Dl : Nat → Prop} (hw : Laid w) (ha : Row cEv 96 w Dl a n l) (hDl : ∀ b, Dl b → b < w.heap.size) (hl : l.length ≤ 60) :
    Calls Tryz.prog F_law23_fit #[.slice a n c] w (Ok fun v w' => ∃ xs a' n' c' F, v = .slice a' n' c' ∧ Lst cEv 39 F w' a' n' c' xs ∧ xs.length ≤ 20 ∧ (∀ e ∈ xs, e.Ok ∧ e.deps.length ≤ 64) ∧ (∀ b, F b → Dl b ∨ w.heap.size ≤ b) ∧ (∀ b, blk a' = some b → w.heap.size ≤ b) ∧ Grew w w') := by
  have ha0 := ha.len; have ha1 := ha.big
  unfold Big at ha1
  refine L_law23_fit ⟨fun k oa on oc i w' => ∃ (j : Nat) (xs : List EventV) (F : Nat → Prop), i = j ∧ j ≤ n ∧ k = n - j ∧ Lst cEv 39 F w' oa on oc xs ∧ xs.length ≤ 20 ∧ (∀ e ∈ xs, e.Ok ∧ e.deps.length ≤ 64) ∧ (∀ b, F b → Dl b ∨ w.heap.size ≤ b) ∧ (∀ b, blk oa = some b → w.heap.size ≤ b) ∧ Grew w w',
    ⟨_, 0, [], fun _ => False, rfl, Nat.zero_le _, rfl, Lst.nil w, by simp, by simp, fun _ h => h.elim, (fun b h => by cases h), Keep.refl _⟩, ?_⟩
  rintro k oa on oc i _ w1 ⟨j, xs, F, rfl, hj, rfl, ho, hx20, hxs, hF, hoa, k1⟩
  have hon := ho.len (by decide)
  have fin : Ok (fun v w' => ∃ xs a' n' c' F, v = .slice a' n' c' ∧ Lst cEv 39 F w' a' n' c' xs ∧ xs.length ≤ 20 ∧ (∀ e ∈ xs, e.Ok ∧ e.deps.length ≤ 64) ∧ (∀ b, F b → Dl b ∨ w.heap.size ≤ b) ∧ (∀ b, blk a' = some b → w.heap.size ≤ b) ∧ Grew w w') (.returned (.slice oa on oc)) w1 :=
    Ok.mk ⟨xs, _, _, _, F, rfl, ho, hx20, hxs, hF, hoa, k1⟩
  refine PIf.dec (fun hlt => PIf.dec (fun h20 => ?_) (fun _ => fin)) (fun _ => fin)
  obtain ⟨b, off, e, es, rfl, _, _, hx, hc, a1, n1, c1, rfl, hd, heok⟩ := (ha.grew k1).atN (i := j) (by omega)
  have e1 := fun i (hi : i < 10) => hc i hi
  have z1 := k1.size
  refine ⟨b, off, rfl, by omega, by omega, _, _, _, _, _, _, _, _, _, _, _, _, e1 0 (by decide), e1 1 (by decide), e1 2 (by decide), e1 3 (by decide), e1 4 (by decide), e1 5 (by decide), e1 6 (by decide), e1 7 (by decide), e1 8 (by decide), e1 9 (by decide), ?_⟩
  refine PC.ok (seg_Frame (hw.grew k1) hd heok fun b hb => by have := hDl b hb; omega) ?_
  rintro _ w2 ⟨a2, n2, c2, F2, rfl, ho2, k2, hF2⟩
  refine ⟨_, _, _, _, rfl, PIf.eqI (fun h0 => ?_) (fun _ => ⟨_, by omega, j + 1, xs, F, wrap_succ (by omega), by omega, rfl, ho.grew k2, hx20, hxs, hF, hoa, k1.then k2⟩)⟩
  have hd64 : e.deps.length ≤ 64 := by
    refine Decidable.byContradiction fun hc => ?_
    rw [segFrame_no hc] at h0; cases h0
  obtain ⟨b', off', e', es', hb', _, _, hx', hc', a1', n1', c1', rfl, hd', heok'⟩ := (ha.grew (k1.then k2)).atN (i := j) (by omega)
  cases hb'
  rw [hx] at hx'; cases hx'
  have e2 := fun i (hi : i < 10) => hc' i hi
  have z2 := k2.size
  refine ⟨b, off, rfl, by omega, by omega, _, _, _, _, _, _, _, _, _, _, _, _, e2 0 (by decide), e2 1 (by decide), e2 2 (by decide), e2 3 (by decide), e2 4 (by decide), e2 5 (by decide), e2 6 (by decide), e2 7 (by decide), e2 8 (by decide), e2 9 (by decide), ?_⟩
  refine papp2 (ho.grew k2) slEv (x := e) (D := Dl) ⟨a1', n1', c1', rfl, hd', heok'⟩ (fun b hb => ⟨by have := hDl b hb; omega, fun hc => by have := hoa b hc; have := hDl b hb; omega⟩) (by unfold Big; omega) (by unfold maxLen; omega) fun a3 c3 w3 F3 ho3 hk3 hF3 hs3 => ?_
  refine ⟨_, _, _, rfl, _, by omega, j + 1, xs ++ [e], F3, wrap_succ (by omega), by omega, rfl, ho3, by simp; omega, ?_, ?_, ?_, (k1.then k2).new hk3 fun b hb => .inr (hoa b hb)⟩
  · intro x hx
    rcases List.mem_append.1 hx with h | h
    · exact hxs x h
    · simp at h; subst h; exact ⟨heok, hd64⟩
  · intro b hb
    rcases hF3 b hb with h | h | h
    · exact hF b h
    · exact .inl h
    · exact .inr (by omega)
  · intro b hb
    rcases hs3 b hb with h | h
    · exact hoa b h
    · omega

def kn0 : Int × LogV × DiskV := begin2 ⟨1, [], 0, 1⟩ (newD 400)
def knA : Int × LogV × DiskV := logAppend kn0.2.1 kn0.2.2 [evInc 1]
def knB : Int × LogV × DiskV := logAppend knA.2.1 knA.2.2 [evInc 2]
def knW : Int × DiskV := cmpWrite knB.2.1.next (evFrs [evInc 1, evInc 2]) knB.2.2
def knX : DiskV := delAll knB.2.1.segs knW.2
theorem kn_facts : kn0.1 = 0 ∧ kn0.2.1.segs = [1] ∧ knA.1 = 0 ∧ knA.2.1.segs = [1] ∧ knB.1 = 0 ∧ knB.2.1.segs = [1, 2] ∧ knB.2.1.next = 3 ∧ knW.1 = 0 := by decide +kernel
theorem kn_files : aget knX.files (segNm 3) = some (fullF (evFrs [evInc 1, evInc 2])) ∧ aget knX.files mName = some (fullF (mfBytes [3])) ∧ (knX.files.map (·.1)).Nodup ∧ knX.dead = false ∧ knX.files.length = 2 ∧ (cmpFrames [evInc 1, evInc 2]).2 = 0 ∧ (cmpFrames [evInc 1, evInc 2]).1 = evFrs [evInc 1, evInc 2] := by decide +kernel
theorem kn_held : Held knX [] 3 [evInc 1, evInc 2] 2 := by
  obtain ⟨h1, h2, h3, h4, h5, h6, h7⟩ := kn_files
  refine held_one h3 (by decide) h1 h2 ?_
  intro e he
  simp at he
  rcases he with rfl | rfl
  · exact evInc_ok (by decide) (by decide)
  · exact evInc_ok (by decide) (by decide)
theorem kn_compact : logCompact knB.2.1 knB.2.2 [evInc 1, evInc 2] 1 = ⟨0, [evInc 1, evInc 2], ⟨1, [3], ((evFrs [evInc 1, evInc 2]).length : Nat), nextV knX⟩, knX⟩ := by
  obtain ⟨-, -, -, -, -, -, f7, f8⟩ := kn_facts
  obtain ⟨h1, h2, h3, h4, h5, h6, h7⟩ := kn_files
  unfold logCompact
  rw [h6, h7, if_neg (by simp), if_neg (by show ¬ knW.1 ≠ 0; rw [f8]; simp)]
  show logOpen knX 1 = _
  rw [open_still kn_held h4]
  rfl
end Go.Proofs.YtpbpjojdfcdbbaaGreatDoor

/- what each statement of chapter 23 asks: two segments become one -/
namespace Go.Proofs.YtpbpjojdfcdbbaaGreatDoor
open Go.Lift
set_option linter.unusedVariables false
set_option maxRecDepth 20000

theorem known23 {w : World} (hw : Laid w) : Calls Tryz.prog F_law23_known #[] w (Ok fun v w' => v = .bool true ∧ Grew w w') := by
  have o1 := evInc_ok (n := 1) (by decide) (by decide)
  have o2 := evInc_ok (n := 2) (by decide) (by decide)
  obtain ⟨f1, f2, f3, f4, f5, f6, f7, f8⟩ := kn_facts
  obtain ⟨x1, x2, x3, x4, x5, x6, x7⟩ := kn_files
  refine L_law23_known (PC.ok (new_ok (Keep.refl w) (by omega) (by omega)) ?_)
  rintro _ w1 ⟨p, rfl, h1, -⟩
  replace h1 := h1.mono (Y := no) fun _ h => h.elim
  refine ⟨_, _, rfl, PIf.ff rfl (eq_nil_ptr uD ⟨_, rfl, PIf.ff rfl (PC.ok (log_Open (size := 1) hw h1) ?_)⟩)⟩
  rintro _ w2 hod
  have hO := open_new_eq 400 1
  change logOpen (newD 400) 1 = ⟨kn0.1, [], kn0.2.1, kn0.2.2⟩ at hO
  rw [show Int.toNat 400 = 400 from rfl, hO] at hod
  rcases hod with ⟨hne, -⟩ | ⟨-, q, a2, n2, c2, G2, rfl, ho2, h2, -, -⟩
  · exact absurd f1 hne
  have hn2 := ho2.len (by decide)
  simp at hn2
  subst hn2
  refine ⟨_, _, _, _, _, rfl, PIf.ff rfl (eq_nil_ptr uL ⟨_, rfl, PIf.ff rfl (PIf.ff rfl (PC.ok (law23_ev (by decide) (by decide)) ?_))⟩)⟩
  rintro _ w3 ⟨a3, n3, c3, F3, rfl, ho3, -, k3⟩
  refine ⟨_, _, _, _, _, _, _, _, _, _, _, _, rfl, PA.mk fun w4 k4 s4 g4 => ?_⟩
  have h4 := (h2.grew k3).grew k4
  refine PC.ok (log_Append hw h4 (by rw [f2]; simp) (row_one (e := evInc 1) g4 (ho3.grew k4) o1.1 (by simp [evInc])) (fun b hb => hb) (by simp)) ?_
  rintro _ w5 ⟨rfl, h5, k5⟩
  change NLog w w5 p q knA.2.1 knA.2.2 _ at h5
  refine ⟨_, rfl, PIf.ff (by show (knA.1 != 0) = false; rw [f3]; rfl) (PC.ok (law23_ev (by decide) (by decide)) ?_)⟩
  rintro _ w6 ⟨a6, n6, c6, F6, rfl, ho6, -, k6⟩
  refine ⟨_, _, _, _, _, _, _, _, _, _, _, _, rfl, PA.mk fun w7 k7 s7 g7 => ?_⟩
  have h7 := (h5.grew k6).grew k7
  refine PC.ok (log_Append hw h7 (by rw [f4]; simp) (row_one (e := evInc 2) g7 (ho6.grew k7) o2.1 (by simp [evInc])) (fun b hb => hb) (by simp)) ?_
  rintro _ w8 ⟨rfl, h8, k8⟩
  change NLog w w8 p q knB.2.1 knB.2.2 _ at h8
  refine ⟨_, rfl, PIf.ff (by show (knB.1 != 0) = false; rw [f5]; rfl) (PC.ok h8.segments ?_)⟩
  rintro _ w9 ⟨a9, n9, c9, F9, rfl, ho9, k9, -⟩
  have hn9 := ho9.len (by decide)
  rw [f6] at hn9
  simp at hn9
  subst hn9
  have h9 := h8.grew k9
  refine ⟨_, _, _, rfl, PIf.ff rfl (PC.ok (law23_ev (by decide) (by decide)) ?_)⟩
  rintro _ w10 ⟨a10, n10, c10, F10, rfl, ho10, -, k10⟩
  refine ⟨_, _, _, _, _, _, _, _, _, _, _, _, rfl, PC.ok (law23_ev (by decide) (by decide)) ?_⟩
  rintro _ w11 ⟨a11, n11, c11, F11, rfl, ho11, -, k11⟩
  refine ⟨_, _, _, _, _, _, _, _, _, _, _, _, rfl, PA.mk fun w12 k12 s12 g12 => ?_⟩
  have h12 := ((h9.grew k10).grew k11).grew k12
  have r1 := ((ho10.grew k11).grew k12).row (bytes := 8) (by decide) (by simp [evInc, Big])
  have r2 := (ho11.grew k12).row (bytes := 8) (by decide) (by simp [evInc, Big])
  have hrow : Row cEv 96 w12 (fun b => b < w12.heap.size) (some ⟨w11.heap.size, 0, none⟩) 2 [evInc 1, evInc 2] :=
    Row.of_reps (xs := [evInc 1, evInc 2]) (cs := evCells (evInc 1) a10 n10 c10 ++ evCells (evInc 2) a11 n11 c11) g12
      (Reps.append (Reps.one (c := cEv) ⟨a10, n10, c10, rfl, r1.mono fun b hb => ((ho10.grew k11).grew k12).dom b hb, o1.1⟩) (Reps.one (c := cEv) ⟨a11, n11, c11, rfl, r2.mono fun b hb => (ho11.grew k12).dom b hb, o2.1⟩)) (lt_of_get g12) (by unfold Big; simp)
  refine PC.ok (cmp_Compact (size := 1) hw h12 hrow (fun b hb => hb) (by simp)) ?_
  rintro _ w13 ⟨G, -, -, k13, hr⟩
  rw [kn_compact] at hr
  rcases hr with ⟨hne, -⟩ | ⟨-, q2, rfl, h13⟩
  · exact absurd rfl hne
  refine ⟨_, _, rfl, PIf.ff rfl (eq_nil_ptr uL ⟨_, rfl, PIf.ff rfl (PC.ok h13.segments ?_)⟩)⟩
  rintro _ w14 ⟨a14, n14, c14, F14, rfl, ho14, k14, -⟩
  have hn14 := ho14.len (by decide)
  simp at hn14
  subst hn14
  have h14 := h13.grew k14
  refine ⟨_, _, _, rfl, PIf.ff rfl (PC.ok h14.disk.list ?_)⟩
  rintro _ w15 ⟨a15, n15, c15, F15, rfl, ho15, -, h15, -⟩
  have hn15 := ho15.len (by decide)
  rw [list_length', x5] at hn15
  subst hn15
  refine ⟨_, _, _, rfl, PIf.ff rfl (PC.ok (h15.crash (keep := 0) (by unfold I64; omega)) ?_)⟩
  rintro _ w16 ⟨rfl, h16, -⟩
  refine ⟨rfl, PC.ok (log_Open (size := 1) hw h16) ?_⟩
  rintro _ w17 hod
  obtain ⟨k, e0, e1, e2, e3, -⟩ := open_crash (size := 1) (keep := 0) kn_held
  obtain rfl : k = 2 := by simp at e1; omega
  rcases hod with ⟨hne, -⟩ | ⟨-, q', a17, n17, c17, G17, rfl, ho17, h17, -, -⟩
  · exact absurd e2 hne
  rw [e3] at ho17
  refine ⟨_, _, _, _, _, rfl, PIf.tt rfl (PC.ok (law23_ev (by decide) (by decide)) ?_)⟩
  rintro _ w18 ⟨a18, n18, c18, F18, rfl, ho18, -, k18⟩
  refine ⟨_, _, _, _, _, _, _, _, _, _, _, _, rfl, PC.ok (law23_ev (by decide) (by decide)) ?_⟩
  rintro _ w19 ⟨a19, n19, c19, F19, rfl, ho19, -, k19⟩
  refine ⟨_, _, _, _, _, _, _, _, _, _, _, _, rfl, PA.mk fun w20 k20 s20 g20 => ?_⟩
  have r3 := ((ho18.grew k19).grew k20).row (bytes := 8) (by decide) (by simp [evInc, Big])
  have r4 := (ho19.grew k20).row (bytes := 8) (by decide) (by simp [evInc, Big])
  have hrow3 : Row cEv 96 w20 (fun _ => True) (some ⟨w19.heap.size, 0, none⟩) 2 [evInc 1, evInc 2] :=
    Row.of_reps (xs := [evInc 1, evInc 2]) (cs := evCells (evInc 1) a18 n18 c18 ++ evCells (evInc 2) a19 n19 c19) g20
      (Reps.append (Reps.one (c := cEv) ⟨a18, n18, c18, rfl, r3.mono fun _ _ => trivial, o1.1⟩) (Reps.one (c := cEv) ⟨a19, n19, c19, rfl, r4.mono fun _ _ => trivial, o2.1⟩)) trivial (by unfold Big; simp)
  refine PC.ok (kit_SameEvents (lst_evs (((ho17.grew k18).grew k19).grew k20) (by simp [evsOf])) hrow3) ?_
  rintro _ w21 ⟨rfl, k21⟩
  exact ⟨_, rfl, Ok.mk ⟨by simp [evsOf], (((h17.gr.then k18).then k19).then k20).then k21⟩⟩

theorem fin23 {w w1 : World} {ε : List PanicEntry → World → Prop} (hw : Laid w) (hg : Grew w w1) : PC Tryz.prog F_law23_known #[] w1 (fun v w2 => ∃ t : Bool, v = .bool t ∧ Ok (fun v w' => v = .bool true ∧ Grew w w') (.returned (.bool t)) w2) ε :=
  PC.ok (known23 (hw.grew hg)) (by rintro _ w2 ⟨rfl, k2⟩; exact ⟨_, rfl, Ok.mk ⟨rfl, hg.then k2⟩⟩)
end Go.Proofs.YtpbpjojdfcdbbaaGreatDoor

/- what each statement of chapter 22 asks -/
namespace Go.Proofs.YtpbpjojdfcdbbaaGreatDoor
open Go.Lift
set_option linter.unusedVariables false
set_option maxRecDepth 20000

theorem works22 {w : World} (hw : Laid w) : Calls Tryz.prog F_law22_works #[] w (Ok fun v w' => v = .bool true ∧ Grew w w') := by
  have o1 := evSome_ok (n := 1) (by decide) (by decide)
  have o2 := evSome_ok (n := 2) (by decide) (by decide)
  have o3 := evSome_ok (n := 3) (by decide) (by decide)
  obtain ⟨f1, f2, f3, f4, f5, f6, f7⟩ := wk_facts
  refine L_law22_works (PC.ok (new_ok (Keep.refl w) (by omega) (by omega)) ?_)
  rintro _ w1 ⟨p, rfl, h1, -⟩
  replace h1 := h1.mono (Y := no) fun _ h => h.elim
  refine ⟨_, _, rfl, PIf.ff rfl (eq_nil_ptr uD ⟨_, rfl, PIf.ff rfl (PC.ok (log_Open (size := 1) hw h1) ?_)⟩)⟩
  rintro _ w2 hod
  have hO := open_new_eq 1000 1
  change logOpen (newD 1000) 1 = ⟨wkO.1, [], wkO.2.1, wkO.2.2⟩ at hO
  rw [show Int.toNat 1000 = 1000 from rfl, hO] at hod
  rcases hod with ⟨hne, -⟩ | ⟨-, q, a2, n2, c2, G2, rfl, ho2, h2, -, -⟩
  · exact absurd f1 hne
  have hn2 := ho2.len (by decide)
  simp at hn2
  subst hn2
  refine ⟨_, _, _, _, _, rfl, PIf.ff rfl (eq_nil_ptr uL ⟨_, rfl, PIf.ff rfl (PIf.ff rfl (PC.ok h2.segments ?_))⟩)⟩
  rintro _ w3 ⟨a3, n3, c3, F3, rfl, ho3, k3, -⟩
  have hn3 := ho3.len (by decide)
  dsimp only at hn3
  rw [f2] at hn3
  simp at hn3
  subst hn3
  have h3 := h2.grew k3
  refine ⟨_, _, _, rfl, PIf.ff rfl (PC.ok (law22_some (by decide) (by decide)) ?_)⟩
  rintro _ w4 ⟨a4, n4, c4, F4, rfl, ho4, -, k4⟩
  refine ⟨_, _, _, _, _, _, _, _, _, _, _, _, rfl, PC.ok (law22_some (by decide) (by decide)) ?_⟩
  rintro _ w5 ⟨a5, n5, c5, F5, rfl, ho5, -, k5⟩
  refine ⟨_, _, _, _, _, _, _, _, _, _, _, _, rfl, PA.mk fun w6 k6 s6 g6 => ?_⟩
  have h6 := ((h3.grew k4).grew k5).grew k6
  have r1 := ((ho4.grew k5).grew k6).row (bytes := 8) (by decide) (by simp [evSome, Big])
  have r2 := (ho5.grew k6).row (bytes := 8) (by decide) (by simp [evSome, Big])
  have hrow : Row cEv 96 w6 (fun b => b < w6.heap.size) (some ⟨w5.heap.size, 0, none⟩) 2 [evSome 1, evSome 2] :=
    Row.of_reps (xs := [evSome 1, evSome 2]) (cs := evCells (evSome 1) a4 n4 c4 ++ evCells (evSome 2) a5 n5 c5) g6
      (Reps.append (Reps.one (c := cEv) ⟨a4, n4, c4, rfl, r1.mono fun b hb => ((ho4.grew k5).grew k6).dom b hb, o1.1⟩) (Reps.one (c := cEv) ⟨a5, n5, c5, rfl, r2.mono fun b hb => (ho5.grew k6).dom b hb, o2.1⟩)) (lt_of_get g6) (by unfold Big; simp)
  refine PC.ok (log_Append hw h6 (by rw [f2]; simp) hrow (fun b hb => hb) (by simp)) ?_
  rintro _ w7 ⟨rfl, h7, k7⟩
  change NLog w w7 p q wkA.2.1 wkA.2.2 _ at h7
  refine ⟨_, rfl, PC.ok (log_Sync hw h7 (by rw [f4]; simp)) ?_⟩
  rintro _ w8 ⟨rfl, h8, k8⟩
  change NLog w w8 p q wkA.2.1 wkS.2 _ at h8
  refine ⟨_, rfl, PC.ok (law22_some (by decide) (by decide)) ?_⟩
  rintro _ w9 ⟨a9, n9, c9, F9, rfl, ho9, -, k9⟩
  refine ⟨_, _, _, _, _, _, _, _, _, _, _, _, rfl, PA.mk fun w10 k10 s10 g10 => ?_⟩
  have h10 := (h8.grew k9).grew k10
  have hrow2 := row_one (e := evSome 3) g10 (ho9.grew k10) o3.1 (by simp [evSome])
  refine PC.ok (log_Append hw h10 (by rw [f4]; simp) hrow2 (fun b hb => hb) (by simp)) ?_
  rintro _ w11 ⟨rfl, h11, k11⟩
  change NLog w w11 p q wkB.2.1 wkB.2.2 _ at h11
  refine ⟨_, rfl, PC.ok h11.segments ?_⟩
  rintro _ w12 ⟨a12, n12, c12, F12, rfl, ho12, k12, -⟩
  have hn12 := ho12.len (by decide)
  rw [f7] at hn12
  simp at hn12
  subst hn12
  have h12 := (h11.grew k12).disk
  refine ⟨_, _, _, rfl, PC.ok (h12.crash (keep := 0) (by unfold I64; omega)) ?_⟩
  rintro _ w13 ⟨rfl, h13, k13⟩
  change NDisk w w13 p wkC _ at h13
  refine ⟨rfl, PC.ok (log_Open (size := 1) hw h13) ?_⟩
  rintro _ w14 hod
  obtain ⟨e1, e2⟩ := wk_open
  rcases hod with ⟨hne, -⟩ | ⟨-, q', a14, n14, c14, G14, rfl, ho14, h14, -, -⟩
  · exact absurd e1 hne
  rw [e2] at ho14
  refine ⟨_, _, _, _, _, rfl, PIf.tt ?_ (PIf.tt ?_ (PIf.tt ?_ (PIf.tt rfl (PIf.tt rfl (ne_nil_ptr uL ⟨_, rfl, PIf.tt rfl (PC.ok (law22_some (by decide) (by decide)) ?_)⟩)))))⟩
  · show ((wkA.1 : Int) == 0) = true; rw [f3]; rfl
  · show ((wkS.1 : Int) == 0) = true; rw [f5]; rfl
  · show ((wkB.1 : Int) == 0) = true; rw [f6]; rfl
  rintro _ w15 ⟨a15, n15, c15, F15, rfl, ho15, -, k15⟩
  refine ⟨_, _, _, _, _, _, _, _, _, _, _, _, rfl, PC.ok (law22_some (by decide) (by decide)) ?_⟩
  rintro _ w16 ⟨a16, n16, c16, F16, rfl, ho16, -, k16⟩
  refine ⟨_, _, _, _, _, _, _, _, _, _, _, _, rfl, PA.mk fun w17 k17 s17 g17 => ?_⟩
  have r3 := ((ho15.grew k16).grew k17).row (bytes := 8) (by decide) (by simp [evSome, Big])
  have r4 := (ho16.grew k17).row (bytes := 8) (by decide) (by simp [evSome, Big])
  have hrow3 : Row cEv 96 w17 (fun _ => True) (some ⟨w16.heap.size, 0, none⟩) 2 [evSome 1, evSome 2] :=
    Row.of_reps (xs := [evSome 1, evSome 2]) (cs := evCells (evSome 1) a15 n15 c15 ++ evCells (evSome 2) a16 n16 c16) g17
      (Reps.append (Reps.one (c := cEv) ⟨a15, n15, c15, rfl, r3.mono fun _ _ => trivial, o1.1⟩) (Reps.one (c := cEv) ⟨a16, n16, c16, rfl, r4.mono fun _ _ => trivial, o2.1⟩)) trivial (by unfold Big; simp)
  refine PC.ok (kit_SameEvents (lst_evs (((ho14.grew k15).grew k16).grew k17) (by simp)) hrow3) ?_
  rintro _ w18 ⟨rfl, k18⟩
  exact ⟨_, rfl, Ok.mk ⟨by simp, (((h14.gr.then k15).then k16).then k17).then k18⟩⟩

theorem fin22 {w w1 : World} {ε : List PanicEntry → World → Prop} (hw : Laid w) (hg : Grew w w1) : PC Tryz.prog F_law22_works #[] w1 (fun v w2 => ∃ t : Bool, v = .bool t ∧ Ok (fun v w' => v = .bool true ∧ Grew w w') (.returned (.bool t)) w2) ε :=
  PC.ok (works22 (hw.grew hg)) (by rintro _ w2 ⟨rfl, k2⟩; exact ⟨_, rfl, Ok.mk ⟨rfl, hg.then k2⟩⟩)
end Go.Proofs.YtpbpjojdfcdbbaaGreatDoor

/- SeglogRefuses: the walk -/
namespace Go.Proofs.YtpbpjojdfcdbbaaGreatDoor
open Go.Lift
set_option linter.unusedVariables false
set_option maxRecDepth 20000

section
variable {w0 w w1 w' : World} {p q : Nat} {D D' : DiskV} {V V' : LogV} {X Y Z G S : Nat → Prop}
theorem NDisk.turn0 (h : NDisk w0 w p D X) (hk : Keep Y w w') (hY : ∀ b, Y b → X b ∧ w0.heap.size ≤ b) (hZ : ∀ b, Z b → (X b ∨ b < w0.heap.size ∨ w.heap.size ≤ b) ∧ b < w'.heap.size) : NDisk w0 w' p D Z := by
  obtain ⟨F, h1, h2, h3, h4⟩ := h
  exact ⟨F, h1.keep hk fun b hb hy => (h3 b hb).2 (hY b hy).1, h2.new hk fun b hb => .inr (hY b hb).2, fun b hb => ⟨(h3 b hb).1, fun hz => by
    rcases (hZ b hz).1 with h | h | h
    · exact (h3 b hb).2 h
    · have := (h3 b hb).1; omega
    · have := h1.dom b hb; omega⟩, fun b hb => (hZ b hb).2⟩
theorem NLog.turn0 (h : NLog w0 w p q V D X) (hk : Keep Y w w') (hY : ∀ b, Y b → X b ∧ w0.heap.size ≤ b) (hZ : ∀ b, Z b → (X b ∨ b < w0.heap.size ∨ w.heap.size ≤ b) ∧ b < w'.heap.size) : NLog w0 w' p q V D Z := by
  obtain ⟨G, h1, h2, h3⟩ := h
  refine ⟨G, h1.turn0 hk (fun b hb => ⟨.inl (hY b hb).1, (hY b hb).2⟩) fun b hb => ?_, h2.keep hk fun b hb hy => (h3 b hb).2 (hY b hy).1, fun b hb => ⟨(h3 b hb).1, fun hz => by
    rcases (hZ b hz).1 with h | h | h
    · exact (h3 b hb).2 h
    · have := (h3 b hb).1; omega
    · have := h2.dom b hb; omega⟩⟩
  rcases hb with hb | hb
  · exact ⟨(hZ b hb).1.imp .inl id, (hZ b hb).2⟩
  · exact ⟨.inl (.inr hb), Nat.lt_of_lt_of_le (h2.dom b hb) hk.size⟩
end
theorem row_evOk {bytes : Nat} {w : World} {D : Nat → Prop} {a : Option Addr} {n : Nat} {l : List EventV} (h : Row cEv bytes w D a n l) : ∀ e ∈ l, e.Ok := fun e he => by
  obtain ⟨i, hi⟩ := List.mem_iff_getElem?.1 he
  obtain ⟨b, off, es, -, -, -, -, a1, n1, c1, -, -, hok⟩ := h.el i e hi
  exact hok

/-- a log that stands on a disk that lives, its numbers in a row from 1 -/
structure Well (V : LogV) (D : DiskV) (A : Segs) (no : Int) (l : List EventV) (k : Nat) : Prop where
  held : Held D A no l k
  v : VOk V A no l
  alive : Alive D
  fresh : Fresh V D
  next : V.next = A.length + 2
  fat : Fat V.size A
theorem Well.lt {V : LogV} {D : DiskV} {A : Segs} {no : Int} {l : List EventV} {k : Nat} (h : Well V D A no l k) : V.next < 1000000000000 := by
  have := h.held.many; have := h.next; omega
theorem Well.append {V : LogV} {D : DiskV} {A : Segs} {no : Int} {l x : List EventV} {k : Nat} (h : Well V D A no l k) (hx : ∀ e ∈ x, e.Ok) (hl : x.length ≤ 1000) (hok : D.Ok) :
    ((logAppend V D x).1 = 0 ∨ (logAppend V D x).1 = 3 ∨ (logAppend V D x).1 = 12) ∧ (logAppend V D x).2.1.size = V.size ∧ ∃ A' no' l' k', Well (logAppend V D x).2.1 (logAppend V D x).2.2 A' no' l' k' ∧ dur A k ≤ dur A' k' ∧ evsOf A' l' = (if (logAppend V D x).1 = 0 then evsOf A l ++ x else evsOf A l) := by
  obtain ⟨a1, a2, a3⟩ := append_alive h.held h.v h.alive h.fresh h.lt x
  obtain ⟨A', no', l', k', b1, b2, b3, b4, b5, b6, b7⟩ := held_append h.held h.v hx hl hok h.fat
  refine ⟨a2, b5, A', no', l', k', ⟨b1, b2, a1, a3, ?_, by rw [b5]; exact b6⟩, b3, b4⟩
  have := h.next
  rcases b7 with ⟨rfl, -, e⟩ | ⟨rfl, -, e⟩
  · rw [e]; exact this
  · rw [e]; simp; omega
theorem well_new {N : Nat} {size : Int} (h0 : (logOpen (newD N) size).no = 0) : Well (logOpen (newD N) size).V (logOpen (newD N) size).D [] 1 [] 0 ∧ (logOpen (newD N) size).out = [] := by
  rcases open_new N size with h | ⟨-, h1, h2, h3, h4, h5, h6, h7⟩
  · exact absurd h0 (by omega)
  · exact ⟨⟨h2, h3, h6, h7, by rw [h5]; rfl, fun y hy => by cases hy⟩, h1⟩

theorem SeglogRefuses {n size ahead : Int} {la : Option Addr} {ln lc : Nat} {l : List EventV} {w : World} {Dl : Nat → Prop} (hn : I64 n) (hah : I64 ahead) (ha : Row cEv 96 w Dl la ln l) (hDl : ∀ b, Dl b → b < w.heap.size) (hnil : la = none → ln = 0 ∧ lc = 0) (hw : Laid w) :
    Calls Tryz.prog F_law22_SeglogRefuses #[.int .i64 n, .int .i64 size, .int .i64 ahead, .slice la ln lc] w (Ok fun v w' => v = .bool true ∧ Grew w w') := by
  have ha0 := ha.len
  refine L_law22_SeglogRefuses (PC.ok (law10_Long ha) ?_)
  rintro _ _ ⟨rfl, rfl⟩
  refine ⟨_, rfl, PIf.dec (fun h => fin22 hw (Keep.refl _)) (fun hlong => PC.ok (law22_Size hn) ?_)⟩
  have hl200 : l.length ≤ 200 := by omega
  rintro _ _ ⟨rfl, rfl⟩
  have hp := pick_range (k := n) (n := 16384) (by omega)
  generalize pick n 16384 = nn at hp
  refine ⟨_, rfl, PC.ok (new_ok (Keep.refl w) (by omega) (by omega)) ?_⟩
  rintro _ w1 ⟨p, rfl, h1, -⟩
  replace h1 := h1.mono (Y := no) fun _ h => h.elim
  generalize Int.toNat (64 + nn) = N at h1
  refine ⟨_, _, rfl, PIf.ff rfl (eq_nil_ptr uD ⟨_, rfl, PIf.ff rfl (PC.ok (log_Open (size := size) hw h1) ?_)⟩)⟩
  rintro _ w2 (⟨hne, rfl, h2, -⟩ | ⟨h0, q, a2, n2, c2, G2, rfl, ho2, h2, -, -, -, -⟩)
  · exact ⟨_, _, _, _, _, rfl, PIf.tt (by simpa using hne) (PIf.tt (by simpa using hne) (eq_nil_ptr uL ⟨_, rfl, PIf.tt rfl (fin22 hw h2.gr)⟩))⟩
  obtain ⟨hwell, hout⟩ := well_new h0
  replace h2 := h2.mono (Y := no) fun _ h => h.elim
  have hsz : (logOpen (newD N) size).V.size = size := by
    rcases open_new N size with h | ⟨-, h1, h2, h3, h4, h5, h6, h7⟩
    · exact absurd h0 (by omega)
    · exact h4
  generalize logOpen (newD N) size = r0 at h2 hwell hsz
  /- a state, with what is wanted -/
  let St : List EventV → Option Addr → Nat → Nat → World → Prop := fun W a m c w' => ∃ V D A no l k F, Lst cEv 39 F w' a m c W ∧ (∀ b, F b → w.heap.size ≤ b) ∧ Well V D A no l k ∧ V.size = size ∧ evsOf A l = W ∧ NLog w w' p q V D F
  refine ⟨_, _, _, _, _, rfl, PIf.ff rfl (eq_nil_ptr uL ⟨_, rfl, PIf.ff rfl ⟨fun a m c w' => ∃ W, W.length ≤ 200 ∧ St W a m c w', ⟨fun k a m c i w' => ∃ j : Nat, i = j ∧ j ≤ 200 ∧ k = 201 - j ∧ ∃ W, W.length = j ∧ St W a m c w', ⟨_, 0, rfl, by omega, rfl, [], rfl, r0.V, r0.D, [], 1, [], 0, fun _ => False, Lst.nil w2, (fun _ h => h.elim), hwell, hsz, rfl, h2⟩, ?_⟩, ?_⟩⟩)⟩
  · rintro k a m c i _ w3 ⟨j, rfl, hj, rfl, W, hWl, V, D, A, no, l', k', F, ho, hF, hwl, hVs, hWe, hN⟩
    refine PC.ok (kit_Pick (by unfold I64; omega)) ?_
    rintro _ _ ⟨rfl, rfl⟩
    have hpa := pick_range (k := ahead) (n := 201) (by omega)
    refine ⟨_, rfl, PIf.dec (fun hlt => ?_) (fun hge => ⟨W, by omega, V, D, A, no, l', k', F, ho, hF, hwl, hVs, hWe, hN⟩)⟩
    have e1 : IntKind.wrap .i64 ((j : Int) + 1) = ((j + 1 : Nat) : Int) := wrap_succ (by omega)
    rw [e1]
    have oe := evSome_ok (n := ((j + 1 : Nat) : Int)) (by omega) (by omega)
    refine PC.ok (law22_some (by omega) (by omega)) ?_
    rintro _ w4 ⟨a4, n4, c4, F4, rfl, ho4, hF4, k4⟩
    refine ⟨_, _, _, _, _, _, _, _, _, _, _, _, rfl, PA.mk fun w5 k5 s5 g5 => ?_⟩
    have hN5 := (hN.grew k4).grew k5
    refine PC.ok (log_Append hw hN5 (by rw [hwl.v.segs]; simp) (row_one (e := evSome ((j + 1 : Nat) : Int)) g5 (ho4.grew k5) oe.1 (by simp [evSome])) (fun b hb => hb) (by simp)) ?_
    rintro _ w6 ⟨rfl, hN6, k6⟩
    have hwa := hwl.append (x := [evSome ((j + 1 : Nat) : Int)]) (fun e he => by simp at he; subst he; exact oe.1) (by simp) hN.ok
    generalize logAppend V D [evSome ((j + 1 : Nat) : Int)] = r at hN6 hwa
    obtain ⟨-, hrs, A', no', l'', k'', hwl', -, hev'⟩ := hwa
    have ho6 := ((ho.grew k4).grew k5).keep k6 fun b hb hn => hn hb
    refine ⟨_, rfl, PIf.neI (fun hne => ?_) (fun h0 => ?_)⟩
    · rw [if_neg hne] at hev'
      exact ⟨W, by omega, r.2.1, r.2.2, A', no', l'', k'', F, ho6, hF, hwl', hrs.trans hVs, hev'.trans hWe, hN6⟩
    rw [if_pos h0] at hev'
    refine PC.ok (law22_some (by omega) (by omega)) ?_
    rintro _ w7 ⟨a7, n7, c7, F7, rfl, ho7, hF7, k7⟩
    have hN7 : NLog w w7 p q r.2.1 r.2.2 (fun b => F b ∨ F7 b) := hN6.add k7 fun b hb => ⟨hF7 b hb, ho7.dom b hb⟩
    have hr7 : Row cI64 8 w7 F7 a7 n7 (evSome ((j + 1 : Nat) : Int)).deps := ho7.row (by decide) (by simp [evSome, Big])
    refine ⟨_, _, _, _, _, _, _, _, _, _, _, _, rfl, papp (ho6.grew k7) slEv (x := evSome ((j + 1 : Nat) : Int)) (D := F7) ⟨a7, n7, c7, rfl, hr7, oe.1⟩ (fun b hb => ⟨ho7.dom b hb, fun hc => ?_⟩) (by rw [hWl]; unfold Big; omega) (by rw [hWl]; unfold maxLen; omega) fun a8 c8 w8 F8 ho8 hk8 hF8 hs8 => ?_⟩
    · have := ho6.dom b (ho6.self b hc); have := hF7 b hb; omega
    refine ⟨_, _, _, rfl, 201 - (j + 1), by omega, j + 1, rfl, by omega, rfl, _, by simp [hWl], r.2.1, r.2.2, A', no', l'', k'', F8, ho8, ?_, hwl', hrs.trans hVs, by rw [hev', hWe], ?_⟩
    · intro b hb
      have hg6 := hN6.gr.size; have := k7.size
      rcases hF8 b hb with h' | h' | h'
      · exact hF b h'
      · have := hF7 b h'; omega
      · omega
    · refine hN7.turn hk8 (fun b hb => ⟨.inl (ho6.self b hb), hF b (ho6.self b hb)⟩) fun b hb => ⟨?_, ho8.dom b hb⟩
      rcases hF8 b hb with h' | h' | h'
      · exact .inl (.inl h')
      · exact .inl (.inr h')
      · exact .inr h'
  · rintro a m c _ w3 ⟨W, hWl, V, D, A, no, l', k', F, ho, hF, hwl, hVs, hWe, hN⟩
    refine PC.ok (log_Append hw hN (by rw [hwl.v.segs]; simp) (ha.grew hN.gr) (fun b hb => by have := hDl b hb; have := hN.gr.size; omega) (by omega)) ?_
    rintro _ w4 ⟨rfl, hN4, k4⟩
    have hwa := hwl.append (x := l) (row_evOk ha) (by omega) hN.ok
    generalize logAppend V D l = r at hN4 hwa
    obtain ⟨hcode, hrs, A', no', l'', k'', hwl', -, hev'⟩ := hwa
    have ho4 := ho.keep k4 fun b hb hn => hn hb
    refine ⟨_, rfl, fun a m c w' => ∃ F, Lst cEv 39 F w' a m c (evsOf A' l'') ∧ NLog w w' p q r.2.1 r.2.2 F, ?_, ?_⟩
    · refine PIf.eqI (fun h0 => ?_) (fun hne => ⟨F, by rw [hev', if_neg hne, hWe]; exact ho4, hN4⟩)
      refine appRow' ho4 slEv (ha.grew hN4.gr) hnil (fun b hb => ⟨by have := hDl b hb; have := hN4.gr.size; omega, fun hc => by have := hF b (ho4.self b hc); have := hDl b hb; omega⟩) (by unfold Big; omega) (by unfold maxLen; omega) fun a5 c5 w5 F5 ho5 hk5 hF5 _ => ?_
      refine ⟨_, _, _, rfl, F5, by rw [hev', if_pos h0, hWe]; exact ho5, ?_⟩
      refine hN4.turn0 hk5 (fun b hb => ⟨ho4.self b hb, hF b (ho4.self b hb)⟩) fun b hb => ⟨?_, ho5.dom b hb⟩
      rcases hF5 b hb with h' | h' | h'
      · exact .inl h'
      · exact .inr (.inl (hDl b h'))
      · exact .inr (.inr h')
    · rintro a m c _ w5 ⟨F5, ho5, hN5⟩
      refine ⟨fun w' => w5 = w', ?_, ?_⟩
      · refine PIf.neI (fun h1 => PIf.neI (fun h2 => PIf.neI (fun h3 => ?_) (fun _ => rfl)) (fun _ => rfl)) (fun _ => rfl)
        omega
      rintro _ _ rfl
      refine PC.ok (log_Open (size := size) hw hN5.disk) ?_
      obtain ⟨o1, o2, -⟩ := open_anew (size := size) hwl'.held hwl'.alive
      rintro _ w6 (⟨hne, -⟩ | ⟨-, q6, a6, n6, c6, G6, rfl, ho6, h6, k6, -, -, hl6⟩)
      · exact absurd o1 hne
      rw [o2] at ho6 hl6
      have ho56 := ho5.keep k6 fun b hb hn => hn hb
      have hWl' : (evsOf A' l'').length ≤ 400 := by
        rw [hev', hWe]; split
        · rw [List.length_append]; omega
        · omega
      refine ⟨_, _, _, _, _, rfl, PIf.tt rfl (PC.ok (kit_SameEvents (lst_evs ho6 (by omega)) (ho56.row (bytes := 96) (by decide) (by unfold Big; omega))) ?_)⟩
      rintro _ w7 ⟨rfl, k7⟩
      exact ⟨_, rfl, PIf.tt (by simp) (fin22 hw (h6.gr.then k7))⟩
end Go.Proofs.YtpbpjojdfcdbbaaGreatDoor

/- SeglogPieces: the walk -/
namespace Go.Proofs.YtpbpjojdfcdbbaaGreatDoor
open Go.Lift
set_option linter.unusedVariables false
set_option maxRecDepth 20000

/-- a slice of events, as a thing -/
def cEvs : Cod (List EventV) where
  k := 1
  rep := fun w D l cs => ∃ a n c, cs = [.slice a n c] ∧ Row cEv 96 w D a n l
  keep := fun ⟨a, n, c, h1, h2⟩ hk hd => ⟨a, n, c, h1, h2.keep hk hd⟩
  mono := fun ⟨a, n, c, h1, h2⟩ hd => ⟨a, n, c, h1, h2.mono hd⟩
  len := fun ⟨a, n, c, h1, _⟩ => by rw [h1]; rfl
  one := fun ⟨a, n, c, h1, _⟩ u hu => by rw [h1] at hu; simp at hu; subst hu; rfl
theorem slEvs : SlT Tryz.prog 43 22 1 24 := ⟨by kernel_rfl, by kernel_rfl, by decide⟩
theorem evs_at {w : World} {D : Nat → Prop} {a : Option Addr} {n bytes : Nat} {L : List (List EventV)} (h : Row cEvs bytes w D a n L) {i : Nat} (hi : i < n) :
    ∃ b off x a1 n1 c1, a = some ⟨b, off, none⟩ ∧ L[i]? = some x ∧ w.cell? ⟨b, off + i, none⟩ = some (.slice a1 n1 c1) ∧ Row cEv 96 w D a1 n1 x := by
  obtain ⟨b, off, x, es, ha, _, _, hx, hc, a1, n1, c1, rfl, hr⟩ := h.atN hi
  exact ⟨b, off, x, a1, n1, c1, ha, hx, by have := hc 0 Nat.one_pos; simpa [cEvs] using this, hr⟩

theorem Well.sync {V : LogV} {D : DiskV} {A : Segs} {no : Int} {l : List EventV} {k : Nat} (h : Well V D A no l k) : (D.sync V.last).1 = 0 ∧ Held (D.sync V.last).2 A no l l.length := by
  rw [Held.lastNm h.v]
  obtain ⟨s, g1, _⟩ := h.held.last
  have h0 := (h.alive.sync (segNm no)).2 _ g1
  rcases held_sync h.held with ⟨h1, h2⟩ | ⟨h1, -⟩
  · exact ⟨h1, h2⟩
  · exact absurd h0 h1

theorem begin2_size (a b : Int) (S : List Int) (m n : Int) (D : DiskV) : (begin2 ⟨a, S, m, n⟩ D).1 = (begin2 ⟨b, S, m, n⟩ D).1 := by
  simp only [begin2, begin3, apply_ite Prod.fst]
theorem open_big (sz : Int) : (logOpen (newD 262144) sz).no = 0 := by
  rw [open_new_eq]
  show (begin2 ⟨sz, [], 0, 1⟩ (newD 262144)).1 = 0
  rw [begin2_size sz 0]
  decide +kernel

theorem SeglogPieces {size cut : Int} {la : Option Addr} {ln lc : Nat} {l : List EventV} {w : World} {Dl : Nat → Prop} (hs : I64 size) (ha : Row cEv 96 w Dl la ln l) (hDl : ∀ b, Dl b → b < w.heap.size) (hlc : ln ≤ lc) (hcut : I64 cut) (hw : Laid w) :
    Calls Tryz.prog F_law22_SeglogPieces #[.int .i64 size, .slice la ln lc, .int .i64 cut] w (Ok fun v w' => v = .bool true ∧ Grew w w') := by
  have ha0 := ha.len
  refine L_law22_SeglogPieces (PC.ok (law10_Long ha) ?_)
  rintro _ _ ⟨rfl, rfl⟩
  refine ⟨_, rfl, PIf.dec (fun h => fin22 hw (Keep.refl _)) (fun hlong => PC.ok (kit_Pick (by unfold I64; omega)) ?_)⟩
  have hl200 : l.length ≤ 200 := by omega
  rintro _ _ ⟨rfl, rfl⟩
  refine ⟨_, rfl, ?_⟩
  generalize IntKind.wrap .i64 (1000 + pick size 9000) = sz
  rw [show IntKind.wrap .i64 ((ln : Int) + 1) = ((ln + 1 : Nat) : Int) from wrap_succ (by omega)]
  refine PC.ok (kit_Pick (by unfold I64; omega)) ?_
  rintro _ _ ⟨rfl, rfl⟩
  have hpc := pick_range (k := cut) (n := ((ln + 1 : Nat) : Int)) (by omega)
  generalize pick cut ((ln + 1 : Nat) : Int) = ct at hpc
  obtain ⟨t, rfl⟩ := Int.eq_ofNat_of_zero_le hpc.1
  refine ⟨_, rfl, fun m fa fn fc k w' => ∃ (j : Nat) (F : Nat → Prop), k = j ∧ j ≤ 3 ∧ m = 3 - j ∧ Lst cEvs 22 F w' fa fn fc (List.replicate j l) ∧ (∀ b, F b → w.heap.size ≤ b) ∧ Grew w w',
    ⟨_, 0, fun _ => False, rfl, by omega, rfl, Lst.nil w, (fun _ h => h.elim), Keep.refl _⟩, ?_⟩
  rintro m fa fn fc k _ w1 ⟨j, F, rfl, hj, rfl, ho1, hF1, k01⟩
  have hfn := ho1.len (by decide)
  rw [List.length_replicate] at hfn
  refine PIf.dec (fun hlt => ?_) (fun hge => ?_)
  · have hw1 := hw.grew k01
    have ha1 := ha.grew k01
    refine PC.ok (new_ok (Keep.refl w1) (by omega) (by omega)) ?_
    rintro _ w2 ⟨p, rfl, h2, k12⟩
    rw [show Int.toNat 262144 = 262144 from rfl] at h2
    refine ⟨_, _, rfl, PIf.ff rfl (eq_nil_ptr uD ⟨_, rfl, PIf.ff rfl (PC.ok (log_Open (size := sz) hw1 h2) ?_)⟩)⟩
    rintro _ w3 (⟨hne, -⟩ | ⟨h0, q, a3, n3, c3, G3, rfl, -, h3, -, -, -, -⟩)
    · exact absurd (open_big sz) hne
    obtain ⟨hwell, hout⟩ := well_new h0
    generalize logOpen (newD 262144) sz = r0 at h3 hwell
    replace h3 := h3.mono (Y := fun b => b < w1.heap.size) fun b hb => .inl hb
    have hst : ∀ b, Dl b → b < w.heap.size := hDl
    have hx : ∀ e ∈ l, e.Ok := row_evOk ha
    have gl : ∀ {w' : World} {V : LogV} {D : DiskV}, NLog w1 w' p q V D (fun b => b < w1.heap.size) → ∀ b, Dl b → b < w'.heap.size := fun hN b hb => by have := hDl b hb; have := hN.gr.size; have := k01.size; omega
    refine ⟨_, _, _, _, _, rfl, PIf.ff rfl (eq_nil_ptr uL ⟨_, rfl, PIf.ff rfl ⟨fun e w' => ∃ V D A no l' k', Well V D A no l' k' ∧ NLog w1 w' p q V D (fun b => b < w1.heap.size) ∧ (e = 0 ∨ e = 3 ∨ e = 12) ∧ (e = 0 → evsOf A l' = l), ?_, ?_⟩⟩)⟩
    · refine PIf.eqI (fun _ => ?_) (fun _ => PIf.eqI (fun _ => ?_) (fun _ => PIf.eqI (fun _ => ?_) (fun _ => ?_)))
      · refine PC.ok (log_Append hw1 h3 (by rw [hwell.v.segs]; simp) (ha1.grew h3.gr) (gl h3) (by omega)) ?_
        rintro _ w4 ⟨rfl, h4, -⟩
        obtain ⟨hcode, -, A', no', l', k', hwl', -, hev⟩ := hwell.append (x := l) hx (by omega) h3.ok
        exact ⟨_, rfl, _, _, A', no', l', k', hwl', h4, hcode, fun e0 => by rw [hev, if_pos e0]; simp [evsOf]⟩
      · refine ⟨fun k e i w' => ∃ (u : Nat) (V : LogV) (D : DiskV) (A : Segs) (no : Int) (l' : List EventV) (k' : Nat), i = u ∧ u ≤ ln ∧ k = ln - u ∧ Well V D A no l' k' ∧ NLog w1 w' p q V D (fun b => b < w1.heap.size) ∧ (e = 0 ∨ e = 3 ∨ e = 12) ∧ (e = 0 → evsOf A l' = l.take u),
          ⟨_, 0, r0.V, r0.D, [], 1, [], 0, rfl, Nat.zero_le _, rfl, hwell, h3, .inl rfl, fun _ => by simp [evsOf]⟩, ?_⟩
        rintro k e i _ w4 ⟨u, V, D, A, no, l', k', rfl, hu, rfl, hwl, h4, hcode, hev⟩
        refine PIf.dec (fun hlt2 => PIf.eqI (fun he => ?_) (fun hne => ⟨V, D, A, no, l', k', hwl, h4, hcode, fun e0 => absurd e0 hne⟩)) (fun hge2 => ⟨V, D, A, no, l', k', hwl, h4, hcode, fun e0 => by rw [hev e0, List.take_of_length_le (by omega)]⟩)
        rw [show IntKind.wrap .i64 ((u : Int) + 1) = ((u + 1 : Nat) : Int) from wrap_succ (by omega)]
        refine ⟨by omega, by omega, by omega, ?_⟩
        rw [Int.toNat_natCast, Int.toNat_natCast]
        have hpart := (ha1.grew h4.gr).part (lo := u) (hi := u + 1) (cap := lc) (by omega) (by omega) hlc
        have hsub : ∀ e ∈ (l.take (u + 1)).drop u, e.Ok := fun e he => hx e (List.mem_of_mem_take (List.mem_of_mem_drop he))
        have hsl : ((l.take (u + 1)).drop u).length ≤ 1000 := by simp; omega
        refine PC.ok (log_Append hw1 h4 (by rw [hwl.v.segs]; simp) hpart (gl h4) hsl) ?_
        rintro _ w5 ⟨rfl, h5, -⟩
        obtain ⟨hcode', -, A', no', l'', k'', hwl', -, hev'⟩ := hwl.append hsub hsl h4.ok
        refine ⟨_, rfl, ln - (u + 1), by omega, u + 1, _, _, A', no', l'', k'', rfl, by omega, rfl, hwl', h5, hcode', fun e0 => ?_⟩
        rw [hev', if_pos e0, hev he]
        have := List.take_append_drop u (l.take (u + 1))
        rw [List.take_take, Nat.min_eq_left (by omega)] at this
        exact this
      · refine ⟨by omega, by omega, ?_⟩
        rw [Int.toNat_natCast]
        refine PC.ok (log_Append hw1 h3 (by rw [hwell.v.segs]; simp) ((ha1.grew h3.gr).take (m := t) (by omega)) (gl h3) (by simp; omega)) ?_
        rintro _ w4 ⟨rfl, h4, -⟩
        obtain ⟨hcode, -, A', no', l', k', hwl', -, hev⟩ := hwell.append (x := l.take t) (fun e he => hx e (List.mem_of_mem_take he)) (by simp; omega) h3.ok
        refine ⟨_, rfl, PIf.eqI (fun e0 => ?_) (fun hne => ⟨_, _, A', no', l', k', hwl', h4, hcode, fun e0 => absurd e0 hne⟩)⟩
        refine ⟨by omega, by omega, ?_⟩
        have hpart := (ha1.grew h4.gr).part (lo := t) (hi := ln) (cap := lc) (by omega) (by omega) hlc
        rw [show l.take ln = l from List.take_of_length_le (by omega)] at hpart
        refine PC.ok (log_Append hw1 h4 (by rw [hwl'.v.segs]; simp) hpart (gl h4) (by simp; omega)) ?_
        rintro _ w5 ⟨rfl, h5, -⟩
        obtain ⟨hcode', -, A'', no'', l'', k'', hwl'', -, hev'⟩ := hwl'.append (x := l.drop t) (fun e he => hx e (List.mem_of_mem_drop he)) (by simp; omega) h4.ok
        refine ⟨_, rfl, _, _, A'', no'', l'', k'', hwl'', h5, hcode', fun e1 => ?_⟩
        rw [hev', if_pos e1, hev, if_pos e0]
        show [] ++ l.take t ++ l.drop t = l
        rw [List.nil_append, List.take_append_drop]
      · omega
    · rintro e _ w4 ⟨V, D, A, no, l', k', hwl, h4, hcode, hev⟩
      refine PIf.eqI (fun _ => fin22 hw (k01.then h4.gr)) (fun h3' => PIf.eqI (fun _ => fin22 hw (k01.then h4.gr)) (fun h12 => PIf.neI (fun hne => ?_) (fun e0 => ?_)))
      · omega
      replace hev := hev e0
      obtain ⟨y1, y2⟩ := hwl.sync
      refine PC.ok (log_Sync hw1 h4 (by rw [hwl.v.segs]; simp)) ?_
      rintro _ w5 ⟨rfl, h5, k5⟩
      rw [y1]
      refine ⟨_, rfl, PIf.ff rfl (PC.ok (h5.disk.crash (keep := 0) (by unfold I64; omega)) ?_)⟩
      rintro _ w6 ⟨rfl, h6, k6⟩
      refine ⟨rfl, PC.ok (log_Open (size := sz) hw1 h6) ?_⟩
      obtain ⟨z, z1, z2, z3, z4, -⟩ := open_crash (size := sz) (keep := 0) y2
      obtain rfl : z = l'.length := by omega
      rw [List.take_length, hev] at z4
      rintro _ w7 (⟨hne, -⟩ | ⟨-, q7, a7, n7, c7, G7, rfl, ho7, h7, k7, hG7, -, -⟩)
      · exact absurd z3 hne
      rw [z4] at ho7
      have ko : ∀ b, F b → b < w1.heap.size := ho1.dom
      have hof := ho1.grew h7.gr
      have hr7 : Row cEv 96 w7 G7 a7 n7 l := lst_evs ho7 (by omega)
      refine ⟨_, _, _, _, _, rfl, PIf.ff rfl (papp hof slEvs (x := l) (D := G7) ⟨a7, n7, c7, rfl, hr7⟩ (fun b hb => ⟨ho7.dom b hb, fun hc => ?_⟩) (by simp; unfold Big; omega) (by simp; unfold maxLen; omega) fun a8 c8 w8 F8 ho8 hk8 hF8 _ => ?_)⟩
      · have h1 := ko b (ho1.self b hc); have h2 := hG7 b hb; have := h6.gr.size; omega
      refine ⟨_, _, _, rfl, 3 - (j + 1), by omega, j + 1, F8, wrap_succ (by omega), by omega, rfl, ?_, fun b hb => ?_, (k01.then h7.gr).new hk8 fun b hb => .inr (hF1 b (ho1.self b hb))⟩
      · rw [show List.replicate (j + 1) l = List.replicate j l ++ [l] from List.replicate_succ']
        exact ho8
      · have := h6.gr.size; have := h7.gr.size; have := k01.size
        rcases hF8 b hb with h' | h' | h'
        · exact hF1 b h'
        · have := hG7 b h'; omega
        · omega
  · obtain rfl : j = 3 := by omega
    have hr1 : Row cEvs 24 w1 F fa fn (List.replicate 3 l) := ho1.row (by decide) (by unfold Big; simp)
    obtain ⟨b0, off0, x0, a0, n0, c0, rfl, hx0, hc0, hr0⟩ := evs_at hr1 (i := 0) (by omega)
    obtain rfl : l = x0 := by simpa using hx0
    refine ⟨b0, off0, rfl, by omega, by omega, _, _, _, hc0, PC.ok (kit_SameEvents hr0 (ha.grew k01)) ?_⟩
    rintro _ w2 ⟨rfl, k2⟩
    refine ⟨_, rfl, PIf.tt (by simp) ?_⟩
    obtain ⟨b1, off1, x1, a1, n1, c1, he1, hx1, hc1, hr1'⟩ := evs_at (hr1.grew k2) (i := 1) (by omega)
    obtain rfl : l = x1 := by simpa using hx1
    refine ⟨b1, off1, he1, by omega, by omega, _, _, _, hc1, PC.ok (kit_SameEvents hr1' (ha.grew (k01.then k2))) ?_⟩
    rintro _ w3 ⟨rfl, k3⟩
    refine ⟨_, rfl, PIf.tt (by simp) ?_⟩
    obtain ⟨b2, off2, x2, a2, n2, c2, he2, hx2, hc2, hr2'⟩ := evs_at (hr1.grew (k2.then k3)) (i := 2) (by omega)
    obtain rfl : l = x2 := by simpa using hx2
    refine ⟨b2, off2, he2, by omega, by omega, _, _, _, hc2, PC.ok (kit_SameEvents hr2' (ha.grew ((k01.then k2).then k3))) ?_⟩
    rintro _ w4 ⟨rfl, k4⟩
    exact ⟨_, rfl, PIf.tt (by simp) (fin22 hw (((k01.then k2).then k3).then k4))⟩
end Go.Proofs.YtpbpjojdfcdbbaaGreatDoor
