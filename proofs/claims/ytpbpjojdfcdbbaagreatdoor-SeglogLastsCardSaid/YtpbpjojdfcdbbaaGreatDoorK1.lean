/- Log, LogBegin, LogLoad, LogOpen, LogApp, DEff, LogPlain, LogPlain2, LogPlain3, SegWorks, L22, Works22, SlRefuses, SlPieces, SlSegments -/
import Derived.Test.YtpbpjojdfcdbbaaGreatDoorMfAgain
import Derived.Test.YtpbpjojdfcdbbaaGreatDoorSegCon
import Derived.Test.YtpbpjojdfcdbbaaGreatDoorMf
import Derived.Test.YtpbpjojdfcdbbaaGreatDoorDOk
import Derived.Test.YtpbpjojdfcdbbaaGreatDoorOneD
import Derived.Test.YtpbpjojdfcdbbaaGreatDoorPick
/- seglog: how a log lies; its name, its next number, its beginning of a segment -/
namespace Go.Proofs.YtpbpjojdfcdbbaaGreatDoor
open Go.Lift
set_option linter.unusedVariables false
set_option maxRecDepth 20000

theorem slices_Clone_I {a : Option Addr} {n c : Nat} {xs : List Int} {w : World} {D : Nat → Prop} (h : Row cI64 8 w D a n xs) (hD : ∀ b, D b → b < w.heap.size) :
    Calls Tryz.prog 58 #[.slice a n c] w (Ok (New cI64 3 w xs)) := by
  have hl := h.len; have hb := h.big
  refine L_slices_Clone_int_int (eq_nil_slice slI64.under ⟨_, rfl, PIf.mk (fun h1 => ?_) (fun h1 => PA.mk fun w1 hk1 hs1 hg1 => ?_)⟩)
  · have : xs = [] := by
      cases a with
      | none =>
        cases xs with
        | nil => rfl
        | cons x r => obtain ⟨b, off, es, ha, _⟩ := h.el 0 x rfl; cases ha
      | some p => cases h1
    subst this
    exact Ok.mk ⟨none, 0, 0, fun _ => False, rfl, Lst.nil w, Keep.refl _, fun _ h => h.elim⟩
  · cases a with
    | none => cases h1
    | some p =>
      have ho : Lst cI64 3 (· = w.heap.size) w1 (some ⟨w.heap.size, 0, none⟩) 0 0 [] :=
        ⟨⟨[], fun _ => False, Own.of_new (cur := #[]) hg1 rfl (Nat.zero_le _), rfl, fun _ h => h.elim⟩, fun b hb => by simpa [blk] using hb.symm, fun b hb => by omega⟩
      refine appRow ho slI64 (D := D) (h.grew hk1) (fun b hb => ⟨by have := hD b hb; omega, by have := hD b hb; simp only [blk]; intro e; cases e; omega⟩) (by simp; omega) (by unfold Big at hb; unfold maxLen; simp; omega) fun a' c' w2 F' ho2 hk2 _ hs2 => ?_
      refine ⟨_, _, _, rfl, Ok.mk ⟨a', _, c', fun b => blk a' = some b, rfl, by have h := ho2.alone; rw [List.nil_append] at h; exact h, hk1.new hk2 fun b hb => .inr ?_, fun b hb => ?_⟩⟩
      · simp only [blk, Option.some.injEq] at hb; omega
      · rcases hs2 b hb with h | h <;> omega

def nextStep (n : Int) (s : ByteArray) : Int := if (segNoV s).2 then max n ((segNoV s).1 + 1) else n
def nextL (l : List ByteArray) : Int := l.foldl nextStep 1
def nextV (D : DiskV) : Int := nextL D.list
theorem segNoV_lt (s : ByteArray) : 0 ≤ (segNoV s).1 ∧ (segNoV s).1 < 1000000000000 := by
  unfold segNoV
  split
  · rename_i k hk
    have := (segNo_some hk).2
    simp; omega
  · simp
theorem nextStep_rng {n : Int} (h : 1 ≤ n ∧ n ≤ 1000000000000) (s : ByteArray) : 1 ≤ nextStep n s ∧ nextStep n s ≤ 1000000000000 := by
  have := segNoV_lt s
  unfold nextStep
  split <;> omega
theorem fold_rng : ∀ (l : List ByteArray) (n : Int), (1 ≤ n ∧ n ≤ 1000000000000) → 1 ≤ l.foldl nextStep n ∧ l.foldl nextStep n ≤ 1000000000000
  | [], n, h => h
  | s :: l, n, h => fold_rng l _ (nextStep_rng h s)
theorem nextL_rng (l : List ByteArray) : 1 ≤ nextL l ∧ nextL l ≤ 1000000000000 := fold_rng l 1 (by omega)

theorem seglog_next {w : World} {p : Nat} {F : Nat → Prop} {D : DiskV} (hw : Laid w) (hD : DiskAt w p F D) :
    Calls Tryz.prog F_seglog_next #[.pointer (some ⟨p, 0, none⟩)] w (Ok fun v w' => v = .int .i64 (nextV D) ∧ Grew w w') := by
  refine L_seglog_next (PC.ok (Disk_List hD) ?_)
  rintro _ w1 ⟨a, n, c, G, rfl, ho, k1, hG⟩
  have hl : D.list.length ≤ 64 := by rw [list_length']; exact hD.ok.many
  have hn := ho.len (by decide)
  have hr : Row cStr 16 w1 G a n D.list := ho.row (by decide) (by unfold Big; omega)
  refine ⟨_, _, _, rfl, fun m x t w' => ∃ j : Nat, t = j ∧ j ≤ n ∧ m = n - j ∧ x = nextL (D.list.take j) ∧ Grew w1 w', ⟨_, 0, rfl, Nat.zero_le _, rfl, rfl, Keep.refl _⟩, ?_⟩
  rintro m x t _ w2 ⟨j, rfl, hj, rfl, rfl, k2⟩
  refine PIf.dec (fun hlt => ?_) (fun hge => ?_)
  · obtain ⟨b, off, s, rfl, hx, _, hc⟩ := (hr.grew k2).at1 (i := j) (by omega)
    refine ⟨b, off, rfl, by omega, by omega, _, hc, PC.ok (seg_Number (hw.grew (k1.then k2))) ?_⟩
    rintro _ w3 ⟨rfl, k3⟩
    have h1 := segNoV_lt s
    have h2 := nextL_rng (D.list.take j)
    have e : nextL (D.list.take (j + 1)) = nextStep (nextL (D.list.take j)) s := by
      unfold nextL
      rw [List.take_add_one, hx, List.foldl_append]; rfl
    refine ⟨_, _, rfl, PIf.mk (fun hb => ⟨_, ?_, j + 1, wrap_succ (by omega), by omega, rfl, ?_, k2.then k3⟩) (fun hb => ⟨_, ?_, j + 1, wrap_succ (by omega), by omega, rfl, ?_, k2.then k3⟩)⟩
    · omega
    · rw [e, wrap_i64 (by unfold I64; omega)]
      unfold nextStep
      rw [if_pos hb]; split <;> omega
    · omega
    · rw [e]; unfold nextStep; rw [if_neg (by simp [hb])]
  · obtain rfl : j = n := by omega
    rw [List.take_of_length_le (by omega)]
    exact Ok.mk ⟨rfl, k1.then k2⟩

structure LogV where
  size : Int
  segs : List Int
  bytes : Int
  next : Int

/-- block q is a log on the disk at p; its blocks: G -/
structure LogAt (w : World) (p q : Nat) (G : Nat → Prop) (V : LogV) : Prop where
  body : ∃ a n c E, w.heap[q]? = some (.cells #[.pointer (some ⟨p, 0, none⟩), .int .i64 V.size, .slice a n c, .int .i64 V.bytes, .int .i64 V.next] 83 (0, 0)) ∧ Lst cI64 3 E w a n c V.segs ∧ ∀ b, E b → G b ∧ b ≠ q
  self : G q
  dom : ∀ b, G b → b < w.heap.size
  many : V.segs.length ≤ 64
  nextR : I64 V.next

section
variable {w0 w w1 w' : World} {p q : Nat} {D D' : DiskV} {V V' : LogV} {X Y G S : Nat → Prop}
theorem LogAt.keep (h : LogAt w p q G V) (hk : Keep S w w') (hd : ∀ b, G b → ¬ S b) : LogAt w' p q G V := by
  obtain ⟨a, n, c, E, g, ho, hE⟩ := h.body
  exact ⟨⟨a, n, c, E, hk.get g (hd q h.self), ho.keep hk fun b hb => hd b (hE b hb).1, hE⟩, h.self, fun b hb => Nat.lt_of_lt_of_le (h.dom b hb) hk.size, h.many, h.nextR⟩
theorem LogAt.grew (h : LogAt w p q G V) (hk : Grew w w') : LogAt w' p q G V := h.keep hk fun _ _ h => h

/-- a log made behind w0, apart from blocks X, on a disk apart from both -/
def NLog (w0 w : World) (p q : Nat) (V : LogV) (D : DiskV) (X : Nat → Prop) : Prop := ∃ G, NDisk w0 w p D (fun b => X b ∨ G b) ∧ LogAt w p q G V ∧ ∀ b, G b → w0.heap.size ≤ b ∧ ¬ X b

theorem NLog.gr (h : NLog w0 w p q V D X) : Grew w0 w := by obtain ⟨G, h1, h2, h3⟩ := h; exact h1.gr
theorem NLog.ok (h : NLog w0 w p q V D X) : D.Ok := by obtain ⟨G, h1, h2, h3⟩ := h; exact h1.ok
theorem NLog.many (h : NLog w0 w p q V D X) : V.segs.length ≤ 64 := by obtain ⟨G, h1, h2, h3⟩ := h; exact h2.many
theorem NLog.nextR (h : NLog w0 w p q V D X) : I64 V.next := by obtain ⟨G, h1, h2, h3⟩ := h; exact h2.nextR
theorem NLog.dom (h : NLog w0 w p q V D X) : ∀ b, X b → b < w.heap.size := by obtain ⟨G, ⟨F, h1, h2, h3, h4⟩, h5, h6⟩ := h; exact fun b hb => h4 b (.inl hb)
theorem NLog.q_lt (h : NLog w0 w p q V D X) : q < w.heap.size ∧ w0.heap.size ≤ q ∧ ¬ X q := by obtain ⟨G, h1, h2, h3⟩ := h; exact ⟨h2.dom q h2.self, h3 q h2.self⟩
theorem NLog.disk (h : NLog w0 w p q V D X) : NDisk w0 w p D X := by obtain ⟨G, h1, h2, h3⟩ := h; exact h1.mono fun b hb => .inl hb
theorem NLog.grew (h : NLog w0 w p q V D X) (hk : Grew w w') : NLog w0 w' p q V D X := by
  obtain ⟨G, h1, h2, h3⟩ := h; exact ⟨G, h1.grew hk, h2.grew hk, h3⟩
theorem NLog.mono (h : NLog w0 w p q V D X) (hx : ∀ b, Y b → X b) : NLog w0 w p q V D Y := by
  obtain ⟨G, h1, h2, h3⟩ := h; exact ⟨G, h1.mono fun b hb => hb.imp (hx b) id, h2, fun b hb => ⟨(h3 b hb).1, fun hy => (h3 b hb).2 (hx b hy)⟩⟩
theorem NLog.add (h : NLog w0 w p q V D X) (hk : Grew w w') (hY : ∀ b, Y b → w.heap.size ≤ b ∧ b < w'.heap.size) : NLog w0 w' p q V D (fun b => X b ∨ Y b) := by
  obtain ⟨G, h1, h2, h3⟩ := h
  refine ⟨G, (h1.add hk hY).mono fun b hb => ?_, h2.grew hk, fun b hb => ⟨(h3 b hb).1, fun hx => hx.elim (h3 b hb).2 fun hy => by have := h2.dom b hb; have := (hY b hy).1; omega⟩⟩
  rcases hb with (hb | hb) | hb
  · exact .inl (.inl hb)
  · exact .inr hb
  · exact .inl (.inr hb)
/-- what others do, in blocks of X -/
theorem NLog.other (h : NLog w0 w p q V D X) (hk : Keep Y w w') (hY : ∀ b, Y b → X b ∧ w0.heap.size ≤ b) : NLog w0 w' p q V D X := by
  obtain ⟨G, ⟨F, h1, h2, h3, h4⟩, h5, h6⟩ := h
  exact ⟨G, ⟨F, h1.keep hk fun b hb hy => (h3 b hb).2 (.inl (hY b hy).1), h2.new hk fun b hb => .inr (hY b hb).2, h3, fun b hb => Nat.lt_of_lt_of_le (h4 b hb) hk.size⟩, h5.keep hk fun b hb hy => (h6 b hb).2 (hY b hy).1, h6⟩

/-- a call on the disk alone -/
theorem NLog.on {g : FuncId} {args : Array Value} {r : Int × DiskV} (h : NLog w0 w p q V D X)
    (hc : ∀ Z, (∀ b, X b → Z b) → NDisk w0 w p D Z → Calls Tryz.prog g args w (Ok (Does2 w0 w p Z r))) : Calls Tryz.prog g args w (Ok fun v w' => v = .int .i64 r.1 ∧ NLog w0 w' p q V r.2 X ∧ Keep (Not' X) w w') := by
  obtain ⟨G, h1, h2, h3⟩ := h
  refine Calls.ok (hc _ (fun b hb => .inl hb) h1) ?_
  rintro v w' ⟨hv, hD, hk⟩
  exact ⟨hv, ⟨G, hD, h2.keep hk fun b hb hn => hn (.inr hb), h3⟩, hk.mono fun b _ hb hx => hb (.inl hx)⟩

def LogV.last (V : LogV) : ByteArray := txt (segName (V.segs.getLast?.getD 0))

theorem LogAt.row (h : LogAt w p q G V) : ∃ a n c E, w.heap[q]? = some (.cells #[.pointer (some ⟨p, 0, none⟩), .int .i64 V.size, .slice a n c, .int .i64 V.bytes, .int .i64 V.next] 83 (0, 0)) ∧ Row cI64 8 w E a n V.segs ∧ (∀ b, E b → G b ∧ b ≠ q) ∧ n = V.segs.length := by
  obtain ⟨a, n, c, E, g, ho, hE⟩ := h.body
  have := h.many
  exact ⟨a, n, c, E, g, ho.row (by decide) (by unfold Big; omega), hE, ho.len (by decide)⟩

theorem log_name (hw : Laid w) (h : LogAt w p q G V) (hne : V.segs ≠ []) : Calls Tryz.prog F_seglog_Log_name #[.pointer (some ⟨q, 0, none⟩)] w (Ok fun v w' => v = .string V.last ∧ Grew w w') := by
  obtain ⟨a, n, c, E, g, hr, hE, hn⟩ := h.row
  have hpos : 0 < V.segs.length := List.length_pos_iff.2 hne
  have hm := h.many
  refine L_seglog_Log_name fun w1 d1 => ?_
  have k1 : Grew w w1 := d1.keep
  have g1 := k1.get g id
  have hi : IntKind.wrap .i64 ((n : Int) - 1) = ((n - 1 : Nat) : Int) := by rw [wrap_i64 (by unfold I64; omega)]; omega
  obtain ⟨b, off, x, rfl, hx, hxr, hc⟩ := (hr.grew k1).at1 (i := n - 1) (by omega)
  refine ⟨q, 0, rfl, _, _, _, cell_at g1 rfl, q, 0, rfl, _, _, _, cell_at g1 rfl, b, off, rfl, ?_⟩
  rw [hi]
  refine ⟨by omega, by omega, x, hc, PC.ok (seg_Name (hw.grew k1) hxr) ?_⟩
  rintro _ w2 ⟨rfl, k2⟩
  refine ⟨_, rfl, Ok.mk ⟨?_, k1.then k2⟩⟩
  unfold LogV.last
  rw [List.getLast?_eq_getElem?, ← hn, hx]; rfl

theorem log_Sync (hL : Laid w0) (h : NLog w0 w p q V D X) (hne : V.segs ≠ []) : Calls Tryz.prog F_seglog_Log_Sync #[.pointer (some ⟨q, 0, none⟩)] w (Ok fun v w' => v = .int .i64 (D.sync V.last).1 ∧ NLog w0 w' p q V (D.sync V.last).2 X ∧ Keep (Not' X) w w') := by
  refine L_seglog_Log_Sync fun w1 d1 => ?_
  have k1 : Grew w w1 := d1.keep
  have h1 := h.grew k1
  obtain ⟨G, hD, hl, hG⟩ := h1
  obtain ⟨a, n, c, E, g, hr, hE, hn⟩ := hl.row
  have hq := hG q hl.self
  have hq1 := hl.dom q hl.self
  refine ⟨fun b => b ≠ q ∧ ¬ X b, q, 0, rfl, fun hs => hs.1 rfl, _, cell_at g rfl, PC.ok (log_name (hL.grew (h.gr.then k1)) hl hne) ?_⟩
  rintro _ w2 ⟨rfl, k2⟩
  have hd2 := hl.grew k2
  have hD2 := hD.grew k2
  refine ⟨_, rfl, k2.keep, PC.ok hD2.sync ?_⟩
  rintro _ w3 ⟨rfl, hD3, k3⟩
  refine ⟨_, rfl, k3.mono fun b _ hb => ⟨fun e => hb (.inr (e ▸ hl.self)), fun hx => hb (.inl hx)⟩, Ok.mk ⟨rfl, ⟨G, hD3, hd2.keep k3 fun b hb hn => hn (.inr hb), hG⟩, ?_⟩⟩
  exact (Grew.keep (k1.then k2)).then (k3.mono fun b _ hb hx => hb (.inl hx))

theorem log_Segments (h : LogAt w p q G V) : Calls Tryz.prog F_seglog_Log_Segments #[.pointer (some ⟨q, 0, none⟩)] w (Ok (New cI64 3 w V.segs)) := by
  obtain ⟨a, n, c, E, g, hr, hE, hn⟩ := h.row
  refine L_seglog_Log_Segments ⟨q, 0, rfl, _, _, _, cell_at g rfl, PC.ok (slices_Clone_I hr fun b hb => h.dom b (hE b hb).1) ?_⟩
  rintro _ w1 ⟨a1, n1, c1, F1, rfl, ho, hk, hF⟩
  exact ⟨_, _, _, rfl, Ok.mk ⟨_, _, _, F1, rfl, ho, hk, hF⟩⟩
theorem log_Next (h : LogAt w p q G V) : Calls Tryz.prog F_seglog_Log_Next #[.pointer (some ⟨q, 0, none⟩)] w (Ok fun v w' => v = .int .i64 V.next ∧ w = w') := by
  obtain ⟨a, n, c, E, g, hr, hE, hn⟩ := h.row
  exact L_seglog_Log_Next ⟨q, 0, rfl, _, cell_at g rfl, Ok.mk ⟨rfl, rfl⟩⟩
end
end Go.Proofs.YtpbpjojdfcdbbaaGreatDoor

/- seglog: a segment begun -/
namespace Go.Proofs.YtpbpjojdfcdbbaaGreatDoor
open Go.Lift
set_option linter.unusedVariables false
set_option maxRecDepth 20000

/-- the new segment's file is there: it is synced, and the manifest written -/
def begin3 (V : LogV) (D : DiskV) : Int × LogV × DiskV :=
  let nm := txt (segName V.next)
  let s := D.sync nm
  if s.1 ≠ 0 then (s.1, V, (s.2.delete nm).2) else
  let m := mfWrite s.2 (V.segs ++ [V.next])
  if m.1 ≠ 0 then (m.1, V, (m.2.delete nm).2) else
  (0, ⟨V.size, V.segs ++ [V.next], 0, IntKind.wrap .i64 (V.next + 1)⟩, m.2)
def begin2 (V : LogV) (D : DiskV) : Int × LogV × DiskV :=
  let c := D.create (txt (segName V.next))
  if c.1 ≠ 0 then (c.1, V, c.2) else begin3 V c.2
def logBegin (V : LogV) (D : DiskV) : Int × LogV × DiskV :=
  if V.segs = [] then begin2 V D else
  let s := D.sync V.last
  if s.1 ≠ 0 then (s.1, V, s.2) else begin2 V s.2

/-- what a call on a log hands back -/
def Does3 (w0 w : World) (p q : Nat) (X : Nat → Prop) (r : Int × LogV × DiskV) (v : Value) (w' : World) : Prop := v = .int .i64 r.1 ∧ NLog w0 w' p q r.2.1 r.2.2 X ∧ Keep (Not' X) w w'

theorem i64_wrap (x : Int) : I64 (IntKind.wrap .i64 x) := by
  unfold I64 IntKind.wrap
  simp [IntKind.signed, IntKind.bits]
  omega
theorem mfWrite_long {D : DiskV} {l : List Int} (h : (mfWrite D l).1 = 0) : l.length ≤ 64 := by
  unfold mfWrite at h
  split at h
  · cases h
  · omega

theorem log_begin {w0 w : World} {p q : Nat} {V : LogV} {D : DiskV} {X : Nat → Prop} (hL : Laid w0) (h : NLog w0 w p q V D X) :
    Calls Tryz.prog F_seglog_Log_begin #[.pointer (some ⟨q, 0, none⟩)] w (Ok (Does3 w0 w p q X (logBegin V D))) := by
  have hXd := h.dom
  obtain ⟨hq1, hq2, hq3⟩ := h.q_lt
  have hg0 := h.gr.size
  have hnR := h.nextR
  have hmany := h.many
  refine L_seglog_Log_begin (PA.mk fun w1 k1 s1 g1 => PA.mk fun w2 k2 s2 g2 => ?_)
  have k02 : Grew w w2 := k1.then k2
  let Y : Nat → Prop := fun b => X b ∨ (b = w.heap.size ∨ b = w1.heap.size)
  have hY : NLog w0 w2 p q V D Y := h.add k02 fun b hb => by omega
  have gl2 := k2.get g1 id
  /- a state: the log and the disk, in front of the deferred call -/
  refine ⟨fun w' => ∃ D1, NLog w0 w' p q V D1 Y ∧ Keep (Not' X) w w' ∧ w2.heap.size ≤ w'.heap.size ∧ w'.heap[w.heap.size]? = some (.cells #[.pointer (some ⟨q, 0, none⟩)] 30 (0, 0)) ∧ w'.heap[w1.heap.size]? = some (.cells #[.int .i64 0] 26 (0, 0)) ∧ logBegin V D = begin2 V D1, ?_, ?_⟩
  · obtain ⟨G, hD, hl, hG⟩ := id hY
    obtain ⟨a, n, c, E, g, hr, hE, hn⟩ := hl.row
    refine ⟨_, cell_at gl2 rfl, q, 0, rfl, _, _, _, cell_at g rfl, PIf.dec (fun hpos => ?_) (fun hz => ?_)⟩
    · have hne : V.segs ≠ [] := fun e => by rw [e] at hn; simp at hn; omega
      refine ⟨_, cell_at gl2 rfl, PC.ok (log_Sync hL hY hne) ?_⟩
      rintro _ w3 ⟨rfl, hN3, k3⟩
      have kX : Keep (Not' X) w w3 := (Grew.keep k02).then (k3.mono fun b _ hb hx => hb (.inl hx))
      have gl3 := k3.get gl2 fun hn => hn (.inr (.inl rfl))
      have gn3 := k3.get g2 fun hn => hn (.inr (.inr rfl))
      have hB : logBegin V D = if (D.sync V.last).1 ≠ 0 then ((D.sync V.last).1, V, (D.sync V.last).2) else begin2 V (D.sync V.last).2 := by unfold logBegin; rw [if_neg hne]
      refine ⟨_, rfl, PIf.neI (fun hne2 => ?_) (fun h0 => ⟨_, hN3, kX, k3.size, gl3, gn3, by rw [hB, if_neg (by simpa using h0)]⟩)⟩
      refine PS.mk gn3 (by simp) fun w4 k4 s4 g4 => ⟨_, cell_at g4 rfl, Ok.mk ?_⟩
      rw [hB, if_pos hne2]
      exact ⟨rfl, (hN3.other k4 fun b hb => ⟨hb ▸ .inr (.inr rfl), by omega⟩).mono fun b hb => .inl hb, kX.then (k4.mono fun b _ hb hx => by have := hXd b hx; omega)⟩
    · have he : V.segs = [] := List.eq_nil_of_length_eq_zero (by omega)
      exact ⟨D, hY, Grew.keep k02, Nat.le_refl _, gl2, g2, by unfold logBegin; rw [if_pos he]⟩
  rintro _ w3 ⟨D1, hN3, kX3, hsz3, gl3, gn3, hB⟩
  rw [hB]
  obtain ⟨G3, hD3, hl3, hG3⟩ := id hN3
  obtain ⟨a3, n3, c3, E3, gq3, -, -, -⟩ := hl3.row
  refine ⟨_, cell_at gl3 rfl, q, 0, rfl, _, cell_at gq3 rfl, PC.ok (seg_Name (hL.grew hN3.gr) hnR) ?_⟩
  rintro _ w4 ⟨rfl, k4⟩
  refine ⟨_, rfl, PA.mk fun w5 k5 s5 g5 => PS.mk g5 (by simp) fun w6 k6 s6 g6 => ?_⟩
  let Z : Nat → Prop := fun b => Y b ∨ b = w4.heap.size
  have hN4 := hN3.grew k4
  have hg4 := hN4.gr.size
  have h24 := k4.size
  have hN6 : NLog w0 w6 p q V D1 Z := (hN4.add (Y := (· = w4.heap.size)) k5 fun b hb => by omega).other k6 fun b hb => ⟨.inr hb, by omega⟩
  have kX6 : Keep (Not' X) w w6 := ((kX3.grew k4).grew k5).then (k6.mono fun b _ hb hx => by have := hXd b hx; have := kX3.size; omega)
  have hzX : ∀ {b}, X b → Z b := fun hx => .inl (.inl hx)
  intro w7 d7
  have k7 : Grew w6 w7 := d7.keep
  have hN7 := hN6.grew k7
  have gn : w6.heap[w4.heap.size]? = some (.cells #[.string (txt (segName V.next))] 9 (0, 0)) := g6
  have gl6 := k6.get (k5.get (k4.get gl3 id) id) (by omega)
  have gno6 := k6.get (k5.get (k4.get gn3 id) id) (by omega)
  /- the three cells -/
  let C : World → Int → Prop := fun w' e => w'.heap[w.heap.size]? = some (.cells #[.pointer (some ⟨q, 0, none⟩)] 30 (0, 0)) ∧ w'.heap[w1.heap.size]? = some (.cells #[.int .i64 e] 26 (0, 0)) ∧ w'.heap[w4.heap.size]? = some (.cells #[.string (txt (segName V.next))] 9 (0, 0))
  have C6 : C w6 0 := ⟨gl6, gno6, gn⟩
  have keepC : ∀ {w' w'' : World} {e : Int} {S : Nat → Prop}, C w' e → Keep S w' w'' → (∀ b, S b → ¬ (b = w.heap.size ∨ b = w1.heap.size ∨ b = w4.heap.size)) → C w'' e := fun hC hk hS =>
    ⟨hk.get hC.1 fun hs => hS _ hs (.inl rfl), hk.get hC.2.1 fun hs => hS _ hs (.inr (.inl rfl)), hk.get hC.2.2 fun hs => hS _ hs (.inr (.inr rfl))⟩
  have keepZ : ∀ {w' w'' : World} {e : Int}, C w' e → Keep (Not' Z) w' w'' → C w'' e := fun hC hk => keepC hC hk fun b hb hc => hb (by
    rcases hc with rfl | rfl | rfl
    · exact .inl (.inr (.inl rfl))
    · exact .inl (.inr (.inr rfl))
    · exact .inr rfl)
  have toX : ∀ {w' w'' : World}, Keep (Not' X) w w' → Keep (Not' Z) w' w'' → Keep (Not' X) w w'' := fun a b => a.then (b.mono fun b _ hb hx => hb (hzX hx))
  have C7 : C w7 0 := keepC C6 k7 fun b hb => hb.elim
  obtain ⟨G7, hD7, hl7, hG7⟩ := id hN7
  obtain ⟨a7, n7, c7, E7, gq7, -, -, -⟩ := hl7.row
  refine ⟨_, cell_at C7.1 rfl, q, 0, rfl, _, cell_at gq7 rfl, _, cell_at C7.2.2 rfl, PC.ok (hN7.on (fun Z hZ hd => hd.create)) ?_⟩
  rintro _ w8 ⟨rfl, hN8, k8⟩
  have C8 := keepZ C7 k8
  have kX8 := toX (kX6.grew k7) k8
  have hB2 : begin2 V D1 = if (D1.create (txt (segName V.next))).1 ≠ 0 then ((D1.create (txt (segName V.next))).1, V, (D1.create (txt (segName V.next))).2) else begin3 V (D1.create (txt (segName V.next))).2 := rfl
  rw [hB2]
  generalize hcr : D1.create (txt (segName V.next)) = cr at hN8 ⊢
  obtain ⟨e8, D8⟩ := cr
  simp only at hN8 ⊢
  have hz1 : w1.heap.size < w2.heap.size := by omega
  have hXw : ∀ {w' : World} {r : Int × LogV × DiskV} {e : Int} {w'' : World}, NLog w0 w' p q r.2.1 r.2.2 Z → Keep (Not' X) w w' → Keep (· = w1.heap.size) w' w'' → e = r.1 → Does3 w0 w p q X r (.int .i64 e) w'' := by
    intro w' r e w'' hn hk hs he
    exact ⟨by rw [he], (hn.other hs fun b hb => ⟨hb ▸ .inl (.inr (.inr rfl)), by omega⟩).mono fun b hb => hzX hb, hk.then (hs.mono fun b _ hb hx => by have := hXd b hx; omega)⟩
  refine ⟨_, rfl, PIf.neI (fun hne => ?_) (fun h0 => ?_)⟩
  · refine PS.mk C8.2.1 (by simp) fun w9 k9 s9 g9 => ⟨_, cell_at g9 rfl, Ok.mk ?_⟩
    rw [if_pos hne]
    exact hXw hN8 kX8 k9 rfl
  rw [if_neg (by simpa using h0)]
  /- what leaves by an error: the file is deleted -/
  have leave : ∀ {r : Int × LogV × DiskV} (e : Int) (E : DiskV) (w' : World), NLog w0 w' p q V E Z → Keep (Not' X) w w' → C w' e → e ≠ 0 → r = (e, V, (E.delete (txt (segName V.next))).2) →
      Lv Tryz.prog (fun w49 => ∃ r50 : Int, w49.cell? ⟨w1.heap.size, 0, none⟩ = some (.int .i64 r50) ∧ Ok (Does3 w0 w p q X r) (.returned (.int .i64 r50)) w49) (fun ch w' => Ok (Does3 w0 w p q X r) (.panicked ch) w')
        ([{ target := .fn (.func 85) #[.pointer (some ⟨w1.heap.size, 0, none⟩), .pointer (some ⟨w.heap.size, 0, none⟩), .pointer (some ⟨w4.heap.size, 0, none⟩)], args := #[] }] : List Deferred) .returning w' := by
    intro r e E w' hn hk hC hne hr
    refine Lv.one (by simp) (by kernel_rfl) (CallsD.mono (LD_seglog_Log_begin_1 (R := fun e' w7 => e' = .returned (.tuple #[]) ∧ ∃ r37 : Int, w7.cell? ⟨w1.heap.size, 0, none⟩ = some (.int .i64 r37) ∧ Ok (Does3 w0 w p q X r) (.returned (.int .i64 r37)) w7) ⟨_, cell_at hC.2.1 rfl, PIf.neI (fun _ => ?_) (fun h0 => absurd h0 hne)⟩) ?_)
    · intro wa da
      have ka : Grew w' wa := da.keep
      have hna := hn.grew ka
      have hCa : C wa e := keepC hC ka fun b hb => hb.elim
      obtain ⟨Ga, hDa, hla, hGa⟩ := id hna
      obtain ⟨aa, na, ca, Ea, gqa, -, -, -⟩ := hla.row
      refine ⟨_, cell_at hCa.1 rfl, q, 0, rfl, _, cell_at gqa rfl, _, cell_at hCa.2.2 rfl, PC.ok (hna.on (fun Z hZ hd => hd.delete)) ?_⟩
      rintro _ wb ⟨rfl, hnb, kb⟩
      have hCb := keepZ hCa kb
      refine ⟨_, rfl, rfl, _, cell_at hCb.2.1 rfl, Ok.mk ?_⟩
      rw [hr]
      exact ⟨rfl, hnb.mono fun b hb => hzX hb, toX (hk.grew ka) kb⟩
    · rintro e' u' w7 ⟨rfl, rfl, hX⟩
      exact Lv.ret rfl hX
  intro w9 d9
  have k9 : Grew w8 w9 := d9.keep
  have hN9 := hN8.grew k9
  have C9 : C w9 0 := keepC C8 k9 fun b hb => hb.elim
  obtain ⟨G9, hD9, hl9, hG9⟩ := id hN9
  obtain ⟨a9, n9, c9, E9, gq9, -, -, -⟩ := hl9.row
  refine ⟨_, cell_at C9.1 rfl, q, 0, rfl, _, cell_at gq9 rfl, _, cell_at C9.2.2 rfl, PC.ok (hN9.on (fun Z hZ hd => hd.sync)) ?_⟩
  rintro _ w10 ⟨rfl, hN10, k10⟩
  have C10 := keepZ C9 k10
  have kX10 := toX (kX8.grew k9) k10
  have hB3 : begin3 V D8 = if (D8.sync (txt (segName V.next))).1 ≠ 0 then ((D8.sync (txt (segName V.next))).1, V, ((D8.sync (txt (segName V.next))).2.delete (txt (segName V.next))).2) else
      if (mfWrite (D8.sync (txt (segName V.next))).2 (V.segs ++ [V.next])).1 ≠ 0 then ((mfWrite (D8.sync (txt (segName V.next))).2 (V.segs ++ [V.next])).1, V, ((mfWrite (D8.sync (txt (segName V.next))).2 (V.segs ++ [V.next])).2.delete (txt (segName V.next))).2) else
      (0, ⟨V.size, V.segs ++ [V.next], 0, IntKind.wrap .i64 (V.next + 1)⟩, (mfWrite (D8.sync (txt (segName V.next))).2 (V.segs ++ [V.next])).2) := rfl
  rw [hB3]
  generalize hsy : D8.sync (txt (segName V.next)) = sy at hN10 ⊢
  obtain ⟨e10, D10⟩ := sy
  dsimp only at hN10
  refine ⟨_, rfl, PIf.neI (fun hne => ?_) (fun h0 => ?_)⟩
  · refine PS.mk C10.2.1 (by simp) fun w11 k11 s11 g11 => ?_
    rw [if_pos hne]
    exact leave _ D10 w11 (hN10.other k11 fun b hb => ⟨hb ▸ .inl (.inr (.inr rfl)), by omega⟩) (kX10.then (k11.mono fun b _ hb hx => by have := hXd b hx; omega)) ⟨k11.get C10.1 (by omega), g11, k11.get C10.2.2 (by have := kX3.size; omega)⟩ hne rfl
  rw [if_neg (by simpa using h0)]
  have hz10 : w4.heap.size < w10.heap.size := lt_of_get C10.2.2
  refine ⟨fun a n c w' => ∃ E, Lst cI64 3 E w' a n c (V.segs ++ [V.next]) ∧ (∀ b, E b → w10.heap.size ≤ b) ∧ Grew w10 w', ?_, ?_⟩
  · intro w11 d11
    have k11 : Grew w10 w11 := d11.keep
    have hN11 := hN10.grew k11
    have C11 : C w11 0 := keepC C10 k11 fun b hb => hb.elim
    obtain ⟨G11, hD11, hl11, hG11⟩ := id hN11
    obtain ⟨a11, n11, c11, E11, gq11, hr11, hE11, hn11⟩ := hl11.row
    have hq11 := hl11.dom q hl11.self
    have fin : ∀ {wa wb wc : World} {g : Nat} {a n c : _} {F : Nat → Prop}, Lst cI64 3 F wb a n c V.segs → (∀ b, F b → w11.heap.size ≤ b ∧ b ≠ g) → wb.heap[g]? = some (.cells #[.int .i64 V.next] 3 (0, 0)) → Grew w11 wb →
        ∀ κ ε, (∀ a' n' c' w', (∃ E, Lst cI64 3 E w' a' n' c' (V.segs ++ [V.next]) ∧ (∀ b, E b → w10.heap.size ≤ b) ∧ Grew w10 w') → Keep (fun b => w11.heap.size ≤ b) wb w' → κ (.slice a' n' c') w') →
        PRun Tryz.prog (Builtin.append_ #[37, 37] 37 #[.slice a n c, .slice (some ⟨g, 0, none⟩) 1 1]) wb κ ε := by
      intro wa wb wc g a n c F ho hF hg hk κ ε hκ
      refine appRow ho slI64 (D := (· = g)) (Row.lit hg [V.next] rfl (fun x hx => by simp at hx; subst hx; exact hnR) (by unfold Big; simp)) (fun b e => ⟨e ▸ lt_of_get hg, fun e2 => (hF b (ho.self b e2)).2 e⟩) (by unfold Big; simp; omega) (by unfold maxLen; simp; omega) fun a' c' w' F' ho' hk' _ hs' => ?_
      refine hκ a' _ c' w' ⟨fun b => blk a' = some b, ho'.alone, fun b hb => ?_, ?_⟩ (hk'.mono fun b _ hb => (hF b (ho.self b hb)).1)
      · have := k11.size; have := hk.size
        rcases hs' b hb with h | h
        · have := (hF b h).1; omega
        · omega
      · exact (k11.then hk).new hk' fun b hb => .inr (by have := (hF b (ho.self b hb)).1; have := k11.size; omega)
    have hzl : w.heap.size < w11.heap.size := lt_of_get C11.1
    refine ⟨fun b => w11.heap.size ≤ b, by omega, _, cell_at C11.1 rfl, q, 0, rfl, by omega, _, _, _, cell_at gq11 rfl, by omega, _, cell_at C11.1 rfl, q, 0, rfl, by omega, _, cell_at gq11 rfl, ?_, ?_⟩
    · refine PC.ok (slices_Clone_I hr11 fun b hb => hl11.dom b (hE11 b hb).1) ?_
      rintro _ w12 ⟨a12, n12, c12, F12, rfl, ho12, k12, hF12⟩
      refine ⟨_, _, _, rfl, k12.keep, PA.mk fun w13 k13 s13 g13 => ⟨k13.keep, fin (wa := w13) (wc := w13) (ho12.grew k13) (fun b hb => ⟨hF12 b hb, by have := ho12.dom b hb; omega⟩) g13 (k12.then k13) _ _ fun a' n' c' w' hJ hk => ⟨_, _, _, rfl, hk, trivial, hJ⟩⟩⟩
    · refine PA.mk fun w12 k12 s12 g12 => ⟨k12.keep, PC.ok (slices_Clone_I (hr11.grew k12) fun b hb => by have := hl11.dom b (hE11 b hb).1; have := k12.size; omega) ?_⟩
      rintro _ w13 ⟨a13, n13, c13, F13, rfl, ho13, k13, hF13⟩
      exact ⟨_, _, _, rfl, k13.keep, fin (wa := w13) (wc := w13) ho13 (fun b hb => ⟨by have := hF13 b hb; omega, by have := hF13 b hb; omega⟩) (k13.get g12 id) (k12.then k13) _ _ fun a' n' c' w' hJ hk => ⟨_, _, _, rfl, hk, trivial, hJ⟩⟩
  rintro a n c _ w11 ⟨E, ho, hE, k11⟩
  have hlen : (V.segs ++ [V.next]).length ≤ 65 := by simp; omega
  have hN11 : NLog w0 w11 p q V D10 (fun b => Z b ∨ E b) := hN10.add k11 fun b hb => ⟨hE b hb, ho.dom b hb⟩
  have C11 : C w11 0 := keepC C10 k11 fun b hb => hb.elim
  have hrow : Row cI64 8 w11 E a n (V.segs ++ [V.next]) := ho.row (by decide) (by unfold Big; omega)
  have hsegR : ∀ x ∈ V.segs ++ [V.next], I64 x := row_i64 hrow
  obtain ⟨G11, hD11, hl11, hG11⟩ := id hN11
  obtain ⟨a11, n11, c11, E11, gq11, -, -, -⟩ := hl11.row
  refine ⟨_, cell_at C11.1 rfl, q, 0, rfl, _, cell_at gq11 rfl, PC.ok (hN11.on fun Z' hZ' hd => hd.mfWrite hL.tabs hrow hsegR fun b hb => .inr (hZ' b (.inr hb))) ?_⟩
  rintro _ w12 ⟨rfl, hN12, k12⟩
  have k12Z : Keep (Not' Z) w11 w12 := k12.mono fun b _ hb hz => hb (.inl hz)
  have C12 := keepZ C11 k12Z
  have kX12 := toX (kX10.grew k11) k12Z
  have ho12 := ho.keep k12 fun b hb hn => hn (.inr hb)
  have hml := @mfWrite_long D10 (V.segs ++ [V.next])
  have hB4 : True := trivial
  generalize hmw : mfWrite D10 (V.segs ++ [V.next]) = mw at hN12 hml hB4 ⊢
  obtain ⟨e12, D12⟩ := mw
  dsimp only at hN12 hml hB4 ⊢
  refine ⟨_, rfl, PIf.neI (fun hne => ?_) (fun h0 => ?_)⟩
  · refine PS.mk C12.2.1 (by simp) fun w13 k13 s13 g13 => ?_
    rw [if_pos hne]
    have hN12' : NLog w0 w12 p q V D12 Z := hN12.mono fun b hb => .inl hb
    exact leave _ D12 w13 (hN12'.other k13 fun b hb => ⟨hb ▸ .inl (.inr (.inr rfl)), by omega⟩) (kX12.then (k13.mono fun b _ hb hx => by have := hXd b hx; omega)) ⟨k13.get C12.1 (by omega), g13, k13.get C12.2.2 (by have := kX3.size; omega)⟩ hne rfl
  rw [if_neg (by simpa using h0)]
  have hml := hml h0
  intro w13 d13
  have k13 : Grew w12 w13 := d13.keep
  have hN13 := hN12.grew k13
  have C13 : C w13 0 := keepC C12 k13 fun b hb => hb.elim
  have ho13 := ho12.grew k13
  obtain ⟨G13, hD13, hl13, hG13⟩ := id hN13
  obtain ⟨a13, n13, c13, E13, gq13, -, -, -⟩ := hl13.row
  have hEq : ∀ b, E b → b ≠ q := fun b hb e => by have := hE b hb; omega
  have hqw : q ≠ w.heap.size ∧ q ≠ w1.heap.size ∧ q ≠ w4.heap.size := by have := kX3.size; omega
  refine ⟨(· = q), _, cell_at C13.1 rfl, fun e => hqw.1 e.symm, _, cell_at C13.1 rfl, q, 0, rfl, PS.mk gq13 (by simp) fun w14 k14 s14 g14 => ⟨k14, q, 0, rfl, PS.mk g14 (by simp) fun w15 k15 s15 g15 => ⟨k15, ?_⟩⟩⟩
  have k1315 := k14.then k15
  have C15 : C w15 0 := keepC C13 k1315 fun b hb hc => by subst hb; omega
  refine ⟨_, cell_at C15.1 rfl, q, 0, rfl, _, cell_at g15 rfl, q, 0, rfl, PS.mk g15 (by simp) fun w16 k16 s16 g16 => ?_⟩
  have C16 : C w16 0 := keepC C15 k16 fun b hb hc => by subst hb; omega
  have k1316 : Keep (· = q) w13 w16 := k1315.then k16
  refine PS.mk C16.2.1 (by simp) fun w17 k17 s17 g17 => Lv.one (by simp) (by kernel_rfl) (CallsD.mono (LD_seglog_Log_begin_1 (R := fun e' w7 => e' = .returned (.tuple #[]) ∧ w7 = w17) ⟨_, cell_at g17 rfl, PIf.neI (fun hc => absurd rfl hc) (fun _ => ⟨rfl, rfl⟩)⟩) ?_)
  rintro e' u' _ ⟨rfl, rfl, rfl⟩
  refine Lv.ret rfl ⟨_, cell_at g17 rfl, Ok.mk ?_⟩
  have g16' : w16.heap[q]? = some (.cells #[.pointer (some ⟨p, 0, none⟩), .int .i64 V.size, .slice a n c, .int .i64 0, .int .i64 (IntKind.wrap .i64 (V.next + 1))] 83 (0, 0)) := g16
  have hnew : NLog w0 w16 p q ⟨V.size, V.segs ++ [V.next], 0, IntKind.wrap .i64 (V.next + 1)⟩ D12 Z := by
    refine ⟨fun b => b = q ∨ E b, ?_, ⟨⟨a, n, c, E, g16', ho13.keep k1316 fun b hb e => hEq b hb e, fun b hb => ⟨.inr hb, hEq b hb⟩⟩, .inl rfl, ?_, hml, ?_⟩, ?_⟩
    · have h1 : NDisk w0 w13 p D12 (fun b => Z b ∨ (b = q ∨ E b)) := hD13.mono fun b hb => by
        rcases hb with hb | hb | hb
        · exact .inl (.inl hb)
        · exact .inr (hb ▸ hl13.self)
        · exact .inl (.inr hb)
      obtain ⟨F, f1, f2, f3, f4⟩ := h1
      exact ⟨F, f1.keep k1316 fun b hb e => (f3 b hb).2 (.inr (.inl e)), f2.new k1316 fun b hb => .inr (by omega), f3, fun b hb => Nat.lt_of_lt_of_le (f4 b hb) k1316.size⟩
    · rintro b (rfl | hb)
      · exact lt_of_get g16
      · exact Nat.lt_of_lt_of_le (ho13.dom b hb) k1316.size
    · show I64 (IntKind.wrap .i64 (V.next + 1))
      exact i64_wrap _
    · rintro b (rfl | hb)
      · exact ⟨hq2, fun hz => by
          rcases hz with (hz | hz | hz) | hz
          · exact hq3 hz
          · omega
          · omega
          · omega⟩
      · have := hE b hb
        exact ⟨by have := hN10.gr.size; omega, fun hz => by have := hN10.dom b hz; omega⟩
  exact hXw hnew ((kX12.grew k13).then (k1316.mono fun b _ hb hx => hq3 (hb ▸ hx))) k17 rfl
end Go.Proofs.YtpbpjojdfcdbbaaGreatDoor

/- seglog: the segments of a manifest loaded; a log opened -/
namespace Go.Proofs.YtpbpjojdfcdbbaaGreatDoor
open Go.Lift
set_option linter.unusedVariables false
set_option maxRecDepth 20000

def segNm (no : Int) : ByteArray := txt (segName no)
structure Loaded where
  no : Int
  out : List EventV
  V : LogV
  D : DiskV
def loadGo : List Int → List EventV → LogV → DiskV → Loaded
  | [], out, V, D => ⟨0, out, V, D⟩
  | no :: l, out, V, D =>
    if (D.read (segNm no)).2 ≠ 0 then ⟨0, out, V, D⟩ else
    if (segLoad (D.read (segNm no)).1).2 < (D.read (segNm no)).1.length then
      ⟨(D.cutF (segNm no) (segLoad (D.read (segNm no)).1).2).1, out ++ (segLoad (D.read (segNm no)).1).1, ⟨V.size, V.segs ++ [no], (segLoad (D.read (segNm no)).1).2, V.next⟩, (D.cutF (segNm no) (segLoad (D.read (segNm no)).1).2).2⟩
    else loadGo l (out ++ (segLoad (D.read (segNm no)).1).1) ⟨V.size, V.segs ++ [no], (segLoad (D.read (segNm no)).1).2, V.next⟩ D

section
variable {w0 w w1 w' : World} {p q : Nat} {D D' : DiskV} {V V' : LogV} {X Y Z G S : Nat → Prop}
theorem NDisk.turn (h : NDisk w0 w p D X) (hk : Keep Y w w') (hY : ∀ b, Y b → X b ∧ w0.heap.size ≤ b) (hZ : ∀ b, Z b → (X b ∨ w.heap.size ≤ b) ∧ b < w'.heap.size) : NDisk w0 w' p D Z := by
  obtain ⟨F, h1, h2, h3, h4⟩ := h
  exact ⟨F, h1.keep hk fun b hb hy => (h3 b hb).2 (hY b hy).1, h2.new hk fun b hb => .inr (hY b hb).2, fun b hb => ⟨(h3 b hb).1, fun hz => (hZ b hz).1.elim (h3 b hb).2 fun h => by have := h1.dom b hb; omega⟩, fun b hb => (hZ b hb).2⟩
theorem NLog.turn (h : NLog w0 w p q V D X) (hk : Keep Y w w') (hY : ∀ b, Y b → X b ∧ w0.heap.size ≤ b) (hZ : ∀ b, Z b → (X b ∨ w.heap.size ≤ b) ∧ b < w'.heap.size) : NLog w0 w' p q V D Z := by
  obtain ⟨G, h1, h2, h3⟩ := h
  refine ⟨G, h1.turn hk (fun b hb => ⟨.inl (hY b hb).1, (hY b hb).2⟩) fun b hb => ?_, h2.keep hk fun b hb hy => (h3 b hb).2 (hY b hy).1, fun b hb => ⟨(h3 b hb).1, fun hz => (hZ b hz).1.elim (h3 b hb).2 fun h => by have := h2.dom b hb; omega⟩⟩
  rcases hb with hb | hb
  · exact ⟨(hZ b hb).1.imp .inl id, (hZ b hb).2⟩
  · exact ⟨.inl (.inr hb), Nat.lt_of_lt_of_le (h2.dom b hb) hk.size⟩

/-- one segment more -/
theorem log_push {no nb : Int} (h : NLog w0 w p q V D X) (hno : I64 no) (hlen : V.segs.length + 1 ≤ 64) {κ : World → Prop} {ε : Value → World → Prop}
    (hκ : ∀ w', NLog w0 w' p q ⟨V.size, V.segs ++ [no], nb, V.next⟩ D X → Keep (Not' X) w w' → κ w') :
    ∃ b39 o40, (some ⟨q, 0, none⟩ : Option Addr) = some ⟨b39, o40, none⟩ ∧ ∃ (a : Option Addr) (n c : Nat), w.cell? ⟨b39, o40 + 2, none⟩ = some (.slice a n c) ∧
      PA w (.cells #[.int .i64 no] 3) fun w42 => PRun Tryz.prog (Builtin.append_ #[37, 37] 37 #[.slice a n c, .slice (some ⟨w.heap.size, 0, none⟩) 1 1]) w42 (fun v43 w44 =>
        ∃ (a' : Option Addr) (n' c' : Nat), v43 = .slice a' n' c' ∧ ∃ b46 o47, (some ⟨q, 0, none⟩ : Option Addr) = some ⟨b46, o47, none⟩ ∧ PS w44 ⟨b46, o47 + 2, none⟩ (.slice a' n' c') fun w48 =>
          ∃ b49 o50, (some ⟨q, 0, none⟩ : Option Addr) = some ⟨b49, o50, none⟩ ∧ PS w48 ⟨b49, o50 + 3, none⟩ (.int .i64 nb) κ) ε := by
  obtain ⟨G, hD, hl, hG⟩ := id h
  obtain ⟨a, n, c, E, g, ho, hE⟩ := hl.body
  have hqlt := hl.dom q hl.self
  refine ⟨q, 0, rfl, _, _, _, cell_at g rfl, PA.mk fun w1 k1 s1 g1 => ?_⟩
  refine appRow (ho.grew k1) slI64 (D := (· = w.heap.size)) (Row.lit g1 [no] rfl (fun x hx => by simp at hx; subst hx; exact hno) (by unfold Big; simp)) (fun b e => ⟨by omega, fun e2 => by have := ho.dom b (ho.self b e2); omega⟩) (by unfold Big; simp; omega) (by unfold maxLen; simp; omega) fun a' c' w2 F' ho2 hk2 _ hs2 => ?_
  replace ho2 := ho2.alone
  have hbq : ¬ blk a = some q := fun e => (hE q (ho.self q e)).2 rfl
  have g2 := hk2.get (k1.get g id) hbq
  have z2 := hk2.size
  have hnq : ¬ blk a' = some q := fun e => by
    rcases hs2 q e with h | h
    · exact (hE q h).2 rfl
    · omega
  refine ⟨_, _, _, rfl, q, 0, rfl, PS.mk g2 (by simp) fun w3 k3 s3 g3 => ⟨q, 0, rfl, PS.mk g3 (by simp) fun w4 k4 s4 g4 => hκ w4 ?_ ?_⟩⟩
  · have k14 : Keep (fun b => blk a = some b ∨ b = q) w1 w4 := ((hk2.mono fun b _ hb => .inl hb).then (k3.mono fun b _ hb => .inr hb)).then (k4.mono fun b _ hb => .inr hb)
    have kG : Keep G w w4 := (Grew.keep k1).then (k14.mono fun b _ hb => hb.elim (fun h => (hE b (ho.self b h)).1) fun h => h ▸ hl.self)
    have hdom : ∀ b, blk a' = some b → b < w4.heap.size := fun b hb => by have := ho2.dom b hb; omega
    refine ⟨fun b => b = q ∨ blk a' = some b, hD.turn kG (fun b hb => ⟨.inr hb, (hG b hb).1⟩) fun b hb => ?_, ⟨⟨a', _, c', (fun b => blk a' = some b), g4, ?_, fun b hb => ⟨.inr hb, fun e => hnq (e ▸ hb)⟩⟩, .inl rfl, ?_, by simpa using hlen, hl.nextR⟩, ?_⟩
    · rcases hb with hb | rfl | hb
      · exact ⟨.inl (.inl hb), by have := h.dom b hb; omega⟩
      · exact ⟨.inl (.inr hl.self), by omega⟩
      · refine ⟨?_, hdom b hb⟩
        rcases hs2 b hb with h | h
        · exact .inl (.inr (hE b h).1)
        · exact .inr (by omega)
    · exact (ho2.keep k3 fun b hb e => hnq (e ▸ hb)).keep k4 fun b hb e => hnq (e ▸ hb)
    · rintro b (rfl | hb)
      · omega
      · exact hdom b hb
    · rintro b (rfl | hb)
      · exact hG _ hl.self
      · rcases hs2 b hb with h' | h'
        · exact hG b (hE b h').1
        · exact ⟨by have := h.gr.size; omega, fun hx => by have := h.dom b hx; omega⟩
  · refine (((Grew.keep k1).then (hk2.mono fun b _ hb => ?_)).then (k3.mono fun b _ hb => ?_)).then (k4.mono fun b _ hb => ?_)
    · exact (hG b (hE b (ho.self b hb)).1).2
    · exact (hG b (hb ▸ hl.self)).2
    · exact (hG b (hb ▸ hl.self)).2

theorem le64 {j x : Nat} (hj : j ≤ 64) (h : x ≤ j * 262144) : x ≤ 16777216 := by omega
/-- what load hands back -/
def LoadDid (w0 w : World) (p q : Nat) (X : Nat → Prop) (r : Loaded) (v : Value) (w' : World) : Prop :=
  ∃ a n c G, v = .tuple #[.slice a n c, .int .i64 r.no] ∧ Lst cEvO 39 G w' a n c r.out ∧ NLog w0 w' p q r.V r.D (fun b => X b ∨ G b) ∧ Keep (Not' X) w w' ∧ (∀ b, G b → w.heap.size ≤ b) ∧ r.out.length ≤ 16777216

theorem log_load {a : Option Addr} {n c : Nat} {l : List Int} {Dm : Nat → Prop} (hL : Laid w0) (h : NLog w0 w p q V D X) (hm : Row cI64 8 w Dm a n l) (hDm : ∀ b, Dm b → X b) (hlen : V.segs.length + l.length ≤ 64) :
    Calls Tryz.prog F_seglog_Log_load #[.pointer (some ⟨q, 0, none⟩), .agg #[.slice a n c]] w (Ok (LoadDid w0 w p q X (loadGo l [] V D))) := by
  have hn := hm.len
  have hXd := h.dom
  have hg0 := h.gr.size
  refine L_seglog_Log_load (PA.mk fun w1 k1 s1 g1 => ⟨_, _, _, cell_at g1 rfl, fun m oa on oc t w' => ∃ (j : Nat) (Vj : LogV) (out : List EventV) (G : Nat → Prop), t = j ∧ j ≤ l.length ∧ m = l.length - j ∧ loadGo l [] V D = loadGo (l.drop j) out Vj D ∧ Vj.segs.length = V.segs.length + j ∧ out.length ≤ j * 262144 ∧
    Lst cEvO 39 G w' oa on oc out ∧ NLog w0 w' p q Vj D (fun b => X b ∨ G b) ∧ Keep (Not' X) w w' ∧ ∀ b, G b → w.heap.size ≤ b,
    ⟨_, 0, V, [], fun _ => False, rfl, Nat.zero_le _, rfl, rfl, rfl, Nat.zero_le _, Lst.nil w1, (h.grew k1).mono fun b hb => hb.elim id fun h => h.elim, Grew.keep k1, fun _ h => h.elim⟩, ?_⟩)
  rintro m oa on oc t _ w2 ⟨j, Vj, out, G, rfl, hj, rfl, hgo, hVj, hout, ho, hN, kX, hG⟩
  rw [hgo]
  refine PIf.dec (fun hlt => ?_) (fun hge => ?_)
  rotate_left
  · obtain rfl : j = l.length := by omega
    rw [List.drop_of_length_le (Nat.le_refl _)]
    exact Ok.mk ⟨_, _, _, G, rfl, ho, hN, kX, hG, le64 (by omega) hout⟩
  obtain ⟨b, off, no, rfl, hx, hnoR, hc⟩ := (hm.keep kX fun b hb hn => hn (hDm b hb)).at1 (i := j) (by omega)
  have hdrop : l.drop j = no :: l.drop (j + 1) := by
    obtain ⟨hj2, rfl⟩ := List.getElem?_eq_some_iff.1 hx
    exact List.drop_eq_getElem_cons hj2
  rw [hdrop] at hgo ⊢
  refine ⟨b, off, rfl, by omega, by omega, no, hc, fun w3 d3 => ?_⟩
  have k3 : Grew w2 w3 := d3.keep
  have hN3 := hN.grew k3
  obtain ⟨G3, hD3, hl3, hG3⟩ := id hN3
  obtain ⟨a3, n3, c3, E3, gq3, -, -, -⟩ := hl3.row
  refine ⟨fun _ => False, q, 0, rfl, id, _, cell_at gq3 rfl, PC.ok (seg_Name (hL.grew hN3.gr) hnoR) ?_⟩
  rintro _ w4 ⟨rfl, k4⟩
  have hN4 := hN3.grew k4
  refine ⟨_, rfl, k4, PC.ok ((hD3.grew k4).read (k := segNm no)) ?_⟩
  rintro _ w5 ⟨a5, n5, c5, F5, rfl, ho5, hF5, -, k5⟩
  have hN5 := hN4.grew k5
  have k25 : Grew w2 w5 := (k3.then k4).then k5
  have hn5 := ho5.len (by decide)
  have hrl := read_len hN5.ok (segNm no)
  refine ⟨_, _, _, _, rfl, k5, PIf.neI (fun hne => ?_) (fun he => ?_)⟩
  · rw [show loadGo (no :: l.drop (j + 1)) out Vj D = ⟨0, out, Vj, D⟩ by unfold loadGo; rw [if_pos hne]]
    exact Ok.mk ⟨_, _, _, G, rfl, ho.grew k25, hN5, kX.grew k25, hG, le64 (by omega) hout⟩
  obtain ⟨G5, hD5, hl5, hG5⟩ := id hN5
  obtain ⟨a5', n5', c5', E5, gq5, -, -, -⟩ := hl5.row
  obtain ⟨F, hDk, -, -, -⟩ := id hD5
  refine ⟨q, 0, rfl, _, cell_at gq5 rfl, PC.ok (seg_Load (hL.grew hN5.gr) hDk hnoR) ?_⟩
  rintro _ w6 ⟨a6, n6, c6, F6, rfl, ho6, k6, hF6, hl6⟩
  have hN6 : NLog w0 w6 p q Vj D (fun b => (X b ∨ G b) ∨ F6 b) := hN5.add k6 fun b hb => ⟨hF6 b hb, ho6.dom b hb⟩
  have k26 := k25.then k6
  have hGd := ho.dom
  generalize hsl : segLoad (D.read (txt (segName no))).1 = sl at ho6 hl6
  obtain ⟨evs, nb⟩ := sl
  dsimp only at ho6 hl6
  have hsl' : segLoad (D.read (segNm no)).1 = (evs, nb) := hsl
  have ho6r : Row cEvO 96 w6 F6 a6 n6 evs := ho6.row (by decide) (by unfold Big; omega)
  refine ⟨_, _, _, _, rfl, appRow' (ho.grew k26) slEv ho6r (fun e => ho6.nil0 e) (fun b hb => ⟨ho6.dom b hb, fun hc => by have := hGd b (ho.self b hc); have := hF6 b hb; have := k25.size; omega⟩) (by unfold Big; omega) (by unfold maxLen; omega) fun a7 c7 w7 F7 ho7 hk7 hF7 _ => ?_⟩
  have z25 := k25.size; have z6 := k6.size
  have hF7d := ho7.dom
  have hN7 : NLog w0 w7 p q Vj D (fun b => X b ∨ F7 b) := hN6.turn hk7 (fun b hb => ⟨.inl (.inr (ho.self b hb)), by have := hG b (ho.self b hb); omega⟩) fun b hb => by
    rcases hb with hb | hb
    · exact ⟨.inl (.inl (.inl hb)), by have := hXd b hb; have := kX.size; have := hk7.size; omega⟩
    · refine ⟨?_, hF7d b hb⟩
      rcases hF7 b hb with h | h | h
      · exact .inl (.inl (.inr h))
      · exact .inl (.inr h)
      · exact .inr h
  have kX7 : Keep (Not' X) w w7 := (kX.grew k26).then (hk7.mono fun b _ hb hx => by have := hG b (ho.self b hb); have := hXd b hx; omega)
  have hG7 : ∀ b, F7 b → w.heap.size ≤ b := fun b hb => by
    have := kX.size
    rcases hF7 b hb with h | h | h
    · exact hG b h
    · have := hF6 b h; omega
    · omega
  refine ⟨_, _, _, rfl, log_push hN7 hnoR (by omega) fun w8 hN8 k8 => ?_⟩
  have kX8 : Keep (Not' X) w w8 := kX7.then (k8.mono fun b _ hb hx => hb (.inl hx))
  have ho8 := ho7.keep k8 fun b hb hn => hn (.inr hb)
  refine PIf.dec (fun hcut => ?_) (fun hall => ?_)
  · rw [show loadGo (no :: l.drop (j + 1)) out Vj D = ⟨(D.cutF (segNm no) nb).1, out ++ evs, ⟨Vj.size, Vj.segs ++ [no], nb, Vj.next⟩, (D.cutF (segNm no) nb).2⟩ by
      unfold loadGo; rw [hsl', if_neg (by simpa using he), if_pos (by show nb < _; omega)]]
    intro w9 d9
    have k9 : Grew w8 w9 := d9.keep
    have hN9 := hN8.grew k9
    obtain ⟨G9, hD9, hl9, hG9⟩ := id hN9
    obtain ⟨a9, n9, c9, E9, gq9, -, -, -⟩ := hl9.row
    refine ⟨fun b => b ≠ q, q, 0, rfl, fun hs => hs rfl, _, cell_at gq9 rfl, PC.ok (seg_Name (hL.grew hN9.gr) hnoR) ?_⟩
    rintro _ w10 ⟨rfl, k10⟩
    refine ⟨_, rfl, k10.keep, PC.ok ((hD9.grew k10).cutF (k := segNm no)) ?_⟩
    rintro _ w11 ⟨rfl, hD11, k11⟩
    have k11' : Keep (Not' X) w10 w11 := k11.mono fun b _ hb hx => hb (.inl (.inl hx))
    refine ⟨_, rfl, k11.mono fun b _ hb e => hb (.inr (e ▸ hl9.self)), Ok.mk ⟨_, _, _, F7, rfl, ?_, ⟨G9, hD11, (hl9.grew k10).keep k11 fun b hb hn => hn (.inr hb), hG9⟩, ((kX8.grew k9).grew k10).then k11', hG7, ?_⟩⟩
    · exact ((ho8.grew k9).grew k10).keep k11 fun b hb hn => hn (.inl (.inr hb))
    · exact le64 (j := j + 1) (by omega) (by simp; omega)
  · refine ⟨_, ?_, j + 1, ⟨Vj.size, Vj.segs ++ [no], nb, Vj.next⟩, out ++ evs, F7, wrap_succ (by omega), by omega, rfl, ?_, by simp; omega, by simp; omega, ho8, hN8, kX8, hG7⟩
    · omega
    · conv => lhs; unfold loadGo
      rw [hsl', if_neg (by simpa using he), if_neg (by show ¬ nb < _; omega)]
end
end Go.Proofs.YtpbpjojdfcdbbaaGreatDoor

/- seglog: a log opened; events laid -/
namespace Go.Proofs.YtpbpjojdfcdbbaaGreatDoor
open Go.Lift
set_option linter.unusedVariables false
set_option maxRecDepth 20000

def logStart (D : DiskV) (size : Int) : LogV := ⟨size, [], 0, nextV D⟩
def told (D : DiskV) : List Int := (mfTell D).getD []
/-- behind the loading: a first segment, or a manifest of what is there -/
def openEnd (m : Nat) (r : Loaded) : Loaded :=
  if r.no ≠ 0 then r else
  if r.V.segs = [] then ⟨(logBegin r.V r.D).1, r.out, (logBegin r.V r.D).2.1, (logBegin r.V r.D).2.2⟩ else
  if r.V.segs.length < m then ⟨(mfWrite r.D r.V.segs).1, r.out, r.V, (mfWrite r.D r.V.segs).2⟩ else r
def logOpen (D : DiskV) (size : Int) : Loaded := openEnd (told D).length (loadGo (told D) [] (logStart D size) D)

/-- what Open hands back -/
def OpenDid (w0 w : World) (p : Nat) (X : Nat → Prop) (r : Loaded) (v : Value) (w' : World) : Prop :=
  (r.no ≠ 0 ∧ v = .tuple #[.pointer none, .slice none 0 0, .int .i64 r.no] ∧ NDisk w0 w' p r.D X ∧ Keep (Not' X) w w') ∨
  (r.no = 0 ∧ ∃ q a n c G, v = .tuple #[.pointer (some ⟨q, 0, none⟩), .slice a n c, .int .i64 0] ∧ Lst cEvO 39 G w' a n c r.out ∧ NLog w0 w' p q r.V r.D (fun b => X b ∨ G b) ∧ Keep (Not' X) w w' ∧ (∀ b, G b → w.heap.size ≤ b) ∧ w.heap.size ≤ q ∧ r.out.length ≤ 16777216)

theorem log_Open {w0 w : World} {p : Nat} {D : DiskV} {X : Nat → Prop} {size : Int} (hL : Laid w0) (h : NDisk w0 w p D X) :
    Calls Tryz.prog F_seglog_Open #[.pointer (some ⟨p, 0, none⟩), .int .i64 size] w (Ok (OpenDid w0 w p X (logOpen D size))) := by
  have hXd : ∀ b, X b → b < w.heap.size := by obtain ⟨F, h1, h2, h3, h4⟩ := h; exact h4
  have hg0 := h.gr.size
  obtain ⟨F, hF, -, -, -⟩ := id h
  refine L_seglog_Open (PC.ok (seglog_next (hL.grew h.gr) hF) ?_)
  rintro _ w1 ⟨rfl, k1⟩
  have hD1 := h.grew k1
  have hnx := nextL_rng D.list
  refine ⟨_, rfl, PA.mk fun w2 k2 s2 g2 => PC.ok ((hD1.grew k2).mfRead hL.tabs) ?_⟩
  rintro _ w3 ⟨a3, n3, c3, F3, rfl, ho3, hF3, -, k3⟩
  have z1 := k1.size; have z3 := k3.size
  change Lst cI64 3 F3 w3 a3 n3 c3 (told D) at ho3
  have hml : (told D).length ≤ 64 := mfTell_le
  have k13 : Grew w1 w3 := k2.then k3
  refine ⟨_, _, _, _, rfl, PA.mk fun w4 k4 s4 g4 => PS.mk g4 (by simp) fun w5 k5 s5 g5 => ⟨_, _, _, cell_at g5 rfl, ?_⟩⟩
  have g5' : w5.heap[w3.heap.size]? = some (.cells #[.slice a3 n3 c3] 56 (0, 0)) := g5
  have k35 : Grew w3 w5 := k4.new k5 fun b hb => .inr (by omega)
  have k15 : Grew w1 w5 := k13.then k35
  have k05 : Grew w w5 := k1.then k15
  have gq5 := k35.get (k3.get g2 id) id
  have ho5 := ho3.grew k35
  /- the log -/
  let X5 : Nat → Prop := fun b => X b ∨ (F3 b ∨ b = w3.heap.size)
  have hN5 : NLog w0 w5 p w1.heap.size (logStart D size) D X5 := by
    refine ⟨(· = w1.heap.size), hD1.turn k15 (Y := fun _ => False) (fun b hb => hb.elim) fun b hb => ?_, ⟨⟨none, 0, 0, fun _ => False, gq5, Lst.nil w5, fun _ h => h.elim⟩, rfl, fun b hb => by omega, Nat.zero_le _, ?_⟩, fun b hb => ⟨by omega, fun hx => ?_⟩⟩
    · rcases hb with (hb | hb | hb) | hb
      · exact ⟨.inl hb, by have := hXd b hb; omega⟩
      · exact ⟨.inr (by have := hF3 b hb; omega), ho5.dom b hb⟩
      · exact ⟨.inr (by omega), by omega⟩
      · exact ⟨.inr (by omega), by omega⟩
    · show I64 (nextL D.list); unfold I64; omega
    · subst hb
      rcases hx with hx | hx | hx
      · have := hXd _ hx; omega
      · have := hF3 _ hx; omega
      · omega
  have hrow5 : Row cI64 8 w5 F3 a3 n3 (told D) := ho5.row (by decide) (by unfold Big; omega)
  refine PC.ok (log_load hL hN5 hrow5 (fun b hb => .inr (.inl hb)) (by show 0 + _ ≤ _; omega)) ?_
  rintro _ w6 ⟨a6, n6, c6, G6, rfl, ho6, hN6, k6, hG6, hl6⟩
  have z5 := k05.size
  have hq : w.heap.size ≤ w1.heap.size := z1
  have kX6 : Keep (Not' X) w w6 := (Grew.keep k05).then (k6.mono fun b _ hb hx => hb (.inl hx))
  have g6 := k6.get g5' fun hn => hn (.inr (.inr rfl))
  have hrow6 : Row cI64 8 w6 F3 a3 n3 (told D) := hrow5.keep k6 fun b hb hn => hn (.inr (.inl hb))
  have hn3 := hrow5.len
  show _
  unfold logOpen
  generalize loadGo (told D) [] (logStart D size) D = r at ho6 hN6 hl6
  have hG6' : ∀ b, G6 b → w.heap.size ≤ b := fun b hb => by have := hG6 b hb; omega
  refine ⟨_, _, _, _, rfl, fun no w' => ∃ V' D', openEnd (told D).length r = ⟨no, r.out, V', D'⟩ ∧ Lst cEvO 39 G6 w' a6 n6 c6 r.out ∧ NLog w0 w' p w1.heap.size V' D' (fun b => X b ∨ G6 b) ∧ Keep (Not' X) w w', ?_, ?_⟩
  · have toXG : ∀ {w' V' D'}, NLog w0 w' p w1.heap.size V' D' (fun b => X5 b ∨ G6 b) → NLog w0 w' p w1.heap.size V' D' (fun b => X b ∨ G6 b) := fun h => h.mono fun b hb => hb.imp .inl id
    refine PIf.neI (fun hne => ⟨r.V, r.D, by unfold openEnd; rw [if_pos hne], ho6, toXG hN6, kX6⟩) (fun h0 => ?_)
    obtain ⟨GL, hDL, hlL, hGL⟩ := id hN6
    obtain ⟨aL, nL, cL, EL, gL, hrL, hEL, hnL⟩ := hlL.row
    refine ⟨_, _, rfl, _, _, _, cell_at gL rfl, PIf.eqI (fun hz => ?_) (fun hnz => ?_)⟩
    · have he : r.V.segs = [] := List.eq_nil_of_length_eq_zero (by omega)
      refine PC.ok (log_begin hL hN6) ?_
      rintro _ w7 ⟨rfl, hN7, k7⟩
      exact ⟨_, rfl, _, _, by unfold openEnd; rw [if_neg (by simpa using h0), if_pos he], ho6.keep k7 fun b hb hn => hn (.inr hb), toXG hN7, kX6.then (k7.mono fun b _ hb hx => hb (.inl (.inl hx)))⟩
    · have hne : ¬ r.V.segs = [] := fun e => hnz (by rw [hnL, e]; rfl)
      refine ⟨_, _, rfl, _, _, _, cell_at gL rfl, _, _, _, cell_at g6 rfl, fun w7 d7 => ?_⟩
      have k7 : Grew w6 w7 := d7.keep
      have hN7 := hN6.grew k7
      have ho7 := ho6.grew k7
      have kX7 : Keep (Not' X) w w7 := kX6.grew k7
      refine PIf.dec (fun hlt => ?_) (fun hge => ⟨_, _, by unfold openEnd; rw [if_neg (by simpa using h0), if_neg hne, if_neg (by omega)], ho7, toXG hN7, kX7⟩)
      have gL7 := k7.get gL id
      refine ⟨_, _, rfl, _, _, _, cell_at gL7 rfl, PC.ok ((hDL.grew k7).mfWrite hL.tabs (hrL.grew k7) (row_i64 hrL) fun b hb => .inr (.inr (hEL b hb).1)) ?_⟩
      rintro _ w8 ⟨rfl, hD8, k8⟩
      have hN8 : NLog w0 w8 p w1.heap.size r.V (mfWrite r.D r.V.segs).2 (fun b => X5 b ∨ G6 b) := ⟨GL, hD8, (hlL.grew k7).keep k8 fun b hb hn => hn (.inr hb), hGL⟩
      exact ⟨_, rfl, _, _, by unfold openEnd; rw [if_neg (by simpa using h0), if_neg hne, if_pos (by omega)], ho7.keep k8 fun b hb hn => hn (.inl (.inr hb)), toXG hN8, kX7.then (k8.mono fun b _ hb hx => hb (.inl (.inl (.inl hx))))⟩
  · rintro no _ w7 ⟨V', D', he, ho7, hN7, kX7⟩
    rw [he]
    refine PIf.neI (fun hne => Ok.mk (.inl ⟨hne, rfl, hN7.disk.mono fun b hb => .inl hb, kX7⟩)) (fun h0 => Ok.mk (.inr ⟨h0, w1.heap.size, a6, n6, c6, G6, by rfl, ho7, hN7, kX7, hG6', hq, hl6⟩))
end Go.Proofs.YtpbpjojdfcdbbaaGreatDoor

/- seglog: events laid -/
namespace Go.Proofs.YtpbpjojdfcdbbaaGreatDoor
open Go.Lift
set_option linter.unusedVariables false
set_option maxRecDepth 20000

def tooLong (e : EventV) : Bool := decide (64 < e.deps.length)
def logAppend (V : LogV) (D : DiskV) (l : List EventV) : Int × LogV × DiskV :=
  if l.any tooLong then (3, V, D) else if l = [] then (0, V, D) else
  let r := if V.size ≤ V.bytes then logBegin V D else (0, V, D)
  if r.1 ≠ 0 then r else
  let a := r.2.2.append r.2.1.last (evFrs l)
  if a.1 ≠ 0 then (a.1, r.2.1, a.2) else (0, ⟨r.2.1.size, r.2.1.segs, IntKind.wrap .i64 (r.2.1.bytes + ((evFrs l).length : Nat)), r.2.1.next⟩, a.2)

theorem logBegin_segs {V : LogV} {D : DiskV} (h : (logBegin V D).1 = 0) : (logBegin V D).2.1.segs ≠ [] := by
  have h3 : ∀ E : DiskV, (begin3 V E).1 = 0 → (begin3 V E).2.1.segs ≠ [] := by
    intro E
    unfold begin3
    dsimp only
    split
    · rename_i hne; intro h; exact absurd h hne
    · split
      · rename_i hne; intro h; exact absurd h hne
      · intro _; simp
  have h2 : ∀ E : DiskV, (begin2 V E).1 = 0 → (begin2 V E).2.1.segs ≠ [] := by
    intro E
    unfold begin2
    dsimp only
    split
    · rename_i hne; intro h; exact absurd h hne
    · exact h3 _
  revert h
  unfold logBegin
  dsimp only
  split
  · exact h2 D
  · split
    · rename_i hne; intro h; exact absurd h hne
    · exact h2 _

theorem evFr_le {e : EventV} (he : e.Ok) (hd : e.deps.length ≤ 64) : (evFr e).length ≤ 675 := by
  have := ev_le he hd
  have h2 := segFrame_ok he hd
  unfold evFr at *
  rw [frBytes_length]
  omega
theorem evFrs_snoc (l : List EventV) (e : EventV) : evFrs (l ++ [e]) = evFrs l ++ evFr e := by simp [evFrs]

theorem log_Append {w0 w : World} {p q : Nat} {V : LogV} {D : DiskV} {X De : Nat → Prop} {a : Option Addr} {n c : Nat} {l : List EventV} (hL : Laid w0) (h : NLog w0 w p q V D X) (hne : V.segs ≠ []) (hr : Row cEv 96 w De a n l) (hDe : ∀ b, De b → b < w.heap.size) (hl : l.length ≤ 1000) :
    Calls Tryz.prog F_seglog_Log_Append #[.pointer (some ⟨q, 0, none⟩), .slice a n c] w (Ok (Does3 w0 w p q X (logAppend V D l))) := by
  have hn := hr.len
  have hXd := h.dom
  refine L_seglog_Log_Append ⟨fun m ba bn bc t w' => ∃ (j : Nat) (F : Nat → Prop), t = j ∧ j ≤ n ∧ m = n - j ∧ (∀ e ∈ l.take j, e.Ok ∧ e.deps.length ≤ 64) ∧ (evFrs (l.take j)).length ≤ 675 * j ∧ Lst cU8 5 F w' ba bn bc (evFrs (l.take j)) ∧ Grew w w' ∧ ∀ b, F b → w.heap.size ≤ b,
    ⟨_, 0, fun _ => False, rfl, Nat.zero_le _, rfl, by simp, by simp [evFrs], Lst.nil w, Keep.refl _, fun _ h => h.elim⟩, ?_⟩
  rintro m ba bn bc t _ w1 ⟨j, F, rfl, hj, rfl, hok, hfl, ho, k1, hF⟩
  have hbn := ho.len (by decide)
  refine PIf.dec (fun hlt => ?_) (fun hge => ?_)
  · obtain ⟨b, off, e, es, rfl, _, _, hx, hc, a1, n1, c1, rfl, hd, heok⟩ := (hr.grew k1).atN (i := j) (by omega)
    have e1 := fun i (hi : i < 10) => hc i hi
    refine ⟨b, off, rfl, by omega, by omega, _, _, _, _, _, _, _, _, _, _, _, _, e1 0 (by decide), e1 1 (by decide), e1 2 (by decide), e1 3 (by decide), e1 4 (by decide), e1 5 (by decide), e1 6 (by decide), e1 7 (by decide), e1 8 (by decide), e1 9 (by decide), PA.mk fun w2 k2 s2 g2 => ?_⟩
    refine storeAll (evCells e a1 n1 c1) g2 rfl fun w3 k3 s3 g3 => ?_
    have k13 : Grew w1 w3 := k2.new k3 fun b hb => .inr (by omega)
    refine ⟨_, _, _, _, _, _, _, _, _, _, _, _, cell_at g3 rfl, cell_at g3 rfl, cell_at g3 rfl, cell_at g3 rfl, cell_at g3 rfl, cell_at g3 rfl, cell_at g3 rfl, cell_at g3 rfl, cell_at g3 rfl, cell_at g3 rfl, ?_⟩
    refine PC.ok (seg_Frame (hL.grew ((h.gr.then k1).then k13)) (hd.grew k13) heok fun b hb => by have := hDe b hb; have := (k1.then k13).size; omega) ?_
    rintro _ w4 ⟨a4, n4, c4, F4, rfl, ho4, k4, hF4⟩
    by_cases hd64 : e.deps.length ≤ 64
    · have hsf := segFrame_ok heok hd64
      rw [hsf] at ho4 ⊢
      have hel := evFr_le heok hd64
      refine ⟨_, _, _, _, rfl, PIf.neI (fun hc => absurd rfl hc) (fun _ => ?_)⟩
      have k14 := k13.then k4
      have ho4r : Row cU8 1 w4 F4 a4 n4 (evFr e) := ho4.row (bytes := 1) (by decide) (by unfold Big; dsimp only; omega)
      have z14 := k14.size; have z13 := k13.size
      refine appRow' (ho.grew k14) slU8 ho4r (fun e => ho4.nil0 e) (fun b hb => ⟨ho4.dom b hb, fun hc => by have := ho.dom b (ho.self b hc); have := hF4 b hb; omega⟩) (by unfold Big; omega) (by unfold maxLen; omega) fun a5 c5 w5 F5 ho5 hk5 hF5 _ => ?_
      have htk : l.take (j + 1) = l.take j ++ [e] := by rw [List.take_add_one, hx]; rfl
      refine ⟨_, _, _, rfl, n - (j + 1), by omega, j + 1, F5, wrap_succ (by omega), by omega, rfl, ?_, ?_, ?_, (k1.then k14).new hk5 fun b hb => .inr (by have := hF b (ho.self b hb); omega), ?_⟩
      · rw [htk]
        intro x hx'
        rcases List.mem_append.1 hx' with h' | h'
        · exact hok x h'
        · simp at h'; subst h'; exact ⟨heok, hd64⟩
      · rw [htk, evFrs_snoc]; simp; omega
      · rw [htk, evFrs_snoc]; exact ho5
      · intro b hb
        have := k1.size
        rcases hF5 b hb with h' | h' | h'
        · exact hF b h'
        · have := hF4 b h'; omega
        · omega
    · have hsf := segFrame_no hd64
      rw [hsf] at ho4 ⊢
      refine ⟨_, _, _, _, rfl, PIf.neI (fun _ => ?_) (fun hc => absurd hc (by decide))⟩
      have hany : l.any tooLong = true := List.any_eq_true.2 ⟨e, List.mem_of_getElem? hx, by unfold tooLong; simp; omega⟩
      refine Ok.mk ?_
      rw [show logAppend V D l = (3, V, D) by unfold logAppend; rw [if_pos hany]]
      have k04 := (k1.then k13).then k4
      exact ⟨rfl, h.grew k04, Grew.keep k04⟩
  · obtain rfl : j = n := by omega
    rw [List.take_of_length_le (by omega)] at hok hfl ho hbn
    have hno : l.any tooLong = false := by
      rw [← Bool.not_eq_true]
      intro hc
      obtain ⟨e, he, h2⟩ := List.any_eq_true.1 hc
      have := (hok e he).2
      unfold tooLong at h2
      simp at h2
      omega
    refine PIf.eqI (fun hz => ?_) (fun hnz => ?_)
    · have he : l = [] := List.eq_nil_of_length_eq_zero (by omega)
      refine Ok.mk ?_
      rw [show logAppend V D l = (0, V, D) by unfold logAppend; rw [if_neg (by simp [hno]), if_pos he]]
      exact ⟨rfl, h.grew k1, Grew.keep k1⟩
    have hle : l ≠ [] := fun e => hnz (by rw [hn, e]; rfl)
    let X1 : Nat → Prop := fun b => X b ∨ F b
    have hN1 : NLog w0 w1 p q V D X1 := h.add k1 fun b hb => ⟨hF b hb, ho.dom b hb⟩
    have hApp : logAppend V D l = if (if V.size ≤ V.bytes then logBegin V D else (0, V, D)).1 ≠ 0 then (if V.size ≤ V.bytes then logBegin V D else (0, V, D)) else
        if ((if V.size ≤ V.bytes then logBegin V D else (0, V, D)).2.2.append (if V.size ≤ V.bytes then logBegin V D else (0, V, D)).2.1.last (evFrs l)).1 ≠ 0 then (((if V.size ≤ V.bytes then logBegin V D else (0, V, D)).2.2.append (if V.size ≤ V.bytes then logBegin V D else (0, V, D)).2.1.last (evFrs l)).1, (if V.size ≤ V.bytes then logBegin V D else (0, V, D)).2.1, ((if V.size ≤ V.bytes then logBegin V D else (0, V, D)).2.2.append (if V.size ≤ V.bytes then logBegin V D else (0, V, D)).2.1.last (evFrs l)).2)
        else (0, ⟨(if V.size ≤ V.bytes then logBegin V D else (0, V, D)).2.1.size, (if V.size ≤ V.bytes then logBegin V D else (0, V, D)).2.1.segs, IntKind.wrap .i64 ((if V.size ≤ V.bytes then logBegin V D else (0, V, D)).2.1.bytes + ((evFrs l).length : Nat)), (if V.size ≤ V.bytes then logBegin V D else (0, V, D)).2.1.next⟩, ((if V.size ≤ V.bytes then logBegin V D else (0, V, D)).2.2.append (if V.size ≤ V.bytes then logBegin V D else (0, V, D)).2.1.last (evFrs l)).2) := by
      unfold logAppend; rw [if_neg (by simp [hno]), if_neg hle]
    obtain ⟨GL, hDL, hlL, hGL⟩ := id hN1
    obtain ⟨aL, nL, cL, EL, gL, hrL, hEL, hnL⟩ := hlL.row
    rw [hApp]
    refine ⟨fun w' => ∃ V' D', (if V.size ≤ V.bytes then logBegin V D else (0, V, D)) = (0, V', D') ∧ V'.segs ≠ [] ∧ NLog w0 w' p q V' D' X1 ∧ Keep (Not' X) w w' ∧ Lst cU8 5 F w' ba bn bc (evFrs l), ?_, ?_⟩
    · refine ⟨q, 0, rfl, _, cell_at gL rfl, q, 0, rfl, _, cell_at gL rfl, fun w2 d2 => ?_⟩
      have k2 : Grew w1 w2 := d2.keep
      have hN2 := hN1.grew k2
      have ho2 := ho.grew k2
      have kX2 : Keep (Not' X) w w2 := Grew.keep (k1.then k2)
      refine PIf.dec (fun hge => ?_) (fun hlt => ⟨V, D, by rw [if_neg (by omega)], hne, hN2, kX2, ho2⟩)
      refine PC.ok (log_begin hL hN2) ?_
      rintro _ w3 ⟨rfl, hN3, k3⟩
      have kX3 : Keep (Not' X) w w3 := kX2.then (k3.mono fun b _ hb hx => hb (.inl hx))
      have hcond : (if V.size ≤ V.bytes then logBegin V D else (0, V, D)) = logBegin V D := if_pos (by omega)
      rw [hcond]
      refine ⟨_, rfl, PIf.neI (fun hne2 => ?_) (fun h0 => ⟨_, _, by rw [← h0], logBegin_segs h0, hN3, kX3, ho2.keep k3 fun b hb hn => hn (.inr hb)⟩)⟩
      rw [if_pos hne2]
      exact Ok.mk ⟨rfl, hN3.mono fun b hb => .inl hb, kX3⟩
    · rintro _ w2 ⟨V', D', hcond, hne', hN2, kX2, ho2⟩ w3 d3
      rw [hcond]
      have k3 : Grew w2 w3 := d3.keep
      have hN3 := hN2.grew k3
      have ho3 := ho2.grew k3
      obtain ⟨G3, hD3, hl3, hG3⟩ := id hN3
      obtain ⟨a3, n3, c3, E3, gq3, -, -, -⟩ := hl3.row
      refine ⟨fun b => b ≠ q, q, 0, rfl, fun hs => hs rfl, _, cell_at gq3 rfl, PC.ok (log_name (hL.grew hN3.gr) hl3 hne') ?_⟩
      rintro _ w4 ⟨rfl, k4⟩
      have ho4 := ho3.grew k4
      have hr4 : Row cU8 1 w4 F ba bn (evFrs l) := ho4.row (bytes := 1) (by decide) (by unfold Big; omega)
      refine ⟨_, rfl, k4.keep, PC.ok ((hD3.grew k4).append hr4 (fun e => ho4.nil0 e) fun b hb => .inr (.inl (.inr hb))) ?_⟩
      rintro _ w5 ⟨rfl, hD5, k5⟩
      have hl5 := (hl3.grew k4).keep k5 fun b hb hn => hn (.inr hb)
      have kX5 : Keep (Not' X) w w5 := ((kX2.grew k3).grew k4).then (k5.mono fun b _ hb hx => hb (.inl (.inl hx)))
      refine ⟨_, rfl, k5.mono fun b _ hb e => hb (.inr (e ▸ hl3.self)), ?_⟩
      rw [if_neg (fun hc : ((0, V', D') : Int × LogV × DiskV).1 ≠ 0 => hc rfl)]
      refine PIf.neI (fun hne2 => ?_) (fun h0 => ?_)
      · rw [if_pos hne2]
        exact Ok.mk ⟨rfl, NLog.mono (X := X1) ⟨G3, hD5, hl5, hG3⟩ fun b hb => .inl hb, kX5⟩
      · rw [if_neg (by simpa using h0)]
        obtain ⟨a5, n5, c5, E5, gq5, ho5, hE5⟩ := hl5.body
        refine ⟨q, 0, rfl, _, cell_at gq5 rfl, q, 0, rfl, PS.mk gq5 (by simp) fun w6 k6 s6 g6 => Ok.mk ⟨rfl, ?_, kX5.then (k6.mono fun b _ hb hx => (hG3 b (hb ▸ hl5.self)).2 (.inl hx))⟩⟩
        rw [hbn] at g6
        refine NLog.mono (X := X1) ⟨G3, hD5.turn k6 (fun b hb => ⟨.inr (hb ▸ hl5.self), (hG3 b (hb ▸ hl5.self)).1⟩) (fun b hb => ⟨.inl hb, by have := (hb.elim (NLog.dom (X := X1) ⟨G3, hD5, hl5, hG3⟩ b) (hl5.dom b) : b < w5.heap.size); omega⟩), ⟨⟨a5, n5, c5, E5, g6, ho5.keep k6 fun b hb e => (hE5 b hb).2 e, hE5⟩, hl5.self, fun b hb => by have := hl5.dom b hb; omega, hl5.many, hl5.nextR⟩, hG3⟩ fun b hb => .inl hb
end Go.Proofs.YtpbpjojdfcdbbaaGreatDoor

/- disks, in plain Lean: what each call does to the files; without a fuse, what it answers -/
namespace Go.Proofs.YtpbpjojdfcdbbaaGreatDoor
open Go.Lift
set_option linter.unusedVariables false
set_option maxRecDepth 20000

def fullF (b : List UInt8) : FileV := ⟨b, b.length, true⟩

/-- no fuse burns -/
structure Alive (D : DiskV) : Prop where
  dead : D.dead = false
  fused : D.fused = false

section
variable {D E : DiskV} {k : ByteArray} {l : List Int}
theorem op_cases (D : DiskV) (body : DiskV → Int × DiskV) : D.op body = (15, D.gone) ∨ D.op body = body D.armed := by
  unfold DiskV.op
  split
  · exact .inl rfl
  · exact .inr rfl
theorem Alive.op (h : Alive D) (body : DiskV → Int × DiskV) : D.op body = body D := by
  unfold DiskV.op DiskV.dies DiskV.armed
  rw [h.dead, h.fused]
  rfl
theorem Alive.same (h : Alive D) (h1 : E.dead = D.dead) (h2 : E.fused = D.fused) : Alive E := ⟨h1.trans h.dead, h2.trans h.fused⟩
theorem cut_full (f : FileV) : f.cut f.bytes.length = fullF f.bytes := by
  have hcl : clampN (f.bytes.length : Int) f.bytes.length = f.bytes.length := by unfold clampN; omega
  simp [FileV.cut, hcl, fullF]

theorem create_eff (D : DiskV) (k : ByteArray) : ((D.create k).1 ≠ 0 ∧ (D.create k).2.files = D.files) ∨ ((D.create k).1 = 0 ∧ isNameV k = true ∧ aget D.files k = none ∧ (D.create k).2.files = aput D.files k ⟨[], 0, false⟩) := by
  unfold DiskV.create
  rcases op_cases D fun D => if isNameV k then (if (aget D.files k).isSome then (16, D) else if 64 ≤ D.files.length then (12, D) else (0, D.setF k ⟨[], 0, false⟩)) else (1, D) with h | h
  · rw [h]; exact .inl ⟨by simp, rfl⟩
  · rw [h]
    have hf := armed_files D
    split
    · rename_i hn
      split
      · exact .inl ⟨by simp, hf⟩
      · split
        · exact .inl ⟨by simp, hf⟩
        · rename_i hs _
          refine .inr ⟨rfl, hn, ?_, ?_⟩
          · rw [← hf]; simpa using hs
          · show aput D.armed.files k _ = _; rw [hf]
    · exact .inl ⟨by simp, hf⟩
theorem Alive.create (h : Alive D) (k : ByteArray) : Alive (D.create k).2 ∧ (isNameV k = true → aget D.files k = none → (D.create k).1 = 0 ∨ (D.create k).1 = 12) := by
  unfold DiskV.create
  rw [h.op]
  split
  · split
    · rename_i h1 h2; exact ⟨h, fun _ hn => by rw [hn] at h2; cases h2⟩
    · split
      · exact ⟨h, fun _ _ => .inr rfl⟩
      · exact ⟨h.same rfl rfl, fun _ _ => .inl rfl⟩
  · rename_i hn; exact ⟨h, fun hc => absurd hc hn⟩

theorem on_cases (D : DiskV) (k : ByteArray) (body : DiskV → FileV → Int × DiskV) : ((D.op (DiskV.onF k body)).1 ≠ 0 ∧ (D.op (DiskV.onF k body)).2.files = D.files) ∨ ∃ f, aget D.files k = some f ∧ D.op (DiskV.onF k body) = body D.armed f := by
  rcases op_cases D (DiskV.onF k body) with h | h
  · rw [h]; exact .inl ⟨by simp, rfl⟩
  · rw [h]
    unfold DiskV.onF
    rw [armed_files]
    split
    · exact .inl ⟨by simp, armed_files D⟩
    · rename_i f hf; exact .inr ⟨f, hf, rfl⟩
theorem Alive.on (h : Alive D) {f : FileV} (hf : aget D.files k = some f) (body : DiskV → FileV → Int × DiskV) : D.op (DiskV.onF k body) = body D f := by
  rw [h.op]; unfold DiskV.onF; rw [hf]
theorem Alive.onA (h : Alive D) {body : DiskV → FileV → Int × DiskV} (hb : ∀ f, Alive (body D f).2) : Alive (D.op (DiskV.onF k body)).2 := by
  rw [h.op]
  unfold DiskV.onF
  split
  · exact h
  · exact hb _

theorem append_eff (D : DiskV) (k : ByteArray) (b : List UInt8) : ((D.append k b).1 ≠ 0 ∧ (D.append k b).2.files = D.files) ∨ ((D.append k b).1 = 0 ∧ ∃ f, aget D.files k = some f ∧ (D.append k b).2.files = aput D.files k { f with bytes := f.bytes ++ b }) := by
  unfold DiskV.append
  rcases on_cases D k fun D f => if (b.length : Int) > D.room then (12, D) else (0, D.setF k { f with bytes := f.bytes ++ b }) with h | ⟨f, hf, h⟩
  · exact .inl h
  · rw [h]
    split
    · exact .inl ⟨by simp, armed_files D⟩
    · exact .inr ⟨rfl, f, hf, by show aput D.armed.files k _ = _; rw [armed_files]⟩
theorem Alive.append (h : Alive D) (k : ByteArray) (b : List UInt8) : Alive (D.append k b).2 ∧ ∀ f, aget D.files k = some f → (D.append k b).1 = 0 ∨ (D.append k b).1 = 12 := by
  refine ⟨?_, fun f hf => ?_⟩
  · unfold DiskV.append
    refine h.onA fun f => ?_
    split
    · exact h
    · exact h.same rfl rfl
  · unfold DiskV.append
    rw [h.on hf]
    split
    · exact .inr rfl
    · exact .inl rfl
theorem sync_eff (D : DiskV) (k : ByteArray) : ((D.sync k).1 ≠ 0 ∧ (D.sync k).2.files = D.files) ∨ ((D.sync k).1 = 0 ∧ ∃ f, aget D.files k = some f ∧ (D.sync k).2.files = aput D.files k (fullF f.bytes)) := by
  unfold DiskV.sync
  rcases on_cases D k fun D f => (0, D.setF k (f.cut f.bytes.length)) with h | ⟨f, hf, h⟩
  · exact .inl h
  · rw [h, cut_full]; exact .inr ⟨rfl, f, hf, by show aput D.armed.files k _ = _; rw [armed_files]⟩
theorem Alive.sync (h : Alive D) (k : ByteArray) : Alive (D.sync k).2 ∧ ∀ f, aget D.files k = some f → (D.sync k).1 = 0 := by
  refine ⟨?_, fun f hf => ?_⟩
  · unfold DiskV.sync; exact h.onA fun f => h.same rfl rfl
  · unfold DiskV.sync; rw [h.on hf]
theorem Alive.cutF (h : Alive D) {f : FileV} (hf : aget D.files k = some f) (n : Int) : (D.cutF k n).1 = 0 ∧ (D.cutF k n).2 = D.setF k (f.cut n) ∧ Alive (D.cutF k n).2 := by
  unfold DiskV.cutF; rw [h.on hf]; exact ⟨rfl, rfl, h.same rfl rfl⟩
theorem delete_eff (D : DiskV) (k : ByteArray) : (D.delete k).2.files = D.files ∨ (D.delete k).2.files = adel D.files k := by
  unfold DiskV.delete
  rcases on_cases D k fun D f => (0, D.delF k) with h | ⟨f, hf, h⟩
  · exact .inl h.2
  · rw [h]; exact .inr (by show adel D.armed.files k = _; rw [armed_files])
theorem Alive.delete (h : Alive D) (k : ByteArray) : Alive (D.delete k).2 ∧ ((D.delete k).2.files = adel D.files k ∨ (aget D.files k = none ∧ (D.delete k).2.files = D.files)) := by
  unfold DiskV.delete
  refine ⟨h.onA fun f => h.same rfl rfl, ?_⟩
  rw [h.op]
  unfold DiskV.onF
  split
  · rename_i hn; exact .inr ⟨hn, rfl⟩
  · exact .inl rfl

/-- two disks' files, but for one's -/
def But (k : ByteArray) (D E : DiskV) : Prop := Tidy E.files ∧ ∀ x, x ≠ k → aget E.files x = aget D.files x
theorem But.refl (ht : Tidy D.files) : But k D D := ⟨ht, fun _ _ => rfl⟩
theorem But.of (h : But k D E) {F : DiskV} (hf : F.files = E.files) : But k D F := ⟨by rw [hf]; exact h.1, fun x hx => by rw [hf]; exact h.2 x hx⟩
theorem But.put (h : But k D E) {F : DiskV} {f : FileV} (hf : F.files = aput E.files k f) : But k D F := ⟨by rw [hf]; exact h.1.aput _ _, fun x hx => by rw [hf, aget_aput, if_neg (by simpa using hx)]; exact h.2 x hx⟩
theorem But.del (h : But k D E) {F : DiskV} (hf : F.files = adel E.files k) : But k D F := ⟨by rw [hf]; exact h.1.adel _, fun x hx => by rw [hf, aget_adel h.1, if_neg (by simpa using hx)]; exact h.2 x hx⟩
theorem But.clean (h : But mTemp D E) : But mTemp D (cleanV E).2 := by
  unfold cleanV
  split
  · rcases delete_eff E mTemp with e | e
    · exact h.of e
    · exact h.del e
  · exact h
theorem tn' : mTemp ≠ mName := fun h => by have := tn; rw [h] at this; simp at this

/-- what a writing of a manifest leaves: nothing of it, or all -/
def MfQ (D : DiskV) (l : List Int) (r : Int × DiskV) : Prop := (r.1 ≠ 0 ∧ But mTemp D r.2) ∨
    (r.1 = 0 ∧ l.length ≤ 64 ∧ Tidy r.2.files ∧ aget r.2.files mName = some (fullF (mfBytes l)) ∧ ∀ x, x ≠ mTemp → x ≠ mName → aget r.2.files x = aget D.files x)
theorem MfQ.step {i k : Nat} {r : Int × DiskV} (hr : mStep l i E = r) (h1 : r.1 ≠ 0 → But mTemp D r.2) (h2 : r.1 = 0 → MfQ D l (mRun l (i + 1) k r.2)) : MfQ D l (mRun l i (k + 1) E) := by
  rw [mRun, hr]
  split
  · rename_i e; exact .inl ⟨e, (h1 e).clean⟩
  · rename_i e; exact h2 (by simpa using e)
/-- ALL OR NOTHING -/
theorem mf_eff (ht : Tidy D.files) (l : List Int) : MfQ D l (mfWrite D l) := by
  unfold mfWrite
  split
  · exact .inl ⟨by simp, But.refl ht⟩
  rename_i hlen
  have h1 : But mTemp D (cleanV D).2 := (But.refl ht).clean
  refine MfQ.step (r := cleanV D) rfl (fun _ => h1) fun _ => ?_
  generalize (cleanV D).2 = D1 at h1
  have c2 := create_eff D1 mTemp
  refine MfQ.step (r := D1.create mTemp) rfl (fun e => ?_) fun e2 => ?_
  · rcases c2 with c2 | c2
    · exact h1.of c2.2
    · exact absurd c2.1 e
  rcases c2 with c2 | ⟨_, _, _, c2⟩
  · exact absurd e2 c2.1
  have h2 : But mTemp D (D1.create mTemp).2 := h1.put c2
  have t2 : aget (D1.create mTemp).2.files mTemp = some ⟨[], 0, false⟩ := by rw [c2, aget_aput]; simp
  generalize (D1.create mTemp).2 = D2 at h2 t2
  have c3 := append_eff D2 mTemp (mfBytes l)
  refine MfQ.step (r := D2.append mTemp (mfBytes l)) rfl (fun e => ?_) fun e3 => ?_
  · rcases c3 with c3 | c3
    · exact h2.of c3.2
    · exact absurd c3.1 e
  rcases c3 with c3 | ⟨_, f, hf, c3⟩
  · exact absurd e3 c3.1
  rw [t2] at hf; cases hf
  have h3 : But mTemp D (D2.append mTemp (mfBytes l)).2 := h2.put c3
  have t3 : aget (D2.append mTemp (mfBytes l)).2.files mTemp = some ⟨mfBytes l, 0, false⟩ := by rw [c3, aget_aput]; simp
  generalize (D2.append mTemp (mfBytes l)).2 = D3 at h3 t3
  have c4 := sync_eff D3 mTemp
  refine MfQ.step (r := D3.sync mTemp) rfl (fun e => ?_) fun e4 => ?_
  · rcases c4 with c4 | c4
    · exact h3.of c4.2
    · exact absurd c4.1 e
  rcases c4 with c4 | ⟨_, f, hf, c4⟩
  · exact absurd e4 c4.1
  rw [t3] at hf; cases hf
  have h4 : But mTemp D (D3.sync mTemp).2 := h3.put c4
  have t4 : aget (D3.sync mTemp).2.files mTemp = some (fullF (mfBytes l)) := by rw [c4, aget_aput]; simp
  generalize (D3.sync mTemp).2 = D4 at h4 t4
  have c5 : ((D4.rename mTemp mName).1 ≠ 0 ∧ (D4.rename mTemp mName).2.files = D4.files) ∨ ((D4.rename mTemp mName).1 = 0 ∧ (D4.rename mTemp mName).2.files = aput (adel D4.files mTemp) mName (fullF (mfBytes l))) := by
    unfold DiskV.rename
    rcases on_cases D4 mTemp fun D f => if isNameV mName then (0, (D.delF mTemp).setF mName { f with good := true }) else (1, D) with h | ⟨f, hf, h⟩
    · exact .inl h
    · rw [h, if_pos name_ok']
      rw [t4] at hf; cases hf
      exact .inr ⟨rfl, by show aput (adel D4.armed.files mTemp) mName _ = _; rw [armed_files]; rfl⟩
  refine MfQ.step (r := D4.rename mTemp mName) rfl (fun e => ?_) fun e5 => ?_
  · rcases c5 with c5 | c5
    · exact h4.of c5.2
    · exact absurd c5.1 e
  rcases c5 with c5 | ⟨_, c5⟩
  · exact absurd e5 c5.1
  refine .inr ⟨rfl, by omega, ?_, ?_, fun x hx1 hx2 => ?_⟩
  · show Tidy (D4.rename mTemp mName).2.files; rw [c5]; exact (h4.1.adel _).aput _ _
  · show aget (D4.rename mTemp mName).2.files mName = _; rw [c5, aget_aput]; simp
  · show aget (D4.rename mTemp mName).2.files x = _
    rw [c5, aget_aput, if_neg (by simpa using hx2), aget_adel h4.1, if_neg (by simpa using hx1)]
    exact h4.2 x hx1

/-! without a fuse -/
def MfA (r : Int × DiskV) : Prop := Alive r.2 ∧ (r.1 = 0 ∨ r.1 = 3 ∨ r.1 = 12)
theorem Alive.clean (h : Alive D) : Alive (cleanV D).2 := by
  unfold cleanV
  split
  · exact (h.delete _).1
  · exact h
theorem clean_gone (h : Alive D) (ht : Tidy D.files) : (cleanV D).1 = 0 ∧ aget (cleanV D).2.files mTemp = none ∧ Tidy (cleanV D).2.files := by
  unfold cleanV
  split
  · rename_i hs
    obtain ⟨f, hf⟩ := Option.isSome_iff_exists.1 hs
    have e : D.delete mTemp = (0, D.delF mTemp) := by unfold DiskV.delete; rw [h.on hf]
    rw [e]
    exact ⟨rfl, by show aget (adel _ _) _ = _; rw [aget_adel ht]; simp, ht.adel _⟩
  · rename_i hs; exact ⟨rfl, by simpa using hs, ht⟩
theorem MfA.step {i k : Nat} {r : Int × DiskV} (hr : mStep l i E = r) (h1 : Alive r.2) (h3 : r.1 = 0 ∨ r.1 = 3 ∨ r.1 = 12) (h2 : r.1 = 0 → MfA (mRun l (i + 1) k r.2)) : MfA (mRun l i (k + 1) E) := by
  rw [mRun, hr]
  split
  · exact ⟨h1.clean, h3⟩
  · rename_i e; exact h2 (by simpa using e)
theorem Alive.mfWrite (h : Alive D) (ht : Tidy D.files) (l : List Int) : MfA (mfWrite D l) := by
  unfold Go.Proofs.YtpbpjojdfcdbbaaGreatDoor.mfWrite
  split
  · exact ⟨h, .inr (.inl rfl)⟩
  obtain ⟨z1, n1, ht1⟩ := clean_gone h ht
  have h1 := h.clean
  refine MfA.step (r := cleanV D) rfl h1 (.inl z1) fun _ => ?_
  generalize (cleanV D).2 = D1 at h1 n1 ht1
  have c2 := create_eff D1 mTemp
  obtain ⟨h2, a2⟩ := h1.create mTemp
  refine MfA.step (r := D1.create mTemp) rfl h2 ((a2 temp_ok n1).imp id .inr) fun e2 => ?_
  rcases c2 with c2 | ⟨_, _, _, c2⟩
  · exact absurd e2 c2.1
  have t2 : aget (D1.create mTemp).2.files mTemp = some ⟨[], 0, false⟩ := by rw [c2, aget_aput]; simp
  generalize (D1.create mTemp).2 = D2 at h2 t2
  have c3 := append_eff D2 mTemp (mfBytes l)
  obtain ⟨h3, a3⟩ := h2.append mTemp (mfBytes l)
  refine MfA.step (r := D2.append mTemp (mfBytes l)) rfl h3 ((a3 _ t2).imp id .inr) fun e3 => ?_
  rcases c3 with c3 | ⟨_, f, hf, c3⟩
  · exact absurd e3 c3.1
  have t3 : ∃ f, aget (D2.append mTemp (mfBytes l)).2.files mTemp = some f := by rw [c3, aget_aput]; simp
  generalize (D2.append mTemp (mfBytes l)).2 = D3 at h3 t3
  obtain ⟨f3, t3⟩ := t3
  have c4 := sync_eff D3 mTemp
  obtain ⟨h4, a4⟩ := h3.sync mTemp
  refine MfA.step (r := D3.sync mTemp) rfl h4 (.inl (a4 _ t3)) fun e4 => ?_
  rcases c4 with c4 | ⟨_, f, hf4, c4⟩
  · exact absurd e4 c4.1
  have t4 : aget (D3.sync mTemp).2.files mTemp = some (fullF f.bytes) := by rw [c4, aget_aput]; simp
  generalize (D3.sync mTemp).2 = D4 at h4 t4
  have e5 : D4.rename mTemp mName = (0, (D4.delF mTemp).setF mName { fullF f.bytes with good := true }) := by
    unfold DiskV.rename; rw [h4.on t4, if_pos name_ok']
  refine MfA.step (r := D4.rename mTemp mName) rfl (by rw [e5]; exact h4.same rfl rfl) (.inl (by rw [e5])) fun e5' => ?_
  rw [e5]
  exact ⟨h4.same rfl rfl, .inl rfl⟩

/-! crashes -/
theorem aget_good {l : List (ByteArray × FileV)} (ht : Tidy l) (q : FileV → Bool) (g : FileV → FileV) (k : ByteArray) :
    aget ((l.filter fun x => q x.2).map fun x => (x.1, g x.2)) k = (aget l k).bind fun f => if q f then some (g f) else none := by
  induction l with
  | nil => rfl
  | cons p l ih =>
    obtain ⟨x, u⟩ := p
    unfold Tidy at ht ih
    simp only [List.map_cons, List.nodup_cons] at ht
    rw [List.filter_cons]
    by_cases hx : (k == x) = true
    · have hkx : k = x := eq_of_beq hx
      subst hkx
      have hn : aget ((l.filter fun x => q x.2).map fun x => (x.1, g x.2)) k = none := by
        rw [aget_none]
        intro hm
        apply ht.1
        simp only [List.map_map, List.mem_map, List.mem_filter] at hm ⊢
        obtain ⟨y, ⟨hy, _⟩, he⟩ := hm
        exact ⟨y, hy, he⟩
      by_cases hq : q u = true
      · simp [hq, aget]
      · rw [if_neg (by simpa using hq), hn]; simp [hq, aget]
    · have hx' : (k == x) = false := by simpa using hx
      by_cases hq : q u = true
      · simp only [hq, if_true, List.map_cons, aget, hx', Bool.false_eq_true, if_false]
        exact ih ht.2
      · rw [if_neg (by simpa using hq)]
        simp only [aget, hx', Bool.false_eq_true, if_false]
        exact ih ht.2
theorem crash_get (ht : Tidy D.files) (n : Int) (k : ByteArray) : aget (D.crash n).files k = (aget D.files k).bind fun f => if f.good then some (cutK n f) else none :=
  aget_good ht (fun f => f.good) (cutK n) k
theorem crash_tidy (h : Tidy D.files) (n : Int) : Tidy (D.crash n).files := by
  show (((D.files.filter fun x => x.2.good).map fun x => (x.1, cutK n x.2)).map (·.1)).Nodup
  rw [List.map_map]
  exact (tidy_filter h fun x => x.2.good)
theorem crash_alive (D : DiskV) (n : Int) : Alive (D.crash n) := ⟨rfl, rfl⟩
/-- what a crash leaves of a file that lasts -/
theorem cutK_some (n : Int) (b : List UInt8) {s : Nat} (hs : s ≤ b.length) : ∃ m, s ≤ m ∧ m ≤ b.length ∧ cutK n ⟨b, s, true⟩ = fullF (b.take m) := by
  refine ⟨clampN (keepTo n ⟨b, s, true⟩) b.length, ?_, clampN_le _ _, ?_⟩
  · unfold clampN keepTo; simp only; omega
  · have := clampN_le (keepTo n ⟨b, s, true⟩) b.length
    unfold cutK FileV.cut fullF
    simp only [List.length_take, Nat.min_eq_left this]
theorem crash_full (ht : Tidy D.files) (n : Int) {k : ByteArray} {b : List UInt8} (h : aget D.files k = some (fullF b)) : aget (D.crash n).files k = some (fullF b) := by
  rw [crash_get ht, h]
  obtain ⟨m, h1, h2, h3⟩ := cutK_some n b (Nat.le_refl _)
  show (if true then some (cutK n ⟨b, b.length, true⟩) else none) = _
  rw [h3, List.take_of_length_le (by omega)]; rfl
end
end Go.Proofs.YtpbpjojdfcdbbaaGreatDoor

/- seglog, in plain Lean: what lasts -/
namespace Go.Proofs.YtpbpjojdfcdbbaaGreatDoor
open Go.Lift
set_option linter.unusedVariables false
set_option maxRecDepth 20000

abbrev Segs := List (Int × List EventV)
def nums (A : Segs) : List Int := A.map (·.1)
def evsOf (A : Segs) (l : List EventV) : List EventV := (A.map (·.2)).flatten ++ l

/-- full segments A, a last one with events l, of which k last; the manifest says just them -/
structure Held (D : DiskV) (A : Segs) (no : Int) (l : List EventV) (k : Nat) : Prop where
  tidy : Tidy D.files
  full : ∀ x ∈ A, aget D.files (segNm x.1) = some (fullF (evFrs x.2))
  last : ∃ s, aget D.files (segNm no) = some ⟨evFrs l, s, true⟩ ∧ (evFrs (l.take k)).length ≤ s ∧ s ≤ (evFrs l).length
  kl : k ≤ l.length
  man : aget D.files mName = some (fullF (mfBytes (nums A ++ [no])))
  rng : ∀ n ∈ nums A ++ [no], 1 ≤ n ∧ n < 1000000000000
  rise : (nums A ++ [no]).Pairwise (· < ·)
  evs : ∀ e ∈ evsOf A l, e.Ok ∧ e.deps.length ≤ 64
  many : A.length + 1 ≤ 64

/-- the log in memory -/
structure VOk (V : LogV) (A : Segs) (no : Int) (l : List EventV) : Prop where
  segs : V.segs = nums A ++ [no]
  bytes : V.bytes = ((evFrs l).length : Nat)
  next : no < V.next ∧ V.next ≤ 1000000000000

theorem segNm_ne {n : Int} (h : isNameV (segNm n) = true ∨ 0 ≤ n ∧ n < 1000000000000) : segNm n ≠ mName ∧ segNm n ≠ mTemp := by
  have hm : mName.data.toList.take 4 ≠ segPre := by decide +kernel
  have ht : mTemp.data.toList.take 4 ≠ segPre := by decide +kernel
  have h4 : (segNm n).data.toList.take 4 = segPre ∨ (segNm n).data.toList = [] := by
    unfold segNm
    rw [txt_list]
    unfold segName
    split
    · exact .inr rfl
    · exact .inl (by simp [segPre])
  refine ⟨fun e => ?_, fun e => ?_⟩
  · rw [e] at h4
    rcases h4 with h4 | h4
    · exact hm h4
    · revert h4; decide +kernel
  · rw [e] at h4
    rcases h4 with h4 | h4
    · exact ht h4
    · revert h4; decide +kernel
theorem segNm_inj {a b : Int} (ha : 0 ≤ a ∧ a < 1000000000000) (h : segNm b = segNm a) : b = a := segName_inj ha.1 ha.2 (txt_inj h)
theorem segNm_name {n : Int} (hn : 0 ≤ n) : isNameV (segNm n) = true ↔ n < 1000000000000 := by
  constructor
  · intro h
    by_cases hc : n < 1000000000000
    · exact hc
    · have : segNm n = txt [] := by unfold segNm segName; rw [if_pos (.inr (by omega))]
      have hx : isNameV (txt []) = false := by decide +kernel
      rw [this, hx] at h; cases h
  · intro h; exact seg_name_ok hn h

theorem evFrs_nil : evFrs [] = [] := rfl
theorem evFrs_take_le (l : List EventV) (k : Nat) : (evFrs (l.take k)).length ≤ (evFrs l).length := by
  have h := List.take_append_drop k l
  conv => rhs; rw [← h, evFrs_append, List.length_append]
  omega
theorem evsOf_snoc (A : Segs) (no : Int) (l m : List EventV) : evsOf (A ++ [(no, l)]) m = evsOf A l ++ m := by simp [evsOf]

section
variable {D E : DiskV} {A : Segs} {no : Int} {l x : List EventV} {k j : Nat} {V : LogV}

/-- files that matter, the same -/
theorem Held.same (h : Held D A no l k) (ht : Tidy E.files) (hs : ∀ n ∈ nums A ++ [no], aget E.files (segNm n) = aget D.files (segNm n)) (hm : aget E.files mName = aget D.files mName) : Held E A no l k :=
  ⟨ht, fun x hx => (hs x.1 (List.mem_append_left _ (List.mem_map.2 ⟨x, hx, rfl⟩))).trans (h.full x hx), by
    obtain ⟨s, h1, h2⟩ := h.last
    exact ⟨s, (hs no (List.mem_append_right _ (List.mem_singleton.2 rfl))).trans h1, h2⟩, h.kl, hm.trans h.man, h.rng, h.rise, h.evs, h.many⟩
theorem Held.files (h : Held D A no l k) (he : E.files = D.files) : Held E A no l k := h.same (by rw [he]; exact h.tidy) (fun _ _ => by rw [he]) (by rw [he])
theorem Held.no_rng (h : Held D A no l k) : 1 ≤ no ∧ no < 1000000000000 := h.rng no (List.mem_append_right _ (List.mem_singleton.2 rfl))
theorem Held.no_ne (h : Held D A no l k) : ∀ y ∈ A, segNm y.1 ≠ segNm no := fun y hy e => by
  have h1 := h.no_rng
  have := segNm_inj ⟨by omega, h1.2⟩ e
  have h2 := h.rise
  rw [List.pairwise_append] at h2
  have := h2.2.2 y.1 (List.mem_map.2 ⟨y, hy, rfl⟩) no (List.mem_singleton.2 rfl)
  omega
/-- the last segment's file turned -/
theorem Held.put (h : Held D A no l k) {l' : List EventV} {s k' : Nat} (he : E.files = aput D.files (segNm no) ⟨evFrs l', s, true⟩) (hk : k' ≤ l'.length) (h1 : (evFrs (l'.take k')).length ≤ s) (h2 : s ≤ (evFrs l').length) (hev : ∀ e ∈ l', e.Ok ∧ e.deps.length ≤ 64) : Held E A no l' k' :=
  ⟨by rw [he]; exact h.tidy.aput _ _, fun y hy => by rw [he, aget_aput, if_neg (by simpa using h.no_ne y hy)]; exact h.full y hy, ⟨s, by rw [he, aget_aput]; simp, h1, h2⟩, hk, by
    have := (segNm_ne (n := no) (.inr (by have := h.no_rng; omega))).1
    rw [he, aget_aput, if_neg (by simpa using this.symm)]; exact h.man, h.rng, h.rise, fun e he => by
    rcases List.mem_append.1 he with h' | h'
    · exact h.evs e (List.mem_append_left _ h')
    · exact hev e h', h.many⟩
theorem Held.evl (h : Held D A no l k) : ∀ e ∈ l, e.Ok ∧ e.deps.length ≤ 64 := fun e he => h.evs e (List.mem_append_right _ he)
theorem Held.lastNm (hv : VOk V A no l) : V.last = segNm no := by unfold LogV.last; rw [hv.segs]; simp [segNm]

theorem Held.mono (h : Held D A no l k) (hj : j ≤ k) : Held D A no l j := by
  obtain ⟨s, h1, h2, h3⟩ := h.last
  exact ⟨h.tidy, h.full, ⟨s, h1, Nat.le_trans (evFrs_take hj) h2, h3⟩, Nat.le_trans hj h.kl, h.man, h.rng, h.rise, h.evs, h.many⟩

/-- SYNC -/
theorem held_sync (h : Held D A no l k) : ((D.sync (segNm no)).1 = 0 ∧ Held (D.sync (segNm no)).2 A no l l.length) ∨ ((D.sync (segNm no)).1 ≠ 0 ∧ Held (D.sync (segNm no)).2 A no l k) := by
  rcases sync_eff D (segNm no) with ⟨h1, h2⟩ | ⟨h1, f, hf, h2⟩
  · exact .inr ⟨h1, h.files h2⟩
  · obtain ⟨s, g1, g2, g3⟩ := h.last
    rw [g1] at hf; cases hf
    exact .inl ⟨h1, h.put h2 (Nat.le_refl _) (by rw [List.take_length]; exact Nat.le_refl _) (Nat.le_refl _) h.evl⟩

/-- what the beginning of a segment does to any disk -/
theorem begin2_eff (ht : Tidy D.files) (hn : 0 ≤ V.next) : ((begin2 V D).1 ≠ 0 ∧ (begin2 V D).2.1 = V ∧ Tidy (begin2 V D).2.2.files ∧ ∀ x, x ≠ segNm V.next → x ≠ mTemp → aget (begin2 V D).2.2.files x = aget D.files x) ∨
    ((begin2 V D).1 = 0 ∧ V.next < 1000000000000 ∧ V.segs.length + 1 ≤ 64 ∧ aget D.files (segNm V.next) = none ∧ (begin2 V D).2.1 = ⟨V.size, V.segs ++ [V.next], 0, V.next + 1⟩ ∧ Tidy (begin2 V D).2.2.files ∧ aget (begin2 V D).2.2.files (segNm V.next) = some (fullF []) ∧
      aget (begin2 V D).2.2.files mName = some (fullF (mfBytes (V.segs ++ [V.next]))) ∧ ∀ x, x ≠ segNm V.next → x ≠ mTemp → x ≠ mName → aget (begin2 V D).2.2.files x = aget D.files x) := by
  unfold begin2
  dsimp only
  rw [show txt (segName V.next) = segNm V.next from rfl]
  rcases create_eff D (segNm V.next) with ⟨c1, c2⟩ | ⟨c1, c2, c3, c4⟩
  · rw [if_pos c1]
    exact .inl ⟨c1, rfl, by show Tidy (D.create _).2.files; rw [c2]; exact ht, fun x _ _ => by show aget (D.create (segNm V.next)).2.files x = _; rw [c2]⟩
  have hlt := (segNm_name hn).1 c2
  obtain ⟨nm, nt⟩ := segNm_ne (n := V.next) (.inr ⟨hn, hlt⟩)
  rw [if_neg (show ¬ (D.create (segNm V.next)).1 ≠ 0 by simpa using c1)]
  have t1 : But (segNm V.next) D (D.create (segNm V.next)).2 := (But.refl ht).put c4
  have g1 : aget (D.create (segNm V.next)).2.files (segNm V.next) = some ⟨[], 0, false⟩ := by rw [c4, aget_aput]; simp
  generalize (D.create (segNm V.next)).2 = D1 at t1 g1
  unfold begin3
  dsimp only
  rw [show txt (segName V.next) = segNm V.next from rfl]
  have del : ∀ {F : DiskV}, Tidy F.files → (∀ x, x ≠ segNm V.next → x ≠ mTemp → aget F.files x = aget D.files x) → Tidy (F.delete (segNm V.next)).2.files ∧ ∀ x, x ≠ segNm V.next → x ≠ mTemp → aget (F.delete (segNm V.next)).2.files x = aget D.files x := by
    intro F hF hs
    rcases delete_eff F (segNm V.next) with e | e
    · rw [e]; exact ⟨hF, hs⟩
    · rw [e]; exact ⟨hF.adel _, fun x h1 h2 => by rw [aget_adel hF, if_neg (by simpa using h1)]; exact hs x h1 h2⟩
  rcases sync_eff D1 (segNm V.next) with ⟨d1, d2⟩ | ⟨d1, f, hf, d2⟩
  · rw [if_pos d1]
    have := del (F := (D1.sync (segNm V.next)).2) (by rw [d2]; exact t1.1) fun x h1 _ => by rw [d2]; exact t1.2 x h1
    exact .inl ⟨d1, rfl, this⟩
  rw [g1] at hf; cases hf
  have t2 : But (segNm V.next) D (D1.sync (segNm V.next)).2 := t1.put d2
  have g2 : aget (D1.sync (segNm V.next)).2.files (segNm V.next) = some (fullF []) := by rw [d2, aget_aput]; simp
  rw [if_neg (show ¬ (D1.sync (segNm V.next)).1 ≠ 0 by simpa using d1)]
  generalize (D1.sync (segNm V.next)).2 = D2 at t2 g2
  rcases mf_eff t2.1 (V.segs ++ [V.next]) with ⟨m1, m2⟩ | ⟨m1, m2, m3, m4, m5⟩
  · rw [if_pos m1]
    have := del (F := (mfWrite D2 (V.segs ++ [V.next])).2) m2.1 fun x h1 h2 => (m2.2 x h2).trans (t2.2 x h1)
    exact .inl ⟨m1, rfl, this⟩
  · rw [if_neg (by simpa using m1)]
    refine .inr ⟨rfl, hlt, by simpa using m2, c3, ?_, m3, (m5 _ nt nm).trans g2, m4, fun x h1 h2 h3 => (m5 x h2 h3).trans (t2.2 x h1)⟩
    rw [wrap_i64 (by unfold I64; omega)]

theorem Held.begin2 (h : Held D A no l l.length) (hv : VOk V A no l) : ((begin2 V D).1 ≠ 0 ∧ (begin2 V D).2.1 = V ∧ Held (begin2 V D).2.2 A no l l.length) ∨
    ((begin2 V D).1 = 0 ∧ (begin2 V D).2.1.size = V.size ∧ Held (begin2 V D).2.2 (A ++ [(no, l)]) V.next [] 0 ∧ VOk (begin2 V D).2.1 (A ++ [(no, l)]) V.next [] ∧ (begin2 V D).2.1.next = V.next + 1) := by
  have hnr := h.no_rng
  have hvn := hv.next
  have hlt : ∀ n ∈ nums A ++ [no], n < V.next := fun n hn => by
    rcases List.mem_append.1 hn with h1 | h1
    · have h2 := h.rise
      rw [List.pairwise_append] at h2
      have := h2.2.2 n h1 no (List.mem_singleton.2 rfl)
      omega
    · have := List.mem_singleton.1 h1; omega
  have hne : ∀ n ∈ nums A ++ [no], segNm n ≠ segNm V.next := fun n hn e => by
    have h1 := h.rng n hn
    have h2 := hlt n hn
    have := segNm_inj (a := n) ⟨by omega, h1.2⟩ e.symm
    omega
  have hnm : ∀ n ∈ nums A ++ [no], segNm n ≠ mName ∧ segNm n ≠ mTemp := fun n hn => segNm_ne (.inr (by have := h.rng n hn; omega))
  have hmn : mName ≠ segNm V.next := fun e => by
    by_cases hc : V.next < 1000000000000
    · exact (segNm_ne (n := V.next) (.inr (by omega))).1 e.symm
    · have h0 : segNm V.next = txt [] := by unfold segNm segName; rw [if_pos (.inr (by omega))]
      rw [h0] at e
      revert e; decide +kernel
  rcases begin2_eff (V := V) h.tidy (by omega) with ⟨b1, b2, b3, b4⟩ | ⟨b1, b2, b3, b4, b5, b6, b7, b8, b9⟩
  · exact .inl ⟨b1, b2, h.same b3 (fun n hn => b4 _ (hne n hn) (hnm n hn).2) (b4 _ hmn fun e => tn' e.symm)⟩
  · rw [hv.segs] at b3 b8
    have hA : A.length + 1 + 1 ≤ 64 := by simpa [nums] using b3
    have hnums : nums (A ++ [(no, l)]) = nums A ++ [no] := by simp [nums]
    refine .inr ⟨b1, by rw [b5], ⟨b6, fun y hy => ?_, ⟨0, b7, by simp [evFrs], Nat.zero_le _⟩, Nat.le_refl _, by rw [hnums]; exact b8, ?_, ?_, by rw [evsOf_snoc, List.append_nil]; exact h.evs, by simpa using hA⟩, ⟨by rw [b5, hnums, hv.segs], by rw [b5]; simp [evFrs], by rw [b5]; simp only; omega⟩, by rw [b5]⟩
    · rcases List.mem_append.1 hy with h1 | h1
      · have hm : y.1 ∈ nums A ++ [no] := List.mem_append_left _ (List.mem_map.2 ⟨y, h1, rfl⟩)
        rw [b9 _ (hne _ hm) (hnm _ hm).2 (hnm _ hm).1]; exact h.full y h1
      · rw [List.mem_singleton] at h1
        subst h1
        have hm : no ∈ nums A ++ [no] := List.mem_append_right _ (List.mem_singleton.2 rfl)
        obtain ⟨s, g1, g2, g3⟩ := h.last
        rw [List.take_length] at g2
        have hs : s = (evFrs l).length := by omega
        show aget _ (segNm no) = _
        rw [b9 _ (hne _ hm) (hnm _ hm).2 (hnm _ hm).1, g1, hs]; rfl
    · rw [hnums]
      intro n hn
      rcases List.mem_append.1 hn with h1 | h1
      · exact h.rng n h1
      · have := List.mem_singleton.1 h1; omega
    · rw [hnums, List.pairwise_append]
      exact ⟨h.rise, List.pairwise_singleton _ _, fun n hn m hm => by have := List.mem_singleton.1 hm; have := hlt n hn; omega⟩

/-- A SEGMENT BEGUN -/
theorem Held.begin (h : Held D A no l k) (hv : VOk V A no l) : ((logBegin V D).1 ≠ 0 ∧ (logBegin V D).2.1 = V ∧ Held (logBegin V D).2.2 A no l k) ∨
    ((logBegin V D).1 = 0 ∧ (logBegin V D).2.1.size = V.size ∧ Held (logBegin V D).2.2 (A ++ [(no, l)]) V.next [] 0 ∧ VOk (logBegin V D).2.1 (A ++ [(no, l)]) V.next [] ∧ (logBegin V D).2.1.next = V.next + 1) := by
  have hne : ¬ V.segs = [] := by rw [hv.segs]; simp
  have e : logBegin V D = if (D.sync (segNm no)).1 ≠ 0 then ((D.sync (segNm no)).1, V, (D.sync (segNm no)).2) else Go.Proofs.YtpbpjojdfcdbbaaGreatDoor.begin2 V (D.sync (segNm no)).2 := by
    unfold logBegin; rw [if_neg hne, Held.lastNm hv]
  rw [e]
  rcases held_sync h with ⟨s1, s2⟩ | ⟨s1, s2⟩
  · rw [if_neg (by simpa using s1)]
    rcases s2.begin2 hv with ⟨b1, b2, b3⟩ | b
    · exact .inl ⟨b1, b2, b3.mono h.kl⟩
    · exact .inr b
  · rw [if_pos s1]; exact .inl ⟨s1, rfl, s2⟩
end
end Go.Proofs.YtpbpjojdfcdbbaaGreatDoor

/- seglog, in plain Lean: events laid, a log opened -/
namespace Go.Proofs.YtpbpjojdfcdbbaaGreatDoor
open Go.Lift
set_option linter.unusedVariables false
set_option maxRecDepth 20000

theorem segLoad_all {l : List EventV} (h : ∀ e ∈ l, e.Ok ∧ e.deps.length ≤ 64) : segLoad (evFrs l) = (l, (evFrs l).length) := by
  have := segLoad_evs h []
  rw [List.append_nil, segLoad_nil] at this
  simpa using this
theorem evFrs_pre (l : List EventV) (q : Nat) : (evFrs l).take (evFrs (l.take q)).length = evFrs (l.take q) := by
  conv => lhs; rw [← List.take_append_drop q l, evFrs_append]
  rw [show (List.take q (List.take q l ++ List.drop q l)) = l.take q by rw [List.take_append_drop]]
  exact List.take_left

/-! the next number -/
theorem segNoV_nm {n : Int} (h : 0 ≤ n ∧ n < 1000000000000) : segNoV (segNm n) = (n, true) := by
  unfold segNoV segNm
  rw [txt_list, segNo_name h.1 h.2]
  simp; omega
theorem step_ge (n : Int) (s : ByteArray) : n ≤ nextStep n s := by unfold nextStep; split <;> omega
theorem fold_ge : ∀ (l : List ByteArray) (n : Int), n ≤ l.foldl nextStep n
  | [], n => Int.le_refl n
  | s :: l, n => Int.le_trans (step_ge n s) (fold_ge l _)
theorem fold_mem : ∀ (l : List ByteArray) (n : Int) {s : ByteArray}, s ∈ l → (segNoV s).2 = true → (segNoV s).1 + 1 ≤ l.foldl nextStep n
  | t :: l, n, s, hs, h2 => by
    rcases List.mem_cons.1 hs with rfl | hs
    · refine Int.le_trans ?_ (fold_ge l _)
      unfold nextStep; rw [if_pos h2]; omega
    · exact fold_mem l _ hs h2
theorem nextV_gt {D : DiskV} {n : Int} (h : 0 ≤ n ∧ n < 1000000000000) (hs : (aget D.files (segNm n)).isSome = true) : n < nextV D := by
  have h1 := fold_mem D.list 1 (mem_list'.2 hs) (by rw [segNoV_nm h])
  rw [segNoV_nm h] at h1
  unfold nextV nextL
  simp only at h1
  omega

section
variable {D E : DiskV} {A : Segs} {no : Int} {l x : List EventV} {k j n s : Nat} {V : LogV}
def dur (A : Segs) (k : Nat) : Nat := ((A.map (·.2)).flatten).length + k
/-- all but the last are full -/
def Fat (size : Int) (A : Segs) : Prop := ∀ y ∈ A, size ≤ ((evFrs y.2).length : Nat)

/-- EVENTS LAID -/
theorem held_append (h : Held D A no l k) (hv : VOk V A no l) (hx : ∀ e ∈ x, e.Ok) (hl : x.length ≤ 1000) (hok : D.Ok) (hfat : Fat V.size A) :
    ∃ A' no' l' k', Held (logAppend V D x).2.2 A' no' l' k' ∧ VOk (logAppend V D x).2.1 A' no' l' ∧ dur A k ≤ dur A' k' ∧ evsOf A' l' = (if (logAppend V D x).1 = 0 then evsOf A l ++ x else evsOf A l) ∧ (logAppend V D x).2.1.size = V.size ∧ Fat V.size A' ∧
      ((A' = A ∧ no' = no ∧ (logAppend V D x).2.1.next = V.next) ∨ (A' = A ++ [(no, l)] ∧ no' = V.next ∧ (logAppend V D x).2.1.next = V.next + 1)) := by
  unfold logAppend
  by_cases h3 : x.any tooLong = true
  · rw [if_pos h3]
    exact ⟨A, no, l, k, h, hv, Nat.le_refl _, rfl, rfl, hfat, .inl ⟨rfl, rfl, rfl⟩⟩
  rw [if_neg h3]
  by_cases h4 : x = []
  · rw [if_pos h4]
    exact ⟨A, no, l, k, h, hv, Nat.le_refl _, by rw [if_pos rfl, h4, List.append_nil], rfl, hfat, .inl ⟨rfl, rfl, rfl⟩⟩
  rw [if_neg h4]
  have hxe : ∀ e ∈ x, e.Ok ∧ e.deps.length ≤ 64 := fun e he => ⟨hx e he, by
    have : ¬ tooLong e = true := fun hc => h3 (List.any_eq_true.2 ⟨e, he, hc⟩)
    unfold tooLong at this
    simp at this; omega⟩
  have hxl := evFrs_le hxe
  have hll : (evFrs l).length ≤ 262144 := by
    obtain ⟨s, g1, _⟩ := h.last
    exact hok.len (aget_mem g1)
  /- behind the beginning of a segment -/
  have main : ∀ (r : Int × LogV × DiskV) (A' : Segs) (no' : Int) (l' : List EventV) (k' : Nat), r.1 = 0 → Held r.2.2 A' no' l' k' → VOk r.2.1 A' no' l' → (evFrs l').length ≤ 262144 → dur A k ≤ dur A' k' → evsOf A' l' = evsOf A l → r.2.1.size = V.size → Fat V.size A' →
      ((A' = A ∧ no' = no ∧ r.2.1.next = V.next) ∨ (A' = A ++ [(no, l)] ∧ no' = V.next ∧ r.2.1.next = V.next + 1)) →
      ∃ A' no' l' k', Held (if r.1 ≠ 0 then r else if (r.2.2.append r.2.1.last (evFrs x)).1 ≠ 0 then ((r.2.2.append r.2.1.last (evFrs x)).1, r.2.1, (r.2.2.append r.2.1.last (evFrs x)).2) else (0, ⟨r.2.1.size, r.2.1.segs, IntKind.wrap .i64 (r.2.1.bytes + ((evFrs x).length : Nat)), r.2.1.next⟩, (r.2.2.append r.2.1.last (evFrs x)).2)).2.2 A' no' l' k' ∧
        VOk (if r.1 ≠ 0 then r else if (r.2.2.append r.2.1.last (evFrs x)).1 ≠ 0 then ((r.2.2.append r.2.1.last (evFrs x)).1, r.2.1, (r.2.2.append r.2.1.last (evFrs x)).2) else (0, ⟨r.2.1.size, r.2.1.segs, IntKind.wrap .i64 (r.2.1.bytes + ((evFrs x).length : Nat)), r.2.1.next⟩, (r.2.2.append r.2.1.last (evFrs x)).2)).2.1 A' no' l' ∧ dur A k ≤ dur A' k' ∧
        evsOf A' l' = (if (if r.1 ≠ 0 then r else if (r.2.2.append r.2.1.last (evFrs x)).1 ≠ 0 then ((r.2.2.append r.2.1.last (evFrs x)).1, r.2.1, (r.2.2.append r.2.1.last (evFrs x)).2) else (0, ⟨r.2.1.size, r.2.1.segs, IntKind.wrap .i64 (r.2.1.bytes + ((evFrs x).length : Nat)), r.2.1.next⟩, (r.2.2.append r.2.1.last (evFrs x)).2)).1 = 0 then evsOf A l ++ x else evsOf A l) ∧
        (if r.1 ≠ 0 then r else if (r.2.2.append r.2.1.last (evFrs x)).1 ≠ 0 then ((r.2.2.append r.2.1.last (evFrs x)).1, r.2.1, (r.2.2.append r.2.1.last (evFrs x)).2) else (0, ⟨r.2.1.size, r.2.1.segs, IntKind.wrap .i64 (r.2.1.bytes + ((evFrs x).length : Nat)), r.2.1.next⟩, (r.2.2.append r.2.1.last (evFrs x)).2)).2.1.size = V.size ∧ Fat V.size A' ∧
        ((A' = A ∧ no' = no ∧ (if r.1 ≠ 0 then r else if (r.2.2.append r.2.1.last (evFrs x)).1 ≠ 0 then ((r.2.2.append r.2.1.last (evFrs x)).1, r.2.1, (r.2.2.append r.2.1.last (evFrs x)).2) else (0, ⟨r.2.1.size, r.2.1.segs, IntKind.wrap .i64 (r.2.1.bytes + ((evFrs x).length : Nat)), r.2.1.next⟩, (r.2.2.append r.2.1.last (evFrs x)).2)).2.1.next = V.next) ∨
          (A' = A ++ [(no, l)] ∧ no' = V.next ∧ (if r.1 ≠ 0 then r else if (r.2.2.append r.2.1.last (evFrs x)).1 ≠ 0 then ((r.2.2.append r.2.1.last (evFrs x)).1, r.2.1, (r.2.2.append r.2.1.last (evFrs x)).2) else (0, ⟨r.2.1.size, r.2.1.segs, IntKind.wrap .i64 (r.2.1.bytes + ((evFrs x).length : Nat)), r.2.1.next⟩, (r.2.2.append r.2.1.last (evFrs x)).2)).2.1.next = V.next + 1)) := by
    intro r A' no' l' k' r0 hh hv' hb hd he hs hf hc
    rw [if_neg (by simpa using r0)]
    rw [Held.lastNm hv']
    rcases append_eff r.2.2 (segNm no') (evFrs x) with ⟨a1, a2⟩ | ⟨a1, f, hf', a2⟩
    · rw [if_pos a1]
      exact ⟨A', no', l', k', hh.files a2, hv', hd, by rw [if_neg a1]; exact he, hs, hf, hc⟩
    · rw [if_neg (by simpa using a1)]
      obtain ⟨s, g1, g2, g3⟩ := hh.last
      rw [g1] at hf'; cases hf'
      refine ⟨A', no', l' ++ x, k', hh.put (s := s) (by rw [a2, evFrs_append]) (by have := hh.kl; simp; omega) ?_ (by rw [evFrs_append]; simp; omega) ?_, ⟨hv'.segs, ?_, hv'.next⟩, hd, ?_, hs, hf, hc⟩
      · rw [List.take_append_of_le_length hh.kl]; exact g2
      · intro e hee
        rcases List.mem_append.1 hee with h' | h'
        · exact hh.evl e h'
        · exact hxe e h'
      · show IntKind.wrap .i64 _ = _
        rw [hv'.bytes, wrap_i64 (by unfold I64; omega), evFrs_append]; simp
      · rw [if_pos rfl, ← he]; simp [evsOf]
  dsimp only
  by_cases hc : V.size ≤ V.bytes
  · rw [if_pos hc]
    rcases h.begin hv with ⟨b1, b2, b3⟩ | ⟨b1, b2, b3, b4, b5⟩
    · rw [if_pos b1]
      exact ⟨A, no, l, k, b3, by rw [b2]; exact hv, Nat.le_refl _, by rw [if_neg b1], by rw [b2], hfat, .inl ⟨rfl, rfl, by rw [b2]⟩⟩
    · refine main _ (A ++ [(no, l)]) V.next [] 0 b1 b3 b4 (by simp [evFrs]) ?_ (by rw [evsOf_snoc, List.append_nil]) b2 ?_ (.inr ⟨rfl, rfl, b5⟩)
      · have := h.kl; unfold dur; simp; omega
      · intro y hy
        rcases List.mem_append.1 hy with h' | h'
        · exact hfat y h'
        · rw [List.mem_singleton] at h'; subst h'
          rw [hv.bytes] at hc; exact hc
  · rw [if_neg hc]
    exact main (0, V, D) A no l k rfl h hv hll (Nat.le_refl _) rfl rfl hfat (.inl ⟨rfl, rfl, rfl⟩)

/-! without a fuse -/
theorem begin2_alive (ha : Alive D) (ht : Tidy D.files) (hn : 0 ≤ V.next ∧ V.next < 1000000000000) (hf : aget D.files (segNm V.next) = none) :
    Alive (begin2 V D).2.2 ∧ ((begin2 V D).1 = 0 ∨ (begin2 V D).1 = 3 ∨ (begin2 V D).1 = 12) ∧ ((begin2 V D).1 ≠ 0 → aget (begin2 V D).2.2.files (segNm V.next) = none) := by
  obtain ⟨nm, nt⟩ := segNm_ne (n := V.next) (.inr hn)
  unfold begin2
  dsimp only
  rw [show txt (segName V.next) = segNm V.next from rfl]
  obtain ⟨a1, a2⟩ := ha.create (segNm V.next)
  have a2 := a2 ((segNm_name hn.1).2 hn.2) hf
  rcases create_eff D (segNm V.next) with ⟨c1, c2⟩ | ⟨c1, c2, c3, c4⟩
  · rw [if_pos c1]
    exact ⟨a1, a2.imp id .inr, fun _ => by show aget (D.create _).2.files _ = none; rw [c2]; exact hf⟩
  rw [if_neg (show ¬ (D.create (segNm V.next)).1 ≠ 0 by simpa using c1)]
  have t1 : But (segNm V.next) D (D.create (segNm V.next)).2 := (But.refl ht).put c4
  have g1 : aget (D.create (segNm V.next)).2.files (segNm V.next) = some ⟨[], 0, false⟩ := by rw [c4, aget_aput]; simp
  generalize (D.create (segNm V.next)).2 = D1 at t1 g1 a1
  unfold begin3
  dsimp only
  rw [show txt (segName V.next) = segNm V.next from rfl]
  obtain ⟨s1, s2⟩ := a1.sync (segNm V.next)
  have s2 := s2 _ g1
  rw [if_neg (show ¬ (D1.sync (segNm V.next)).1 ≠ 0 by simpa using s2)]
  have t2 : Tidy (D1.sync (segNm V.next)).2.files := by
    rcases sync_eff D1 (segNm V.next) with ⟨d1, d2⟩ | ⟨d1, f, hf, d2⟩
    · rw [d2]; exact t1.1
    · rw [d2]; exact t1.1.aput _ _
  generalize (D1.sync (segNm V.next)).2 = D2 at t2 s1
  obtain ⟨m1, m2⟩ := s1.mfWrite t2 (V.segs ++ [V.next])
  have mt : Tidy (mfWrite D2 (V.segs ++ [V.next])).2.files := by
    rcases mf_eff t2 (V.segs ++ [V.next]) with ⟨-, e, -⟩ | ⟨-, -, e, -⟩ <;> exact e
  by_cases h0 : (mfWrite D2 (V.segs ++ [V.next])).1 = 0
  · rw [if_neg (by simpa using h0)]
    exact ⟨m1, .inl rfl, fun h => absurd rfl h⟩
  · rw [if_pos h0]
    obtain ⟨d1, d2⟩ := m1.delete (segNm V.next)
    refine ⟨d1, m2, fun _ => ?_⟩
    show aget ((mfWrite D2 (V.segs ++ [V.next])).2.delete (segNm V.next)).2.files _ = none
    rcases d2 with d2 | ⟨d2, d3⟩
    · rw [d2, aget_adel mt]; simp
    · rw [d3]; exact d2

/-- no file of a number from the next one on -/
def Fresh (V : LogV) (D : DiskV) : Prop := ∀ m, V.next ≤ m → m < 1000000000000 → aget D.files (segNm m) = none

theorem Held.begin_alive (h : Held D A no l k) (hv : VOk V A no l) (ha : Alive D) (hf : Fresh V D) (hn : V.next < 1000000000000) :
    Alive (logBegin V D).2.2 ∧ ((logBegin V D).1 = 0 ∨ (logBegin V D).1 = 3 ∨ (logBegin V D).1 = 12) ∧ Fresh (logBegin V D).2.1 (logBegin V D).2.2 := by
  have hne : ¬ V.segs = [] := by rw [hv.segs]; simp
  have hnr := h.no_rng
  have hvn := hv.next
  have e : logBegin V D = if (D.sync (segNm no)).1 ≠ 0 then ((D.sync (segNm no)).1, V, (D.sync (segNm no)).2) else Go.Proofs.YtpbpjojdfcdbbaaGreatDoor.begin2 V (D.sync (segNm no)).2 := by
    unfold logBegin; rw [if_neg hne, Held.lastNm hv]
  obtain ⟨s, g1, _⟩ := h.last
  obtain ⟨s1, s2⟩ := ha.sync (segNm no)
  have s2 := s2 _ g1
  rw [e, if_neg (by simpa using s2)]
  have hnen : ∀ m, V.next ≤ m → m < 1000000000000 → segNm m ≠ segNm no := fun m h1 h2 e => by
    have := segNm_inj (a := no) (by omega) e; omega
  have f1 : ∀ m, V.next ≤ m → m < 1000000000000 → aget (D.sync (segNm no)).2.files (segNm m) = none := fun m h1 h2 => by
    rcases sync_eff D (segNm no) with ⟨d1, d2⟩ | ⟨d1, f, hf', d2⟩
    · rw [d2]; exact hf m h1 h2
    · rw [d2, aget_aput, if_neg (by simpa using hnen m h1 h2)]; exact hf m h1 h2
  have t1 : Tidy (D.sync (segNm no)).2.files := by
    rcases sync_eff D (segNm no) with ⟨d1, d2⟩ | ⟨d1, f, hf', d2⟩
    · rw [d2]; exact h.tidy
    · rw [d2]; exact h.tidy.aput _ _
  generalize (D.sync (segNm no)).2 = D1 at s1 f1 t1
  obtain ⟨b1, b2, b3⟩ := begin2_alive s1 t1 ⟨by omega, hn⟩ (f1 _ (Int.le_refl _) hn)
  refine ⟨b1, b2, ?_⟩
  have hnm : ∀ m, V.next ≤ m → m < 1000000000000 → segNm m ≠ mName ∧ segNm m ≠ mTemp := fun m h1 h2 => segNm_ne (.inr (by omega))
  rcases begin2_eff (V := V) t1 (by omega) with ⟨c1, c2, c3, c4⟩ | ⟨c1, c2, c3, c4, c5, c6, c7, c8, c9⟩
  · rw [c2]
    intro m h1 h2
    by_cases hm : m = V.next
    · subst hm; exact b3 c1
    · rw [c4 _ (fun e => hm (segNm_inj (a := V.next) (by omega) e)) (hnm m h1 h2).2]; exact f1 m h1 h2
  · rw [c5]
    intro m h1 h2
    simp only at h1
    rw [c9 _ (fun e => by have := segNm_inj (a := V.next) (by omega) e; omega) (hnm m (by omega) h2).2 (hnm m (by omega) h2).1]; exact f1 m (by omega) h2

theorem append_alive (h : Held D A no l k) (hv : VOk V A no l) (ha : Alive D) (hf : Fresh V D) (hn : V.next < 1000000000000) (x : List EventV) :
    Alive (logAppend V D x).2.2 ∧ ((logAppend V D x).1 = 0 ∨ (logAppend V D x).1 = 3 ∨ (logAppend V D x).1 = 12) ∧ Fresh (logAppend V D x).2.1 (logAppend V D x).2.2 := by
  unfold logAppend
  split
  · exact ⟨ha, .inr (.inl rfl), hf⟩
  split
  · exact ⟨ha, .inl rfl, hf⟩
  dsimp only
  have main : ∀ (r : Int × LogV × DiskV) (A' : Segs) (no' : Int) (l' : List EventV) (k' : Nat), r.1 = 0 → Held r.2.2 A' no' l' k' → VOk r.2.1 A' no' l' → Alive r.2.2 → Fresh r.2.1 r.2.2 →
      Alive (if (r.2.2.append r.2.1.last (evFrs x)).1 ≠ 0 then ((r.2.2.append r.2.1.last (evFrs x)).1, r.2.1, (r.2.2.append r.2.1.last (evFrs x)).2) else (0, ⟨r.2.1.size, r.2.1.segs, IntKind.wrap .i64 (r.2.1.bytes + ((evFrs x).length : Nat)), r.2.1.next⟩, (r.2.2.append r.2.1.last (evFrs x)).2) : Int × LogV × DiskV).2.2 ∧
      ((if (r.2.2.append r.2.1.last (evFrs x)).1 ≠ 0 then ((r.2.2.append r.2.1.last (evFrs x)).1, r.2.1, (r.2.2.append r.2.1.last (evFrs x)).2) else (0, ⟨r.2.1.size, r.2.1.segs, IntKind.wrap .i64 (r.2.1.bytes + ((evFrs x).length : Nat)), r.2.1.next⟩, (r.2.2.append r.2.1.last (evFrs x)).2) : Int × LogV × DiskV).1 = 0 ∨
        (if (r.2.2.append r.2.1.last (evFrs x)).1 ≠ 0 then ((r.2.2.append r.2.1.last (evFrs x)).1, r.2.1, (r.2.2.append r.2.1.last (evFrs x)).2) else (0, ⟨r.2.1.size, r.2.1.segs, IntKind.wrap .i64 (r.2.1.bytes + ((evFrs x).length : Nat)), r.2.1.next⟩, (r.2.2.append r.2.1.last (evFrs x)).2) : Int × LogV × DiskV).1 = 3 ∨
        (if (r.2.2.append r.2.1.last (evFrs x)).1 ≠ 0 then ((r.2.2.append r.2.1.last (evFrs x)).1, r.2.1, (r.2.2.append r.2.1.last (evFrs x)).2) else (0, ⟨r.2.1.size, r.2.1.segs, IntKind.wrap .i64 (r.2.1.bytes + ((evFrs x).length : Nat)), r.2.1.next⟩, (r.2.2.append r.2.1.last (evFrs x)).2) : Int × LogV × DiskV).1 = 12) ∧
      Fresh (if (r.2.2.append r.2.1.last (evFrs x)).1 ≠ 0 then ((r.2.2.append r.2.1.last (evFrs x)).1, r.2.1, (r.2.2.append r.2.1.last (evFrs x)).2) else (0, ⟨r.2.1.size, r.2.1.segs, IntKind.wrap .i64 (r.2.1.bytes + ((evFrs x).length : Nat)), r.2.1.next⟩, (r.2.2.append r.2.1.last (evFrs x)).2) : Int × LogV × DiskV).2.1 (if (r.2.2.append r.2.1.last (evFrs x)).1 ≠ 0 then ((r.2.2.append r.2.1.last (evFrs x)).1, r.2.1, (r.2.2.append r.2.1.last (evFrs x)).2) else (0, ⟨r.2.1.size, r.2.1.segs, IntKind.wrap .i64 (r.2.1.bytes + ((evFrs x).length : Nat)), r.2.1.next⟩, (r.2.2.append r.2.1.last (evFrs x)).2) : Int × LogV × DiskV).2.2 := by
    intro r A' no' l' k' r0 hh hv' ha' hf'
    rw [Held.lastNm hv']
    obtain ⟨s, g1, _⟩ := hh.last
    obtain ⟨p1, p2⟩ := ha'.append (segNm no') (evFrs x)
    have p2 := p2 _ g1
    have hfr : ∀ m, r.2.1.next ≤ m → m < 1000000000000 → aget (r.2.2.append (segNm no') (evFrs x)).2.files (segNm m) = none := fun m h1 h2 => by
      rcases append_eff r.2.2 (segNm no') (evFrs x) with ⟨a1, a2⟩ | ⟨a1, f, hff, a2⟩
      · rw [a2]; exact hf' m h1 h2
      · have := hh.no_rng; have := hv'.next
        rw [a2, aget_aput, if_neg (by simpa using fun e => by have := segNm_inj (a := no') (by omega) e; omega)]; exact hf' m h1 h2
    split
    · exact ⟨p1, p2.imp id .inr, hfr⟩
    · exact ⟨p1, .inl rfl, hfr⟩
  by_cases hc : V.size ≤ V.bytes
  · rw [if_pos hc]
    obtain ⟨b1, b2, b3⟩ := h.begin_alive hv ha hf hn
    by_cases h0 : (logBegin V D).1 = 0
    · rw [if_neg (by simpa using h0)]
      rcases h.begin hv with ⟨c1, -⟩ | ⟨c1, c2, c3, c4, c5⟩
      · exact absurd h0 c1
      · exact main _ _ _ _ _ h0 c3 c4 b1 b3
    · rw [if_pos h0]; exact ⟨b1, b2, b3⟩
  · rw [if_neg hc, if_neg (fun hc : ((0, V, D) : Int × LogV × DiskV).1 ≠ 0 => hc rfl)]
    exact main (0, V, D) _ _ _ _ rfl h hv ha hf
end
end Go.Proofs.YtpbpjojdfcdbbaaGreatDoor

/- seglog, in plain Lean: a log opened -/
namespace Go.Proofs.YtpbpjojdfcdbbaaGreatDoor
open Go.Lift
set_option linter.unusedVariables false
set_option maxRecDepth 20000

section
variable {D E : DiskV} {A : Segs} {no : Int} {l x : List EventV} {k j n s : Nat} {V : LogV}
theorem Alive.read (ha : Alive D) {nm : ByteArray} {f : FileV} (hf : aget D.files nm = some f) : D.read nm = (f.bytes, 0) := by
  unfold DiskV.read; rw [ha.dead, hf]; rfl
theorem Alive.told (ha : Alive D) {L : List Int} (hm : aget D.files mName = some (fullF (mfBytes L))) (hr : ∀ x ∈ L, I64 x) (hl : L.length ≤ 64) : told D = L := by
  unfold Go.Proofs.YtpbpjojdfcdbbaaGreatDoor.told mfTell
  rw [ha.read hm, if_neg (by simp), show (fullF (mfBytes L)).bytes = mfBytes L from rfl, mfRead_bytes hr hl]; rfl

theorem loadGo_full (ha : Alive D) : ∀ (A : Segs) (rest : List Int) (out : List EventV) (V : LogV), (∀ x ∈ A, aget D.files (segNm x.1) = some (fullF (evFrs x.2))) → (∀ e ∈ (A.map (·.2)).flatten, e.Ok ∧ e.deps.length ≤ 64) →
    ∃ b, loadGo (nums A ++ rest) out V D = loadGo rest (out ++ (A.map (·.2)).flatten) ⟨V.size, V.segs ++ nums A, b, V.next⟩ D
  | [], rest, out, V, _, _ => ⟨V.bytes, by simp [nums]⟩
  | y :: A, rest, out, V, hf, he => by
    have hr := ha.read (hf y (List.mem_cons_self ..))
    have hs := segLoad_all (l := y.2) fun e hh => he e (by simp only [List.map_cons, List.flatten_cons]; exact List.mem_append_left _ hh)
    obtain ⟨b, hb⟩ := loadGo_full ha A rest (out ++ y.2) ⟨V.size, V.segs ++ [y.1], ((evFrs y.2).length : Nat), V.next⟩ (fun x hx => hf x (List.mem_cons_of_mem _ hx)) fun e hh => he e (by simp only [List.map_cons, List.flatten_cons]; exact List.mem_append_right _ hh)
    refine ⟨b, ?_⟩
    have e1 : nums (y :: A) ++ rest = y.1 :: (nums A ++ rest) := rfl
    rw [e1]
    conv => lhs; unfold loadGo
    have e2 : (fullF (evFrs y.2)).bytes = evFrs y.2 := rfl
    rw [hr, if_neg (by simp), e2]
    dsimp only
    rw [hs, if_neg (by simp)]
    dsimp only
    rw [hb]
    simp [nums, List.append_assoc]

/-- OPENED -/
theorem open_held {size : Int} (ha : Alive D) (ht : Tidy D.files) (h : Held E A no l k) (hfull : ∀ x ∈ A, aget D.files (segNm x.1) = some (fullF (evFrs x.2))) (hman : aget D.files mName = some (fullF (mfBytes (nums A ++ [no]))))
    (hlast : aget D.files (segNm no) = some ⟨(evFrs l).take n, s, true⟩) (hs : s ≤ min n (evFrs l).length) (hk : (evFrs (l.take k)).length ≤ s) :
    ∃ q, k ≤ q ∧ q ≤ l.length ∧ ((evFrs l).length ≤ n → q = l.length) ∧ (logOpen D size).no = 0 ∧ (logOpen D size).out = evsOf A (l.take q) ∧ VOk (logOpen D size).V A no (l.take q) ∧ (logOpen D size).V.size = size ∧ (logOpen D size).V.next = nextV D ∧
      Held (logOpen D size).D A no (l.take q) k ∧ Alive (logOpen D size).D ∧ (s = min n (evFrs l).length → Held (logOpen D size).D A no (l.take q) q) ∧ ∀ x, x ≠ segNm no → aget (logOpen D size).D.files x = aget D.files x := by
  have hel := h.evl
  obtain ⟨q, q1, q2, q3, q4⟩ := segLoad_torn hel n
  have hqt := evFrs_take_le l q
  have hkq : k ≤ q := by
    refine Nat.le_of_not_lt fun hlt => ?_
    have h1 := q4 (by have := h.kl; omega)
    have h2 := evFrs_take (l := l) (i := q + 1) (j := k) hlt
    omega
  have hqa : (evFrs l).length ≤ n → q = l.length := fun hn => by
    refine Nat.le_antisymm q1 (Nat.le_of_not_lt fun hlt => ?_)
    have h1 := q4 hlt
    have h2 := evFrs_take_le l (q + 1)
    omega
  have hnI : ∀ x ∈ nums A ++ [no], I64 x := fun x hx => by have := h.rng x hx; unfold I64; omega
  have hnl : (nums A ++ [no]).length ≤ 64 := by have := h.many; simpa [nums] using this
  have htold := ha.told hman hnI hnl
  obtain ⟨b, hb⟩ := loadGo_full ha A [no] [] (logStart D size) hfull fun e he => h.evs e (List.mem_append_left _ he)
  have hr := ha.read hlast
  simp only at hr
  have hrl : ((evFrs l).take n).length = min n (evFrs l).length := List.length_take
  have hnx : no < nextV D := nextV_gt (by have := h.no_rng; omega) (by rw [hlast]; rfl)
  have hnx2 := nextL_rng D.list
  have hev : ∀ e ∈ l.take q, e.Ok ∧ e.deps.length ≤ 64 := fun e he => hel e (List.mem_of_mem_take he)
  have hH : Held ⟨D.most, aput D.files (segNm no) ⟨evFrs l, (evFrs l).length, true⟩, D.fused, D.left, D.dead⟩ A no l k := by
    have hne := h.no_ne
    have hm := (segNm_ne (n := no) (.inr (by have := h.no_rng; omega))).1
    exact ⟨ht.aput _ _, fun x hx => by show aget (aput _ _ _) _ = _; rw [aget_aput, if_neg (by simpa using hne x hx)]; exact hfull x hx, ⟨_, by show aget (aput _ _ _) _ = _; rw [aget_aput]; simp, by exact evFrs_take_le l k, Nat.le_refl _⟩, h.kl, by show aget (aput _ _ _) _ = _; rw [aget_aput, if_neg (by simpa using hm.symm)]; exact hman, h.rng, h.rise, h.evs, h.many⟩
  have hlo : loadGo (told D) [] (logStart D size) D = loadGo [no] ((A.map (·.2)).flatten) ⟨size, nums A, b, nextV D⟩ D := by
    rw [htold, hb]; simp [logStart]
  have hone : loadGo [no] ((A.map (·.2)).flatten) ⟨size, nums A, b, nextV D⟩ D =
      if (evFrs (l.take q)).length < ((evFrs l).take n).length then ⟨(D.cutF (segNm no) (evFrs (l.take q)).length).1, evsOf A (l.take q), ⟨size, nums A ++ [no], ((evFrs (l.take q)).length : Nat), nextV D⟩, (D.cutF (segNm no) (evFrs (l.take q)).length).2⟩
      else ⟨0, evsOf A (l.take q), ⟨size, nums A ++ [no], ((evFrs (l.take q)).length : Nat), nextV D⟩, D⟩ := by
    unfold loadGo
    rw [hr, if_neg (by simp)]
    dsimp only
    rw [q2]
    dsimp only
    split
    · rfl
    · unfold loadGo; rfl
  have hend : ∀ (r : Loaded), r.no = 0 → r.V.segs = nums A ++ [no] → openEnd (told D).length r = r := fun r r0 r1 => by
    unfold openEnd
    rw [if_neg (by simpa using r0), if_neg (by rw [r1]; simp), if_neg (by rw [r1, htold]; omega)]
  have hfin : logOpen D size = loadGo (told D) [] (logStart D size) D := by
    unfold logOpen
    rw [hlo, hone]
    split
    · exact hend _ (ha.cutF hlast _).1 rfl
    · exact hend _ rfl rfl
  rw [hfin, hlo, hone]
  refine ⟨q, hkq, q1, hqa, ?_⟩
  split
  · rename_i hcut
    obtain ⟨c1, c2, c3⟩ := ha.cutF hlast ((evFrs (l.take q)).length : Nat)
    have hcl : clampN ((evFrs (l.take q)).length : Nat) ((evFrs l).take n).length = (evFrs (l.take q)).length := by unfold clampN; omega
    have hcf : (⟨(evFrs l).take n, s, true⟩ : FileV).cut ((evFrs (l.take q)).length : Nat) = ⟨evFrs (l.take q), (evFrs (l.take q)).length, true⟩ := by
      unfold FileV.cut
      simp only [hcl]
      rw [List.take_take, Nat.min_eq_left q3, evFrs_pre]
    have hfs : (D.cutF (segNm no) ((evFrs (l.take q)).length : Nat)).2.files = aput D.files (segNm no) ⟨evFrs (l.take q), (evFrs (l.take q)).length, true⟩ := by
      rw [c2, hcf]; rfl
    have hh : ∀ k', k' ≤ q → Held (D.cutF (segNm no) ((evFrs (l.take q)).length : Nat)).2 A no (l.take q) k' := fun k' hk' =>
      hH.put (s := (evFrs (l.take q)).length) (by rw [hfs]; show _ = aput (aput _ _ _) _ _; rw [aput_aput]) (by simp; omega) (evFrs_take_le _ _) (Nat.le_refl _) hev
    refine ⟨c1, rfl, ⟨rfl, rfl, hnx, hnx2.2⟩, rfl, rfl, hh k hkq, c3, fun _ => hh q (Nat.le_refl _), fun x hx => ?_⟩
    show aget (D.cutF (segNm no) ((evFrs (l.take q)).length : Nat)).2.files x = _
    rw [hfs, aget_aput, if_neg (by simpa using hx)]
  · rename_i hall
    have heq : (evFrs (l.take q)).length = min n (evFrs l).length := by omega
    have hbs : (evFrs l).take n = evFrs (l.take q) := by
      rw [← evFrs_pre l q, heq, List.take_eq_take_iff]; omega
    have hh : ∀ k', k' ≤ q → (evFrs (l.take k')).length ≤ s → Held D A no (l.take q) k' := fun k' hk' hks =>
      ⟨ht, hfull, ⟨s, by rw [hlast, hbs], by rw [List.take_take, Nat.min_eq_left hk']; exact hks, by omega⟩, by simp; omega, hman, h.rng, h.rise, fun e he => (List.mem_append.1 he).elim (fun h' => h.evs e (List.mem_append_left _ h')) (hev e), h.many⟩
    exact ⟨rfl, rfl, ⟨rfl, rfl, hnx, hnx2.2⟩, rfl, rfl, hh k hkq hk, ha, fun he => hh q (Nat.le_refl _) (by omega), fun _ _ => rfl⟩

/-- opened anew, of a disk that lives -/
theorem open_anew {size : Int} (h : Held D A no l k) (ha : Alive D) : (logOpen D size).no = 0 ∧ (logOpen D size).out = evsOf A l ∧ VOk (logOpen D size).V A no l ∧ (logOpen D size).V.size = size ∧ (logOpen D size).V.next = nextV D ∧ Held (logOpen D size).D A no l k ∧ Alive (logOpen D size).D ∧
    ∀ x, x ≠ segNm no → aget (logOpen D size).D.files x = aget D.files x := by
  obtain ⟨s, g1, g2, g3⟩ := h.last
  obtain ⟨q, h1, h2, h3, h4, h5, h6, h7, h8, h9, h10, h11, h12⟩ := open_held (size := size) (n := (evFrs l).length) ha h.tidy h h.full h.man (by rw [List.take_length]; exact g1) (by omega) g2
  obtain rfl := h3 (Nat.le_refl _)
  rw [List.take_length] at h5 h6 h9
  exact ⟨h4, h5, h6, h7, h8, h9, h10, h12⟩
/-- opened behind a crash -/
theorem open_crash {size keep : Int} (h : Held D A no l k) : ∃ q, k ≤ q ∧ q ≤ l.length ∧ (logOpen (D.crash keep) size).no = 0 ∧ (logOpen (D.crash keep) size).out = evsOf A (l.take q) ∧ VOk (logOpen (D.crash keep) size).V A no (l.take q) ∧ (logOpen (D.crash keep) size).V.size = size ∧
    Held (logOpen (D.crash keep) size).D A no (l.take q) q ∧ Alive (logOpen (D.crash keep) size).D := by
  obtain ⟨s, g1, g2, g3⟩ := h.last
  obtain ⟨m, m1, m2, m3⟩ := cutK_some keep (evFrs l) g3
  have hl : aget (D.crash keep).files (segNm no) = some ⟨(evFrs l).take m, ((evFrs l).take m).length, true⟩ := by
    rw [crash_get h.tidy, g1]
    show (if true then some (cutK keep ⟨evFrs l, s, true⟩) else none) = _
    rw [m3]; rfl
  have hml : ((evFrs l).take m).length = m := by simp; omega
  rw [hml] at hl
  obtain ⟨q, h1, h2, h3, h4, h5, h6, h7, h8, h9, h10, h11, h12⟩ := open_held (size := size) (n := m) (crash_alive D keep) (crash_tidy h.tidy keep) h (fun x hx => crash_full h.tidy keep (h.full x hx)) (crash_full h.tidy keep h.man) hl (by omega) (by omega)
  exact ⟨q, h1, h2, h4, h5, h6, h7, h11 (by omega), h10⟩

theorem next_fresh (D : DiskV) : ∀ m, nextV D ≤ m → m < 1000000000000 → aget D.files (segNm m) = none := fun m h1 h2 => by
  have := nextL_rng D.list
  cases hc : aget D.files (segNm m) with
  | none => rfl
  | some f =>
    have := nextV_gt (D := D) (n := m) ⟨by unfold nextV at h1; omega, h2⟩ (by rw [hc]; rfl)
    omega

theorem open_new_eq (N : Nat) (size : Int) : logOpen (newD N) size = ⟨(begin2 ⟨size, [], 0, 1⟩ (newD N)).1, [], (begin2 ⟨size, [], 0, 1⟩ (newD N)).2.1, (begin2 ⟨size, [], 0, 1⟩ (newD N)).2.2⟩ := by
  have hn : nextV (newD N) = 1 := by simp [nextV, nextL, DiskV.list, newD, sortS]
  have e1 : told (newD N) = [] := by
    have : (newD N).read mName = ([], 14) := by simp [DiskV.read, newD, aget]
    unfold told mfTell; rw [this]; rfl
  have hV : (logStart (newD N) size) = ⟨size, [], 0, 1⟩ := by unfold logStart; rw [hn]
  unfold logOpen
  rw [e1, hV]
  unfold loadGo openEnd
  rw [if_neg (by simp), if_pos rfl]
  unfold logBegin
  rw [if_pos rfl]
/-- the first opening, of an empty disk -/
theorem open_new (N : Nat) (size : Int) : ((logOpen (newD N) size).no = 3 ∨ (logOpen (newD N) size).no = 12) ∨
    ((logOpen (newD N) size).no = 0 ∧ (logOpen (newD N) size).out = [] ∧ Held (logOpen (newD N) size).D [] 1 [] 0 ∧ VOk (logOpen (newD N) size).V [] 1 [] ∧ (logOpen (newD N) size).V.size = size ∧ (logOpen (newD N) size).V.next = 2 ∧ Alive (logOpen (newD N) size).D ∧ Fresh (logOpen (newD N) size).V (logOpen (newD N) size).D) := by
  have ha : Alive (newD N) := ⟨rfl, rfl⟩
  have ht : Tidy (newD N).files := by simp [Tidy, newD]
  rw [open_new_eq]
  obtain ⟨b1, b2, b3⟩ := begin2_alive (V := ⟨size, [], 0, 1⟩) ha ht ⟨by simp, by simp⟩ (by simp [newD, aget])
  rcases begin2_eff (D := newD N) (V := ⟨size, [], 0, 1⟩) ht (by simp) with ⟨c1, c2, c3, c4⟩ | ⟨c1, c2, c3, c4, c5, c6, c7, c8, c9⟩
  · exact .inl (b2.resolve_left c1)
  · refine .inr ⟨c1, rfl, ⟨c6, by simp, ⟨0, c7, by simp [evFrs], Nat.zero_le _⟩, Nat.le_refl _, c8, by simp [nums], by simp [nums], by simp [evsOf], by simp⟩, ⟨by rw [c5]; rfl, by rw [c5]; rfl, by rw [c5]; simp⟩, by rw [c5], by rw [c5]; rfl, b1, ?_⟩
    show Fresh (begin2 ⟨size, [], 0, 1⟩ (newD N)).2.1 (begin2 ⟨size, [], 0, 1⟩ (newD N)).2.2
    rw [c5]
    intro m h1 h2
    simp only at h1
    have hnm := segNm_ne (n := m) (.inr (by omega))
    rw [c9 _ (fun e => by have := segNm_inj (a := 1) (by omega) e; omega) hnm.2 hnm.1]
    simp [newD, aget]
end
end Go.Proofs.YtpbpjojdfcdbbaaGreatDoor

/- what each statement about segments asks: two frames, and half a third one -/
namespace Go.Lift
open Go
theorem Row.of_reps {α : Type} {c : Cod α} {bytes : Nat} {w : World} {D : Nat → Prop} {g : Nat} {e : TypeId} {f : Nat × Nat} {cs : List Value} {xs : List α} (hg : w.heap[g]? = some (.cells cs.toArray e f)) (hr : Reps c w D xs cs) (hD : D g) (hb : xs.length * bytes ≤ Big) :
    Row c bytes w D (some ⟨g, 0, none⟩) xs.length xs :=
  ⟨rfl, hb, fun i x hi => by
    obtain ⟨es, h1, h2⟩ := hr.at hi
    refine ⟨g, 0, es, rfl, lt_of_get hg, hD, fun j hj => ?_, h2⟩
    have hl := c.len h2
    have h3 := h1 j hj
    rw [List.getElem?_eq_getElem (show j < es.length by omega)] at h3 ⊢
    rw [Nat.zero_add]
    exact cell_at hg (by simpa using h3)⟩
theorem half_wrap {n : Nat} (h : n ≤ 1000000) : IntKind.wrap .i64 (Int.tdiv (n : Int) 2) = ((n / 2 : Nat) : Int) := by
  have : Int.tdiv (n : Int) 2 = ((n / 2 : Nat) : Int) := by rw [Int.tdiv_eq_ediv_of_nonneg (by omega)]; omega
  rw [this, wrap_i64 (by unfold I64; omega)]
end Go.Lift
namespace Go.Proofs.YtpbpjojdfcdbbaaGreatDoor
open Go.Lift
set_option linter.unusedVariables false
set_option maxRecDepth 20000

section
variable {w0 w w1 w' : World} {p : Nat} {D D' : DiskV} {X Y : Nat → Prop}
theorem NDisk.load {n : Int} (h : NDisk w0 w p D X) (hw : Laid w0) (hn : I64 n) : Calls Tryz.prog F_segment_Load #[.pointer (some ⟨p, 0, none⟩), .int .i64 n] w (Ok fun v w' =>
    ∃ a m c G, v = .tuple #[.slice a m c, .int .i64 ((segLoad (D.read (txt (segName n))).1).2 : Int)] ∧ Lst cEvO 39 G w' a m c (segLoad (D.read (txt (segName n))).1).1 ∧
      (∀ b, G b → w.heap.size ≤ b) ∧ NDisk w0 w' p D (fun b => X b ∨ G b) ∧ Grew w w' ∧ (segLoad (D.read (txt (segName n))).1).1.length ≤ 262144) := by
  obtain ⟨F, h1, h2⟩ := h
  refine Calls.ok (seg_Load (hw.grew h2.1) h1 hn) ?_
  rintro v w' ⟨a, m, c, G, rfl, ho, hk, hG, hl⟩
  exact ⟨a, m, c, G, rfl, ho, hG, NDisk.add ⟨F, h1, h2⟩ hk fun b hb => ⟨hG b hb, ho.dom b hb⟩, hk, hl⟩
/-- bytes of our own, appended -/
theorem NDisk.appendL {k : ByteArray} {a : Option Addr} {n c : Nat} {bs : List UInt8} {G : Nat → Prop} (h : NDisk w0 w p D X) (hb : Lst cU8 5 G w a n c bs) (hl : bs.length ≤ Big) (hG : ∀ b, G b → X b) :
    Calls Tryz.prog F_vdisk_Disk_Append #[.pointer (some ⟨p, 0, none⟩), .string k, .slice a n c] w (Ok (Does2 w0 w p X (D.append k bs))) :=
  h.append (hb.row (by decide) (by omega)) (fun e => hb.nil0 e) fun b hb => .inr (hG b hb)
end
theorem lst_evs {w : World} {G : Nat → Prop} {a : Option Addr} {n c : Nat} {l : List EventV} (h : Lst cEvO 39 G w a n c l) (hl : l.length ≤ 1000000) : Row cEv 96 w G a n l :=
  cEvO.row (h.row (by decide) (by unfold Big; omega))

theorem some_le {n : Int} (h : (evSome n).Ok) : (evFr (evSome n)).length ≤ 108 := by
  have := encInts_le (h.ints (by simp [evSome]))
  have hl : (evInts (evSome n)).length = 11 := by simp [evInts, evSome]
  unfold evFr
  rw [frBytes_length]; omega
theorem works_load : segLoad (evFr (evSome 1) ++ evFr (evSome 2) ++ (evFr (evSome 1)).take ((evFr (evSome 1)).length / 2)) = ([evSome 1, evSome 2], (evFr (evSome 1)).length + (evFr (evSome 2)).length) := by
  have o1 := evSome_ok (n := 1) (by decide) (by decide)
  have o2 := evSome_ok (n := 2) (by decide) (by decide)
  have h9 := evFr_length o1.1 o1.2
  have hend : segLoad ((evFr (evSome 1)).take ((evFr (evSome 1)).length / 2)) = ([], 0) :=
    segLoad_end (frGet_torn (by have := ev_le o1.1 o1.2; omega) (by show _ < (evFr (evSome 1)).length; omega))
  rw [List.append_assoc, segLoad_ev o1.1 o1.2, segLoad_ev o2.1 o2.2, hend]
  simp

def s7 : ByteArray := ⟨#[115, 101, 103, 46, 55]⟩
theorem s7_name : txt (segName 7) = s7 := by decide +kernel

end Go.Proofs.YtpbpjojdfcdbbaaGreatDoor

/- what the statements of chapter 22 share -/
namespace Go.Proofs.YtpbpjojdfcdbbaaGreatDoor
open Go.Lift
set_option linter.unusedVariables false
set_option maxRecDepth 20000

theorem law22_some {n : Int} {w : World} (h1 : 1 ≤ n) (h2 : n ≤ 1000) : Calls Tryz.prog F_law22_some #[.int .i64 n] w (Ok fun v w' => ∃ a m c F, v = .agg (evCells (evSome n) a m c).toArray ∧
    Lst cI64 3 F w' a m c (evSome n).deps ∧ (∀ b, F b → w.heap.size ≤ b) ∧ Grew w w') := by
  have e1 : IntKind.wrap .i64 (n - 1) = n - 1 := wrap_i64 (by unfold I64; omega)
  refine L_law22_some (PA.mk fun w1 k1 s1 g1 => PA.mk fun w2 k2 s2 g2 => ?_)
  have gq := k2.get g1 id
  rw [e1] at g2
  refine storeAll (evCells (evSome n) (some ⟨w1.heap.size, 0, none⟩) 1 1) gq rfl fun w3 k3 s3 g3 => ?_
  have gd := k3.get g2 (by omega)
  refine ⟨_, _, _, _, _, _, _, _, _, _, _, _, cell_at g3 rfl, cell_at g3 rfl, cell_at g3 rfl, cell_at g3 rfl, cell_at g3 rfl, cell_at g3 rfl, cell_at g3 rfl, cell_at g3 rfl, cell_at g3 rfl, cell_at g3 rfl,
    Ok.mk ⟨_, _, _, (· = w1.heap.size), rfl, ?_, ?_, ?_⟩⟩
  · refine ⟨⟨[.int .i64 (n - 1)], fun _ => False, Own.of_new (n := 1) (k := 1) gd rfl (by decide), ⟨[.int .i64 (n - 1)], [], rfl, ⟨rfl, by unfold I64; omega⟩, rfl⟩, fun _ h => h.elim⟩, fun b h => by cases h; rfl, fun b h => ?_⟩
    subst h; exact lt_of_get gd
  · rintro b rfl; omega
  · exact (k1.then k2).new k3 fun b hb => .inr (by omega)

theorem uL : Tryz.prog.underlying 30 = some (.pointer 83) := by kernel_rfl

theorem law22_Size {n : Int} {w : World} (hn : I64 n) : Calls Tryz.prog F_law22_Size #[.int .i64 n] w (Ok fun v w' => v = .int .i64 (64 + pick n 16384) ∧ w = w') := by
  refine L_law22_Size (PC.ok (kit_Pick (by unfold I64; omega)) ?_)
  rintro _ _ ⟨rfl, rfl⟩
  have hp := pick_range (k := n) (n := 16384) (by omega)
  refine ⟨_, rfl, Ok.mk ⟨?_, rfl⟩⟩
  rw [wrap_i64 (by unfold I64; omega)]

section
variable {w0 w w1 w' : World} {p q : Nat} {D D' : DiskV} {V V' : LogV} {X Y G S : Nat → Prop}
theorem NLog.at (h : NLog w0 w p q V D X) : ∃ G, LogAt w p q G V ∧ ∀ b, G b → w0.heap.size ≤ b ∧ ¬ X b := by obtain ⟨G, h1, h2, h3⟩ := h; exact ⟨G, h2, h3⟩
theorem NLog.segments (h : NLog w0 w p q V D X) : Calls Tryz.prog F_seglog_Log_Segments #[.pointer (some ⟨q, 0, none⟩)] w (Ok (New cI64 3 w V.segs)) := by
  obtain ⟨G, h1, -⟩ := h.at; exact log_Segments h1
/-- one event, laid -/
theorem row_one {e : EventV} {g : Nat} {f : Nat × Nat} {a : Option Addr} {n c : Nat} {F : Nat → Prop} (hg : w.heap[g]? = some (.cells (evCells e a n c).toArray 39 f)) (ho : Lst cI64 3 F w a n c e.deps) (he : e.Ok) (hd : e.deps.length ≤ 1000) :
    Row cEv 96 w (fun b => b < w.heap.size) (some ⟨g, 0, none⟩) 1 [e] :=
  Row.of_reps (xs := [e]) (cs := evCells e a n c) hg (Reps.one (c := cEv) ⟨a, n, c, rfl, (ho.row (by decide) (by unfold Big; omega)).mono fun b hb => ho.dom b hb, he⟩) (lt_of_get hg) (by unfold Big; simp)
end

def wkO : Int × LogV × DiskV := begin2 ⟨1, [], 0, 1⟩ (newD 1000)
def wkA : Int × LogV × DiskV := logAppend wkO.2.1 wkO.2.2 [evSome 1, evSome 2]
def wkS : Int × DiskV := wkA.2.2.sync wkA.2.1.last
def wkB : Int × LogV × DiskV := logAppend wkA.2.1 wkS.2 [evSome 3]
def wkC : DiskV := wkB.2.2.crash 0
theorem wk_facts : wkO.1 = 0 ∧ wkO.2.1.segs = [1] ∧ wkA.1 = 0 ∧ wkA.2.1.segs = [1] ∧ wkS.1 = 0 ∧ wkB.1 = 0 ∧ wkB.2.1.segs = [1, 2] := by decide +kernel
theorem wk_files : aget wkC.files (segNm 1) = some (fullF (evFrs [evSome 1, evSome 2])) ∧ aget wkC.files (segNm 2) = some ⟨evFrs [], 0, true⟩ ∧ aget wkC.files mName = some (fullF (mfBytes [1, 2])) ∧ (wkC.files.map (·.1)).Nodup := by decide +kernel
theorem wk_held : Held wkC [(1, [evSome 1, evSome 2])] 2 [] 0 := by
  obtain ⟨h1, h2, h3, h4⟩ := wk_files
  refine ⟨h4, ?_, ⟨0, h2, by simp [evFrs], Nat.zero_le _⟩, Nat.le_refl _, h3, ?_, ?_, ?_, by decide⟩
  · intro x hx; rw [List.mem_singleton] at hx; subst hx; exact h1
  · intro n hn
    simp [nums] at hn
    omega
  · simp [nums]
  · intro e he
    simp [evsOf] at he
    rcases he with rfl | rfl
    · exact evSome_ok (by decide) (by decide)
    · exact evSome_ok (by decide) (by decide)
theorem wk_open : (logOpen wkC 1).no = 0 ∧ (logOpen wkC 1).out = [evSome 1, evSome 2] := by
  obtain ⟨h1, h2, -⟩ := open_anew (size := 1) wk_held (crash_alive _ _)
  exact ⟨h1, h2⟩
end Go.Proofs.YtpbpjojdfcdbbaaGreatDoor

/- what each statement of chapter 22 asks -/
namespace Go.Proofs.YtpbpjojdfcdbbaaGreatDoor
open Go.Lift
set_option linter.unusedVariables false
set_option maxRecDepth 20000

theorem works22 {w : World} (hw : Laid w) : Calls Tryz.prog F_law22_works #[] w (Ok fun v w' => v = .bool true ∧ Grew w w') := by
  have o1 := evSome_ok (n := 1) (by decide) (by decide)
  have o2 := evSome_ok (n := 2) (by decide) (by decide)
  have o3 := evSome_ok (n := 3) (by decide) (by decide)
  obtain ⟨f1, f2, f3, f4, f5, f6, f7⟩ := wk_facts
  refine L_law22_works (PC.ok (new_ok (Keep.refl w) (by omega) (by omega)) ?_)
  rintro _ w1 ⟨p, rfl, h1, -⟩
  replace h1 := h1.mono (Y := no) fun _ h => h.elim
  refine ⟨_, _, rfl, PIf.ff rfl (eq_nil_ptr uD ⟨_, rfl, PIf.ff rfl (PC.ok (log_Open (size := 1) hw h1) ?_)⟩)⟩
  rintro _ w2 hod
  have hO := open_new_eq 1000 1
  change logOpen (newD 1000) 1 = ⟨wkO.1, [], wkO.2.1, wkO.2.2⟩ at hO
  rw [show Int.toNat 1000 = 1000 from rfl, hO] at hod
  rcases hod with ⟨hne, -⟩ | ⟨-, q, a2, n2, c2, G2, rfl, ho2, h2, -, -⟩
  · exact absurd f1 hne
  have hn2 := ho2.len (by decide)
  simp at hn2
  subst hn2
  refine ⟨_, _, _, _, _, rfl, PIf.ff rfl (eq_nil_ptr uL ⟨_, rfl, PIf.ff rfl (PIf.ff rfl (PC.ok h2.segments ?_))⟩)⟩
  rintro _ w3 ⟨a3, n3, c3, F3, rfl, ho3, k3, -⟩
  have hn3 := ho3.len (by decide)
  dsimp only at hn3
  rw [f2] at hn3
  simp at hn3
  subst hn3
  have h3 := h2.grew k3
  refine ⟨_, _, _, rfl, PIf.ff rfl (PC.ok (law22_some (by decide) (by decide)) ?_)⟩
  rintro _ w4 ⟨a4, n4, c4, F4, rfl, ho4, -, k4⟩
  refine ⟨_, _, _, _, _, _, _, _, _, _, _, _, rfl, PC.ok (law22_some (by decide) (by decide)) ?_⟩
  rintro _ w5 ⟨a5, n5, c5, F5, rfl, ho5, -, k5⟩
  refine ⟨_, _, _, _, _, _, _, _, _, _, _, _, rfl, PA.mk fun w6 k6 s6 g6 => ?_⟩
  have h6 := ((h3.grew k4).grew k5).grew k6
  have r1 := ((ho4.grew k5).grew k6).row (bytes := 8) (by decide) (by simp [evSome, Big])
  have r2 := (ho5.grew k6).row (bytes := 8) (by decide) (by simp [evSome, Big])
  have hrow : Row cEv 96 w6 (fun b => b < w6.heap.size) (some ⟨w5.heap.size, 0, none⟩) 2 [evSome 1, evSome 2] :=
    Row.of_reps (xs := [evSome 1, evSome 2]) (cs := evCells (evSome 1) a4 n4 c4 ++ evCells (evSome 2) a5 n5 c5) g6
      (Reps.append (Reps.one (c := cEv) ⟨a4, n4, c4, rfl, r1.mono fun b hb => ((ho4.grew k5).grew k6).dom b hb, o1.1⟩) (Reps.one (c := cEv) ⟨a5, n5, c5, rfl, r2.mono fun b hb => (ho5.grew k6).dom b hb, o2.1⟩)) (lt_of_get g6) (by unfold Big; simp)
  refine PC.ok (log_Append hw h6 (by rw [f2]; simp) hrow (fun b hb => hb) (by simp)) ?_
  rintro _ w7 ⟨rfl, h7, k7⟩
  change NLog w w7 p q wkA.2.1 wkA.2.2 _ at h7
  refine ⟨_, rfl, PC.ok (log_Sync hw h7 (by rw [f4]; simp)) ?_⟩
  rintro _ w8 ⟨rfl, h8, k8⟩
  change NLog w w8 p q wkA.2.1 wkS.2 _ at h8
  refine ⟨_, rfl, PC.ok (law22_some (by decide) (by decide)) ?_⟩
  rintro _ w9 ⟨a9, n9, c9, F9, rfl, ho9, -, k9⟩
  refine ⟨_, _, _, _, _, _, _, _, _, _, _, _, rfl, PA.mk fun w10 k10 s10 g10 => ?_⟩
  have h10 := (h8.grew k9).grew k10
  have hrow2 := row_one (e := evSome 3) g10 (ho9.grew k10) o3.1 (by simp [evSome])
  refine PC.ok (log_Append hw h10 (by rw [f4]; simp) hrow2 (fun b hb => hb) (by simp)) ?_
  rintro _ w11 ⟨rfl, h11, k11⟩
  change NLog w w11 p q wkB.2.1 wkB.2.2 _ at h11
  refine ⟨_, rfl, PC.ok h11.segments ?_⟩
  rintro _ w12 ⟨a12, n12, c12, F12, rfl, ho12, k12, -⟩
  have hn12 := ho12.len (by decide)
  rw [f7] at hn12
  simp at hn12
  subst hn12
  have h12 := (h11.grew k12).disk
  refine ⟨_, _, _, rfl, PC.ok (h12.crash (keep := 0) (by unfold I64; omega)) ?_⟩
  rintro _ w13 ⟨rfl, h13, k13⟩
  change NDisk w w13 p wkC _ at h13
  refine ⟨rfl, PC.ok (log_Open (size := 1) hw h13) ?_⟩
  rintro _ w14 hod
  obtain ⟨e1, e2⟩ := wk_open
  rcases hod with ⟨hne, -⟩ | ⟨-, q', a14, n14, c14, G14, rfl, ho14, h14, -, -⟩
  · exact absurd e1 hne
  rw [e2] at ho14
  refine ⟨_, _, _, _, _, rfl, PIf.tt ?_ (PIf.tt ?_ (PIf.tt ?_ (PIf.tt rfl (PIf.tt rfl (ne_nil_ptr uL ⟨_, rfl, PIf.tt rfl (PC.ok (law22_some (by decide) (by decide)) ?_)⟩)))))⟩
  · show ((wkA.1 : Int) == 0) = true; rw [f3]; rfl
  · show ((wkS.1 : Int) == 0) = true; rw [f5]; rfl
  · show ((wkB.1 : Int) == 0) = true; rw [f6]; rfl
  rintro _ w15 ⟨a15, n15, c15, F15, rfl, ho15, -, k15⟩
  refine ⟨_, _, _, _, _, _, _, _, _, _, _, _, rfl, PC.ok (law22_some (by decide) (by decide)) ?_⟩
  rintro _ w16 ⟨a16, n16, c16, F16, rfl, ho16, -, k16⟩
  refine ⟨_, _, _, _, _, _, _, _, _, _, _, _, rfl, PA.mk fun w17 k17 s17 g17 => ?_⟩
  have r3 := ((ho15.grew k16).grew k17).row (bytes := 8) (by decide) (by simp [evSome, Big])
  have r4 := (ho16.grew k17).row (bytes := 8) (by decide) (by simp [evSome, Big])
  have hrow3 : Row cEv 96 w17 (fun _ => True) (some ⟨w16.heap.size, 0, none⟩) 2 [evSome 1, evSome 2] :=
    Row.of_reps (xs := [evSome 1, evSome 2]) (cs := evCells (evSome 1) a15 n15 c15 ++ evCells (evSome 2) a16 n16 c16) g17
      (Reps.append (Reps.one (c := cEv) ⟨a15, n15, c15, rfl, r3.mono fun _ _ => trivial, o1.1⟩) (Reps.one (c := cEv) ⟨a16, n16, c16, rfl, r4.mono fun _ _ => trivial, o2.1⟩)) trivial (by unfold Big; simp)
  refine PC.ok (kit_SameEvents (lst_evs (((ho14.grew k15).grew k16).grew k17) (by simp)) hrow3) ?_
  rintro _ w18 ⟨rfl, k18⟩
  exact ⟨_, rfl, Ok.mk ⟨by simp, (((h14.gr.then k15).then k16).then k17).then k18⟩⟩

theorem fin22 {w w1 : World} {ε : List PanicEntry → World → Prop} (hw : Laid w) (hg : Grew w w1) : PC Tryz.prog F_law22_works #[] w1 (fun v w2 => ∃ t : Bool, v = .bool t ∧ Ok (fun v w' => v = .bool true ∧ Grew w w') (.returned (.bool t)) w2) ε :=
  PC.ok (works22 (hw.grew hg)) (by rintro _ w2 ⟨rfl, k2⟩; exact ⟨_, rfl, Ok.mk ⟨rfl, hg.then k2⟩⟩)
end Go.Proofs.YtpbpjojdfcdbbaaGreatDoor

/- SeglogRefuses: the walk -/
namespace Go.Proofs.YtpbpjojdfcdbbaaGreatDoor
open Go.Lift
set_option linter.unusedVariables false
set_option maxRecDepth 20000

section
variable {w0 w w1 w' : World} {p q : Nat} {D D' : DiskV} {V V' : LogV} {X Y Z G S : Nat → Prop}
theorem NDisk.turn0 (h : NDisk w0 w p D X) (hk : Keep Y w w') (hY : ∀ b, Y b → X b ∧ w0.heap.size ≤ b) (hZ : ∀ b, Z b → (X b ∨ b < w0.heap.size ∨ w.heap.size ≤ b) ∧ b < w'.heap.size) : NDisk w0 w' p D Z := by
  obtain ⟨F, h1, h2, h3, h4⟩ := h
  exact ⟨F, h1.keep hk fun b hb hy => (h3 b hb).2 (hY b hy).1, h2.new hk fun b hb => .inr (hY b hb).2, fun b hb => ⟨(h3 b hb).1, fun hz => by
    rcases (hZ b hz).1 with h | h | h
    · exact (h3 b hb).2 h
    · have := (h3 b hb).1; omega
    · have := h1.dom b hb; omega⟩, fun b hb => (hZ b hb).2⟩
theorem NLog.turn0 (h : NLog w0 w p q V D X) (hk : Keep Y w w') (hY : ∀ b, Y b → X b ∧ w0.heap.size ≤ b) (hZ : ∀ b, Z b → (X b ∨ b < w0.heap.size ∨ w.heap.size ≤ b) ∧ b < w'.heap.size) : NLog w0 w' p q V D Z := by
  obtain ⟨G, h1, h2, h3⟩ := h
  refine ⟨G, h1.turn0 hk (fun b hb => ⟨.inl (hY b hb).1, (hY b hb).2⟩) fun b hb => ?_, h2.keep hk fun b hb hy => (h3 b hb).2 (hY b hy).1, fun b hb => ⟨(h3 b hb).1, fun hz => by
    rcases (hZ b hz).1 with h | h | h
    · exact (h3 b hb).2 h
    · have := (h3 b hb).1; omega
    · have := h2.dom b hb; omega⟩⟩
  rcases hb with hb | hb
  · exact ⟨(hZ b hb).1.imp .inl id, (hZ b hb).2⟩
  · exact ⟨.inl (.inr hb), Nat.lt_of_lt_of_le (h2.dom b hb) hk.size⟩
end
theorem row_evOk {bytes : Nat} {w : World} {D : Nat → Prop} {a : Option Addr} {n : Nat} {l : List EventV} (h : Row cEv bytes w D a n l) : ∀ e ∈ l, e.Ok := fun e he => by
  obtain ⟨i, hi⟩ := List.mem_iff_getElem?.1 he
  obtain ⟨b, off, es, -, -, -, -, a1, n1, c1, -, -, hok⟩ := h.el i e hi
  exact hok

/-- a log that stands on a disk that lives, its numbers in a row from 1 -/
structure Well (V : LogV) (D : DiskV) (A : Segs) (no : Int) (l : List EventV) (k : Nat) : Prop where
  held : Held D A no l k
  v : VOk V A no l
  alive : Alive D
  fresh : Fresh V D
  next : V.next = A.length + 2
  fat : Fat V.size A
theorem Well.lt {V : LogV} {D : DiskV} {A : Segs} {no : Int} {l : List EventV} {k : Nat} (h : Well V D A no l k) : V.next < 1000000000000 := by
  have := h.held.many; have := h.next; omega
theorem Well.append {V : LogV} {D : DiskV} {A : Segs} {no : Int} {l x : List EventV} {k : Nat} (h : Well V D A no l k) (hx : ∀ e ∈ x, e.Ok) (hl : x.length ≤ 1000) (hok : D.Ok) :
    ((logAppend V D x).1 = 0 ∨ (logAppend V D x).1 = 3 ∨ (logAppend V D x).1 = 12) ∧ (logAppend V D x).2.1.size = V.size ∧ ∃ A' no' l' k', Well (logAppend V D x).2.1 (logAppend V D x).2.2 A' no' l' k' ∧ dur A k ≤ dur A' k' ∧ evsOf A' l' = (if (logAppend V D x).1 = 0 then evsOf A l ++ x else evsOf A l) := by
  obtain ⟨a1, a2, a3⟩ := append_alive h.held h.v h.alive h.fresh h.lt x
  obtain ⟨A', no', l', k', b1, b2, b3, b4, b5, b6, b7⟩ := held_append h.held h.v hx hl hok h.fat
  refine ⟨a2, b5, A', no', l', k', ⟨b1, b2, a1, a3, ?_, by rw [b5]; exact b6⟩, b3, b4⟩
  have := h.next
  rcases b7 with ⟨rfl, -, e⟩ | ⟨rfl, -, e⟩
  · rw [e]; exact this
  · rw [e]; simp; omega
theorem well_new {N : Nat} {size : Int} (h0 : (logOpen (newD N) size).no = 0) : Well (logOpen (newD N) size).V (logOpen (newD N) size).D [] 1 [] 0 ∧ (logOpen (newD N) size).out = [] := by
  rcases open_new N size with h | ⟨-, h1, h2, h3, h4, h5, h6, h7⟩
  · exact absurd h0 (by omega)
  · exact ⟨⟨h2, h3, h6, h7, by rw [h5]; rfl, fun y hy => by cases hy⟩, h1⟩

theorem SeglogRefuses {n size ahead : Int} {la : Option Addr} {ln lc : Nat} {l : List EventV} {w : World} {Dl : Nat → Prop} (hn : I64 n) (hah : I64 ahead) (ha : Row cEv 96 w Dl la ln l) (hDl : ∀ b, Dl b → b < w.heap.size) (hnil : la = none → ln = 0 ∧ lc = 0) (hw : Laid w) :
    Calls Tryz.prog F_law22_SeglogRefuses #[.int .i64 n, .int .i64 size, .int .i64 ahead, .slice la ln lc] w (Ok fun v w' => v = .bool true ∧ Grew w w') := by
  have ha0 := ha.len
  refine L_law22_SeglogRefuses (PC.ok (law10_Long ha) ?_)
  rintro _ _ ⟨rfl, rfl⟩
  refine ⟨_, rfl, PIf.dec (fun h => fin22 hw (Keep.refl _)) (fun hlong => PC.ok (law22_Size hn) ?_)⟩
  have hl200 : l.length ≤ 200 := by omega
  rintro _ _ ⟨rfl, rfl⟩
  have hp := pick_range (k := n) (n := 16384) (by omega)
  generalize pick n 16384 = nn at hp
  refine ⟨_, rfl, PC.ok (new_ok (Keep.refl w) (by omega) (by omega)) ?_⟩
  rintro _ w1 ⟨p, rfl, h1, -⟩
  replace h1 := h1.mono (Y := no) fun _ h => h.elim
  generalize Int.toNat (64 + nn) = N at h1
  refine ⟨_, _, rfl, PIf.ff rfl (eq_nil_ptr uD ⟨_, rfl, PIf.ff rfl (PC.ok (log_Open (size := size) hw h1) ?_)⟩)⟩
  rintro _ w2 (⟨hne, rfl, h2, -⟩ | ⟨h0, q, a2, n2, c2, G2, rfl, ho2, h2, -, -, -, -⟩)
  · exact ⟨_, _, _, _, _, rfl, PIf.tt (by simpa using hne) (PIf.tt (by simpa using hne) (eq_nil_ptr uL ⟨_, rfl, PIf.tt rfl (fin22 hw h2.gr)⟩))⟩
  obtain ⟨hwell, hout⟩ := well_new h0
  replace h2 := h2.mono (Y := no) fun _ h => h.elim
  have hsz : (logOpen (newD N) size).V.size = size := by
    rcases open_new N size with h | ⟨-, h1, h2, h3, h4, h5, h6, h7⟩
    · exact absurd h0 (by omega)
    · exact h4
  generalize logOpen (newD N) size = r0 at h2 hwell hsz
  /- a state, with what is wanted -/
  let St : List EventV → Option Addr → Nat → Nat → World → Prop := fun W a m c w' => ∃ V D A no l k F, Lst cEv 39 F w' a m c W ∧ (∀ b, F b → w.heap.size ≤ b) ∧ Well V D A no l k ∧ V.size = size ∧ evsOf A l = W ∧ NLog w w' p q V D F
  refine ⟨_, _, _, _, _, rfl, PIf.ff rfl (eq_nil_ptr uL ⟨_, rfl, PIf.ff rfl ⟨fun a m c w' => ∃ W, W.length ≤ 200 ∧ St W a m c w', ⟨fun k a m c i w' => ∃ j : Nat, i = j ∧ j ≤ 200 ∧ k = 201 - j ∧ ∃ W, W.length = j ∧ St W a m c w', ⟨_, 0, rfl, by omega, rfl, [], rfl, r0.V, r0.D, [], 1, [], 0, fun _ => False, Lst.nil w2, (fun _ h => h.elim), hwell, hsz, rfl, h2⟩, ?_⟩, ?_⟩⟩)⟩
  · rintro k a m c i _ w3 ⟨j, rfl, hj, rfl, W, hWl, V, D, A, no, l', k', F, ho, hF, hwl, hVs, hWe, hN⟩
    refine PC.ok (kit_Pick (by unfold I64; omega)) ?_
    rintro _ _ ⟨rfl, rfl⟩
    have hpa := pick_range (k := ahead) (n := 201) (by omega)
    refine ⟨_, rfl, PIf.dec (fun hlt => ?_) (fun hge => ⟨W, by omega, V, D, A, no, l', k', F, ho, hF, hwl, hVs, hWe, hN⟩)⟩
    have e1 : IntKind.wrap .i64 ((j : Int) + 1) = ((j + 1 : Nat) : Int) := wrap_succ (by omega)
    rw [e1]
    have oe := evSome_ok (n := ((j + 1 : Nat) : Int)) (by omega) (by omega)
    refine PC.ok (law22_some (by omega) (by omega)) ?_
    rintro _ w4 ⟨a4, n4, c4, F4, rfl, ho4, hF4, k4⟩
    refine ⟨_, _, _, _, _, _, _, _, _, _, _, _, rfl, PA.mk fun w5 k5 s5 g5 => ?_⟩
    have hN5 := (hN.grew k4).grew k5
    refine PC.ok (log_Append hw hN5 (by rw [hwl.v.segs]; simp) (row_one (e := evSome ((j + 1 : Nat) : Int)) g5 (ho4.grew k5) oe.1 (by simp [evSome])) (fun b hb => hb) (by simp)) ?_
    rintro _ w6 ⟨rfl, hN6, k6⟩
    have hwa := hwl.append (x := [evSome ((j + 1 : Nat) : Int)]) (fun e he => by simp at he; subst he; exact oe.1) (by simp) hN.ok
    generalize logAppend V D [evSome ((j + 1 : Nat) : Int)] = r at hN6 hwa
    obtain ⟨-, hrs, A', no', l'', k'', hwl', -, hev'⟩ := hwa
    have ho6 := ((ho.grew k4).grew k5).keep k6 fun b hb hn => hn hb
    refine ⟨_, rfl, PIf.neI (fun hne => ?_) (fun h0 => ?_)⟩
    · rw [if_neg hne] at hev'
      exact ⟨W, by omega, r.2.1, r.2.2, A', no', l'', k'', F, ho6, hF, hwl', hrs.trans hVs, hev'.trans hWe, hN6⟩
    rw [if_pos h0] at hev'
    refine PC.ok (law22_some (by omega) (by omega)) ?_
    rintro _ w7 ⟨a7, n7, c7, F7, rfl, ho7, hF7, k7⟩
    have hN7 : NLog w w7 p q r.2.1 r.2.2 (fun b => F b ∨ F7 b) := hN6.add k7 fun b hb => ⟨hF7 b hb, ho7.dom b hb⟩
    have hr7 : Row cI64 8 w7 F7 a7 n7 (evSome ((j + 1 : Nat) : Int)).deps := ho7.row (by decide) (by simp [evSome, Big])
    refine ⟨_, _, _, _, _, _, _, _, _, _, _, _, rfl, papp (ho6.grew k7) slEv (x := evSome ((j + 1 : Nat) : Int)) (D := F7) ⟨a7, n7, c7, rfl, hr7, oe.1⟩ (fun b hb => ⟨ho7.dom b hb, fun hc => ?_⟩) (by rw [hWl]; unfold Big; omega) (by rw [hWl]; unfold maxLen; omega) fun a8 c8 w8 F8 ho8 hk8 hF8 hs8 => ?_⟩
    · have := ho6.dom b (ho6.self b hc); have := hF7 b hb; omega
    refine ⟨_, _, _, rfl, 201 - (j + 1), by omega, j + 1, rfl, by omega, rfl, _, by simp [hWl], r.2.1, r.2.2, A', no', l'', k'', F8, ho8, ?_, hwl', hrs.trans hVs, by rw [hev', hWe], ?_⟩
    · intro b hb
      have hg6 := hN6.gr.size; have := k7.size
      rcases hF8 b hb with h' | h' | h'
      · exact hF b h'
      · have := hF7 b h'; omega
      · omega
    · refine hN7.turn hk8 (fun b hb => ⟨.inl (ho6.self b hb), hF b (ho6.self b hb)⟩) fun b hb => ⟨?_, ho8.dom b hb⟩
      rcases hF8 b hb with h' | h' | h'
      · exact .inl (.inl h')
      · exact .inl (.inr h')
      · exact .inr h'
  · rintro a m c _ w3 ⟨W, hWl, V, D, A, no, l', k', F, ho, hF, hwl, hVs, hWe, hN⟩
    refine PC.ok (log_Append hw hN (by rw [hwl.v.segs]; simp) (ha.grew hN.gr) (fun b hb => by have := hDl b hb; have := hN.gr.size; omega) (by omega)) ?_
    rintro _ w4 ⟨rfl, hN4, k4⟩
    have hwa := hwl.append (x := l) (row_evOk ha) (by omega) hN.ok
    generalize logAppend V D l = r at hN4 hwa
    obtain ⟨hcode, hrs, A', no', l'', k'', hwl', -, hev'⟩ := hwa
    have ho4 := ho.keep k4 fun b hb hn => hn hb
    refine ⟨_, rfl, fun a m c w' => ∃ F, Lst cEv 39 F w' a m c (evsOf A' l'') ∧ NLog w w' p q r.2.1 r.2.2 F, ?_, ?_⟩
    · refine PIf.eqI (fun h0 => ?_) (fun hne => ⟨F, by rw [hev', if_neg hne, hWe]; exact ho4, hN4⟩)
      refine appRow' ho4 slEv (ha.grew hN4.gr) hnil (fun b hb => ⟨by have := hDl b hb; have := hN4.gr.size; omega, fun hc => by have := hF b (ho4.self b hc); have := hDl b hb; omega⟩) (by unfold Big; omega) (by unfold maxLen; omega) fun a5 c5 w5 F5 ho5 hk5 hF5 _ => ?_
      refine ⟨_, _, _, rfl, F5, by rw [hev', if_pos h0, hWe]; exact ho5, ?_⟩
      refine hN4.turn0 hk5 (fun b hb => ⟨ho4.self b hb, hF b (ho4.self b hb)⟩) fun b hb => ⟨?_, ho5.dom b hb⟩
      rcases hF5 b hb with h' | h' | h'
      · exact .inl h'
      · exact .inr (.inl (hDl b h'))
      · exact .inr (.inr h')
    · rintro a m c _ w5 ⟨F5, ho5, hN5⟩
      refine ⟨fun w' => w5 = w', ?_, ?_⟩
      · refine PIf.neI (fun h1 => PIf.neI (fun h2 => PIf.neI (fun h3 => ?_) (fun _ => rfl)) (fun _ => rfl)) (fun _ => rfl)
        omega
      rintro _ _ rfl
      refine PC.ok (log_Open (size := size) hw hN5.disk) ?_
      obtain ⟨o1, o2, -⟩ := open_anew (size := size) hwl'.held hwl'.alive
      rintro _ w6 (⟨hne, -⟩ | ⟨-, q6, a6, n6, c6, G6, rfl, ho6, h6, k6, -, -, hl6⟩)
      · exact absurd o1 hne
      rw [o2] at ho6 hl6
      have ho56 := ho5.keep k6 fun b hb hn => hn hb
      have hWl' : (evsOf A' l'').length ≤ 400 := by
        rw [hev', hWe]; split
        · rw [List.length_append]; omega
        · omega
      refine ⟨_, _, _, _, _, rfl, PIf.tt rfl (PC.ok (kit_SameEvents (lst_evs ho6 (by omega)) (ho56.row (bytes := 96) (by decide) (by unfold Big; omega))) ?_)⟩
      rintro _ w7 ⟨rfl, k7⟩
      exact ⟨_, rfl, PIf.tt (by simp) (fin22 hw (h6.gr.then k7))⟩
end Go.Proofs.YtpbpjojdfcdbbaaGreatDoor

/- SeglogPieces: the walk -/
namespace Go.Proofs.YtpbpjojdfcdbbaaGreatDoor
open Go.Lift
set_option linter.unusedVariables false
set_option maxRecDepth 20000

/-- a slice of events, as a thing -/
def cEvs : Cod (List EventV) where
  k := 1
  rep := fun w D l cs => ∃ a n c, cs = [.slice a n c] ∧ Row cEv 96 w D a n l
  keep := fun ⟨a, n, c, h1, h2⟩ hk hd => ⟨a, n, c, h1, h2.keep hk hd⟩
  mono := fun ⟨a, n, c, h1, h2⟩ hd => ⟨a, n, c, h1, h2.mono hd⟩
  len := fun ⟨a, n, c, h1, _⟩ => by rw [h1]; rfl
  one := fun ⟨a, n, c, h1, _⟩ u hu => by rw [h1] at hu; simp at hu; subst hu; rfl
theorem slEvs : SlT Tryz.prog 43 22 1 24 := ⟨by kernel_rfl, by kernel_rfl, by decide⟩
theorem evs_at {w : World} {D : Nat → Prop} {a : Option Addr} {n bytes : Nat} {L : List (List EventV)} (h : Row cEvs bytes w D a n L) {i : Nat} (hi : i < n) :
    ∃ b off x a1 n1 c1, a = some ⟨b, off, none⟩ ∧ L[i]? = some x ∧ w.cell? ⟨b, off + i, none⟩ = some (.slice a1 n1 c1) ∧ Row cEv 96 w D a1 n1 x := by
  obtain ⟨b, off, x, es, ha, _, _, hx, hc, a1, n1, c1, rfl, hr⟩ := h.atN hi
  exact ⟨b, off, x, a1, n1, c1, ha, hx, by have := hc 0 Nat.one_pos; simpa [cEvs] using this, hr⟩

theorem Well.sync {V : LogV} {D : DiskV} {A : Segs} {no : Int} {l : List EventV} {k : Nat} (h : Well V D A no l k) : (D.sync V.last).1 = 0 ∧ Held (D.sync V.last).2 A no l l.length := by
  rw [Held.lastNm h.v]
  obtain ⟨s, g1, _⟩ := h.held.last
  have h0 := (h.alive.sync (segNm no)).2 _ g1
  rcases held_sync h.held with ⟨h1, h2⟩ | ⟨h1, -⟩
  · exact ⟨h1, h2⟩
  · exact absurd h0 h1

theorem begin2_size (a b : Int) (S : List Int) (m n : Int) (D : DiskV) : (begin2 ⟨a, S, m, n⟩ D).1 = (begin2 ⟨b, S, m, n⟩ D).1 := by
  simp only [begin2, begin3, apply_ite Prod.fst]
theorem open_big (sz : Int) : (logOpen (newD 262144) sz).no = 0 := by
  rw [open_new_eq]
  show (begin2 ⟨sz, [], 0, 1⟩ (newD 262144)).1 = 0
  rw [begin2_size sz 0]
  decide +kernel

theorem SeglogPieces {size cut : Int} {la : Option Addr} {ln lc : Nat} {l : List EventV} {w : World} {Dl : Nat → Prop} (hs : I64 size) (ha : Row cEv 96 w Dl la ln l) (hDl : ∀ b, Dl b → b < w.heap.size) (hlc : ln ≤ lc) (hcut : I64 cut) (hw : Laid w) :
    Calls Tryz.prog F_law22_SeglogPieces #[.int .i64 size, .slice la ln lc, .int .i64 cut] w (Ok fun v w' => v = .bool true ∧ Grew w w') := by
  have ha0 := ha.len
  refine L_law22_SeglogPieces (PC.ok (law10_Long ha) ?_)
  rintro _ _ ⟨rfl, rfl⟩
  refine ⟨_, rfl, PIf.dec (fun h => fin22 hw (Keep.refl _)) (fun hlong => PC.ok (kit_Pick (by unfold I64; omega)) ?_)⟩
  have hl200 : l.length ≤ 200 := by omega
  rintro _ _ ⟨rfl, rfl⟩
  refine ⟨_, rfl, ?_⟩
  generalize IntKind.wrap .i64 (1000 + pick size 9000) = sz
  rw [show IntKind.wrap .i64 ((ln : Int) + 1) = ((ln + 1 : Nat) : Int) from wrap_succ (by omega)]
  refine PC.ok (kit_Pick (by unfold I64; omega)) ?_
  rintro _ _ ⟨rfl, rfl⟩
  have hpc := pick_range (k := cut) (n := ((ln + 1 : Nat) : Int)) (by omega)
  generalize pick cut ((ln + 1 : Nat) : Int) = ct at hpc
  obtain ⟨t, rfl⟩ := Int.eq_ofNat_of_zero_le hpc.1
  refine ⟨_, rfl, fun m fa fn fc k w' => ∃ (j : Nat) (F : Nat → Prop), k = j ∧ j ≤ 3 ∧ m = 3 - j ∧ Lst cEvs 22 F w' fa fn fc (List.replicate j l) ∧ (∀ b, F b → w.heap.size ≤ b) ∧ Grew w w',
    ⟨_, 0, fun _ => False, rfl, by omega, rfl, Lst.nil w, (fun _ h => h.elim), Keep.refl _⟩, ?_⟩
  rintro m fa fn fc k _ w1 ⟨j, F, rfl, hj, rfl, ho1, hF1, k01⟩
  have hfn := ho1.len (by decide)
  rw [List.length_replicate] at hfn
  refine PIf.dec (fun hlt => ?_) (fun hge => ?_)
  · have hw1 := hw.grew k01
    have ha1 := ha.grew k01
    refine PC.ok (new_ok (Keep.refl w1) (by omega) (by omega)) ?_
    rintro _ w2 ⟨p, rfl, h2, k12⟩
    rw [show Int.toNat 262144 = 262144 from rfl] at h2
    refine ⟨_, _, rfl, PIf.ff rfl (eq_nil_ptr uD ⟨_, rfl, PIf.ff rfl (PC.ok (log_Open (size := sz) hw1 h2) ?_)⟩)⟩
    rintro _ w3 (⟨hne, -⟩ | ⟨h0, q, a3, n3, c3, G3, rfl, -, h3, -, -, -, -⟩)
    · exact absurd (open_big sz) hne
    obtain ⟨hwell, hout⟩ := well_new h0
    generalize logOpen (newD 262144) sz = r0 at h3 hwell
    replace h3 := h3.mono (Y := fun b => b < w1.heap.size) fun b hb => .inl hb
    have hst : ∀ b, Dl b → b < w.heap.size := hDl
    have hx : ∀ e ∈ l, e.Ok := row_evOk ha
    have gl : ∀ {w' : World} {V : LogV} {D : DiskV}, NLog w1 w' p q V D (fun b => b < w1.heap.size) → ∀ b, Dl b → b < w'.heap.size := fun hN b hb => by have := hDl b hb; have := hN.gr.size; have := k01.size; omega
    refine ⟨_, _, _, _, _, rfl, PIf.ff rfl (eq_nil_ptr uL ⟨_, rfl, PIf.ff rfl ⟨fun e w' => ∃ V D A no l' k', Well V D A no l' k' ∧ NLog w1 w' p q V D (fun b => b < w1.heap.size) ∧ (e = 0 ∨ e = 3 ∨ e = 12) ∧ (e = 0 → evsOf A l' = l), ?_, ?_⟩⟩)⟩
    · refine PIf.eqI (fun _ => ?_) (fun _ => PIf.eqI (fun _ => ?_) (fun _ => PIf.eqI (fun _ => ?_) (fun _ => ?_)))
      · refine PC.ok (log_Append hw1 h3 (by rw [hwell.v.segs]; simp) (ha1.grew h3.gr) (gl h3) (by omega)) ?_
        rintro _ w4 ⟨rfl, h4, -⟩
        obtain ⟨hcode, -, A', no', l', k', hwl', -, hev⟩ := hwell.append (x := l) hx (by omega) h3.ok
        exact ⟨_, rfl, _, _, A', no', l', k', hwl', h4, hcode, fun e0 => by rw [hev, if_pos e0]; simp [evsOf]⟩
      · refine ⟨fun k e i w' => ∃ (u : Nat) (V : LogV) (D : DiskV) (A : Segs) (no : Int) (l' : List EventV) (k' : Nat), i = u ∧ u ≤ ln ∧ k = ln - u ∧ Well V D A no l' k' ∧ NLog w1 w' p q V D (fun b => b < w1.heap.size) ∧ (e = 0 ∨ e = 3 ∨ e = 12) ∧ (e = 0 → evsOf A l' = l.take u),
          ⟨_, 0, r0.V, r0.D, [], 1, [], 0, rfl, Nat.zero_le _, rfl, hwell, h3, .inl rfl, fun _ => by simp [evsOf]⟩, ?_⟩
        rintro k e i _ w4 ⟨u, V, D, A, no, l', k', rfl, hu, rfl, hwl, h4, hcode, hev⟩
        refine PIf.dec (fun hlt2 => PIf.eqI (fun he => ?_) (fun hne => ⟨V, D, A, no, l', k', hwl, h4, hcode, fun e0 => absurd e0 hne⟩)) (fun hge2 => ⟨V, D, A, no, l', k', hwl, h4, hcode, fun e0 => by rw [hev e0, List.take_of_length_le (by omega)]⟩)
        rw [show IntKind.wrap .i64 ((u : Int) + 1) = ((u + 1 : Nat) : Int) from wrap_succ (by omega)]
        refine ⟨by omega, by omega, by omega, ?_⟩
        rw [Int.toNat_natCast, Int.toNat_natCast]
        have hpart := (ha1.grew h4.gr).part (lo := u) (hi := u + 1) (cap := lc) (by omega) (by omega) hlc
        have hsub : ∀ e ∈ (l.take (u + 1)).drop u, e.Ok := fun e he => hx e (List.mem_of_mem_take (List.mem_of_mem_drop he))
        have hsl : ((l.take (u + 1)).drop u).length ≤ 1000 := by simp; omega
        refine PC.ok (log_Append hw1 h4 (by rw [hwl.v.segs]; simp) hpart (gl h4) hsl) ?_
        rintro _ w5 ⟨rfl, h5, -⟩
        obtain ⟨hcode', -, A', no', l'', k'', hwl', -, hev'⟩ := hwl.append hsub hsl h4.ok
        refine ⟨_, rfl, ln - (u + 1), by omega, u + 1, _, _, A', no', l'', k'', rfl, by omega, rfl, hwl', h5, hcode', fun e0 => ?_⟩
        rw [hev', if_pos e0, hev he]
        have := List.take_append_drop u (l.take (u + 1))
        rw [List.take_take, Nat.min_eq_left (by omega)] at this
        exact this
      · refine ⟨by omega, by omega, ?_⟩
        rw [Int.toNat_natCast]
        refine PC.ok (log_Append hw1 h3 (by rw [hwell.v.segs]; simp) ((ha1.grew h3.gr).take (m := t) (by omega)) (gl h3) (by simp; omega)) ?_
        rintro _ w4 ⟨rfl, h4, -⟩
        obtain ⟨hcode, -, A', no', l', k', hwl', -, hev⟩ := hwell.append (x := l.take t) (fun e he => hx e (List.mem_of_mem_take he)) (by simp; omega) h3.ok
        refine ⟨_, rfl, PIf.eqI (fun e0 => ?_) (fun hne => ⟨_, _, A', no', l', k', hwl', h4, hcode, fun e0 => absurd e0 hne⟩)⟩
        refine ⟨by omega, by omega, ?_⟩
        have hpart := (ha1.grew h4.gr).part (lo := t) (hi := ln) (cap := lc) (by omega) (by omega) hlc
        rw [show l.take ln = l from List.take_of_length_le (by omega)] at hpart
        refine PC.ok (log_Append hw1 h4 (by rw [hwl'.v.segs]; simp) hpart (gl h4) (by simp; omega)) ?_
        rintro _ w5 ⟨rfl, h5, -⟩
        obtain ⟨hcode', -, A'', no'', l'', k'', hwl'', -, hev'⟩ := hwl'.append (x := l.drop t) (fun e he => hx e (List.mem_of_mem_drop he)) (by simp; omega) h4.ok
        refine ⟨_, rfl, _, _, A'', no'', l'', k'', hwl'', h5, hcode', fun e1 => ?_⟩
        rw [hev', if_pos e1, hev, if_pos e0]
        show [] ++ l.take t ++ l.drop t = l
        rw [List.nil_append, List.take_append_drop]
      · omega
    · rintro e _ w4 ⟨V, D, A, no, l', k', hwl, h4, hcode, hev⟩
      refine PIf.eqI (fun _ => fin22 hw (k01.then h4.gr)) (fun h3' => PIf.eqI (fun _ => fin22 hw (k01.then h4.gr)) (fun h12 => PIf.neI (fun hne => ?_) (fun e0 => ?_)))
      · omega
      replace hev := hev e0
      obtain ⟨y1, y2⟩ := hwl.sync
      refine PC.ok (log_Sync hw1 h4 (by rw [hwl.v.segs]; simp)) ?_
      rintro _ w5 ⟨rfl, h5, k5⟩
      rw [y1]
      refine ⟨_, rfl, PIf.ff rfl (PC.ok (h5.disk.crash (keep := 0) (by unfold I64; omega)) ?_)⟩
      rintro _ w6 ⟨rfl, h6, k6⟩
      refine ⟨rfl, PC.ok (log_Open (size := sz) hw1 h6) ?_⟩
      obtain ⟨z, z1, z2, z3, z4, -⟩ := open_crash (size := sz) (keep := 0) y2
      obtain rfl : z = l'.length := by omega
      rw [List.take_length, hev] at z4
      rintro _ w7 (⟨hne, -⟩ | ⟨-, q7, a7, n7, c7, G7, rfl, ho7, h7, k7, hG7, -, -⟩)
      · exact absurd z3 hne
      rw [z4] at ho7
      have ko : ∀ b, F b → b < w1.heap.size := ho1.dom
      have hof := ho1.grew h7.gr
      have hr7 : Row cEv 96 w7 G7 a7 n7 l := lst_evs ho7 (by omega)
      refine ⟨_, _, _, _, _, rfl, PIf.ff rfl (papp hof slEvs (x := l) (D := G7) ⟨a7, n7, c7, rfl, hr7⟩ (fun b hb => ⟨ho7.dom b hb, fun hc => ?_⟩) (by simp; unfold Big; omega) (by simp; unfold maxLen; omega) fun a8 c8 w8 F8 ho8 hk8 hF8 _ => ?_)⟩
      · have h1 := ko b (ho1.self b hc); have h2 := hG7 b hb; have := h6.gr.size; omega
      refine ⟨_, _, _, rfl, 3 - (j + 1), by omega, j + 1, F8, wrap_succ (by omega), by omega, rfl, ?_, fun b hb => ?_, (k01.then h7.gr).new hk8 fun b hb => .inr (hF1 b (ho1.self b hb))⟩
      · rw [show List.replicate (j + 1) l = List.replicate j l ++ [l] from List.replicate_succ']
        exact ho8
      · have := h6.gr.size; have := h7.gr.size; have := k01.size
        rcases hF8 b hb with h' | h' | h'
        · exact hF1 b h'
        · have := hG7 b h'; omega
        · omega
  · obtain rfl : j = 3 := by omega
    have hr1 : Row cEvs 24 w1 F fa fn (List.replicate 3 l) := ho1.row (by decide) (by unfold Big; simp)
    obtain ⟨b0, off0, x0, a0, n0, c0, rfl, hx0, hc0, hr0⟩ := evs_at hr1 (i := 0) (by omega)
    obtain rfl : l = x0 := by simpa using hx0
    refine ⟨b0, off0, rfl, by omega, by omega, _, _, _, hc0, PC.ok (kit_SameEvents hr0 (ha.grew k01)) ?_⟩
    rintro _ w2 ⟨rfl, k2⟩
    refine ⟨_, rfl, PIf.tt (by simp) ?_⟩
    obtain ⟨b1, off1, x1, a1, n1, c1, he1, hx1, hc1, hr1'⟩ := evs_at (hr1.grew k2) (i := 1) (by omega)
    obtain rfl : l = x1 := by simpa using hx1
    refine ⟨b1, off1, he1, by omega, by omega, _, _, _, hc1, PC.ok (kit_SameEvents hr1' (ha.grew (k01.then k2))) ?_⟩
    rintro _ w3 ⟨rfl, k3⟩
    refine ⟨_, rfl, PIf.tt (by simp) ?_⟩
    obtain ⟨b2, off2, x2, a2, n2, c2, he2, hx2, hc2, hr2'⟩ := evs_at (hr1.grew (k2.then k3)) (i := 2) (by omega)
    obtain rfl : l = x2 := by simpa using hx2
    refine ⟨b2, off2, he2, by omega, by omega, _, _, _, hc2, PC.ok (kit_SameEvents hr2' (ha.grew ((k01.then k2).then k3))) ?_⟩
    rintro _ w4 ⟨rfl, k4⟩
    exact ⟨_, rfl, PIf.tt (by simp) (fin22 hw (((k01.then k2).then k3).then k4))⟩
end Go.Proofs.YtpbpjojdfcdbbaaGreatDoor

/- SeglogSegments: the walk -/
namespace Go.Proofs.YtpbpjojdfcdbbaaGreatDoor
open Go.Lift
set_option linter.unusedVariables false
set_option maxRecDepth 20000

theorem Alive.mfTell {D : DiskV} (ha : Alive D) {L : List Int} (hm : aget D.files mName = some (fullF (mfBytes L))) (hr : ∀ x ∈ L, I64 x) (hl : L.length ≤ 64) : mfTell D = some L := by
  unfold Go.Proofs.YtpbpjojdfcdbbaaGreatDoor.mfTell
  rw [ha.read hm, if_neg (by simp), show (fullF (mfBytes L)).bytes = mfBytes L from rfl, mfRead_bytes hr hl]

theorem SeglogSegments {size : Int} {la sa : Option Addr} {ln lc sn sc : Nat} {l : List EventV} {ss : List Int} {w : World} {Dl Ds : Nat → Prop} (hs : I64 size) (ha : Row cEv 96 w Dl la ln l) (hDl : ∀ b, Dl b → b < w.heap.size) (hlc : ln ≤ lc) (hss : Row cI64 8 w Ds sa sn ss) (hw : Laid w) :
    Calls Tryz.prog F_law22_SeglogSegments #[.int .i64 size, .slice la ln lc, .slice sa sn sc] w (Ok fun v w' => v = .bool true ∧ Grew w w') := by
  have ha0 := ha.len; have hs0 := hss.len
  refine L_law22_SeglogSegments (PC.ok (law10_Long ha) ?_)
  rintro _ _ ⟨rfl, rfl⟩
  refine ⟨_, rfl, PIf.dec (fun h => fin22 hw (Keep.refl _)) (fun hlong => PIf.dec (fun h => fin22 hw (Keep.refl _)) (fun h100 => PC.ok (kit_Pick (by unfold I64; omega)) ?_))⟩
  have hl200 : l.length ≤ 200 := by omega
  rintro _ _ ⟨rfl, rfl⟩
  have hp := pick_range (k := size) (n := 400) (by omega)
  generalize pick size 400 = ps at hp
  refine ⟨_, rfl, PC.ok (new_ok (Keep.refl w) (by omega) (by omega)) ?_⟩
  rintro _ w1 ⟨p, rfl, h1, -⟩
  rw [show Int.toNat 262144 = 262144 from rfl] at h1
  rw [wrap_i64 (x := 1 + ps) (by unfold I64; omega)]
  refine ⟨_, _, rfl, PIf.ff rfl (eq_nil_ptr uD ⟨_, rfl, PIf.ff rfl (PC.ok (log_Open (size := 1 + ps) hw h1) ?_)⟩)⟩
  rintro _ w2 (⟨hne, -⟩ | ⟨h0, q, a3, n3, c3, G3, rfl, -, h2, -, -, -, -⟩)
  · exact absurd (open_big _) hne
  obtain ⟨hwell, hout⟩ := well_new h0
  have hsz : (logOpen (newD 262144) (1 + ps)).V.size = 1 + ps := by
    rcases open_new 262144 (1 + ps) with h | ⟨-, h1, h2, h3, h4, h5, h6, h7⟩
    · exact absurd h0 (by omega)
    · exact h4
  generalize logOpen (newD 262144) (1 + ps) = r0 at h2 hwell hsz
  replace h2 := h2.mono (Y := no) fun b hb => hb.elim
  have hx : ∀ e ∈ l, e.Ok := row_evOk ha
  have gl : ∀ {w' : World} {V : LogV} {D : DiskV}, NLog w w' p q V D no → ∀ b, Dl b → b < w'.heap.size := fun hN b hb => by have := hDl b hb; have := hN.gr.size; omega
  refine ⟨_, _, _, _, _, rfl, PIf.ff rfl (eq_nil_ptr uL ⟨_, rfl, PIf.ff rfl ⟨fun w' => ∃ V D A no' l' k', Well V D A no' l' k' ∧ V.size = 1 + ps ∧ NLog w w' p q V D no ∧ evsOf A l' = l, ⟨fun m at' i w' => ∃ (u v : Nat) (V : LogV) (D : DiskV) (A : Segs) (no' : Int) (l' : List EventV) (k' : Nat), at' = u ∧ u ≤ ln ∧ i = v ∧ v ≤ u ∧ m = ln - v ∧ Well V D A no' l' k' ∧ V.size = 1 + ps ∧ NLog w w' p q V D no ∧ evsOf A l' = l.take u,
    ⟨_, 0, 0, r0.V, r0.D, [], 1, [], 0, rfl, Nat.zero_le _, rfl, Nat.le_refl _, rfl, hwell, hsz, h2, by simp [evsOf]⟩, ?_⟩, ?_⟩⟩)⟩
  · rintro m at' i _ w3 ⟨u, v, V, D, A, no', l', k', rfl, hu, rfl, hvu, rfl, hwl, hVs, h3, hev⟩
    refine PIf.dec (fun hlt => PIf.dec (fun hlt2 => ?_) (fun hge2 => by omega)) (fun hge => ⟨V, D, A, no', l', k', hwl, hVs, h3, by rw [hev, List.take_of_length_le (by omega)]⟩)
    refine ⟨fun n w' => w3 = w' ∧ 1 ≤ n ∧ n ≤ 9, ?_, ?_⟩
    · refine PIf.dec (fun hpos => ?_) (fun _ => ⟨rfl, by omega, by omega⟩)
      have hrun : ∀ x y, (do eqGuard .rem 3 x y (.int .i64 (v : Int)) (.int .i64 ((sn : Nat) : Int)); binOp .rem 3 (.int .i64 (v : Int)) (.int .i64 ((sn : Nat) : Int)) : Sem Value).run Tryz.prog w3 = .ok (.int .i64 ((v : Int).tmod (sn : Int))) w3 := fun x y => by
        have : sn ≠ 0 := by omega
        simp [eqGuard, binOp, Op.intDiv, this]
      have hm : (v : Int).tmod (sn : Int) = ((v % sn : Nat) : Int) := by rw [Int.tmod_eq_emod_of_nonneg (by omega)]; simp
      have hmlt : v % sn < sn := Nat.mod_lt _ (by omega)
      obtain ⟨b, off, x, rfl, hxs, hxr, hc⟩ := (hss.grew h3.gr).at1 (i := v % sn) hmlt
      refine PRun.mk (hrun _ _) ⟨_, rfl, b, off, rfl, ?_⟩
      rw [hm]
      refine ⟨by omega, by omega, x, hc, PC.ok (kit_Pick (by unfold I64; omega)) ?_⟩
      rintro _ _ ⟨rfl, rfl⟩
      have hp9 := pick_range (k := x) (n := 9) (by omega)
      refine ⟨_, rfl, ?_⟩
      rw [wrap_i64 (by unfold I64; omega)]
      exact ⟨rfl, by omega, by omega⟩
    · rintro n _ _ ⟨rfl, hn1, hn9⟩
      rw [wrap_i64 (x := (ln : Int) - u) (by unfold I64; omega)]
      obtain ⟨t, ht, htl, ht1⟩ : ∃ t : Nat, (u : Int) + (if (ln : Int) - u < n then (ln : Int) - u else n) = t ∧ t ≤ ln ∧ u + 1 ≤ t := by
        refine ⟨((u : Int) + (if (ln : Int) - u < n then (ln : Int) - u else n)).toNat, ?_, ?_, ?_⟩ <;> split <;> omega
      rw [ht, wrap_i64 (x := (t : Int)) (by unfold I64; omega)]
      refine ⟨by omega, by omega, by omega, ?_⟩
      rw [Int.toNat_natCast, Int.toNat_natCast]
      have hpart := (ha.grew h3.gr).part (lo := u) (hi := t) (cap := lc) (by omega) (by omega) hlc
      have hsub : ∀ e ∈ (l.take t).drop u, e.Ok := fun e he => hx e (List.mem_of_mem_take (List.mem_of_mem_drop he))
      have hsl : ((l.take t).drop u).length ≤ 1000 := by simp; omega
      refine PC.ok (log_Append hw h3 (by rw [hwl.v.segs]; simp) hpart (gl h3) hsl) ?_
      rintro _ w5 ⟨rfl, h5, -⟩
      obtain ⟨hcode', hrs, A', no'', l'', k'', hwl', -, hev'⟩ := hwl.append hsub hsl h3.ok
      refine ⟨_, rfl, PIf.eqI (fun _ => fin22 hw h5.gr) (fun hc3 => PIf.eqI (fun _ => fin22 hw h5.gr) (fun hc12 => PIf.neI (fun hne => by omega) (fun e0 => ?_)))⟩
      refine ⟨ln - (v + 1), by omega, t, v + 1, _, _, A', no'', l'', k'', rfl, htl, wrap_succ (by omega), by omega, rfl, hwl', hrs.trans hVs, h5, ?_⟩
      rw [hev', if_pos e0, hev]
      have := List.take_append_drop u (l.take t)
      rw [List.take_take, Nat.min_eq_left (by omega)] at this
      exact this
  · rintro _ w3 ⟨V, D, A, no', l', k', hwl, hVs, h3, hev⟩
    have hH := hwl.held
    have hseg := hwl.v.segs
    have hnl : (nums A ++ [no']).length ≤ 64 := by have := hH.many; simpa [nums] using this
    have hmf := hwl.alive.mfTell hH.man (fun x hx => by have := hH.rng x hx; unfold I64; omega) hnl
    refine PC.ok h3.segments ?_
    rintro _ w4 ⟨a4, n4, c4, F4, rfl, ho4, k4, hF4⟩
    rw [hseg] at ho4
    have hn4 := ho4.len (by decide)
    have h4 := h3.grew k4
    refine ⟨_, _, _, rfl, PC.ok (h4.disk.mfRead hw.tabs) ?_⟩
    rintro _ w5 ⟨a5, n5, c5, G5, rfl, ho5, hG5, -, k5⟩
    rw [hmf] at ho5 ⊢
    refine ⟨_, _, _, _, rfl, PA.mk fun w6 k6 s6 g6 => PS.mk g6 (by simp) fun w7 k7 s7 g7 w8 d8 => ⟨fun _ => False, PIf.ff rfl (PIf.eqI (fun hz => ?_) (fun hnz => ?_))⟩⟩
    · rw [hn4] at hz; simp at hz; omega
    have k57 : Grew w5 w7 := k6.new k7 fun b hb => .inr (by omega)
    have k58 : Grew w5 w8 := k57.then d8.keep
    have k48 : Grew w4 w8 := k5.then k58
    have g8 : w8.heap[w5.heap.size]? = some (.cells #[.slice a5 n5 c5] 56 (0, 0)) := Keep.get (S := fun _ => False) d8.keep g7 id
    have hr4 : Row cI64 8 w8 F4 a4 n4 (nums A ++ [no']) := (ho4.grew k48).row (by decide) (by unfold Big; omega)
    have hr5 : Row cI64 8 w8 G5 a5 n5 (nums A ++ [no']) := (ho5.grew k58).row (by decide) (by unfold Big; simp only [Option.getD_some]; omega)
    refine ⟨_, _, _, cell_at g8 rfl, PC.ok (kit_SameIntsR hr5 hr4) ?_⟩
    rintro _ w9 ⟨rfl, d9⟩
    have k49 : Grew w4 w9 := k48.then d9.keep
    have h9 := h4.grew k49
    have hr9 := hr4.grew d9.keep
    have hpos : 0 < n4 := by rw [hn4]; simp
    have hlast : (nums A ++ [no'])[n4 - 1]? = some no' := by
      rw [hn4]; simp
    obtain ⟨b, off, x, rfl, hxl, hxr, hc⟩ := hr9.at1 (i := n4 - 1) (by omega)
    rw [hlast] at hxl; cases hxl
    have ew : IntKind.wrap .i64 ((n4 : Int) - 1) = ((n4 - 1 : Nat) : Int) := by rw [wrap_i64 (by unfold I64; omega)]; omega
    refine ⟨_, rfl, d9.keep, PIf.ff (by simp) ⟨b, off, rfl, ?_⟩⟩
    rw [ew]
    refine ⟨by omega, by omega, id, _, hc, ?_⟩
    obtain ⟨GL, hlat, -⟩ := h9.at
    refine PC.ok (log_Next hlat) ?_
    rintro _ _ ⟨rfl, rfl⟩
    have hvn := hwl.v.next
    refine ⟨_, rfl, Keep.refl _, PIf.dec (fun hle => by omega) (fun _ => ?_)⟩
    /- the segments, with their events -/
    let SL : Segs := A ++ [(no', l')]
    have hSLn : SL.map (·.1) = nums A ++ [no'] := by simp [SL, nums]
    have hSLe : (SL.map (·.2)).flatten = l := by rw [← hev]; simp [SL, evsOf]
    have hSLl : SL.length = n4 := by rw [hn4, ← hSLn]; simp
    have hfile : ∀ y ∈ SL, D.read (segNm y.1) = (evFrs y.2, 0) ∧ ∀ e ∈ y.2, e.Ok ∧ e.deps.length ≤ 64 := by
      intro y hy
      rcases List.mem_append.1 hy with h' | h'
      · exact ⟨hwl.alive.read (hH.full y h'), fun e he => hH.evs e (List.mem_append_left _ (List.mem_flatten.2 ⟨y.2, List.mem_map.2 ⟨y, h', rfl⟩, he⟩))⟩
      · rw [List.mem_singleton] at h'; subst h'
        obtain ⟨s, g1, -⟩ := hH.last
        exact ⟨hwl.alive.read g1, hH.evl⟩
    have htot : ∀ u, ((SL.take u).map (·.2)).flatten.length ≤ 200 := fun u => by
      have h1 := congrArg List.length hSLe
      conv at h1 => lhs; rw [← List.take_append_drop u SL, List.map_append, List.flatten_append, List.length_append]
      omega
    have hrise := hH.rise
    refine ⟨fun m aa an ac i w' => ∃ (u : Nat) (F : Nat → Prop), i = u ∧ u ≤ n4 ∧ m = n4 - u ∧ Lst cEvO 39 F w' aa an ac ((SL.take u).map (·.2)).flatten ∧ (∀ b, F b → w9.heap.size ≤ b) ∧ Grew w9 w',
      ⟨_, 0, fun _ => False, rfl, Nat.zero_le _, rfl, Lst.nil w9, (fun _ h => h.elim), Keep.refl _⟩, ?_⟩
    rintro m aa an ac i _ w10 ⟨u, F, rfl, hu, rfl, ho, hF, k10⟩
    refine PIf.dec (fun hlt => ?_) (fun hge => ?_)
    · have hu' : u < SL.length := by omega
      have hy : SL[u] ∈ SL := List.getElem_mem hu'
      obtain ⟨hrd, hevs⟩ := hfile _ hy
      have htk : SL.take (u + 1) = SL.take u ++ [SL[u]] := by rw [List.take_add_one]; simp [hu']
      have hnum : ∀ v (hv : v < SL.length), (nums A ++ [no'])[v]? = some (SL[v]).1 := fun v hv => by rw [← hSLn]; simp [hv]
      have hyn : ∀ {w'}, Grew w9 w' → ∀ v, v < n4 → ∃ hv : v < SL.length, w'.cell? ⟨b, off + v, none⟩ = some (.int .i64 (SL[v]).1) ∧ I64 (SL[v]).1 := fun hk v hv => by
        obtain ⟨b', off', x', he, hxv, hxr', hc'⟩ := (hr9.grew hk).at1 (i := v) hv
        cases he
        have hv' : v < SL.length := by omega
        rw [hnum v hv'] at hxv
        cases hxv
        exact ⟨hv', hc', hxr'⟩
      obtain ⟨_, hcu, hru⟩ := hyn k10 u (by omega)
      have h10 := (h9.grew k10)
      obtain ⟨y, hyy⟩ : ∃ y, SL[u] = y := ⟨_, rfl⟩
      rw [hyy] at hrd hevs htk hcu hru
      refine ⟨b, off, rfl, by omega, by omega, y.1, by rw [Int.toNat_natCast]; exact hcu, PC.ok (h10.disk.load hw hru) ?_⟩
      rintro _ w11 ⟨a11, n11, c11, G11, rfl, ho11, hG11, -, k11, -⟩
      have hseq : segLoad (D.read (txt (segName y.1))).1 = (y.2, (evFrs y.2).length) := by
        rw [show D.read (txt (segName y.1)) = _ from hrd]; exact segLoad_all hevs
      rw [hseq] at ho11 ⊢
      dsimp only at ho11 ⊢
      have k911 := k10.then k11
      obtain ⟨_, hcu11, _⟩ := hyn k911 u (by omega)
      have hcu11' : w11.cell? ⟨b, off + u, none⟩ = some (.int .i64 y.1) := by rw [hcu11]; simp only [hyy]
      refine ⟨_, _, _, _, rfl, b, off, rfl, by omega, by omega, y.1, by rw [Int.toNat_natCast]; exact hcu11', PC.ok (seg_Name (hw.grew (h10.gr.then k11)) hru) ?_⟩
      rintro _ w12 ⟨rfl, k12⟩
      have h12 := (h10.grew k11).grew k12
      refine ⟨_, rfl, PC.ok (h12.disk.read (k := segNm y.1)) ?_⟩
      rintro _ w13 ⟨a13, n13, c13, F13, rfl, ho13, hF13, -, k13⟩
      rw [hrd] at ho13 ⊢
      have hn13 := ho13.len (by decide)
      have k1113 := k12.then k13
      have k913 := k911.then k1113
      /- the events added -/
      have fin : ∀ {w14 : World} {ε : Value → World → Prop}, Grew w13 w14 → PRun Tryz.prog (Builtin.append_ #[22, 22] 22 #[.slice aa an ac, .slice a11 n11 c11]) w14 (fun v116 w117 => ∃ (t118a : Option Addr) (t118n : Nat) (t118c : Nat), v116 = .slice t118a t118n t118c ∧ ∃ m87, m87 < n4 - u ∧
          ∃ (u' : Nat) (F : Nat → Prop), IntKind.wrap .i64 ((u : Int) + 1) = u' ∧ u' ≤ n4 ∧ m87 = n4 - u' ∧ Lst cEvO 39 F w117 t118a t118n t118c ((SL.take u').map (·.2)).flatten ∧ (∀ b, F b → w9.heap.size ≤ b) ∧ Grew w9 w117) ε := by
        intro w14 ε k14
        have kk := (k11.then k1113).then k14
        have ho' := ho.grew kk
        have ho11' := ho11.grew (k1113.then k14)
        have z9 := k10.size; have z11 := k11.size; have zz := kk.size
        have htu := htot (u + 1)
        rw [htk, List.map_append, List.flatten_append, List.length_append] at htu
        have hyl : y.2.length ≤ 200 := by simp at htu; omega
        have hr11 : Row cEvO 96 w14 G11 a11 n11 y.2 := ho11'.row (bytes := 96) (by decide) (by unfold Big; omega)
        refine appRow' ho' slEv hr11 (fun e => ho11'.nil0 e) (fun b hb => ⟨ho11'.dom b hb, fun hc => by have := ho.dom b (ho.self b hc); have := hG11 b hb; omega⟩) (by have := htot u; unfold Big; omega) (by have := htot u; unfold maxLen; omega) fun a15 c15 w15 F15 ho15 hk15 hF15 _ => ?_
        refine ⟨_, _, _, rfl, n4 - (u + 1), by omega, u + 1, F15, wrap_succ (by omega), by omega, rfl, ?_, fun b hb => ?_, (k10.then kk).new hk15 fun b hb => .inr (hF b (ho.self b hb))⟩
        · rw [htk, List.map_append, List.flatten_append]; simpa using ho15
        · rcases hF15 b hb with h' | h' | h'
          · exact hF b h'
          · have := hG11 b h'; omega
          · omega
      refine ⟨_, _, _, _, rfl, PIf.ff rfl (PIf.neI (fun hne => absurd (by rw [hn13]) hne) (fun _ => ?_))⟩
      have mid : ∀ {X Y : Prop}, (0 < u → (∀ w14, Drew w13 w14 → Y) → X) → True := fun _ => trivial
      have prev : 0 < u → ∃ x', w13.cell? ⟨b, off + Int.toNat (u : Int), none⟩ = some (.int .i64 y.1) ∧ IntKind.wrap .i64 ((u : Int) - 1) = ((u - 1 : Nat) : Int) ∧ w13.cell? ⟨b, off + Int.toNat ((u - 1 : Nat) : Int), none⟩ = some (.int .i64 x') ∧ x' < y.1 := by
        intro h0
        obtain ⟨hvu, e1, -⟩ := hyn k913 u (by omega)
        obtain ⟨hv, e2, -⟩ := hyn k913 (u - 1) (by omega)
        refine ⟨(SL[u - 1]).1, by rw [Int.toNat_natCast, e1]; simp only [hyy], by rw [wrap_i64 (by unfold I64; omega)]; omega, by rw [Int.toNat_natCast]; exact e2, ?_⟩
        have hlen : (nums A ++ [no']).length = SL.length := by rw [← hSLn]; simp
        have hpw := List.pairwise_iff_getElem.1 hrise (u - 1) u (by omega) (by omega) (by omega)
        have g1 := hnum (u - 1) hv
        have g2 := hnum u hvu
        rw [List.getElem?_eq_getElem (by omega)] at g1 g2
        rw [Option.some.inj g1, Option.some.inj g2] at hpw
        simp only [hyy] at hpw
        exact hpw
      refine PIf.dec (fun hnl => PIf.dec (fun hsm => ?_) (fun _ => PIf.dec (fun h0 => ?_) (fun _ w14 d14 => fin d14.keep))) (fun _ => PIf.dec (fun h0 => ?_) (fun _ w14 d14 => fin d14.keep))
      · have hA : u < A.length := by
          have : SL.length = A.length + 1 := by simp [SL]
          omega
        have hya : y ∈ A := by
          rw [← hyy, show SL[u] = A[u] from List.getElem_append_left hA]; exact List.getElem_mem hA
        have := hwl.fat y hya
        rw [hVs] at this
        omega
      · obtain ⟨x', e1, e2, e3, e4⟩ := prev (by omega)
        refine ⟨b, off, rfl, by omega, by omega, _, e1, b, off, rfl, ?_⟩
        rw [e2]
        exact ⟨by omega, by omega, _, e3, fun w14 d14 => PIf.dec (fun hle => by omega) (fun _ => fin d14.keep)⟩
      · obtain ⟨x', e1, e2, e3, e4⟩ := prev (by omega)
        refine ⟨b, off, rfl, by omega, by omega, _, e1, b, off, rfl, ?_⟩
        rw [e2]
        exact ⟨by omega, by omega, _, e3, fun w14 d14 => PIf.dec (fun hle => by omega) (fun _ => fin d14.keep)⟩
    · obtain rfl : u = n4 := by omega
      rw [List.take_of_length_le (by omega), hSLe] at ho
      have k := (h9.grew k10).gr
      refine PC.ok (kit_SameEvents (lst_evs ho (by omega)) (ha.grew k)) ?_
      rintro _ w11 ⟨rfl, k11⟩
      exact ⟨_, rfl, PIf.tt (by simp) (fin22 hw (k.then k11))⟩
end Go.Proofs.YtpbpjojdfcdbbaaGreatDoor
