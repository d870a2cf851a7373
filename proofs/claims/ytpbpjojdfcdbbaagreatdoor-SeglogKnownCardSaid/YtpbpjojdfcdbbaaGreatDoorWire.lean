/- events, frames, segments as bytes: what is laid, what is read. No program is named here. -/
import Derived.Test.YtpbpjojdfcdbbaaGreatDoorPackLaw
import Derived.Test.YtpbpjojdfcdbbaaGreatDoorCrcLaw
namespace Go.Lift
open Go
set_option linter.unusedVariables false

/-! ### a reader -/
structure RdV where
  bytes : List UInt8
  pos : Nat
  why : Int

def RdV.num (r : RdV) : Int × Int × Nat := rdNum (r.bytes.drop r.pos)
def rdInt (r : RdV) : Int × RdV := if r.why ≠ 0 then (0, r) else if r.num.1 = 0 then (r.num.2.1, ⟨r.bytes, r.pos + r.num.2.2, 0⟩) else (0, ⟨r.bytes, r.pos, r.num.1⟩)
def rdCount (m : Int) (r : RdV) : Int × RdV := if r.why ≠ 0 then (0, r) else if r.num.1 = 0 then (if r.num.2.1 < 0 ∨ m < r.num.2.1 then (0, ⟨r.bytes, r.pos, 3⟩) else (r.num.2.1, ⟨r.bytes, r.pos + r.num.2.2, 0⟩)) else (0, ⟨r.bytes, r.pos, r.num.1⟩)
def rdDone (r : RdV) : Int := if r.why = 0 ∧ r.pos < r.bytes.length then 5 else r.why
def rdInts : Nat → RdV → List Int × RdV
  | 0, r => ([], r)
  | k + 1, r => ((rdInts k r).1 ++ [(rdInt (rdInts k r).2).1], (rdInt (rdInts k r).2).2)

theorem rdNum_range (l : List UInt8) : I64 (rdNum l).2.1 ∧ (rdNum l).2.2 ≤ l.length ∧ (rdNum l).2.2 ≤ 9 ∧ ((rdNum l).1 = 0 ∨ (rdNum l).1 = 4 ∨ (rdNum l).1 = 5) ∧ ((rdNum l).1 = 0 → 1 ≤ (rdNum l).2.2) := by
  unfold rdNum
  cases l with
  | nil => simp [I64]
  | cons h t =>
    simp only
    generalize (if 16 < h.toNat then h.toNat - 16 else h.toNat) = k
    have hv := valB_lt (t.take k)
    generalize valB (t.take k) = u at hv
    by_cases h1 : 8 < k
    · rw [if_pos h1]; simp [I64]
    rw [if_neg h1]
    by_cases h2 : t.length < k
    · rw [if_pos h2]; simp [I64]
    rw [if_neg h2]
    by_cases h3 : (0 < k ∧ t.head? = some 0) ∨ (¬ 16 < h.toNat ∧ 2 ^ 63 ≤ u) ∨ (16 < h.toNat ∧ 2 ^ 63 < u)
    · rw [if_pos h3]; simp [I64]
    rw [if_neg h3]
    have h4 : (¬ 16 < h.toNat → u < 2 ^ 63) ∧ (16 < h.toNat → u ≤ 2 ^ 63) := by
      refine ⟨fun a => ?_, fun a => ?_⟩
      · exact Nat.lt_of_not_le fun b => h3 (.inr (.inl ⟨a, b⟩))
      · exact Nat.le_of_not_lt fun b => h3 (.inr (.inr ⟨a, b⟩))
    refine ⟨?_, by simp; omega, by show k + 1 ≤ 9; omega, .inl rfl, fun _ => by show 1 ≤ k + 1; omega⟩
    show I64 (if 16 < h.toNat then -(u : Int) else u)
    unfold I64
    split
    · have := h4.2 (by assumption); omega
    · have := h4.1 (by assumption); omega

/-- it stands well -/
structure RdV.Fit (r : RdV) : Prop where
  pos : r.pos ≤ r.bytes.length
  why : r.why = 0 ∨ r.why = 3 ∨ r.why = 4 ∨ r.why = 5

theorem RdV.Fit.int {r : RdV} (h : r.Fit) : (rdInt r).2.Fit ∧ I64 (rdInt r).1 ∧ (rdInt r).2.bytes = r.bytes := by
  obtain ⟨h1, h2, h3, h4, h5⟩ := rdNum_range (r.bytes.drop r.pos)
  have hp := h.pos
  rw [List.length_drop] at h2
  unfold rdInt RdV.num
  split
  · exact ⟨h, by simp [I64], rfl⟩
  · split
    · exact ⟨⟨by show r.pos + _ ≤ r.bytes.length; omega, .inl rfl⟩, h1, rfl⟩
    · exact ⟨⟨hp, by show _ ∨ _; rcases h4 with h4 | h4 | h4 <;> simp [h4]⟩, by simp [I64], rfl⟩
theorem RdV.Fit.count {r : RdV} (h : r.Fit) {m : Int} (hm : 0 ≤ m) : (rdCount m r).2.Fit ∧ 0 ≤ (rdCount m r).1 ∧ (rdCount m r).1 ≤ m ∧ (rdCount m r).2.bytes = r.bytes := by
  obtain ⟨h1, h2, h3, h4, h5⟩ := rdNum_range (r.bytes.drop r.pos)
  have hp := h.pos
  rw [List.length_drop] at h2
  unfold rdCount RdV.num
  split
  · exact ⟨h, by simp, hm, rfl⟩
  · split
    · split
      · exact ⟨⟨hp, .inr (.inl rfl)⟩, by simp, hm, rfl⟩
      · exact ⟨⟨by show r.pos + _ ≤ r.bytes.length; omega, .inl rfl⟩, by simp only; omega, by simp only; omega, rfl⟩
    · exact ⟨⟨hp, by show _ ∨ _; rcases h4 with h4 | h4 | h4 <;> simp [h4]⟩, by simp, hm, rfl⟩
theorem RdV.Fit.ints {r : RdV} (h : r.Fit) : ∀ k, (rdInts k r).2.Fit ∧ (∀ x ∈ (rdInts k r).1, I64 x) ∧ (rdInts k r).1.length = k ∧ (rdInts k r).2.bytes = r.bytes
  | 0 => ⟨h, by simp [rdInts], rfl, rfl⟩
  | k + 1 => by
    obtain ⟨h1, h2, h3, h4⟩ := RdV.Fit.ints h k
    obtain ⟨h5, h6, h7⟩ := h1.int
    refine ⟨h5, ?_, ?_, h7.trans h4⟩
    · intro x hx
      rcases List.mem_append.1 hx with hx | hx
      · exact h2 x hx
      · rw [List.mem_singleton] at hx; subst hx; exact h6
    · simp [rdInts, h3]

/-- what stands ahead of it -/
structure RdV.At (r : RdV) (b : List UInt8) (l : List UInt8) : Prop where
  bytes : r.bytes = b
  pos : r.pos ≤ b.length
  why : r.why = 0
  rest : b.drop r.pos = l
theorem RdV.At.int {r : RdV} {b l : List UInt8} {n : Int} (h : r.At b (encInt n ++ l)) (hn : I64 n) : (rdInt r).1 = n ∧ (rdInt r).2.At b l := by
  have hnum : r.num = (0, n, (encInt n).length) := by unfold RdV.num; rw [h.bytes, h.rest]; exact rdNum_enc hn l
  have hl : b.length - r.pos = (encInt n).length + l.length := by
    have := congrArg List.length h.rest
    rwa [List.length_drop, List.length_append] at this
  have hp := h.pos
  unfold rdInt
  rw [hnum, if_neg (by simp [h.why]), if_pos rfl]
  refine ⟨rfl, h.bytes, by show r.pos + (encInt n).length ≤ _; omega, rfl, ?_⟩
  show b.drop (r.pos + (encInt n).length) = l
  rw [← List.drop_drop, h.rest, List.drop_left]
theorem RdV.At.count {r : RdV} {b l : List UInt8} {n m : Int} (h : r.At b (encInt n ++ l)) (hn : I64 n) (h0 : 0 ≤ n) (hm : n ≤ m) : (rdCount m r).1 = n ∧ (rdCount m r).2.At b l := by
  have hnum : r.num = (0, n, (encInt n).length) := by unfold RdV.num; rw [h.bytes, h.rest]; exact rdNum_enc hn l
  have hl : b.length - r.pos = (encInt n).length + l.length := by
    have := congrArg List.length h.rest
    rwa [List.length_drop, List.length_append] at this
  have hp := h.pos
  unfold rdCount
  rw [hnum, if_neg (by simp [h.why]), if_pos rfl, if_neg (by simp; omega)]
  refine ⟨rfl, h.bytes, by show r.pos + (encInt n).length ≤ _; omega, rfl, ?_⟩
  show b.drop (r.pos + (encInt n).length) = l
  rw [← List.drop_drop, h.rest, List.drop_left]

def encInts (l : List Int) : List UInt8 := (l.map encInt).flatten
theorem encInts_cons (n : Int) (l : List Int) : encInts (n :: l) = encInt n ++ encInts l := by simp [encInts]
theorem encInts_append (k l : List Int) : encInts (k ++ l) = encInts k ++ encInts l := by simp [encInts]
theorem RdV.At.ints {r : RdV} {b l : List UInt8} : ∀ (xs : List Int) {zs : List Int}, r.At b (encInts (xs ++ zs) ++ l) → (∀ x ∈ xs, I64 x) → (rdInts xs.length r).1 = xs ∧ (rdInts xs.length r).2.At b (encInts zs ++ l) := by
  intro xs
  generalize hk : xs.length = k
  induction k generalizing xs with
  | zero => intro zs h _; have := List.eq_nil_of_length_eq_zero hk; subst this; exact ⟨rfl, h⟩
  | succ k ih =>
    rcases List.eq_nil_or_concat xs with rfl | ⟨xs, x, rfl⟩
    · cases hk
    rw [List.concat_eq_append] at hk ⊢
    intro zs h hr
    rw [List.append_assoc] at h
    rw [List.length_append, List.length_singleton] at hk
    have ih := fun {zs : List Int} => ih xs (by omega) (zs := zs)
    obtain ⟨h1, h2⟩ := ih h fun y hy => hr y (List.mem_append_left _ hy)
    rw [List.singleton_append, encInts_cons, List.append_assoc] at h2
    obtain ⟨h3, h4⟩ := h2.int (hr x (by simp))
    exact ⟨by show _ ++ [_] = _; rw [h1, h3], h4⟩
theorem RdV.At.done {r : RdV} {b : List UInt8} (h : r.At b []) : rdDone r = 0 := by
  have hl := congrArg List.length h.rest
  rw [List.length_drop, List.length_nil] at hl
  unfold rdDone
  rw [h.bytes, h.why, if_neg (by omega)]

/-! ### events -/
structure EventV where
  origin : Int
  seq : Int
  lamport : Int
  deps : List Int
  typ : Int
  agg : Int
  field : Int
  op : Int
  arg : Int
  key : Int
deriving DecidableEq

structure EventV.Ok (e : EventV) : Prop where
  origin : I64 e.origin
  seq : I64 e.seq
  lamport : I64 e.lamport
  deps : ∀ x ∈ e.deps, I64 x
  typ : I64 e.typ
  agg : I64 e.agg
  field : I64 e.field
  op : I64 e.op
  arg : I64 e.arg
  key : I64 e.key

def zeroEv : EventV := ⟨0, 0, 0, [], 0, 0, 0, 0, 0, 0⟩
theorem zeroEv_ok : zeroEv.Ok := by constructor <;> simp [zeroEv, I64]

def evInts (e : EventV) : List Int := [e.origin, e.seq, e.lamport, (e.deps.length : Int)] ++ e.deps ++ [e.typ, e.agg, e.field, e.op, e.arg, e.key]
def evPut (e : EventV) : List UInt8 × Int := if 64 < e.deps.length then ([], 3) else (encInts (evInts e), 0)

def evRead (r : RdV) : EventV × RdV :=
  (fun a => (fun c => (fun d => (fun t => (⟨a.1.getD 0 0, a.1.getD 1 0, a.1.getD 2 0, d.1, t.1.getD 0 0, t.1.getD 1 0, t.1.getD 2 0, t.1.getD 3 0, t.1.getD 4 0, t.1.getD 5 0⟩, t.2))
    (rdInts 6 d.2)) (rdInts c.1.toNat c.2)) (rdCount 64 a.2)) (rdInts 3 r)
def evGet (b : List UInt8) : EventV × Int := if rdDone (evRead ⟨b, 0, 0⟩).2 ≠ 0 then (zeroEv, rdDone (evRead ⟨b, 0, 0⟩).2) else ((evRead ⟨b, 0, 0⟩).1, 0)

theorem getD_range {l : List Int} (h : ∀ x ∈ l, I64 x) (i : Nat) : I64 (l.getD i 0) := by
  rw [List.getD_eq_getElem?_getD]
  cases hi : l[i]? with
  | none => simp [I64]
  | some x => exact h x (List.mem_of_getElem? hi)
theorem evRead_ok {r : RdV} (h : r.Fit) : (evRead r).2.Fit ∧ (evRead r).1.Ok ∧ (evRead r).1.deps.length ≤ 64 := by
  obtain ⟨a1, a2, a3, a4⟩ := h.ints 3
  obtain ⟨c1, c2, c3, c4⟩ := a1.count (m := 64) (by omega)
  obtain ⟨d1, d2, d3, d4⟩ := c1.ints (rdCount 64 (rdInts 3 r).2).1.toNat
  obtain ⟨t1, t2, t3, t4⟩ := d1.ints 6
  refine ⟨t1, ⟨getD_range a2 0, getD_range a2 1, getD_range a2 2, d2, getD_range t2 0, getD_range t2 1, getD_range t2 2, getD_range t2 3, getD_range t2 4, getD_range t2 5⟩, ?_⟩
  show (rdInts _ _).1.length ≤ 64
  rw [d3]; omega
theorem evGet_ok (b : List UInt8) : (evGet b).1.Ok ∧ (evGet b).1.deps.length ≤ 64 := by
  unfold evGet
  have := evRead_ok (r := ⟨b, 0, 0⟩) ⟨Nat.zero_le _, .inl rfl⟩
  split
  · exact ⟨zeroEv_ok, by simp [zeroEv]⟩
  · exact this.2
/-- WHAT WAS LAID IS READ -/
theorem evGet_put {e : EventV} (h : e.Ok) (hd : e.deps.length ≤ 64) : evGet (encInts (evInts e)) = (e, 0) := by
  have h0 : (RdV.mk (encInts (evInts e)) 0 0).At (encInts (evInts e)) (encInts ([e.origin, e.seq, e.lamport] ++ ((e.deps.length : Int) :: (e.deps ++ [e.typ, e.agg, e.field, e.op, e.arg, e.key]))) ++ []) :=
    ⟨rfl, Nat.zero_le _, rfl, by rw [List.drop_zero, List.append_nil]; simp [evInts]⟩
  generalize encInts (evInts e) = b at h0 ⊢
  obtain ⟨a1, a2⟩ := RdV.At.ints [e.origin, e.seq, e.lamport] h0 (by intro x hx; simp at hx; rcases hx with rfl | rfl | rfl <;> first | exact h.origin | exact h.seq | exact h.lamport)
  rw [encInts_cons, List.append_assoc] at a2
  obtain ⟨c1, c2⟩ := a2.count (m := 64) (by unfold I64; omega) (by omega) (by omega)
  obtain ⟨d1, d2⟩ := RdV.At.ints e.deps c2 h.deps
  have d2' : (rdInts e.deps.length (rdCount 64 (rdInts [e.origin, e.seq, e.lamport].length ⟨b, 0, 0⟩).2).2).2.At b (encInts ([e.typ, e.agg, e.field, e.op, e.arg, e.key] ++ []) ++ []) := d2
  obtain ⟨t1, t2⟩ := RdV.At.ints [e.typ, e.agg, e.field, e.op, e.arg, e.key] d2' (by intro x hx; simp at hx; rcases hx with rfl | rfl | rfl | rfl | rfl | rfl <;> first | exact h.typ | exact h.agg | exact h.field | exact h.op | exact h.arg | exact h.key)
  have hread : evRead ⟨b, 0, 0⟩ = (e, (rdInts 6 (rdInts e.deps.length (rdCount 64 (rdInts 3 ⟨b, 0, 0⟩).2).2).2).2) := by
    have c1' : (rdCount 64 (rdInts 3 ⟨b, 0, 0⟩).2).1 = (e.deps.length : Int) := c1
    have a1' : (rdInts 3 ⟨b, 0, 0⟩).1 = [e.origin, e.seq, e.lamport] := a1
    have t1' : (rdInts 6 (rdInts e.deps.length (rdCount 64 (rdInts 3 ⟨b, 0, 0⟩).2).2).2).1 = [e.typ, e.agg, e.field, e.op, e.arg, e.key] := t1
    have d1' : (rdInts e.deps.length (rdCount 64 (rdInts 3 ⟨b, 0, 0⟩).2).2).1 = e.deps := d1
    unfold evRead
    simp only [c1', a1', Int.toNat_natCast, t1', d1']
    rfl
  have hdone : rdDone (evRead ⟨b, 0, 0⟩).2 = 0 := by rw [hread]; exact RdV.At.done (by simpa [encInts] using t2)
  unfold evGet
  rw [hdone, if_neg (by simp), hread]

/-! ### frames -/
def be4 (u : Nat) : List UInt8 := [UInt8.ofNat (u / 16777216), UInt8.ofNat (u / 65536), UInt8.ofNat (u / 256), UInt8.ofNat u]
def frHead (kind : Int) (body : List UInt8) : List UInt8 := [UInt8.ofNat kind.toNat, UInt8.ofNat (body.length / 65536), UInt8.ofNat (body.length / 256), UInt8.ofNat body.length] ++ body
def frBytes (kind : Int) (body : List UInt8) : List UInt8 := frHead kind body ++ be4 (crcV (frHead kind body)).toNat ++ [10]
def frPut (kind : Int) (body : List UInt8) : List UInt8 × Int := if kind < 1 ∨ 255 < kind then ([], 2) else if 65536 < body.length then ([], 5) else (frBytes kind body, 0)

structure FrV where
  kind : Int
  body : List UInt8
  n : Nat
  no : Int
def frGet (b : List UInt8) : FrV := if b.length < 4 then ⟨0, [], 0, 4⟩ else if b.getD 0 0 = 0 then ⟨0, [], 0, 2⟩ else
  (fun n => if 65536 < n then ⟨0, [], 0, 5⟩ else if b.length < n + 9 then ⟨0, [], 0, 4⟩ else
    if b.take (n + 9) = frBytes (b.getD 0 0).toNat ((b.drop 4).take n) then ⟨(b.getD 0 0).toNat, (b.drop 4).take n, n + 9, 0⟩ else ⟨0, [], 0, 6⟩)
    ((b.getD 1 0).toNat * 65536 + (b.getD 2 0).toNat * 256 + (b.getD 3 0).toNat)

theorem frBytes_length (k : Int) (b : List UInt8) : (frBytes k b).length = b.length + 9 := by simp [frBytes, frHead, be4]
theorem frGet_no {b : List UInt8} (h : (frGet b).no = 0) : (frGet b).n ≤ b.length ∧ 9 ≤ (frGet b).n ∧ (frGet b).n = (frGet b).body.length + 9 := by
  unfold frGet at h ⊢
  generalize (b.getD 1 0).toNat * 65536 + (b.getD 2 0).toNat * 256 + (b.getD 3 0).toNat = n at h ⊢
  split at h
  · cases h
  rename_i h0
  rw [if_neg h0]
  split at h
  · cases h
  rename_i h1
  rw [if_neg h1]
  simp only at h ⊢
  split at h
  · cases h
  rename_i h2
  rw [if_neg h2]
  split at h
  · cases h
  rename_i h3
  rw [if_neg h3]
  split at h
  · rename_i h4
    rw [if_pos h4]
    refine ⟨by simp only; omega, by simp only; omega, by simp; omega⟩
  · cases h

theorem head_n {n : Nat} (h : n ≤ 65536) : (UInt8.ofNat (n / 65536)).toNat * 65536 + (UInt8.ofNat (n / 256)).toNat * 256 + (UInt8.ofNat n).toNat = n := by
  simp only [UInt8.toNat_ofNat']
  omega
/-- WHAT WAS LAID IS READ -/
theorem frGet_put {k : Int} {body r : List UInt8} (h1 : 1 ≤ k) (h2 : k ≤ 255) (h3 : body.length ≤ 65536) : frGet (frBytes k body ++ r) = ⟨k, body, body.length + 9, 0⟩ := by
  have hk : (UInt8.ofNat k.toNat).toNat = k.toNat := by rw [UInt8.toNat_ofNat']; omega
  have e0 : (frBytes k body ++ r).getD 0 0 = UInt8.ofNat k.toNat := rfl
  have e1 : (frBytes k body ++ r).getD 1 0 = UInt8.ofNat (body.length / 65536) := rfl
  have e2 : (frBytes k body ++ r).getD 2 0 = UInt8.ofNat (body.length / 256) := rfl
  have e3 : (frBytes k body ++ r).getD 3 0 = UInt8.ofNat body.length := rfl
  have e4 : ((frBytes k body ++ r).drop 4).take body.length = body := by
    have : (frBytes k body ++ r).drop 4 = body ++ (be4 (crcV (frHead k body)).toNat ++ [10] ++ r) := by simp [frBytes, frHead]
    rw [this, List.take_left]
  have hl := frBytes_length k body
  unfold frGet
  rw [e0, e1, e2, e3, head_n h3, if_neg (by rw [List.length_append]; omega), if_neg (by intro e; have := congrArg UInt8.toNat e; rw [hk] at this; simp at this; omega)]
  simp only [e4, hk]
  rw [if_neg (by omega), if_neg (by rw [List.length_append]; omega), if_pos]
  · congr 1; omega
  · rw [← hl, List.take_left]
    congr 1; omega

theorem valB4 (l : List UInt8) (h : l.length = 4) (s : Nat) (hs : s < 2 ^ 32) : valB l = s ↔ l = be4 s := by
  match l, h with
  | [a, b, c, d], _ =>
    have ha := a.toNat_lt; have hb := b.toNat_lt; have hc := c.toNat_lt; have hd := d.toNat_lt
    have hv : valB [a, b, c, d] = ((a.toNat * 256 + b.toNat) * 256 + c.toNat) * 256 + d.toNat := by simp [valB]
    rw [hv]
    constructor
    · intro h
      unfold be4
      have f : ∀ (x : UInt8) (n : Nat), x.toNat = n % 256 → x = UInt8.ofNat n := fun x n h => UInt8.toNat_inj.1 (by rw [UInt8.toNat_ofNat', h])
      rw [f a (s / 16777216) (by omega), f b (s / 65536) (by omega), f c (s / 256) (by omega), f d s (by omega)]
    · intro h
      unfold be4 at h
      simp only [List.cons.injEq, and_true] at h
      obtain ⟨rfl, rfl, rfl, rfl⟩ := h
      simp only [UInt8.toNat_ofNat']
      omega
theorem take4 : ∀ {b : List UInt8}, 4 ≤ b.length → b.take 4 = [b.getD 0 0, b.getD 1 0, b.getD 2 0, b.getD 3 0]
  | x :: y :: z :: t :: r, _ => rfl
  | [], h => by simp at h
  | [_], h => by simp at h
  | [_, _], h => by simp at h
  | [_, _, _], h => by simp at h
/-- a frame by its sum and its end -/
theorem fr_sum {b : List UInt8} {n : Nat} (hl : n + 9 ≤ b.length) (hn : (b.getD 1 0).toNat * 65536 + (b.getD 2 0).toNat * 256 + (b.getD 3 0).toNat = n) (h9 : n ≤ 65536) :
    b.take (n + 9) = frBytes (b.getD 0 0).toNat ((b.drop 4).take n) ↔ ((crcV (b.take (4 + n))).toNat = valB ((b.drop (4 + n)).take 4) ∧ b.getD (8 + n) 0 = 10) := by
  have hbl : ((b.drop 4).take n).length = n := by simp; omega
  have f : ∀ (x : UInt8) (m : Nat), x.toNat = m % 256 → UInt8.ofNat m = x := fun x m h => UInt8.toNat_inj.1 (by rw [UInt8.toNat_ofNat', h])
  have h1 := (b.getD 1 0).toNat_lt
  have h2 := (b.getD 2 0).toNat_lt
  have h3 := (b.getD 3 0).toNat_lt
  have hhead : frHead (b.getD 0 0).toNat ((b.drop 4).take n) = b.take (4 + n) := by
    unfold frHead
    rw [hbl, Int.toNat_natCast, f (b.getD 0 0) _ (by have := (b.getD 0 0).toNat_lt; omega), f (b.getD 1 0) (n / 65536) (by omega), f (b.getD 2 0) (n / 256) (by omega), f (b.getD 3 0) n (by omega)]
    rw [List.take_add]
    congr 1
    exact (take4 (by omega)).symm
  have hsplit : b.take (n + 9) = b.take (4 + n) ++ (b.drop (4 + n)).take 4 ++ [b.getD (8 + n) 0] := by
    rw [show n + 9 = (4 + n) + (4 + 1) by omega, List.take_add, List.append_assoc, List.take_add (l := b.drop (4 + n)), List.drop_drop]
    congr 2
    rw [show 4 + n + 4 = 8 + n by omega, List.getD_eq_getElem?_getD, List.getElem?_eq_getElem (by omega), Option.getD_some]
    rw [List.drop_eq_getElem_cons (by omega)]
    rfl
  unfold frBytes
  rw [hhead, hsplit]
  have hl4 : ((b.drop (4 + n)).take 4).length = 4 := by simp; omega
  have hlt : (crcV (b.take (4 + n))).toNat < 2 ^ 32 := (crcV (b.take (4 + n))).isLt
  rw [eq_comm (b := valB _), valB4 _ hl4 _ hlt]
  constructor
  · intro h
    obtain ⟨h5, h6⟩ := List.append_inj' h rfl
    exact ⟨List.append_cancel_left h5, by simpa using h6⟩
  · rintro ⟨h5, h6⟩
    rw [h5, h6]

/-! ### segments -/
def segLoad (b : List UInt8) : List EventV × Nat :=
  if h : (frGet b).no = 0 ∧ (frGet b).kind = 1 ∧ (evGet (frGet b).body).2 = 0 then ((evGet (frGet b).body).1 :: (segLoad (b.drop (frGet b).n)).1, (frGet b).n + (segLoad (b.drop (frGet b).n)).2) else ([], 0)
termination_by b.length
decreasing_by all_goals (have := frGet_no h.1; simp; omega)
theorem segLoad_yes {b : List UInt8} (h : (frGet b).no = 0 ∧ (frGet b).kind = 1 ∧ (evGet (frGet b).body).2 = 0) : segLoad b = ((evGet (frGet b).body).1 :: (segLoad (b.drop (frGet b).n)).1, (frGet b).n + (segLoad (b.drop (frGet b).n)).2) := by
  rw [segLoad, dif_pos h]
theorem segLoad_no {b : List UInt8} (h : ¬ ((frGet b).no = 0 ∧ (frGet b).kind = 1 ∧ (evGet (frGet b).body).2 = 0)) : segLoad b = ([], 0) := by
  rw [segLoad, dif_neg h]

theorem encInt_le {n : Int} (h : I64 n) : (encInt n).length ≤ 9 := by
  unfold I64 at h
  have := lowB_le8 (u := n.natAbs) (by omega)
  simp [encInt]; omega
theorem encInts_le : ∀ {l : List Int}, (∀ x ∈ l, I64 x) → (encInts l).length ≤ 9 * l.length
  | [], _ => by simp [encInts]
  | n :: l, h => by
    rw [encInts_cons, List.length_append, List.length_cons]
    have h1 := encInt_le (h n (List.mem_cons_self ..))
    have h2 := encInts_le (l := l) fun x hx => h x (List.mem_cons_of_mem _ hx)
    omega
theorem EventV.Ok.ints {e : EventV} (h : e.Ok) (hd : e.deps.length ≤ 4611686018427387904) : ∀ x ∈ evInts e, I64 x := by
  intro x hx
  simp only [evInts, List.mem_append, List.mem_cons, List.not_mem_nil, or_false] at hx
  rcases hx with ((rfl | rfl | rfl | rfl) | hx) | (rfl | rfl | rfl | rfl | rfl | rfl)
  · exact h.origin
  · exact h.seq
  · exact h.lamport
  · unfold I64; omega
  · exact h.deps x hx
  · exact h.typ
  · exact h.agg
  · exact h.field
  · exact h.op
  · exact h.arg
  · exact h.key
theorem ev_le {e : EventV} (h : e.Ok) (hd : e.deps.length ≤ 64) : (encInts (evInts e)).length ≤ 666 := by
  have := encInts_le (h.ints (by omega))
  have hl : (evInts e).length = 10 + e.deps.length := by simp [evInts]; omega
  omega

/-- the bytes of an event's frame -/
def evFr (e : EventV) : List UInt8 := frBytes 1 (encInts (evInts e))
theorem evFr_length {e : EventV} (h : e.Ok) (hd : e.deps.length ≤ 64) : (evFr e).length ≤ 675 ∧ 9 ≤ (evFr e).length := by
  have := ev_le h hd
  unfold evFr
  rw [frBytes_length]
  omega
theorem frGet_ev {e : EventV} (h : e.Ok) (hd : e.deps.length ≤ 64) (r : List UInt8) : frGet (evFr e ++ r) = ⟨1, encInts (evInts e), (evFr e).length, 0⟩ := by
  unfold evFr
  rw [frGet_put (by decide) (by decide) (by have := ev_le h hd; omega), frBytes_length]
theorem segLoad_ev {e : EventV} (h : e.Ok) (hd : e.deps.length ≤ 64) (r : List UInt8) : segLoad (evFr e ++ r) = (e :: (segLoad r).1, (evFr e).length + (segLoad r).2) := by
  have hf := frGet_ev h hd r
  have hg := evGet_put h hd
  rw [segLoad_yes (by rw [hf]; exact ⟨rfl, rfl, by rw [hg]⟩), hf, hg, List.drop_left]
/-- frames, one behind the other -/
def evFrs (l : List EventV) : List UInt8 := (l.map evFr).flatten
theorem evFrs_cons (e : EventV) (l : List EventV) : evFrs (e :: l) = evFr e ++ evFrs l := by simp [evFrs]
theorem evFrs_append (k l : List EventV) : evFrs (k ++ l) = evFrs k ++ evFrs l := by simp [evFrs]
theorem segLoad_evs : ∀ {l : List EventV}, (∀ e ∈ l, e.Ok ∧ e.deps.length ≤ 64) → ∀ r, segLoad (evFrs l ++ r) = (l ++ (segLoad r).1, (evFrs l).length + (segLoad r).2)
  | [], _, r => by simp [evFrs]
  | e :: l, h, r => by
    obtain ⟨h1, h2⟩ := h e (List.mem_cons_self ..)
    rw [evFrs_cons, List.append_assoc, segLoad_ev h1 h2, segLoad_evs (fun x hx => h x (List.mem_cons_of_mem _ hx)), List.length_append]
    simp only [List.cons_append, Nat.add_assoc]
theorem frGet_short {b : List UInt8} (h : b.length < 4) : (frGet b).no ≠ 0 := by unfold frGet; rw [if_pos h]; simp
/-- a piece of a frame is none -/
theorem frGet_torn {k : Int} {body : List UInt8} {c : Nat} (h3 : body.length ≤ 65536) (hc : c < (frBytes k body).length) : (frGet ((frBytes k body).take c)).no ≠ 0 := by
  by_cases h4 : c < 4
  · exact frGet_short (by rw [List.length_take]; omega)
  have hg : ∀ i, i < 4 → ((frBytes k body).take c).getD i 0 = (frBytes k body).getD i 0 := fun i hi => by
    rw [List.getD_eq_getElem?_getD, List.getD_eq_getElem?_getD, List.getElem?_take, if_pos (by omega)]
  have hl := frBytes_length k body
  have e1 : (frBytes k body).getD 1 0 = UInt8.ofNat (body.length / 65536) := rfl
  have e2 : (frBytes k body).getD 2 0 = UInt8.ofNat (body.length / 256) := rfl
  have e3 : (frBytes k body).getD 3 0 = UInt8.ofNat body.length := rfl
  unfold frGet
  rw [hg 0 (by omega), hg 1 (by omega), hg 2 (by omega), hg 3 (by omega), e1, e2, e3, head_n h3]
  split
  · simp
  split
  · simp
  simp only
  rw [if_neg (by omega), if_pos (by rw [List.length_take]; omega)]
  simp
theorem segLoad_end {b : List UInt8} (h : (frGet b).no ≠ 0) : segLoad b = ([], 0) := segLoad_no fun hc => h hc.1
theorem segLoad_nil : segLoad [] = ([], 0) := segLoad_end (frGet_short (by simp))
/-- WHAT IS CUT OFF, WHEREVER -/
theorem segLoad_torn : ∀ {l : List EventV}, (∀ e ∈ l, e.Ok ∧ e.deps.length ≤ 64) → ∀ (c : Nat), ∃ n, n ≤ l.length ∧ segLoad ((evFrs l).take c) = (l.take n, (evFrs (l.take n)).length) ∧ (evFrs (l.take n)).length ≤ c ∧ (n < l.length → c < (evFrs (l.take (n + 1))).length)
  | [], _, c => ⟨0, Nat.le_refl _, by simp [evFrs, segLoad_nil], by simp [evFrs], by simp⟩
  | e :: l, h, c => by
    obtain ⟨h1, h2⟩ := h e (List.mem_cons_self ..)
    by_cases hc : c < (evFr e).length
    · refine ⟨0, Nat.zero_le _, ?_, by simp [evFrs], fun _ => by simpa [evFrs] using hc⟩
      rw [evFrs_cons, List.take_append_of_le_length (by omega), segLoad_end]
      · rfl
      · exact frGet_torn (by have := ev_le h1 h2; omega) hc
    · obtain ⟨n, a1, a2, a3, a4⟩ := segLoad_torn (l := l) (fun x hx => h x (List.mem_cons_of_mem _ hx)) (c - (evFr e).length)
      refine ⟨n + 1, by simpa using a1, ?_, ?_, fun hn => ?_⟩
      · rw [evFrs_cons, List.take_append, List.take_of_length_le (by omega), segLoad_ev h1 h2, a2, List.take_succ_cons, evFrs_cons, List.length_append]
      · rw [List.take_succ_cons, evFrs_cons, List.length_append]; omega
      · have := a4 (by simpa using hn)
        rw [List.take_succ_cons, evFrs_cons, List.length_append]; omega
def segFrame (e : EventV) : List UInt8 × Int := if (evPut e).2 ≠ 0 then ([], (evPut e).2) else frPut 1 (evPut e).1
end Go.Lift
