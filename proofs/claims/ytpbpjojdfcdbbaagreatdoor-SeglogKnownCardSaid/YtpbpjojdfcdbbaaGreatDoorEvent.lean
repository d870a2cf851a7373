/- event: how events lie, their bytes laid and read -/
import Derived.Test.YtpbpjojdfcdbbaaGreatDoorReader2
import Derived.Test.YtpbpjojdfcdbbaaGreatDoorStore
namespace Go.Proofs.YtpbpjojdfcdbbaaGreatDoor
open Go.Lift
set_option linter.unusedVariables false
set_option maxRecDepth 20000

theorem slI64 : SlT Tryz.prog 37 3 1 8 := ⟨by kernel_rfl, by kernel_rfl, by decide⟩

def evCells (e : EventV) (a : Option Addr) (n c : Nat) : List Value :=
  [.int .i64 e.origin, .int .i64 e.seq, .int .i64 e.lamport, .slice a n c, .int .i64 e.typ, .int .i64 e.agg, .int .i64 e.field, .int .i64 e.op, .int .i64 e.arg, .int .i64 e.key]

/-- an event that is read -/
def cEv : Cod EventV where
  k := 10
  rep := fun w D e cs => ∃ a n c, cs = evCells e a n c ∧ Row cI64 8 w D a n e.deps ∧ e.Ok
  keep := fun ⟨a, n, c, h1, h2, h3⟩ hk hd => ⟨a, n, c, h1, h2.keep hk hd, h3⟩
  mono := fun ⟨a, n, c, h1, h2, h3⟩ hd => ⟨a, n, c, h1, h2.mono hd, h3⟩
  len := fun ⟨a, n, c, h1, _, _⟩ => by rw [h1]; rfl
  one := fun ⟨a, n, c, h1, _, _⟩ u hu => by
    rw [h1] at hu
    simp only [evCells, List.mem_cons, List.not_mem_nil, or_false] at hu
    rcases hu with rfl | rfl | rfl | rfl | rfl | rfl | rfl | rfl | rfl | rfl <;> rfl
/-- an event that owns its Deps -/
def cEvO : Cod EventV where
  k := 10
  rep := fun w D e cs => ∃ a n c F, cs = evCells e a n c ∧ Lst cI64 3 F w a n c e.deps ∧ (∀ b, F b → D b) ∧ e.Ok ∧ e.deps.length * 8 ≤ Big
  keep := fun ⟨a, n, c, F, h1, h2, h3, h4⟩ hk hd => ⟨a, n, c, F, h1, h2.keep hk (fun b hb => hd b (h3 b hb)), h3, h4⟩
  mono := fun ⟨a, n, c, F, h1, h2, h3, h4⟩ hd => ⟨a, n, c, F, h1, h2, fun b hb => hd b (h3 b hb), h4⟩
  len := fun ⟨a, n, c, F, h1, _⟩ => by rw [h1]; rfl
  one := fun ⟨a, n, c, F, h1, _⟩ u hu => by
    rw [h1] at hu
    simp only [evCells, List.mem_cons, List.not_mem_nil, or_false] at hu
    rcases hu with rfl | rfl | rfl | rfl | rfl | rfl | rfl | rfl | rfl | rfl <;> rfl
theorem cEvO.read {w : World} {D : Nat → Prop} {e : EventV} {cs : List Value} (h : cEvO.rep w D e cs) : cEv.rep w D e cs := by
  obtain ⟨a, n, c, F, h1, h2, h3, h4, h5⟩ := h
  exact ⟨a, n, c, h1, (h2.row (by decide) h5).mono h3, h4⟩
theorem cEvO.row {w : World} {D : Nat → Prop} {a : Option Addr} {n : Nat} {l : List EventV} (h : Row cEvO 96 w D a n l) : Row cEv 96 w D a n l :=
  ⟨h.len, h.big, fun i x hi => by
    obtain ⟨b, off, es, h1, h2, h3, h4, h5⟩ := h.el i x hi
    exact ⟨b, off, es, h1, h2, h3, h4, cEvO.read h5⟩⟩
theorem slEv : SlT Tryz.prog 22 39 10 96 := ⟨by kernel_rfl, by kernel_rfl, by decide⟩

theorem put_lay {w : World} {q : Nat} {ba : Option Addr} {bn bc : Nat} {F D : Nat → Prop} {bs : List UInt8} {la : Option Addr} {ln lc : Nat} {xs : List Int} (hq : w.heap[q]? = some (.cells #[.slice ba bn bc] 49 (0, 0)))
    (hb : Lst cU8 5 F w ba bn bc bs) (hx : Row cI64 8 w D la ln xs) (hF : ¬ F q) (hD : ¬ D q) (hlen : bs.length + 9 * xs.length + 9 ≤ Big) :
    Calls Tryz.prog F_event_Put_1 #[.slice la ln lc, .pointer (some ⟨q, 0, none⟩)] w (Ok fun v w' => v = .tuple #[] ∧ ∃ ba' bn' bc' F', w'.heap[q]? = some (.cells #[.slice ba' bn' bc'] 49 (0, 0)) ∧
      Lst cU8 5 F' w' ba' bn' bc' (bs ++ encInts xs) ∧ ¬ F' q ∧ Keep (· = q) w w' ∧ ∀ b, F' b → F b ∨ w.heap.size ≤ b) := by
  have hl := hx.len
  have hqs := lt_of_get hq
  have hbig := hx.big
  unfold Big at hbig
  refine L_event_Put_1 ⟨fun m i w' => ∃ j : Nat, i = j ∧ j ≤ ln ∧ m = ln - j ∧ ∃ ba' bn' bc' F', w'.heap[q]? = some (.cells #[.slice ba' bn' bc'] 49 (0, 0)) ∧
      Lst cU8 5 F' w' ba' bn' bc' (bs ++ encInts (xs.take j)) ∧ ¬ F' q ∧ Keep (· = q) w w' ∧ ∀ b, F' b → F b ∨ w.heap.size ≤ b,
    ⟨_, 0, rfl, Nat.zero_le _, rfl, ba, bn, bc, F, hq, by simpa [encInts] using hb, hF, Keep.refl _, fun b h => .inl h⟩, ?_⟩
  rintro m i _ w1 ⟨j, rfl, hj, rfl, a1, n1, c1, F1, g1, ho1, hF1, k1, hN1⟩
  refine PIf.dec (fun h1 => ?_) (fun h1 => ?_)
  · obtain ⟨b, off, x, rfl, hxj, hxr, hc⟩ := (hx.keep k1 (fun b hb e => hD (e ▸ hb))).at1 (i := j) (by omega)
    refine ⟨b, off, rfl, by omega, by omega, x, hc, a1, n1, c1, cell_at g1 rfl, ?_⟩
    have htl : (encInts (xs.take j)).length ≤ 9 * j := by
      have := encInts_le (l := xs.take j) (fun y hy => by
        obtain ⟨k, hk⟩ := List.getElem?_of_mem (List.mem_of_mem_take hy)
        have hk2 : k < ln := by rw [hl]; exact (List.getElem?_eq_some_iff.1 hk).1
        obtain ⟨_, _, z, _, hz, hzr, _⟩ := hx.at1 (i := k) hk2
        rw [hk] at hz; cases hz; exact hzr)
      simp only [List.length_take] at this
      omega
    have hn1 := ho1.len (by decide)
    rw [List.length_append] at hn1
    unfold Big at hlen
    refine PC.ok (pack_Int hxr (ho1.row (bytes := 1) (by decide) (by rw [List.length_append]; unfold Big; omega)) (by unfold Big; omega) ho1.dom) ?_
    rintro _ w2 ⟨a2, n2, c2, F2, rfl, ho2, k2, hN2⟩
    have hq2 : ¬ F2 q := fun h => by have := hN2 q h; have := k1.size; omega
    refine ⟨_, _, _, rfl, PS.mk (k2.get g1 id) (by simp) fun w3 k3 s3 g3 => ⟨_, by omega, j + 1, wrap_succ (by omega), by omega, rfl, a2, n2, c2, F2, g3, ?_, hq2, (k1.grew k2).then k3, fun b hb => .inr (Nat.le_trans k1.size (hN2 b hb))⟩⟩
    rw [List.take_add_one, hxj]
    have e : bs ++ encInts (List.take j xs ++ (some x).toList) = bs ++ encInts (List.take j xs) ++ encInt x := by rw [encInts_append]; simp [encInts]
    rw [e]
    exact ho2.keep k3 fun b hb e => hq2 (e ▸ hb)
  · rw [List.take_of_length_le (by omega)] at ho1
    exact Ok.mk ⟨rfl, a1, n1, c1, F1, g1, ho1, hF1, k1, hN1⟩

/-- numbers in a block of their own -/
theorem row_ints {w : World} {g : Nat} {f : Nat × Nat} (xs : List Int) (hg : w.heap[g]? = some (.cells (xs.map (Value.int .i64)).toArray 3 f)) (hr : ∀ x ∈ xs, I64 x) (hl : xs.length ≤ 1000) : Row cI64 8 w (· = g) (some ⟨g, 0, none⟩) xs.length xs :=
  Row.lit hg xs (by simp) hr (by unfold Big; omega)

theorem event_Put {w : World} {D : Nat → Prop} {e : EventV} {a : Option Addr} {n c : Nat} (hd : Row cI64 8 w D a n e.deps) (he : e.Ok) (hD : ∀ b, D b → b < w.heap.size) :
    Calls Tryz.prog F_event_Put #[.agg (evCells e a n c).toArray] w (Ok fun v w' => ∃ u, v = .tuple #[u, .int .i64 (evPut e).2] ∧ New cU8 5 w (evPut e).1 u w') := by
  have hn := hd.len
  refine L_event_Put (PA.mk fun w1 k1 s1 g1 => ⟨a, n, c, cell_at g1 rfl, PIf.dec (fun h => ?_) (fun h => ?_)⟩)
  · have hp : evPut e = ([], 3) := by unfold evPut; rw [if_pos (by omega)]
    rw [hp]
    exact Ok.mk ⟨_, rfl, none, 0, 0, fun _ => False, rfl, Lst.nil w1, k1, fun _ h => h.elim⟩
  have hle : e.deps.length ≤ 64 := by omega
  have hp : evPut e = (encInts (evInts e), 0) := by unfold evPut; rw [if_neg (by omega)]
  rw [hp]
  have hD1 : ∀ b, D b → b < w1.heap.size := fun b hb => Nat.lt_of_lt_of_le (hD b hb) k1.size
  refine PA.mk fun w2 k2 s2 g2 => ?_
  have gev2 := k2.get g1 id
  refine ⟨_, cell_at gev2 rfl, _, cell_at gev2 rfl, _, cell_at gev2 rfl, _, _, _, cell_at gev2 rfl, PA.mk fun w3 k3 s3 g3 => ⟨_, _, _, rfl, by kernel_rfl, ?_⟩⟩
  have r1 : Row cI64 8 w3 (· = w2.heap.size) (some ⟨w2.heap.size, 0, none⟩) 4 [e.origin, e.seq, e.lamport, (e.deps.length : Int)] :=
    row_ints (f := (0, 0)) [e.origin, e.seq, e.lamport, (e.deps.length : Int)] (by rw [g3, ← hn]; rfl) (by intro x hx; simp at hx; rcases hx with rfl | rfl | rfl | rfl; exact he.origin; exact he.seq; exact he.lamport; unfold I64; omega) (by simp)
  refine PC.ok (put_lay (k3.get g2 id) (Lst.nil w3) r1 id (by show ¬ w1.heap.size = w2.heap.size; omega) (by unfold Big; simp)) ?_
  rintro _ w4 ⟨rfl, a4, n4, c4, F4, g4, ho4, hq4, k4, hN4⟩
  have k24 : Keep (· = w1.heap.size) w2 w4 := k3.keep.then k4
  have gev4 := k24.get gev2 (by omega)
  have hd4 : Row cI64 8 w4 D a n e.deps := ((hd.grew (k1.then k2)).keep k24 fun b hb e => by have := hD1 b hb; omega)
  refine ⟨rfl, _, _, _, cell_at gev4 rfl, _, _, _, rfl, by kernel_rfl, PC.ok (put_lay g4 ho4 hd4 hq4 (fun h => by have := hD1 _ h; omega) ?_) ?_⟩
  · have h1 := encInts_le (l := [e.origin, e.seq, e.lamport, (e.deps.length : Int)]) (by intro x hx; simp at hx; rcases hx with rfl | rfl | rfl | rfl; exact he.origin; exact he.seq; exact he.lamport; unfold I64; omega)
    simp only [List.nil_append, List.length_cons, List.length_nil] at h1 ⊢
    unfold Big; omega
  rintro _ w5 ⟨rfl, a5, n5, c5, F5, g5, ho5, hq5, k5, hN5⟩
  have gev5 := k5.get gev4 (by omega)
  refine ⟨rfl, _, cell_at gev5 rfl, _, cell_at gev5 rfl, _, cell_at gev5 rfl, _, cell_at gev5 rfl, _, cell_at gev5 rfl, _, cell_at gev5 rfl, PA.mk fun w6 k6 s6 g6 => ⟨_, _, _, rfl, by kernel_rfl, ?_⟩⟩
  have r6 : Row cI64 8 w6 (· = w5.heap.size) (some ⟨w5.heap.size, 0, none⟩) 6 [e.typ, e.agg, e.field, e.op, e.arg, e.key] :=
    row_ints (f := (0, 0)) [e.typ, e.agg, e.field, e.op, e.arg, e.key] g6 (by intro x hx; simp at hx; rcases hx with rfl | rfl | rfl | rfl | rfl | rfl; exact he.typ; exact he.agg; exact he.field; exact he.op; exact he.arg; exact he.key) (by simp)
  have hs45 := k24.size
  have hs5 := k5.size
  refine PC.ok (put_lay (k6.get g5 id) (ho5.grew k6) r6 hq5 (by show ¬ w1.heap.size = w5.heap.size; omega) ?_) ?_
  · have h1 := encInts_le (l := [e.origin, e.seq, e.lamport, (e.deps.length : Int)]) (by intro x hx; simp at hx; rcases hx with rfl | rfl | rfl | rfl; exact he.origin; exact he.seq; exact he.lamport; unfold I64; omega)
    have h2 := encInts_le he.deps
    simp only [List.nil_append, List.length_cons, List.length_nil, List.length_append] at h1 h2 ⊢
    unfold Big; omega
  rintro _ w7 ⟨rfl, a7, n7, c7, F7, g7, ho7, hq7, k7, hN7⟩
  refine ⟨rfl, _, _, _, cell_at g7 rfl, Ok.mk ⟨_, rfl, a7, n7, c7, F7, rfl, ?_, ?_, ?_⟩⟩
  · have : evInts e = [e.origin, e.seq, e.lamport, (e.deps.length : Int)] ++ e.deps ++ [e.typ, e.agg, e.field, e.op, e.arg, e.key] := rfl
    rw [this, encInts_append, encInts_append]
    exact ho7
  · have ka : Grew w w2 := k1.then k2
    exact (ka.new ((k24.then k5).then (k6.keep.then k7)) fun b hb => .inr (by omega))
  · intro b hb
    rcases hN7 b hb with h | h
    · rcases hN5 b h with h | h
      · rcases hN4 b h with h | h
        · exact h.elim
        · omega
      · omega
    · have := k6.size; omega
end Go.Proofs.YtpbpjojdfcdbbaaGreatDoor
