/- SessionKnown: the chapter's examples, numbers about their ends -/
import Derived.Test.YtnfcddhabhbicaaRep
import Derived.Test.YtnfcddhabhbicaaSessRuns
import Derived.Test.YtnfcddhabhbicaaSessApart
import Derived.Test.YtnfcddhabhbicaaSessDue
import Derived.Test.YtnfcddhabhbicaaSessEnds
namespace Go.Proofs.Ytnfcddhabhbicaa
open Go.Lift
set_option linter.unusedVariables false
set_option maxRecDepth 20000

theorem ints_lit {w : World} {g : Nat} {e : TypeId} {f : Nat × Nat} {cs : Array Value} {xs : List Int} (hg : w.heap[g]? = some (.cells cs e f)) (hc : cs.toList = xs.map (Value.int .i64)) (hr : ∀ x ∈ xs, I64 x) (hb : xs.length ≤ 1000) : Ints w (some ⟨g, 0, none⟩) xs.length xs :=
  ⟨rfl, by unfold Big; omega, hr, fun i x hi => ⟨g, 0, rfl, lt_of_get hg, cell_at hg (by
    have : cs.toList[i]? = some (.int .i64 x) := by rw [hc]; simp [hi]
    simpa using this)⟩⟩
end Go.Proofs.Ytnfcddhabhbicaa
namespace Go.Lift
open Go.Proofs Go.Proofs.Ytnfcddhabhbicaa
set_option linter.unusedVariables false
set_option maxRecDepth 20000
section
theorem Ints.take {w : World} {a : Option Addr} {n : Nat} {xs : List Int} (h : Ints w a n xs) {m : Nat} (hm : m ≤ n) : Ints w a m (xs.take m) := by
  have hl := h.len
  refine ⟨by simp; omega, Nat.le_trans (Nat.mul_le_mul_right _ hm) h.big, fun x hx => h.rng x (List.mem_of_mem_take hx), fun i x hi => ?_⟩
  rw [List.getElem?_take] at hi
  split at hi
  · exact h.cell i x hi
  · cases hi
end
end Go.Lift
namespace Go.Proofs.Ytnfcddhabhbicaa
open Go.Lift
set_option linter.unusedVariables false
set_option maxRecDepth 20000
structure Lay where
  x : ActV
  a1 : Option Addr
  n1 : Nat
  c1 : Nat
  a2 : Option Addr
  n2 : Nat
  c2 : Nat
def encL (r : Lay) : List Value := [.int .i64 r.x.kind, .int .i64 r.x.peer, .int .i64 r.x.now, .slice r.a1 r.n1 r.c1, .slice r.a2 r.n2 r.c2]
theorem flatM_get {α : Type} {enc : α → List Value} {k : Nat} (hl : ∀ x, (enc x).length = k) {j : Nat} (hj : j < k) : ∀ (xs : List α) (i : Nat) (x : α), xs[i]? = some x → (xs.flatMap enc)[i * k + j]? = (enc x)[j]?
  | [], i, x, h => by simp at h
  | y :: ys, 0, x, h => by
    simp at h; subst h
    rw [List.flatMap_cons, Nat.zero_mul, Nat.zero_add, List.getElem?_append_left (by rw [hl]; exact hj)]
  | y :: ys, i + 1, x, h => by
    have := flatM_get hl hj ys i x (by simpa using h)
    have e : (i + 1) * k + j - k = i * k + j := by rw [Nat.add_mul]; omega
    have e2 : k ≤ (i + 1) * k + j := by rw [Nat.add_mul]; omega
    rw [List.flatMap_cons, List.getElem?_append_right (by rw [hl]; exact e2), hl, e, this]

theorem acts_lit {w : World} {g : Nat} {e : TypeId} {f : Nat × Nat} {cs : Array Value} {rs : List Lay} (hg : w.heap[g]? = some (.cells cs e f)) (hc : cs.toList = rs.flatMap encL) (hb : rs.length ≤ 1000)
    (hr : ∀ r ∈ rs, Ints w r.a1 r.n1 r.x.vec ∧ Ints w r.a2 r.n2 r.x.want ∧ I64 r.x.kind ∧ I64 r.x.peer ∧ I64 r.x.now) : Acts w (some ⟨g, 0, none⟩) rs.length (rs.map (·.x)) := by
  refine ⟨by simp, by unfold Big; omega, fun i x hi => ?_⟩
  rw [List.getElem?_map] at hi
  cases hri : rs[i]? with
  | none => rw [hri] at hi; cases hi
  | some r =>
    rw [hri] at hi
    simp only [Option.map_some, Option.some.injEq] at hi
    subst hi
    obtain ⟨h1, h2, h3, h4, h5⟩ := hr r (List.mem_of_getElem? hri)
    have hcell : ∀ j v, j < 5 → (encL r)[j]? = some v → w.cell? ⟨g, 0 + i * 5 + j, none⟩ = some v := fun j v hj hv => by
      refine cell_at hg ?_
      have := flatM_get (enc := encL) (k := 5) (fun _ => rfl) hj rs i r hri
      rw [← hc, hv] at this
      rw [Nat.zero_add]
      simpa using this
    exact ⟨g, 0, r.a1, r.n1, r.c1, r.a2, r.n2, r.c2, rfl, lt_of_get hg, hcell 0 _ (by omega) rfl, hcell 1 _ (by omega) rfl, hcell 2 _ (by omega) rfl, hcell 3 _ (by omega) rfl, hcell 4 _ (by omega) rfl, h1, h2, h3, h4, h5⟩

def NS : List Int := [-9223372036854775808, -1, 0, 1, 2, 5, 2305843009213693952, 9223372036854775807]
theorem NS_i64 : ∀ x ∈ NS, I64 x := by
  intro x hx
  unfold NS at hx
  simp only [List.mem_cons, List.not_mem_nil, or_false] at hx
  unfold I64
  rcases hx with rfl | rfl | rfl | rfl | rfl | rfl | rfl | rfl <;> omega

theorem acts_known {w : World} {g g0 g1 g2 g3 n : Nat} {p1 p2 p3 q1 q2 q3 : Int} {f : Nat × Nat}
    (hg : w.heap[g]? = some (.cells #[.int .i64 0, .int .i64 p1, .int .i64 3, .slice none 0 0, .slice none 0 0, .int .i64 0, .int .i64 2, .int .i64 q1, .slice none 0 0, .slice none 0 0, .int .i64 2, .int .i64 0, .int .i64 5, .slice none 0 0, .slice none 0 0, .int .i64 1, .int .i64 p2, .int .i64 0, .slice (some ⟨g1, 0, none⟩) 2 2, .slice (some ⟨g2, 0, none⟩) 2 2, .int .i64 2, .int .i64 0, .int .i64 p3, .slice none 0 0, .slice none 0 0, .int .i64 1, .int .i64 2, .int .i64 0, .slice (some ⟨g3, 0, none⟩) 1 1, .slice none 0 0, .int .i64 0, .int .i64 2, .int .i64 0, .slice none 0 0, .slice none 0 0, .int .i64 2, .int .i64 0, .int .i64 1099511627776, .slice none 0 0, .slice none 0 0, .int .i64 9, .int .i64 2, .int .i64 0, .slice none 0 0, .slice none 0 0, .int .i64 3, .int .i64 0, .int .i64 0, .slice none 0 0, .slice none 0 0, .int .i64 1, .int .i64 q3, .int .i64 0, .slice (some ⟨g0, 0, none⟩) n 8, .slice none 0 0] 40 f))
    (h1 : w.heap[g1]? = some (.cells #[.int .i64 1, .int .i64 q2] 3 f)) (h2 : w.heap[g2]? = some (.cells #[.int .i64 1, .int .i64 2] 3 f)) (h3 : w.heap[g3]? = some (.cells #[.int .i64 3] 3 f))
    (h0 : Ints w (some ⟨g0, 0, none⟩) 8 NS) (hn : n ≤ 8) (i1 : I64 p1) (i2 : I64 p2) (i3 : I64 p3) (j1 : I64 q1) (j2 : I64 q2) (j3 : I64 q3) : ∃ l, Acts w (some ⟨g, 0, none⟩) 11 l := by
  have c : ∀ k : Int, 0 ≤ k → k ≤ 1099511627776 → I64 k := fun k a b => by unfold I64; omega
  have e1 : Ints w (some ⟨g1, 0, none⟩) 2 [1, q2] := ints_lit (xs := [1, q2]) h1 rfl (by intro x hx; simp at hx; rcases hx with rfl | rfl; exact c _ (by omega) (by omega); exact j2) (by simp)
  have e2 : Ints w (some ⟨g2, 0, none⟩) 2 [1, 2] := ints_lit (xs := [1, 2]) h2 rfl (by intro x hx; simp at hx; rcases hx with rfl | rfl <;> exact c _ (by omega) (by omega)) (by simp)
  have e3 : Ints w (some ⟨g3, 0, none⟩) 1 [3] := ints_lit (xs := [3]) h3 rfl (by intro x hx; simp at hx; subst hx; exact c _ (by omega) (by omega)) (by simp)
  have e0 : Ints w (some ⟨g0, 0, none⟩) n (NS.take n) := h0.take hn
  have z := Ints.nil w
  refine ⟨_, acts_lit (rs := [⟨⟨0, p1, 3, [], []⟩, none, 0, 0, none, 0, 0⟩, ⟨⟨0, 2, q1, [], []⟩, none, 0, 0, none, 0, 0⟩, ⟨⟨2, 0, 5, [], []⟩, none, 0, 0, none, 0, 0⟩, ⟨⟨1, p2, 0, [1, q2], [1, 2]⟩, some ⟨g1, 0, none⟩, 2, 2, some ⟨g2, 0, none⟩, 2, 2⟩,
    ⟨⟨2, 0, p3, [], []⟩, none, 0, 0, none, 0, 0⟩, ⟨⟨1, 2, 0, [3], []⟩, some ⟨g3, 0, none⟩, 1, 1, none, 0, 0⟩, ⟨⟨0, 2, 0, [], []⟩, none, 0, 0, none, 0, 0⟩, ⟨⟨2, 0, 1099511627776, [], []⟩, none, 0, 0, none, 0, 0⟩, ⟨⟨9, 2, 0, [], []⟩, none, 0, 0, none, 0, 0⟩, ⟨⟨3, 0, 0, [], []⟩, none, 0, 0, none, 0, 0⟩,
    ⟨⟨1, q3, 0, NS.take n, []⟩, some ⟨g0, 0, none⟩, n, 8, none, 0, 0⟩]) hg rfl (by simp) ?_⟩
  have d0 : I64 0 := c 0 (by omega) (by omega)
  have d1 : I64 1 := c 1 (by omega) (by omega)
  have d2 : I64 2 := c 2 (by omega) (by omega)
  have d3 : I64 3 := c 3 (by omega) (by omega)
  have d5 : I64 5 := c 5 (by omega) (by omega)
  have d9 : I64 9 := c 9 (by omega) (by omega)
  have dB : I64 1099511627776 := c 1099511627776 (by omega) (by omega)
  intro r hr
  simp only [List.mem_cons, List.not_mem_nil, or_false] at hr
  rcases hr with rfl | rfl | rfl | rfl | rfl | rfl | rfl | rfl | rfl | rfl | rfl
  · exact ⟨z, z, d0, i1, d3⟩
  · exact ⟨z, z, d0, d2, j1⟩
  · exact ⟨z, z, d2, d0, d5⟩
  · exact ⟨e1, e2, d1, i2, d0⟩
  · exact ⟨z, z, d2, d0, i3⟩
  · exact ⟨e3, z, d1, d2, d0⟩
  · exact ⟨z, z, d0, d2, d0⟩
  · exact ⟨z, z, d2, d0, dB⟩
  · exact ⟨z, z, d9, d2, d0⟩
  · exact ⟨z, z, d3, d0, d0⟩
  · exact ⟨e0, z, d1, j3, d0⟩

theorem rows_known {w : World} {g g1 g2 g3 : Nat} {t : Int} {f : Nat × Nat} (hg : w.heap[g]? = some (.cells #[.slice (some ⟨g1, 0, none⟩) 1 1, .slice (some ⟨g2, 0, none⟩) 2 2, .slice (some ⟨g3, 0, none⟩) 2 2] 23 f))
    (h1 : w.heap[g1]? = some (.cells #[.int .i64 1] 3 f)) (h2 : w.heap[g2]? = some (.cells #[.int .i64 0, .int .i64 t] 3 f)) (h3 : w.heap[g3]? = some (.cells #[.int .i64 2, .int .i64 2] 3 f)) (ht : I64 t) : Rows2 w (some ⟨g, 0, none⟩) 3 [[1], [0, t], [2, 2]] := by
  have c : ∀ k : Int, 0 ≤ k → k ≤ 1099511627776 → I64 k := fun k a b => by unfold I64; omega
  have e1 : Ints w (some ⟨g1, 0, none⟩) 1 [1] := ints_lit (xs := [1]) h1 rfl (by intro x hx; simp at hx; subst hx; exact c _ (by omega) (by omega)) (by simp)
  have e2 : Ints w (some ⟨g2, 0, none⟩) 2 [0, t] := ints_lit (xs := [0, t]) h2 rfl (by intro x hx; simp at hx; rcases hx with rfl | rfl; exact c _ (by omega) (by omega); exact ht) (by simp)
  have e3 : Ints w (some ⟨g3, 0, none⟩) 2 [2, 2] := ints_lit (xs := [2, 2]) h3 rfl (by intro x hx; simp at hx; subst hx; exact c _ (by omega) (by omega)) (by simp)
  refine ⟨rfl, by unfold Big; omega, fun i xs hi => ?_⟩
  match i, hi with
  | 0, hi => cases hi; exact ⟨g, 0, _, _, _, rfl, lt_of_get hg, cell_at hg rfl, e1⟩
  | 1, hi => cases hi; exact ⟨g, 0, _, _, _, rfl, lt_of_get hg, cell_at hg rfl, e2⟩
  | 2, hi => cases hi; exact ⟨g, 0, _, _, _, rfl, lt_of_get hg, cell_at hg rfl, e3⟩
  | i + 3, hi => simp at hi

theorem SessionKnown {w : World} : Calls Try.prog F_law26_SessionKnown #[] w (Ok (tru w)) := by
  refine L_law26_SessionKnown (PA.mk fun w1 k1 s1 g1 => ?_)
  have hN : Ints w1 (some ⟨w.heap.size, 0, none⟩) 8 NS := ints_lit (xs := NS) g1 rfl NS_i64 (by simp [NS])
  refine ⟨fun m i w' => ∃ j : Nat, i = j ∧ j ≤ 8 ∧ m = 8 - j ∧ Grew w1 w', ⟨_, 0, rfl, by omega, rfl, Keep.refl _⟩, ?_⟩
  rintro m i' B w2 ⟨i, rfl, hi, rfl, hk2⟩
  refine PIf.dec (fun hlt => ?_) (fun _ => works' (k1.grew hk2))
  refine ⟨fun m k w' => ∃ j : Nat, k = j ∧ j ≤ 8 ∧ m = 8 - j ∧ Grew w1 w', ⟨_, 0, rfl, by omega, rfl, hk2⟩, ?_⟩
  rintro m k' B w3 ⟨k, rfl, hk, rfl, hk3⟩
  refine PIf.dec (fun hlk => ?_) (fun _ => ⟨8 - (i + 1), by omega, i + 1, wrap_succ (by omega), by omega, rfl, hk3⟩)
  refine ⟨fun la ln lc w' => (∃ l, Acts w' la ln l) ∧ Grew w1 w', fun w4 hd4 => ?_, ?_⟩
  · have hk4 : Grew w1 w4 := hk3.grew hd4.keep
    have hN4 := hN.grew hk4
    obtain ⟨bk, ok, tk, hak, hbk, -, hIk, hck⟩ := hN4.at (i := (k : Int)) (by omega) (by omega)
    obtain ⟨bi, oi, ti, hai, hbi, -, hIi, hci⟩ := hN4.at (i := (i : Int)) (by omega) (by omega)
    refine ⟨fun _ => False, bk, ok, hak, by omega, hlk, id, tk, hck, bi, oi, hai, by omega, hlt, id, ti, hci, bk, ok, hak, by omega, hlk, id, tk, hck, bi, oi, hai, by omega, hlt, id, ti, hci, bk, ok, hak, by omega, hlk, id, tk, hck, bi, oi, hai, by omega, hlt, id, ti, hci, by omega, by omega, ?_⟩
    ((repeat' (with_reducible apply And.intro)) <;> refine PA.mk fun w5 k5 s5 g5 => ⟨k5, ?_⟩) <;>
      ((repeat' (with_reducible apply And.intro)) <;> refine PA.mk fun w6 k6 s6 g6 => ⟨k6, ?_⟩) <;>
      ((repeat' (with_reducible apply And.intro)) <;> refine PA.mk fun w7 k7 s7 g7 => ⟨k7, ?_⟩) <;>
      ((repeat' (with_reducible apply And.intro)) <;> refine PA.mk fun w8 k8 s8 g8 => ⟨k8, ?_⟩)
    all_goals
      have e5 := k8.get (k7.get (k6.get g5 id) id) id
      have e6 := k8.get (k7.get g6 id) id
      have e7 := k8.get g7 id
      have hk8 : Grew w4 w8 := ((k5.grew k6).grew k7).grew k8
      exact ⟨acts_known g8 (by assumption) (by assumption) (by assumption) (hN4.grew hk8) (by omega) hIk hIk hIk hIi hIi hIi, hk4.grew hk8⟩
  · rintro la ln lc B w5 ⟨⟨l, hl⟩, hk5⟩
    refine fun w6 hd6 => ?_
    have hk6 : Grew w1 w6 := hk5.grew hd6.keep
    have hl6 := hl.grew hd6.keep
    have hN6 := hN.grew hk6
    obtain ⟨bi, oi, ti, hai, hbi, -, hIi, hci⟩ := hN6.at (i := (i : Int)) (by omega) (by omega)
    refine ⟨fun _ => False, bi, oi, hai, by omega, hlt, ti, hci, PC.ok (SessionRuns hIi hl6) ?_⟩
    rintro _ w7 ⟨rfl, hk7⟩
    refine ⟨_, rfl, hk7, PIf.not (PIf.tt rfl ?_)⟩
    have hN7 := hN6.grew hk7
    have hl7 := hl6.grew hk7
    obtain ⟨bk, ok, tk, hak, hbk, -, hIk, hck⟩ := hN7.at (i := (k : Int)) (by omega) (by omega)
    obtain ⟨bi7, oi7, ti7, hai7, hbi7, -, hIi7, hci7⟩ := hN7.at (i := (i : Int)) (by omega) (by omega)
    refine ⟨bk, ok, hak, by omega, hlk, id, tk, hck, bi7, oi7, hai7, by omega, hlt, id, ti7, hci7, bk, ok, hak, by omega, hlk, id, tk, hck, bi7, oi7, hai7, by omega, hlt, id, ti7, hci7, ?_⟩
    have hkk : I64 ((k : Nat) : Int) := by unfold I64; omega
    have hii : I64 ((i : Nat) : Int) := by unfold I64; omega
    have h33 : I64 3 := by unfold I64; omega
    have h11 : I64 1 := by unfold I64; omega
    ((repeat' (with_reducible apply And.intro)) <;> refine PA.mk fun w8 k8 s8 g8 => ⟨k8, ?_⟩) <;>
      ((repeat' (with_reducible apply And.intro)) <;> refine PA.mk fun w9 k9 s9 g9 => ⟨k9, ?_⟩) <;>
      ((repeat' (with_reducible apply And.intro)) <;> refine PA.mk fun w10 k10 s10 g10 => ⟨k10, ?_⟩) <;>
      ((repeat' (with_reducible apply And.intro)) <;> refine PA.mk fun w11 k11 s11 g11 => ⟨k11, ?_⟩) <;>
      ((repeat' (with_reducible apply And.intro)) <;> refine PA.mk fun w12 k12 s12 g12 => ⟨k12, ?_⟩)
    all_goals
      have e8 := k12.get (k11.get (k10.get (k9.get g8 id) id) id) id
      have e9 := k12.get (k11.get (k10.get g9 id) id) id
      have e10 := k12.get (k11.get g10 id) id
      have e11 := k12.get g11 id
      have hk12 : Grew w7 w12 := (((k8.grew k9).grew k10).grew k11).grew k12
      refine PC.ok (SessionEnds hIk hIi7 (rows_known (by assumption) (by assumption) (by assumption) (by assumption) hIk) (ints_lit (xs := [1, ti7]) (by assumption) rfl (by intro x hx; simp at hx; rcases hx with rfl | rfl; exact h11; exact hIi7) (by simp))) ?_
      rintro _ w13 ⟨rfl, hk13⟩
      refine ⟨_, rfl, hk13, PIf.not (PIf.tt rfl (PA.mk fun w14 k14 s14 g14 => ⟨k14, ?_⟩))⟩
      have hx14 : Ints w14 (some ⟨w13.heap.size, 0, none⟩) 4 [(i : Int), (k : Int), 3, 3] := ints_lit (xs := [(i : Int), (k : Int), 3, 3]) g14 rfl (by
        intro x hx
        simp at hx
        rcases hx with rfl | rfl | rfl
        · exact hii
        · exact hkk
        · exact h33) (by simp)
      refine PC.ok (SessionDue (by rw [wrap_i64 (by unfold I64; omega)]; unfold I64; omega) hx14 (by unfold I64; omega)) ?_
      rintro _ w15 ⟨rfl, hk15⟩
      have hk715 : Grew w7 w15 := ((hk12.grew hk13).grew k14).grew hk15
      refine ⟨_, rfl, hk15, PIf.not (PIf.tt rfl ?_)⟩
      have hN15 := hN7.grew hk715
      obtain ⟨bk2, ok2, tk2, hak2, hbk2, -, hIk2, hck2⟩ := hN15.at (i := (k : Int)) (by omega) (by omega)
      obtain ⟨bi2, oi2, ti2, hai2, hbi2, -, hIi2, hci2⟩ := hN15.at (i := (i : Int)) (by omega) (by omega)
      refine ⟨bi2, oi2, hai2, by omega, hlt, ti2, hci2, bk2, ok2, hak2, by omega, hlk, tk2, hck2, PC.ok (SessionApart hIi2 hIk2 (hl7.grew hk715)) ?_⟩
      rintro _ w16 ⟨rfl, hk16⟩
      exact ⟨_, rfl, hk16, PIf.not (PIf.tt rfl ⟨8 - (k + 1), by omega, k + 1, wrap_succ (by omega), by omega, rfl, ((hk6.grew hk7).grew hk715).grew hk16⟩)⟩
end Go.Proofs.Ytnfcddhabhbicaa
