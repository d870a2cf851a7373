/- the kit's lists that are lent, and spoilt -/
import Derived.Test.YtnfcddhabhbicaaSessApart
namespace Go.Lift
theorem Own.ps {w : World} {e : TypeId} {k g n c off : Nat} {cs : List Value} {v : Value} {κ : World → Prop} (h : Own w e k (some ⟨g, 0, none⟩) n c cs) (ho : off < cs.length)
    (hk : ∀ w1, Keep (· = g) w w1 → w1.heap.size = w.heap.size → Own w1 e k (some ⟨g, 0, none⟩) n c (cs.set off v) → κ w1) : PS w ⟨g, off, none⟩ v κ := by
  have hl := h.length
  rcases h.row.2 with ⟨he, _⟩ | ⟨g', cap, cur, he, hb, hg, hnc, hm, hcs, ht⟩
  · cases he
  · simp only [Value.slice.injEq, Option.some.injEq, Addr.mk.injEq] at he
    obtain ⟨⟨rfl, _⟩, _, rfl⟩ := he
    have hle : n * k ≤ c * k := Nat.mul_le_mul_right _ hnc
    refine PS.mk hg (by omega) fun w1 k1 s1 g1 => hk w1 k1 s1 ⟨⟨by simpa using hl, .inr ⟨g, c, _, rfl, hb, g1, hnc, hm, by simp [hcs], ?_⟩⟩⟩
    rw [Array.toList_setIfInBounds, List.take_set, ht]

theorem Own.some_of {w : World} {e : TypeId} {k n c : Nat} {a : Option Addr} {cs : List Value} (h : Own w e k a n c cs) (hn : 0 < cs.length) : ∃ g, a = some ⟨g, 0, none⟩ := by
  rcases h.cases with ⟨_, _, _, rfl⟩ | ⟨g, cur, rfl, _⟩
  · simp at hn
  · exact ⟨g, rfl⟩

/-- the first ones of a list -/
theorem Own.ints_take {w : World} {e : TypeId} {a : Option Addr} {n c : Nat} {xs ys : List Int} (h : Own w e 1 a n c (Lift.ints (xs ++ ys))) (hb : n * 8 ≤ Big) (hr : ∀ x ∈ xs, I64 x) : Ints w a xs.length xs := by
  have hl := h.length
  rw [ints_length, Nat.mul_one] at hl
  simp only [List.length_append] at hl
  refine ⟨rfl, by omega, hr, fun i x hi => ?_⟩
  obtain ⟨hlt, -⟩ := List.getElem?_eq_some_iff.1 hi
  obtain ⟨g, ha, hg, hc⟩ := h.cell (j := i) (u := .int .i64 x) (by unfold Lift.ints; rw [List.getElem?_map, List.getElem?_append_left hlt, hi]; rfl)
  exact ⟨g, 0, ha, hg, by simpa using hc⟩

end Go.Lift
namespace Go.Proofs.Ytnfcddhabhbicaa
open Go.Lift Go.ChangeShapes
set_option linter.unusedVariables false

def mark (i : Int) : Int := IntKind.wrap .i64 (7001 + IntKind.wrap .i64 (13 * i))
def marks : List Int := [mark 0, mark 1, mark 2, mark 3, mark 4]
theorem mark_I64 (i : Int) : I64 (mark i) := by
  exact i64_of_wf (wf_wrap .i64 _)
theorem marks_I64 : ∀ x ∈ marks, I64 x := by
  intro x hx
  simp only [marks, List.mem_cons, List.not_mem_nil, or_false] at hx
  rcases hx with rfl | rfl | rfl | rfl | rfl <;> exact mark_I64 _

theorem kit_markInts {i : Int} {w : World} : Calls Try.prog F_kit_markInts #[.int .i64 i] w (Ok fun v w' => v = .int .i64 (mark i) ∧ w' = w) := L_kit_markInts (Ok.mk ⟨rfl, rfl⟩)

theorem kit_CopyInts {a : Option Addr} {n c : Nat} {xs : List Int} {w : World} (h : Ints w a n xs) :
    Calls Try.prog F_kit_CopyInts #[.slice a n c] w (Ok (NewInts w 3 xs)) := by
  have hn := h.len; have hb := h.big
  unfold Big at hb
  refine L_kit_CopyInts ⟨fun k oa on oc i w' => i = (on : Int) ∧ on ≤ n ∧ k = n - on ∧ Own w' 3 1 oa on oc (Lift.ints (xs.take on)) ∧ Grew w w' ∧ ∀ b, blk oa = some b → w.heap.size ≤ b,
    ⟨_, rfl, by omega, rfl, by simpa [Lift.ints] using Own.nil w 3 1, Keep.refl _, by simp [blk]⟩, ?_⟩
  rintro k oa on oc i _ w1 ⟨rfl, hj, rfl, ho, hk, hnw⟩
  refine PIf.mk (fun h1 => ?_) (fun h1 => ?_)
  · have h1 := of_decide_eq_true h1
    obtain ⟨b, off, x, ha, hbs, hx, hr, hc⟩ := (h.grew hk).at (i := (on : Int)) (by omega) h1
    refine ⟨b, off, ha, by omega, h1, x, hc, PA.mk fun w2 hk2 hs2 hg2 => app_int slInt (ho.grew hk2) hg2 (by unfold Big; omega) fun a' c' w3 ho3 hk3 hl3 => ?_⟩
    refine ⟨_, _, _, rfl, n - (on + 1), by omega, by rw [wrap_i64 (by unfold I64; omega)]; simp, by omega, rfl, ?_, (hk.grew hk2).new hk3 fun b hb => .inr (hnw b hb.symm), fun b hb => ?_⟩
    · simp only [Int.toNat_natCast] at hx
      rw [List.take_add_one, hx]; exact ho3
    · rcases hl3 with hl3 | hl3
      · exact hnw b (hl3 ▸ hb)
      · rw [hl3] at hb; cases hb; have := hk.size; have := hk2.size; omega
  · have h1 := of_decide_eq_false h1
    rw [List.take_of_length_le (by omega)] at ho
    exact Ok.mk ⟨_, _, _, rfl, ho, hk, hnw⟩

theorem kit_LentInts {a : Option Addr} {n c : Nat} {xs : List Int} {w : World} (h : Ints w a n xs) (hl : n ≤ 1000) :
    Calls Try.prog F_kit_LentInts #[.slice a n c] w (Ok (NewInts w 3 (xs ++ marks))) := by
  have hn := h.len
  refine L_kit_LentInts (PC.ok (kit_CopyInts h) ?_)
  rintro _ w1 ⟨a1, n1, c1, rfl, ho1, hk1, hn1⟩
  have hl1 := own_len ho1
  refine ⟨_, _, _, rfl, fun k oa on oc i w' => ∃ j : Nat, i = (j : Int) ∧ j ≤ 5 ∧ k = 5 - j ∧ on = n + j ∧ Own w' 3 1 oa on oc (Lift.ints (xs ++ marks.take j)) ∧ Grew w w' ∧ ∀ b, blk oa = some b → w.heap.size ≤ b,
    ⟨_, 0, rfl, by omega, rfl, by omega, by simpa using ho1, hk1, hn1⟩, ?_⟩
  rintro k oa on oc i _ w2 ⟨j, rfl, hj, rfl, rfl, ho, hk, hnw⟩
  refine PIf.mk (fun h1 => ?_) (fun h1 => ?_)
  · have h1 := of_decide_eq_true h1
    refine PC.ok kit_markInts ?_
    rintro _ _ ⟨rfl, rfl⟩
    refine ⟨_, rfl, PA.mk fun w3 hk3 hs3 hg3 => app_int slInt (ho.grew hk3) hg3 (by unfold Big; omega) fun a' c' w4 ho4 hk4 hl4 => ?_⟩
    refine ⟨_, _, _, rfl, 5 - (j + 1), by omega, j + 1, by rw [wrap_i64 (by unfold I64; omega)]; simp, by omega, rfl, by omega, ?_, (hk.grew hk3).new hk4 fun b hb => .inr (hnw b hb.symm), fun b hb => ?_⟩
    · have e : marks[j]? = some (mark j) := by
        have : j = 0 ∨ j = 1 ∨ j = 2 ∨ j = 3 ∨ j = 4 := by omega
        rcases this with rfl | rfl | rfl | rfl | rfl <;> rfl
      rw [List.take_add_one, e, ← List.append_assoc]; exact ho4
    · rcases hl4 with hl4 | hl4
      · exact hnw b (hl4 ▸ hb)
      · rw [hl4] at hb; cases hb; have := hk.size; have := hk3.size; omega
  · have h1 := of_decide_eq_false h1
    have : j = 5 := by omega
    subst this
    exact Ok.mk ⟨_, _, _, rfl, ho, hk, hnw⟩

theorem kit_KeptInts {a b : Option Addr} {n c m d : Nat} {xs : List Int} {w : World} (h : Own w 3 1 a n c (Lift.ints (xs ++ marks))) (hx : Ints w b m xs) (hl : m ≤ 1000) :
    Calls Try.prog F_kit_KeptInts #[.slice a n c, .slice b m d] w (Ok fun v w' => v = .bool true ∧ Drew w w') := by
  have hn := own_len h; have hm := hx.len
  have hml : marks.length = 5 := rfl
  simp only [List.length_append, hml] at hn
  have hc : n ≤ c := by
    rcases h.cases with ⟨_, h1, h2, _⟩ | ⟨_, _, _, _, hc, _⟩
    · omega
    · exact hc
  have hI : Ints w a m xs := by rw [hm]; exact h.ints_take (by unfold Big; omega) hx.rng
  have hA : Ints w a n (xs ++ marks) := h.ints (by unfold Big; omega) (by
    intro x hx'
    rcases List.mem_append.1 hx' with h' | h'
    · exact hx.rng x h'
    · exact marks_I64 x h')
  refine L_kit_KeptInts (PIf.ff (by rw [wrap_i64 (by unfold I64; omega)]; simp; omega) ⟨by omega, by omega, PC.ok (kit_SameInts (n := Int.toNat (m : Int)) (by rw [Int.toNat_natCast]; exact hI) hx) ?_⟩)
  rintro _ w1 ⟨rfl, hd⟩
  refine ⟨_, rfl, PIf.ff (by simp) ⟨fun k i w' => ∃ j : Nat, i = (j : Int) ∧ j ≤ 5 ∧ k = 5 - j ∧ Drew w w', ⟨_, 0, rfl, by omega, rfl, hd⟩, ?_⟩⟩
  rintro k i _ w2 ⟨j, rfl, hj, rfl, hd2⟩
  refine PIf.mk (fun h1 => ?_) (fun h1 => Ok.mk ⟨rfl, hd2⟩)
  have h1 := of_decide_eq_true h1
  rintro w3 hd3
  have hd4 : Drew w w3 := by
    obtain ⟨p, rfl⟩ := hd2; obtain ⟨q, rfl⟩ := hd3
    exact ⟨p + q, by rw [World.drewN_drewN]⟩
  have hw : IntKind.wrap .i64 ((m : Int) + j) = ((m + j : Nat) : Int) := by rw [wrap_i64 (by unfold I64; omega)]; simp
  rw [hw]
  obtain ⟨bb, off, x, ha, hbs, hxx, hr, hcc⟩ := (hA.grew hd4.keep).at (i := ((m + j : Nat) : Int)) (by omega) (by omega)
  have hxm : x = mark j := by
    simp only [Int.toNat_natCast] at hxx
    rw [List.getElem?_append_right (by omega)] at hxx
    have e : marks[j]? = some (mark j) := by
      have : j = 0 ∨ j = 1 ∨ j = 2 ∨ j = 3 ∨ j = 4 := by omega
      rcases this with rfl | rfl | rfl | rfl | rfl <;> rfl
    rw [show m + j - xs.length = j by omega, e] at hxx
    exact (Option.some.inj hxx).symm
  refine ⟨fun _ => False, bb, off, ha, by omega, by omega, id, x, hcc, PC.ok kit_markInts ?_⟩
  rintro _ _ ⟨rfl, rfl⟩
  exact ⟨_, rfl, Keep.refl _, PIf.ff (by simp [hxm]) ⟨5 - (j + 1), by omega, j + 1, by rw [wrap_i64 (by unfold I64; omega)]; simp, by omega, rfl, hd4⟩⟩

theorem kit_SpoilInts {a : Option Addr} {n c : Nat} {xs : List Int} {w : World} (h : Own w 3 1 a n c (Lift.ints xs)) (hb : n * 8 ≤ Big) :
    Calls Try.prog F_kit_SpoilInts #[.slice a n c] w (Ok fun v w' => v = .tuple #[] ∧ Keep (fun b => some b = blk a) w w') := by
  unfold Big at hb
  refine L_kit_SpoilInts ⟨fun k i w' => ∃ (j : Nat) (cs : List Value), i = (j : Int) ∧ j ≤ n ∧ k = n - j ∧ Own w' 3 1 a n c cs ∧ Keep (fun b => some b = blk a) w w', ⟨_, 0, _, rfl, by omega, rfl, h, Keep.refl _⟩, ?_⟩
  rintro k i _ w1 ⟨j, cs, rfl, hj, rfl, ho, hk⟩
  refine PIf.mk (fun h1 => ?_) (fun h1 => Ok.mk ⟨rfl, hk⟩)
  have h1 := of_decide_eq_true h1
  refine PC.ok kit_markInts ?_
  rintro _ _ ⟨rfl, rfl⟩
  have hl := ho.length
  obtain ⟨g, rfl⟩ := ho.some_of (by omega)
  refine ⟨_, rfl, g, 0, rfl, by omega, h1, Own.ps ho (by simp; omega) fun w2 k2 s2 ho2 => ?_⟩
  refine ⟨n - (j + 1), by omega, j + 1, _, by rw [wrap_i64 (by unfold I64; omega)]; simp, by omega, rfl, ho2, hk.chain (k2.mono fun b _ hb => by subst hb; rfl)⟩
end Go.Proofs.Ytnfcddhabhbicaa
