/- SessionDue: its walk -/
import Derived.Test.YtnfcddhabhbicaaDue
namespace Go.Proofs.Ytnfcddhabhbicaa
open Go.Lift
set_option linter.unusedVariables false

/-- when peer q's session is begun -/
def sAt (xs : List Int) (q : Int) : Int := pick (xs.getD q.toNat 0) 100

theorem sAt_range (xs : List Int) (q : Int) : 0 ≤ sAt xs q ∧ sAt xs q < 100 := pick_range (by omega)

def isV (r s now v : Int) : Prop := s ≤ v ∧ v ≤ now - 1 ∧ now - 1 - v < r ∧ r ∣ v - s

/-- behind the beginnings of those ahead of j, at a tick -/
def MidInv (xs : List Int) (n : Nat) (r now j : Int) (A : List (Int × Int)) : Prop :=
  Tidy A ∧ ∀ q : Int, (0 ≤ q ∧ q < n ∧ sAt xs q < now → ∃ v, aget A q = some v ∧ isV r (sAt xs q) now v) ∧
    (0 ≤ q ∧ q < n ∧ sAt xs q = now ∧ q < j → aget A q = some now) ∧
    (¬ (0 ≤ q ∧ q < n ∧ (sAt xs q < now ∨ sAt xs q = now ∧ q < j)) → aget A q = none)

/-- those whose session is due -/
def wantTo (xs : List Int) (r now : Int) (k : Nat) : List Int := ((List.range k).map fun (i : Nat) => (i : Int)).filter fun q => decide (now - sAt xs q > 0 ∧ (now - sAt xs q).tmod r = 0)

theorem wantTo_succ (xs : List Int) (r now : Int) (k : Nat) : wantTo xs r now (k + 1) = wantTo xs r now k ++ if now - sAt xs k > 0 ∧ (now - sAt xs k).tmod r = 0 then [(k : Int)] else [] := by
  unfold wantTo
  rw [List.range_succ, List.map_append, List.filter_append]
  congr 1
  simp only [List.map_cons, List.map_nil, List.filter_cons, List.filter_nil, decide_eq_true_eq]

theorem range_sorted (n : Nat) : ((List.range n).map fun (i : Nat) => (i : Int)).Pairwise (· < ·) := by
  rw [List.pairwise_map]
  exact List.pairwise_lt_range.imp fun h => by omega

theorem MidInv.due {xs : List Int} {n : Nat} {r now : Int} {A : List (Int × Int)} {H : List (Int × List Int)} (h : MidInv xs n r now n A) (hr : 1 ≤ r) (h0 : 0 ≤ now) (hbig : now < 1000) (hr2 : r ≤ 50) :
    Tab.due ⟨r, A, H⟩ now = wantTo xs r now n ∧ MidInv xs n r (now + 1) 0 (Tab.dueT ⟨r, A, H⟩ now).asked ∧ A.length ≤ n := by
  obtain ⟨ht, hq⟩ := h
  have hs := sAt_range xs
  have hopen : Tab.open ⟨r, A, H⟩ = ((List.range n).map fun (i : Nat) => (i : Int)).filter fun q => decide (sAt xs q ≤ now) := by
    refine open_eq (T := ⟨r, A, H⟩) ht ((range_sorted n).filter _) fun q => ?_
    obtain ⟨a1, a2, a3⟩ := hq q
    simp only [List.mem_filter, List.mem_map, List.mem_range, decide_eq_true_eq]
    by_cases c1 : 0 ≤ q ∧ q < n ∧ sAt xs q < now
    · obtain ⟨v, hv, _⟩ := a1 c1
      rw [hv]
      exact ⟨fun _ => rfl, fun _ => ⟨⟨q.toNat, by omega, by omega⟩, by omega⟩⟩
    · by_cases c2 : 0 ≤ q ∧ q < n ∧ sAt xs q = now ∧ q < n
      · rw [a2 c2]
        exact ⟨fun _ => rfl, fun _ => ⟨⟨q.toNat, by omega, by omega⟩, by omega⟩⟩
      · rw [a3 (by omega)]
        refine ⟨?_, fun h => (by cases h)⟩
        rintro ⟨⟨i, hi, rfl⟩, h2⟩
        omega
  obtain ⟨d1, d2, d3⟩ := due_eq (T := ⟨r, A, H⟩) ht now
  have late : ∀ q : Int, 0 ≤ q → q < n → sAt xs q ≤ now → (lateB r now A q = true ↔ now - sAt xs q > 0 ∧ (now - sAt xs q).tmod r = 0) := by
    intro q hq0 hqn hsn
    obtain ⟨a1, a2, a3⟩ := hq q
    have hsq := hs q
    unfold lateB
    rw [decide_eq_true_eq]
    by_cases c1 : sAt xs q < now
    · obtain ⟨v, hv, hv1, hv2, hv3, k, hk⟩ := a1 ⟨hq0, hqn, c1⟩
      rw [hv, Option.getD_some, wrap_i64 (by unfold I64; omega)]
      constructor
      · intro h
        refine ⟨by omega, Int.tmod_eq_zero_of_dvd ⟨k + 1, ?_⟩⟩
        rw [Int.mul_add, Int.mul_one, ← hk]
        omega
      · rintro ⟨_, h⟩
        have hd := Int.dvd_of_tmod_eq_zero h
        have : r ∣ now - v := by
          have := Int.dvd_sub hd ⟨k, hk⟩
          rwa [show now - sAt xs q - (v - sAt xs q) = now - v by omega] at this
        exact Int.le_of_dvd (by omega) this
    · have : sAt xs q = now := by omega
      rw [a2 ⟨hq0, hqn, this, hqn⟩, Option.getD_some, wrap_i64 (by unfold I64; omega)]
      omega
  refine ⟨?_, ⟨d2, fun q => ?_⟩, ?_⟩
  · rw [d1, hopen, List.filter_filter]
    unfold wantTo
    refine List.filter_congr fun q hm => ?_
    obtain ⟨i, hi, rfl⟩ := List.mem_map.1 hm
    have hi := List.mem_range.1 hi
    by_cases hsn : sAt xs i ≤ now
    · have := late i (by omega) (by omega) hsn
      simp only [hsn, decide_true, Bool.and_true]
      rw [Bool.eq_iff_iff, this, decide_eq_true_eq]
    · have : ¬ (now - sAt xs i > 0 ∧ (now - sAt xs i).tmod r = 0) := by omega
      simp [hsn]
      omega
  · obtain ⟨a1, a2, a3⟩ := hq q
    refine ⟨?_, by omega, ?_⟩
    · rintro ⟨hq0, hqn, hsn⟩
      have hsq := hs q
      rw [d3]
      have hl := late q hq0 hqn (by omega)
      by_cases c1 : sAt xs q < now
      · obtain ⟨v, hv, hv1, hv2, hv3, k, hk⟩ := a1 ⟨hq0, hqn, c1⟩
        by_cases hb : lateB r now A q = true
        · refine ⟨now, by simp [hv, hb], by omega, by omega, by omega, ?_⟩
          exact Int.dvd_of_tmod_eq_zero (hl.1 hb).2
        · refine ⟨v, by simp [hv, hb], hv1, by omega, ?_, k, hk⟩
          have hb' : ¬ (IntKind.wrap .i64 (now - (aget A q).getD 0) ≥ r) := by simpa [lateB] using hb
          rw [hv, Option.getD_some, wrap_i64 (by unfold I64; omega)] at hb'
          omega
      · have e : sAt xs q = now := by omega
        have hv := a2 ⟨hq0, hqn, e, hqn⟩
        refine ⟨now, by simp [hv], by omega, by omega, by omega, 0, by omega⟩
    · intro hn
      rw [d3, a3 (by omega)]
      simp
  · have := open_length ⟨r, A, H⟩
    rw [hopen] at this
    have h2 := List.length_filter_le (fun q => decide (sAt xs q ≤ now)) ((List.range n).map fun (i : Nat) => (i : Int))
    simp only [List.length_map, List.length_range] at h2
    simp only at this
    omega

theorem SessionDue {retry ticks : Int} {a : Option Addr} {n c : Nat} {xs : List Int} {w : World} (hr : I64 retry) (hx : Ints w a n xs) (ht : I64 ticks) :
    Calls Try.prog F_law26_SessionDue #[.int .i64 retry, .slice a n c, .int .i64 ticks] w (Ok (tru w)) := by
  have hn := hx.len; have hbig := hx.big
  unfold Big at hbig
  refine L_law26_SessionDue (PIf.mk (fun _ => works' (Keep.refl _)) fun h1 => PIf.mk (fun _ => works' (Keep.refl _)) fun h2 => PIf.mk (fun _ => works' (Keep.refl _)) fun h3 => PC.ok (kit_Pick (by unfold I64; omega)) ?_)
  have h1 := of_decide_eq_false h1
  have h2 := of_decide_eq_false h2
  have h3 := of_decide_eq_false h3
  rintro _ _ ⟨rfl, rfl⟩
  have hp := pick_range (k := ticks) (n := 201) (by omega)
  refine ⟨_, rfl, PC.ok session_New ?_⟩
  rintro _ w1 ⟨p, F, rfl, hT, hG, hF⟩
  refine ⟨_, rfl, eqNil ⟨_, rfl, PIf.ff rfl ⟨fun k now w' => ∃ (t : Nat) (A : List (Int × Int)) (H : List (Int × List Int)) (F : Nat → Prop), now = (t : Int) ∧ (t : Int) ≤ pick ticks 201 ∧ k = (pick ticks 201).toNat - t ∧ Grew w w' ∧ TabAt w' p F ⟨retry, A, H⟩ ∧
    (∀ b, F b → w.heap.size ≤ b) ∧ MidInv xs n retry t 0 A,
    ⟨_, 0, [], [], F, rfl, by omega, rfl, hG, hT, hF, by simp [Tidy], fun q => ⟨by have := sAt_range xs q; omega, by omega, fun _ => rfl⟩⟩, ?_⟩⟩⟩
  rintro k now B w2 ⟨t, A, H, F, rfl, htl, rfl, hG2, hT2, hF2, hI⟩
  refine PIf.mk (fun hlt => ?_) (fun hge => works' hG2)
  have hlt := of_decide_eq_true hlt
  refine ⟨fun k p' w' => ∃ (j : Nat) (A : List (Int × Int)), p' = (j : Int) ∧ j ≤ n ∧ k = n - j ∧ Grew w w' ∧ TabAt w' p F ⟨retry, A, H⟩ ∧ MidInv xs n retry t j A, ⟨_, 0, A, rfl, by omega, rfl, hG2, hT2, hI⟩, ?_⟩
  rintro k p' B w3 ⟨j, A, rfl, hj, rfl, hG3, hT3, hI3⟩
  have wrapj : ∀ j : Nat, j < n → IntKind.wrap .i64 ((j : Int) + 1) = ((j + 1 : Nat) : Int) := fun j hj => by rw [wrap_i64 (by unfold I64; omega)]; simp
  refine PIf.mk (fun hlj => ?_) (fun hgj => ?_)
  · have hlj := of_decide_eq_true hlj
    obtain ⟨b, off, x, ha, hb, hxi, hxr, hc⟩ := (hx.grew hG3).at (i := (j : Int)) (by omega) hlj
    have hs : sAt xs j = pick x 100 := by unfold sAt; simp only [Int.toNat_natCast] at hxi ⊢; simp [List.getD, hxi]
    refine ⟨b, off, ha, by omega, hlj, x, hc, PC.ok (kit_Pick (by unfold I64; omega)) ?_⟩
    rintro _ _ ⟨rfl, rfl⟩
    refine ⟨_, rfl, PIf.mk (fun he => ?_) (fun hne => ?_)⟩
    · have he : sAt xs j = t := by rw [hs]; simpa using he
      refine PC.ok (Table_Start hT3 (by unfold I64; omega)) ?_
      rintro _ w4 ⟨rfl, hT4, hk4⟩
      refine ⟨rfl, n - (j + 1), by omega, j + 1, _, wrapj j (by omega), by omega, rfl, hG3.new hk4 fun b hb => .inr (hF2 b hb), hT4, hI3.1.aput .., fun q => ?_⟩
      obtain ⟨a1, a2, a3⟩ := hI3.2 q
      show (_ → ∃ v, aget (aput A (j : Int) (t : Int)) q = some v ∧ _) ∧ (_ → aget (aput A (j : Int) (t : Int)) q = some (t : Int)) ∧ (_ → aget (aput A (j : Int) (t : Int)) q = none)
      rw [aget_aput]
      by_cases hqj : q = j
      · subst hqj
        rw [if_pos (by simp)]
        exact ⟨by omega, fun _ => rfl, by omega⟩
      · rw [if_neg (by simpa using hqj)]
        exact ⟨a1, fun h => a2 (by omega), fun h => a3 (by omega)⟩
    · have hne : sAt xs j ≠ t := by rw [hs]; simpa using hne
      refine ⟨n - (j + 1), by omega, j + 1, A, wrapj j (by omega), by omega, rfl, hG3, hT3, hI3.1, fun q => ?_⟩
      obtain ⟨a1, a2, a3⟩ := hI3.2 q
      by_cases hqj : q = j
      · subst hqj
        exact ⟨a1, fun h => a2 (by omega), fun h => a3 (by omega)⟩
      · exact ⟨a1, fun h => a2 (by omega), fun h => a3 (by omega)⟩
  · have hgj := of_decide_eq_false hgj
    have hjn : j = n := by omega
    subst hjn
    obtain ⟨hdue, hnext, hlen⟩ := hI3.due (H := H) (by omega) (by omega) (by omega) (by omega)
    refine ⟨fun k wa wn wc p' w' => ∃ (i : Nat), p' = (i : Int) ∧ i ≤ j ∧ k = j - i ∧ Grew w3 w' ∧ Own w' 3 1 wa wn wc (ints (wantTo xs retry t i)) ∧ ∀ b, blk wa = some b → w3.heap.size ≤ b,
      ⟨_, 0, rfl, by omega, rfl, Keep.refl _, Own.nil _ _ _, by simp [blk]⟩, ?_⟩
    rintro k wa wn wc p' B w4 ⟨i, rfl, hi, rfl, hG4, ho4, hn4⟩
    have hwl : wn = (wantTo xs retry t i).length := by have := ho4.length; rw [ints_length, Nat.mul_one] at this; exact this.symm
    have hwl2 : (wantTo xs retry t i).length ≤ i := by
      have := List.length_filter_le (fun q => decide ((t : Int) - sAt xs q > 0 ∧ ((t : Int) - sAt xs q).tmod retry = 0)) ((List.range i).map fun (i : Nat) => (i : Int))
      simpa [wantTo] using this
    refine PIf.mk (fun hli => ?_) (fun hgi => ?_)
    · have hli := of_decide_eq_true hli
      obtain ⟨b, off, x, ha, hb, hxi, hxr, hc⟩ := (hx.grew (hG3.grew hG4)).at (i := (i : Int)) (by omega) hli
      have hs : sAt xs i = pick x 100 := by unfold sAt; simp only [Int.toNat_natCast] at hxi ⊢; simp [List.getD, hxi]
      have hsr := sAt_range xs i
      refine ⟨b, off, ha, by omega, hli, x, hc, PC.ok (kit_Pick (by unfold I64; omega)) ?_⟩
      rintro _ _ ⟨rfl, rfl⟩
      rw [← hs]
      have hw : IntKind.wrap .i64 ((t : Int) - sAt xs i) = t - sAt xs i := wrap_i64 (by unfold I64; omega)
      refine ⟨_, rfl, PIf.mk (fun hpos => ?_) (fun hneg => ?_)⟩
      · have hpos := of_decide_eq_true hpos
        rw [hw] at hpos ⊢
        have hrun : ∀ y z, (do eqGuard .rem 3 y z (.int .i64 (t - sAt xs i)) (.int .i64 retry); binOp .rem 3 (.int .i64 (t - sAt xs i)) (.int .i64 retry) : Sem Value).run Try.prog w4 = .ok (.int .i64 (((t : Int) - sAt xs i).tmod retry)) w4 := fun y z => by
          have : retry ≠ 0 := by omega
          simp [eqGuard, binOp, Op.intDiv, this]
        refine PRun.mk (hrun _ _) ⟨_, rfl, PIf.mk (fun h0 => ?_) (fun h0 => ?_)⟩
        · have h0 : ((t : Int) - sAt xs i).tmod retry = 0 := by simpa using h0
          refine PA.mk fun w5 k5 s5 g5 => app_int slInt (ho4.grew k5) g5 (by unfold Big; omega) fun a' c' w6 ho6 hk6 hl6 => ?_
          refine ⟨_, _, _, rfl, j - (i + 1), by omega, i + 1, wrapj i (by omega), by omega, rfl, (hG4.grew k5).new hk6 fun b hb => .inr (hn4 b hb.symm), ?_, fun b hb => ?_⟩
          · rw [wantTo_succ, if_pos ⟨hpos, h0⟩]; exact ho6
          · rcases hl6 with hl6 | hl6
            · exact hn4 b (hl6 ▸ hb)
            · rw [hl6] at hb; cases hb; have := hG4.size; have := k5.size; omega
        · have h0 : ((t : Int) - sAt xs i).tmod retry ≠ 0 := by simpa using h0
          refine ⟨j - (i + 1), by omega, i + 1, wrapj i (by omega), by omega, rfl, hG4, ?_, hn4⟩
          rw [wantTo_succ, if_neg (fun h => h0 h.2), List.append_nil]; exact ho4
      · have hneg := of_decide_eq_false hneg
        rw [hw] at hneg
        refine ⟨j - (i + 1), by omega, i + 1, wrapj i (by omega), by omega, rfl, hG4, ?_, hn4⟩
        rw [wantTo_succ, if_neg (fun h => hneg h.1), List.append_nil]; exact ho4
    · have hgi := of_decide_eq_false hgi
      have hij : i = j := by omega
      subst hij
      have hna : notIn F wa := notIn_blk.2 fun b hb hf => by have := hn4 b hb; have := hT3.dom b hf; omega
      refine PC.ok (Table_Due (now := (t : Int)) (hT3.grew hG4) (by unfold Big; simp only; omega)) ?_
      rintro _ w5 ⟨a5, n5, c5, rfl, ho5, hT5, hk5, hn5⟩
      rw [hdue] at ho5
      have hwr : ∀ x ∈ wantTo xs retry t i, I64 x := by
        intro x hx
        obtain ⟨hx, _⟩ := List.mem_filter.1 hx
        obtain ⟨y, hy, rfl⟩ := List.mem_map.1 hx
        have := List.mem_range.1 hy
        unfold I64; omega
      have hl5 : n5 = (wantTo xs retry t i).length := by have := ho5.length; rw [ints_length, Nat.mul_one] at this; exact this.symm
      refine ⟨_, _, _, rfl, PC.ok (kit_SameInts (ho5.ints (by unfold Big; omega) hwr) ((ho4.keep hk5 hna).ints (by unfold Big; omega) hwr)) ?_⟩
      rintro _ w6 ⟨rfl, hd6⟩
      refine ⟨_, rfl, PIf.ff (by simp) ⟨(pick ticks 201).toNat - (t + 1), by omega, t + 1, (Tab.dueT ⟨retry, A, H⟩ t).asked, H, F, by rw [wrap_i64 (by unfold I64; omega)]; simp, by omega, rfl, ((hG3.grew hG4).new hk5 fun b hb => .inr (hF2 b hb)).grew hd6.keep, hT5.grew hd6.keep, hF2, ?_⟩⟩
      have := hnext
      simpa using this
end Go.Proofs.Ytnfcddhabhbicaa
