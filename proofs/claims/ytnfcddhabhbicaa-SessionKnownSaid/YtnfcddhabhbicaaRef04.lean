/- the document's answer for vectors -/
import Derived.Test.YtnfcddhabhbicaaLent
namespace Go.Proofs.Ytnfcddhabhbicaa
open Go.Lift
set_option linter.unusedVariables false

theorem getv_nonneg (l : List Int) (i : Int) : 0 ≤ getv l i := by unfold getv; split <;> omega

theorem ref04_Get {a : Option Addr} {n c : Nat} {xs : List Int} {i : Int} {w : World} (h : Ints w a n xs) :
    Calls Try.prog F_ref04_Get #[.slice a n c, .int .i64 i] w (Ok fun v w' => v = .int .i64 (getv xs i) ∧ w = w') := by
  have hl := h.len
  refine L_ref04_Get (PIf.mk (fun h0 => PIf.mk (fun h1 => ?_) fun h1 => ?_) fun h0 => ?_)
  · have h0 := of_decide_eq_true h0
    have h1 := of_decide_eq_true h1
    obtain ⟨b, off, x, ha, hb, hx, hr, hc⟩ := h.at (i := i) h0 h1
    refine ⟨b, off, ha, h0, h1, x, hc, PIf.mk (fun h2 => ?_) fun h2 => ?_⟩
    · have h2 := of_decide_eq_true h2
      exact ⟨b, off, ha, h0, h1, x, hc, Ok.mk ⟨by rw [getv_of h0 hx]; congr 1; omega, rfl⟩⟩
    · have h2 := of_decide_eq_false h2
      exact Ok.mk ⟨by rw [getv_of h0 hx]; congr 1; omega, rfl⟩
  · have h1 := of_decide_eq_false h1
    exact Ok.mk ⟨by rw [getv_out (by omega)], rfl⟩
  · have h0 := of_decide_eq_false h0
    exact Ok.mk ⟨by unfold getv; rw [if_pos (by omega)], rfl⟩

def lessTo (xs ys : List Int) (k : Nat) : Bool := (List.range k).any fun i => decide (getv xs i < getv ys i)
theorem lessTo_succ (xs ys : List Int) (k : Nat) : lessTo xs ys (k + 1) = (lessTo xs ys k || decide (getv xs k < getv ys k)) := by simp [lessTo, List.range_succ]

theorem lessTo_more (xs ys : List Int) {k : Nat} (h : ys.length ≤ k) : lessTo xs ys k = lessTo xs ys ys.length := by
  induction k with
  | zero => have : ys.length = 0 := by omega
            rw [this]
  | succ k ih =>
    by_cases hk : ys.length = k + 1
    · rw [hk]
    · rw [lessTo_succ, ih (by omega)]
      have h1 : getv ys k = 0 := getv_out (by omega)
      have h2 := getv_nonneg xs k
      have : ¬ (getv xs k < getv ys k) := by omega
      simp [this]

def b2i (b : Bool) : Int := if b then 1 else 0
theorem cmpTo_eq (xs ys : List Int) (k : Nat) : cmpTo xs ys k = b2i (lessTo xs ys k) + 2 * b2i (lessTo ys xs k) := by
  induction k with
  | zero => rfl
  | succ k ih =>
    rw [lessTo_succ, lessTo_succ]
    unfold cmpTo
    rw [ih]
    by_cases h1 : getv xs k < getv ys k
    · have h2 : ¬ (getv ys k < getv xs k) := by omega
      rw [if_pos h1]
      cases lessTo xs ys k <;> cases lessTo ys xs k <;> simp [h1, h2, b2i] <;> decide
    · by_cases h2 : getv ys k < getv xs k
      · rw [if_neg h1, if_pos h2]
        cases lessTo xs ys k <;> cases lessTo ys xs k <;> simp [h1, h2, b2i] <;> decide
      · rw [if_neg h1, if_neg h2]
        simp [h1, h2]

theorem ref04_covers {a b : Option Addr} {n m c d : Nat} {xs ys : List Int} {w : World} (ha : Ints w a n xs) (hb : Ints w b m ys) :
    Calls Try.prog F_ref04_covers #[.slice a n c, .slice b m d] w (Ok fun v w' => v = .bool (!lessTo xs ys ys.length) ∧ w = w') := by
  have hl := hb.len; have hbg := hb.big
  unfold Big at hbg
  refine L_ref04_covers ⟨fun k i w' => ∃ j : Nat, i = (j : Int) ∧ j ≤ m ∧ k = m - j ∧ w' = w ∧ lessTo xs ys j = false, ⟨_, 0, rfl, by omega, rfl, rfl, rfl⟩, ?_⟩
  rintro k i B _ ⟨j, rfl, hj, rfl, rfl, hd⟩
  refine PIf.mk (fun h1 => ?_) fun h1 => ?_
  · have h1 := of_decide_eq_true h1
    refine PC.ok (ref04_Get hb) ?_
    rintro _ _ ⟨rfl, rfl⟩
    refine ⟨_, rfl, PC.ok (ref04_Get ha) ?_⟩
    rintro _ _ ⟨rfl, rfl⟩
    refine ⟨_, rfl, PIf.mk (fun h2 => ?_) fun h2 => ?_⟩
    · have h2 := of_decide_eq_true h2
      have : lessTo xs ys ys.length = true := List.any_eq_true.2 ⟨j, List.mem_range.2 (by omega), by simpa using h2⟩
      exact Ok.mk ⟨by rw [this]; rfl, rfl⟩
    · have h2 := of_decide_eq_false h2
      refine ⟨m - (j + 1), by omega, j + 1, by rw [wrap_i64 (by unfold I64; omega)]; simp, by omega, rfl, rfl, ?_⟩
      rw [lessTo_succ, hd]
      simpa using h2
  · have h1 := of_decide_eq_false h1
    have : j = ys.length := by omega
    subst this
    exact Ok.mk ⟨by rw [hd]; rfl, rfl⟩

theorem ref04_Cmp {a b : Option Addr} {n m c d : Nat} {xs ys : List Int} {w : World} (ha : Ints w a n xs) (hb : Ints w b m ys) :
    Calls Try.prog F_ref04_Cmp #[.slice a n c, .slice b m d] w (Ok fun v w' => v = .int .i64 (cmpv xs ys) ∧ w = w') := by
  have e : cmpv xs ys = b2i (lessTo xs ys ys.length) + 2 * b2i (lessTo ys xs xs.length) := by
    unfold cmpv
    rw [cmpTo_eq, lessTo_more xs ys (by omega), lessTo_more ys xs (by omega)]
  refine L_ref04_Cmp (PC.ok (ref04_covers ha hb) ?_)
  rintro _ _ ⟨rfl, rfl⟩
  refine ⟨_, rfl, PC.ok (ref04_covers hb ha) ?_⟩
  rintro _ _ ⟨rfl, rfl⟩
  refine ⟨_, rfl, ?_⟩
  rw [e]
  cases lessTo xs ys ys.length <;> cases lessTo ys xs xs.length <;> simp only [PIf, Bool.not_true, Bool.not_false] <;> exact Ok.mk ⟨rfl, rfl⟩

theorem ref04_Join {a b : Option Addr} {n m c d : Nat} {xs ys : List Int} {w : World} (ha : Ints w a n xs) (hb : Ints w b m ys) :
    Calls Try.prog F_ref04_Join #[.slice a n c, .slice b m d] w (Ok (NewInts w 3 (joinv xs ys))) := by
  have ha0 := ha.len; have hb0 := hb.len; have ha1 := ha.big; have hb1 := hb.big
  unfold Big at ha1 hb1
  refine L_ref04_Join ⟨fun k oa on oc i w' => i = (on : Int) ∧ on ≤ max n m ∧ k = max n m - on ∧ Own w' 3 1 oa on oc (Lift.ints (joinTo xs ys on)) ∧ Grew w w' ∧ ∀ b, blk oa = some b → w.heap.size ≤ b,
    ⟨_, rfl, by omega, rfl, Own.nil _ _ _, Keep.refl _, by simp [blk]⟩, ?_⟩
  rintro k oa on oc i _ w1 ⟨rfl, hj, rfl, ho, hk, hn⟩
  have fin : ¬ ((on : Int) < n) → ¬ ((on : Int) < m) → Ok (NewInts w 3 (joinv xs ys)) (.returned (.slice oa on oc)) w1 := fun h1 h2 => by
    have : on = max n m := by omega
    subst this
    refine Ok.mk ⟨_, _, _, rfl, ?_, hk, hn⟩
    unfold joinv
    rw [← ha0, ← hb0]
    exact ho
  refine ⟨fun w' => w' = w1 ∧ (on : Int) < max n m, PIf.mk (fun h1 => ⟨rfl, ?_⟩) (fun h1 => PIf.mk (fun h2 => ⟨rfl, ?_⟩) fun h2 => fin (of_decide_eq_false h1) (of_decide_eq_false h2)), ?_⟩
  · have := of_decide_eq_true h1; omega
  · have := of_decide_eq_true h2; omega
  rintro B w2 ⟨h2, hlt⟩
  obtain rfl := h2.symm
  have step : ∀ (x : Int), x = max (getv xs on) (getv ys on) → PA w1 (.cells #[.int .i64 x] 3) fun w3 => PRun Try.prog (Builtin.append_ #[23, 23] 23 #[.slice oa on oc, .slice (some ⟨w1.heap.size, 0, none⟩) 1 1]) w3
      (fun v w' => ∃ (a : Option Addr) (n1 : Nat) (c : Nat), v = .slice a n1 c ∧ ∃ m5, m5 < max n m - on ∧ (IntKind.wrap .i64 ((on : Int) + 1) = (n1 : Int) ∧ n1 ≤ max n m ∧ m5 = max n m - n1 ∧ Own w' 3 1 a n1 c (Lift.ints (joinTo xs ys n1)) ∧ Grew w w' ∧ ∀ b, blk a = some b → w.heap.size ≤ b))
      (fun pv w9 => Ok (NewInts w 3 (joinv xs ys)) (.panicked [{ v := pv, recovered := false }]) w9) := fun x hx => by
    refine PA.mk fun w3 hk3 hs3 hg3 => app_int slInt (ho.grew hk3) hg3 (by unfold Big; omega) fun a' c' w4 ho4 hk4 hl4 => ?_
    refine ⟨_, _, _, rfl, _, ?_, ?_, by omega, rfl, ?_, (hk.grew hk3).new hk4 fun b hb => .inr (hn b hb.symm), fun b hb => ?_⟩
    · omega
    · rw [wrap_i64 (by unfold I64; omega)]; simp
    · rw [joinTo_succ, ← hx]; exact ho4
    · rcases hl4 with hl4 | hl4
      · exact hn b (hl4 ▸ hb)
      · rw [hl4] at hb; cases hb; have := hk.size; have := hk3.size; omega
  refine PC.ok (ref04_Get (ha.grew hk)) ?_
  rintro _ _ ⟨rfl, rfl⟩
  refine ⟨_, rfl, PC.ok (ref04_Get (hb.grew hk)) ?_⟩
  rintro _ _ ⟨rfl, rfl⟩
  refine ⟨_, rfl, PIf.mk (fun h3 => ?_) fun h3 => ?_⟩
  · have h3 := of_decide_eq_true h3
    refine PC.ok (ref04_Get (hb.grew hk)) ?_
    rintro _ _ ⟨rfl, rfl⟩
    refine ⟨_, rfl, ?_⟩
    have := step (getv ys on) (by omega)
    exact this
  · have h3 := of_decide_eq_false h3
    have := step (getv xs on) (by omega)
    exact this
end Go.Proofs.Ytnfcddhabhbicaa
