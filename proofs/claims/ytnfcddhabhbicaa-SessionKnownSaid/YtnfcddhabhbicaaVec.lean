/- vec: version vectors -/
import Derived.Test.YtnfcddhabhbicaaBase
import Derived.Test.YtnfcddhabhbicaaCode
namespace Go.Proofs.Ytnfcddhabhbicaa
open Go.Lift
set_option linter.unusedVariables false

theorem slInt : SlT Try.prog 23 3 1 8 := ⟨by kernel_rfl, by kernel_rfl, by decide⟩

def getv (xs : List Int) (i : Int) : Int := if i < 0 then 0 else max (xs.getD i.toNat 0) 0

theorem getv_of {xs : List Int} {i : Int} {x : Int} (h0 : 0 ≤ i) (h : xs[i.toNat]? = some x) : getv xs i = max x 0 := by
  unfold getv
  rw [if_neg (by omega)]
  simp [List.getD, h]
theorem getv_out {xs : List Int} {i : Int} (h : (xs.length : Int) ≤ i) : getv xs i = 0 := by
  unfold getv
  split
  · rfl
  · have : xs[i.toNat]? = none := by simp; omega
    simp [List.getD, this]

theorem vec_Get {a : Option Addr} {n c : Nat} {xs : List Int} {i : Int} {w : World} (h : Ints w a n xs) :
    Calls Try.prog F_vec_Get #[.slice a n c, .int .i64 i] w (Ok fun v w' => v = .int .i64 (getv xs i) ∧ w = w') := by
  refine L_vec_Get ?_
  refine PIf.mk (fun h0 => ?_) (fun h0 => PIf.mk (fun h1 => ?_) (fun h1 => ?_))
  · have := of_decide_eq_true h0
    exact Ok.mk ⟨by simp [getv, this], rfl⟩
  · have h1 := of_decide_eq_true h1
    exact Ok.mk ⟨by rw [getv_out (by rw [← h.len]; exact h1)], rfl⟩
  · have h0 := of_decide_eq_false h0
    have h1 := of_decide_eq_false h1
    obtain ⟨b, off, x, rfl, hb, hx, hr, hc⟩ := h.at (i := i) (by omega) (by omega)
    refine ⟨b, off, rfl, by omega, by omega, x, hc, Ok.mk ⟨?_, rfl⟩⟩
    rw [getv_of (by omega) hx]
    congr 1
    omega

def joinTo (xs ys : List Int) (k : Nat) : List Int := (List.range k).map fun (i : Nat) => max (getv xs i) (getv ys i)
def joinv (xs ys : List Int) : List Int := joinTo xs ys (max xs.length ys.length)
theorem joinTo_succ (xs ys : List Int) (k : Nat) : joinTo xs ys (k + 1) = joinTo xs ys k ++ [max (getv xs k) (getv ys k)] := by simp [joinTo, List.range_succ]
theorem joinTo_length (xs ys : List Int) (k : Nat) : (joinTo xs ys k).length = k := by simp [joinTo]

/-- what a call hands back: a new slice, its own -/
def NewInts (w0 : World) (e : TypeId) (xs : List Int) (v : Value) (w : World) : Prop :=
  ∃ a n c, v = .slice a n c ∧ Own w e 1 a n c (ints xs) ∧ Grew w0 w ∧ ∀ b, blk a = some b → w0.heap.size ≤ b

theorem max_ite {x y : Int} : (if y > x then y else x) = max x y := by omega

theorem vec_Join {a b : Option Addr} {n m c d : Nat} {xs ys : List Int} {w : World} (ha : Ints w a n xs) (hb : Ints w b m ys) :
    Calls Try.prog F_vec_Join #[.slice a n c, .slice b m d] w (Ok (NewInts w 3 (joinv xs ys))) := by
  have ha0 := ha.len; have hb0 := hb.len; have ha1 := ha.big; have hb1 := hb.big
  unfold Big at ha1 hb1
  refine L_vec_Join ⟨fun k oa on oc i w' => i = (on : Int) ∧ on ≤ max n m ∧ k = max n m - on ∧ Own w' 3 1 oa on oc (ints (joinTo xs ys on)) ∧ Grew w w' ∧ ∀ b, blk oa = some b → w.heap.size ≤ b,
    ⟨_, rfl, by omega, rfl, Own.nil _ _ _, Keep.refl _, by simp [blk]⟩, ?_⟩
  rintro k oa on oc i _ w1 ⟨rfl, hj, rfl, ho, hk, hn⟩
  refine PIf.mk (fun h1 => ?_) (fun h1 => ?_)
  · have h1 := of_decide_eq_true h1
    refine PC.ok (vec_Get (ha.grew hk)) ?_
    rintro _ _ ⟨rfl, rfl⟩
    refine ⟨_, rfl, PC.ok (vec_Get (hb.grew hk)) ?_⟩
    rintro _ _ ⟨rfl, rfl⟩
    refine ⟨_, rfl, PA.mk fun w2 hk2 hs2 hg2 => ?_⟩
    refine app_int slInt (ho.grew hk2) hg2 (by unfold Big; omega) fun a' c' w3 ho3 hk3 hl3 => ?_
    refine ⟨_, _, _, rfl, _, ?_, ?_, by omega, rfl, ?_, (hk.grew hk2).new hk3 ?_, ?_⟩
    · omega
    · rw [wrap_i64 (by unfold I64; omega)]; simp
    · rw [joinTo_succ, ← max_ite]; exact ho3
    · intro b hb; exact .inr (hn b hb.symm)
    · intro b hb
      rcases hl3 with hl3 | hl3
      · exact hn b (hl3 ▸ hb)
      · rw [hl3] at hb; cases hb; have := hk.size; have := hk2.size; omega
  · have h1 := of_decide_eq_false h1
    have : on = max n m := by omega
    subst this
    refine Ok.mk ⟨_, _, _, rfl, ?_, hk, hn⟩
    unfold joinv
    rw [← ha0, ← hb0]
    exact ho

/-- how two lists stand: 0 the same, 1 less, 2 more, 3 apart -/
def cmpTo (xs ys : List Int) : Nat → Int
  | 0 => 0
  | k + 1 => if getv xs k < getv ys k then iOr .i64 (cmpTo xs ys k) 1 else if getv xs k > getv ys k then iOr .i64 (cmpTo xs ys k) 2 else cmpTo xs ys k
def cmpv (xs ys : List Int) : Int := cmpTo xs ys (max xs.length ys.length)

theorem vec_Cmp {a b : Option Addr} {n m c d : Nat} {xs ys : List Int} {w : World} (ha : Ints w a n xs) (hb : Ints w b m ys) :
    Calls Try.prog F_vec_Cmp #[.slice a n c, .slice b m d] w (Ok fun v w' => v = .int .i64 (cmpv xs ys) ∧ w = w') := by
  have ha0 := ha.len; have hb0 := hb.len; have ha1 := ha.big; have hb1 := hb.big
  unfold Big at ha1 hb1
  refine L_vec_Cmp ⟨fun k how i w' => ∃ j : Nat, i = j ∧ j ≤ max n m ∧ k = max n m - j ∧ how = cmpTo xs ys j ∧ w' = w,
    ⟨_, 0, rfl, by omega, rfl, rfl, rfl⟩, ?_⟩
  rintro k how i _ w1 ⟨j, rfl, hj, rfl, rfl, rfl⟩
  refine PIf.mk (fun h1 => ?_) (fun h1 => ?_)
  · have h1 := of_decide_eq_true h1
    refine PC.ok (vec_Get ha) ?_
    rintro _ _ ⟨rfl, rfl⟩
    refine ⟨_, rfl, PC.ok (vec_Get hb) ?_⟩
    rintro _ _ ⟨rfl, rfl⟩
    have hw : IntKind.wrap .i64 ((j : Int) + 1) = ((j + 1 : Nat) : Int) := by rw [wrap_i64 (by unfold I64; omega)]; simp
    refine ⟨_, rfl, PIf.mk (fun h2 => ?_) (fun h2 => PIf.mk (fun h3 => ?_) (fun h3 => ?_))⟩
    · have h2 := of_decide_eq_true h2
      exact ⟨_, by omega, j + 1, hw, by omega, rfl, by simp [cmpTo, h2], rfl⟩
    · have h2 := of_decide_eq_false h2
      have h3 := of_decide_eq_true h3
      exact ⟨_, by omega, j + 1, hw, by omega, rfl, by simp [cmpTo, h2, h3], rfl⟩
    · have h2 := of_decide_eq_false h2
      have h3 := of_decide_eq_false h3
      exact ⟨_, by omega, j + 1, hw, by omega, rfl, by simp [cmpTo, h2, h3], rfl⟩
  · have h1 := of_decide_eq_false h1
    have : j = max n m := by omega
    subst this
    exact Ok.mk ⟨by unfold cmpv; rw [← ha0, ← hb0], rfl⟩
end Go.Proofs.Ytnfcddhabhbicaa
