/- SeglogLasts: the walk -/
import Derived.Test.YtpbpjojdfcdbbaaGreatDoorK1
namespace Go.Proofs.YtpbpjojdfcdbbaaGreatDoor
open Go.Lift
set_option linter.unusedVariables false
set_option maxRecDepth 20000

/-! a disk that lives goes on living -/
section
variable {D E : DiskV} {V : LogV}
theorem Alive.mstep (h : Alive D) (l : List Int) (i : Nat) : Alive (mStep l i D).2 := by
  match i with
  | 0 => exact h.clean
  | 1 => exact (h.create mTemp).1
  | 2 => exact (h.append mTemp _).1
  | 3 => exact (h.sync mTemp).1
  | i + 4 =>
    show Alive (D.rename mTemp mName).2
    unfold DiskV.rename
    refine h.onA fun f => ?_
    split
    · exact h.same rfl rfl
    · exact h
theorem Alive.mrun (l : List Int) : ∀ (k i : Nat) {D : DiskV}, Alive D → Alive (mRun l i k D).2
  | 0, i, _, h => h
  | k + 1, i, D, h => by
    rw [mRun]
    split
    · exact (h.mstep l i).clean
    · exact Alive.mrun l k (i + 1) (h.mstep l i)
theorem Alive.mfw (h : Alive D) (l : List Int) : Alive (Go.Proofs.YtpbpjojdfcdbbaaGreatDoor.mfWrite D l).2 := by
  unfold Go.Proofs.YtpbpjojdfcdbbaaGreatDoor.mfWrite
  split
  · exact h
  · exact Alive.mrun l 5 0 h
theorem Alive.begin2 (h : Alive D) : Alive (begin2 V D).2.2 := by
  unfold Go.Proofs.YtpbpjojdfcdbbaaGreatDoor.begin2
  dsimp only
  have h1 := (h.create (txt (segName V.next))).1
  split
  · exact h1
  · unfold begin3
    dsimp only
    have h2 := (h1.sync (txt (segName V.next))).1
    split
    · exact (h2.delete _).1
    · have h3 := h2.mfw (V.segs ++ [V.next])
      split
      · exact (h3.delete _).1
      · exact h3
theorem Alive.begin (h : Alive D) : Alive (logBegin V D).2.2 := by
  unfold logBegin
  dsimp only
  split
  · exact h.begin2
  · have h1 := (h.sync V.last).1
    split
    · exact h1
    · exact h1.begin2
theorem Alive.lay (h : Alive D) (x : List EventV) : Alive (logAppend V D x).2.2 := by
  unfold logAppend
  dsimp only
  split
  · exact h
  split
  · exact h
  by_cases hc : V.size ≤ V.bytes
  · rw [if_pos hc]
    have h1 := h.begin (V := V)
    generalize logBegin V D = r at h1
    split
    · exact h1
    have h2 := (h1.append r.2.1.last (evFrs x)).1
    split
    · exact h2
    · exact h2
  · rw [if_neg hc]
    split
    · exact h
    have h2 := (h.append V.last (evFrs x)).1
    split
    · exact h2
    · exact h2
end

/-! calls of these statements -/
structure Act22 where
  kind : Int
  n : Int
  evs : List EventV
  bs : List UInt8
def cAct22 : Cod Act22 where
  k := 4
  rep := fun w D x cs => ∃ a n c b m d, cs = [.int .i64 x.kind, .int .i64 x.n, .slice a n c, .slice b m d] ∧ Row cEv 96 w D a n x.evs ∧ Row cU8 1 w D b m x.bs ∧ I64 x.kind ∧ I64 x.n ∧ (b = none → m = 0 ∧ d = 0)
  keep := fun ⟨a, n, c, b, m, d, h1, h2, h3, h4⟩ hk hd => ⟨a, n, c, b, m, d, h1, h2.keep hk hd, h3.keep hk hd, h4⟩
  mono := fun ⟨a, n, c, b, m, d, h1, h2, h3, h4⟩ hd => ⟨a, n, c, b, m, d, h1, h2.mono hd, h3.mono hd, h4⟩
  len := fun ⟨a, n, c, b, m, d, h1, _⟩ => by rw [h1]; rfl
  one := fun ⟨a, n, c, b, m, d, h1, _⟩ u hu => by
    rw [h1] at hu
    simp only [List.mem_cons, List.not_mem_nil, or_false] at hu
    rcases hu with rfl | rfl | rfl | rfl <;> rfl

def evTotal (l : List Act22) : Nat := (l.map fun x => x.evs.length).sum
theorem evTotal_take (l : List Act22) {j : Nat} {x : Act22} (h : l[j]? = some x) : evTotal (l.take (j + 1)) = evTotal (l.take j) + x.evs.length := by
  unfold evTotal; rw [List.take_add_one, h]; simp
theorem evTotal_le (l : List Act22) (j : Nat) : evTotal (l.take j) ≤ evTotal l := by
  have : evTotal l = evTotal (l.take j) + evTotal (l.drop j) := by
    unfold evTotal
    rw [← List.sum_append_nat, ← List.map_append, List.take_append_drop]
  omega

/-- what Long lets through -/
def Short (l : List Act22) : Prop := l.length ≤ 120 ∧ evTotal l ≤ 600 ∧ ∀ x ∈ l, x.evs.length ≤ 200 ∧ (∀ e ∈ x.evs, e.deps.length ≤ 100) ∧ x.bs.length ≤ 1024
theorem law22_Long {l : List Act22} {a : Option Addr} {n c : Nat} {w : World} {D : Nat → Prop} (ha : Row cAct22 64 w D a n l) :
    Calls Tryz.prog F_law22_Long #[.slice a n c] w (Ok fun v w' => (∃ t : Bool, v = .bool t ∧ (t = false → Short l)) ∧ w = w') := by
  have ha0 := ha.len; have ha1 := ha.big
  unfold Big at ha1
  have tt : ∀ w' : World, w = w' → Ok (fun v w' => (∃ t : Bool, v = .bool t ∧ (t = false → Short l)) ∧ w = w') (.returned (.bool true)) w' := fun w' h => Ok.mk ⟨⟨true, rfl, fun h => by cases h⟩, h⟩
  refine L_law22_Long ⟨fun t w' => w = w' ∧ (l.length ≤ 120 → t = (evTotal l : Nat) ∧ ∀ x ∈ l, x.evs.length ≤ 200 ∧ (∀ e ∈ x.evs, e.deps.length ≤ 100) ∧ x.bs.length ≤ 1024), ⟨fun m t i w' => w = w' ∧ ∃ j : Nat, i = j ∧ j ≤ n ∧ j ≤ 300 ∧ m = n - j ∧ t = (evTotal (l.take j) : Nat) ∧ evTotal (l.take j) ≤ 200 * j ∧ ∀ x ∈ l.take j, x.evs.length ≤ 200 ∧ (∀ e ∈ x.evs, e.deps.length ≤ 100) ∧ x.bs.length ≤ 1024,
    ⟨_, rfl, 0, rfl, Nat.zero_le _, Nat.zero_le _, rfl, by simp [evTotal], by simp [evTotal], by simp⟩, ?_⟩, ?_⟩
  · rintro m t i _ _ ⟨rfl, j, rfl, hj, hj3, rfl, rfl, htl, hall⟩
    refine PIf.dec (fun hlt => PIf.dec (fun h300 => ?_) (fun h300 => ⟨rfl, fun h => by omega⟩)) (fun hge => ⟨rfl, fun h => by
      rw [List.take_of_length_le (by omega)] at hall ⊢; exact ⟨rfl, hall⟩⟩)
    obtain ⟨b, off, x, es, rfl, _, _, hx, hc, a1, n1, c1, b1, m1, d1, rfl, hr1, hr2, -⟩ := ha.atN (i := j) (by omega)
    have hn1 := hr1.len; have hm1 := hr2.len
    refine ⟨b, off, rfl, by omega, by omega, _, _, _, hc 2 (by decide), PC.ok (law10_Long hr1) ?_⟩
    rintro _ _ ⟨rfl, rfl⟩
    refine ⟨_, rfl, PIf.dec (fun h => tt _ rfl) (fun hno => ?_)⟩
    refine ⟨b, off, rfl, by omega, by omega, _, _, _, hc 3 (by decide), PIf.dec (fun h => tt _ rfl) (fun hbs => ?_)⟩
    have hd : ∀ e ∈ x.evs, e.deps.length ≤ 100 := fun e he => Nat.le_of_not_lt fun hlt => hno (.inl ⟨e, he, hlt⟩)
    have h2 : x.evs.length ≤ 200 := Nat.le_of_not_lt fun hlt => hno (.inr hlt)
    refine ⟨b, off, rfl, by omega, by omega, _, _, _, hc 2 (by decide), n - (j + 1), by omega, rfl, j + 1, wrap_succ (by omega), by omega, by omega, rfl, ?_, by rw [evTotal_take l hx]; omega, ?_⟩
    · rw [wrap_i64 (by unfold I64; omega), evTotal_take l hx, hn1]; simp
    · intro y hy
      rw [List.take_add_one, hx] at hy
      rcases List.mem_append.1 hy with h' | h'
      · exact hall y h'
      · simp at h'; subst h'; exact ⟨h2, hd, by omega⟩
  · rintro t _ _ ⟨rfl, h⟩
    refine PIf.dec (fun h120 => tt _ rfl) (fun h120 => Ok.mk ⟨⟨_, rfl, fun hf => ?_⟩, rfl⟩)
    obtain ⟨rfl, h2⟩ := h (by omega)
    have := of_decide_eq_false hf
    exact ⟨by omega, by omega, h2⟩

/-- events that own what they name are read -/
theorem lst_read {e : TypeId} {F : Nat → Prop} {w : World} {a : Option Addr} {n c : Nat} {l : List EventV} (h : Lst cEvO e F w a n c l) : Lst cEv e F w a n c l := by
  have hreps : ∀ (D : Nat → Prop) (xs : List EventV) (cs : List Value), Reps cEvO w D xs cs → Reps cEv w D xs cs := by
    intro D xs
    induction xs with
    | nil => intro cs h; exact h
    | cons x xs ih => rintro cs ⟨es, r, h1, h2, h3⟩; exact ⟨es, r, h1, cEvO.read h2, ih _ h3⟩
  obtain ⟨cs, D, ho, hr, hD⟩ := h.body
  exact ⟨⟨cs, D, ho, hreps _ _ _ hr, hD⟩, h.self, h.dom⟩
end Go.Proofs.YtpbpjojdfcdbbaaGreatDoor
