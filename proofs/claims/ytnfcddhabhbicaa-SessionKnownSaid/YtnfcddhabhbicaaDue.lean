/- what Due answers, by whom each session belongs to -/
import Derived.Test.YtnfcddhabhbicaaSessEnds
namespace Go.Proofs.Ytnfcddhabhbicaa
open Go.Lift
set_option linter.unusedVariables false

def lateB (retry now : Int) (A : List (Int × Int)) (p : Int) : Bool := decide (IntKind.wrap .i64 (now - (aget A p).getD 0) ≥ retry)

theorem due_fold (retry now : Int) : ∀ (l out : List Int) (A A0 : List (Int × Int)), l.Nodup → Tidy A → (∀ q ∈ l, aget A q = aget A0 q) →
    (l.foldl (dueStep retry now) (out, A)).1 = out ++ l.filter (lateB retry now A0) ∧ Tidy (l.foldl (dueStep retry now) (out, A)).2 ∧
    ∀ q, aget (l.foldl (dueStep retry now) (out, A)).2 q = if q ∈ l ∧ lateB retry now A0 q = true then some now else aget A q
  | [], out, A, A0, _, ht, _ => ⟨by simp, ht, fun q => by simp⟩
  | x :: l, out, A, A0, hn, ht, hA => by
    obtain ⟨hx, hn⟩ := List.nodup_cons.1 hn
    have hlx : lateB retry now A0 x = decide (IntKind.wrap .i64 (now - (aget A x).getD 0) ≥ retry) := by unfold lateB; rw [hA x (List.mem_cons_self ..)]
    by_cases h : IntKind.wrap .i64 (now - (aget A x).getD 0) ≥ retry
    · have hstep : dueStep retry now (out, A) x = (out ++ [x], aput A x now) := by unfold dueStep; rw [if_pos h]
      have hA' : ∀ q ∈ l, aget (aput A x now) q = aget A0 q := fun q hq => by
        rw [aget_aput, if_neg (by simp; rintro rfl; exact hx hq)]
        exact hA q (List.mem_cons_of_mem _ hq)
      obtain ⟨h1, h2, h3⟩ := due_fold retry now l (out ++ [x]) (aput A x now) A0 hn (ht.aput ..) hA'
      have hl : lateB retry now A0 x = true := by rw [hlx]; simpa using h
      rw [List.foldl_cons, hstep]
      refine ⟨by rw [h1, List.filter_cons_of_pos hl]; simp, h2, fun q => ?_⟩
      rw [h3]
      by_cases hq : q = x
      · subst hq
        rw [if_neg (fun h => hx h.1), aget_aput, if_pos (by simp), if_pos ⟨List.mem_cons_self .., hl⟩]
      · have e1 : aget (aput A x now) q = aget A q := by rw [aget_aput, if_neg (by simpa using hq)]
        rw [e1]
        simp [hq]
    · have hstep : dueStep retry now (out, A) x = (out, A) := by unfold dueStep; rw [if_neg h]
      obtain ⟨h1, h2, h3⟩ := due_fold retry now l out A A0 hn ht (fun q hq => hA q (List.mem_cons_of_mem _ hq))
      have hl : lateB retry now A0 x = false := by rw [hlx]; simpa using h
      rw [List.foldl_cons, hstep]
      refine ⟨by rw [h1, List.filter_cons_of_neg (by simp [hl])], h2, fun q => ?_⟩
      rw [h3]
      by_cases hq : q = x
      · subst hq
        rw [if_neg (fun h => hx h.1), if_neg (fun h => by rw [hl] at h; cases h.2)]
      · simp [hq]

theorem mem_keys {A : List (Int × Int)} {q : Int} : q ∈ A.map (·.1) ↔ (aget A q).isSome = true := by
  rw [Option.isSome_iff_ne_none, Ne, aget_none, Classical.not_not]

theorem sortI_nodup {l : List Int} (h : l.Nodup) : (sortI l).Nodup := (List.mergeSort_perm _ _).nodup_iff.2 h
theorem mem_sortI {l : List Int} {x : Int} : x ∈ sortI l ↔ x ∈ l := (List.mergeSort_perm _ _).mem_iff

/-- those with a session: by who has one -/
theorem open_eq {T : Tab} {R : List Int} (ht : Tidy T.asked) (hR : R.Pairwise (· < ·)) (hm : ∀ q, q ∈ R ↔ (aget T.asked q).isSome = true) : T.open = R := by
  refine sortI_eq ?_ (hR.imp fun h => by omega)
  refine (List.perm_ext_iff_of_nodup (hR.imp fun h => by omega) ht).2 fun q => ?_
  rw [hm, mem_keys]

/-- who is due, and when each was asked behind it -/
theorem due_eq {T : Tab} (ht : Tidy T.asked) (now : Int) : T.due now = T.open.filter (lateB T.retry now T.asked) ∧ Tidy (T.dueT now).asked ∧
    ∀ q, aget (T.dueT now).asked q = if (aget T.asked q).isSome = true ∧ lateB T.retry now T.asked q = true then some now else aget T.asked q := by
  obtain ⟨h1, h2, h3⟩ := due_fold T.retry now T.open [] T.asked T.asked (sortI_nodup ht) ht (fun _ _ => rfl)
  have e : T.dueTo now T.open.length = T.open.foldl (dueStep T.retry now) ([], T.asked) := by unfold Tab.dueTo; rw [List.take_length]
  refine ⟨by unfold Tab.due; rw [e, h1]; simp, by unfold Tab.dueT; rw [e]; exact h2, fun q => ?_⟩
  unfold Tab.dueT
  rw [e, h3]
  have : q ∈ T.open ↔ (aget T.asked q).isSome = true := by unfold Tab.open; rw [mem_sortI, mem_keys]
  simp only [this]

theorem open_length (T : Tab) : T.open.length = T.asked.length := by simp [Tab.open, sortI]
end Go.Proofs.Ytnfcddhabhbicaa
