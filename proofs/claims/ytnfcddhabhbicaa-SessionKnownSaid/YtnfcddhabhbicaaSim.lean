/- the program's table and the document's tell the same -/
import Derived.Test.YtnfcddhabhbicaaRefOps2
namespace Go.Proofs.Ytnfcddhabhbicaa
open Go.Lift
set_option linter.unusedVariables false

def getF (L : List PeerV) (q : Int) : Option PeerV := L.find? fun p => p.no == q
theorem getF_cons (p : PeerV) (L : List PeerV) (q : Int) : getF (p :: L) q = if p.no = q then some p else getF L q := by
  unfold getF
  rw [List.find?_cons]
  by_cases h : p.no = q
  · rw [if_pos h]; simp [h]
  · rw [if_neg h]
    have : (p.no == q) = false := by simpa using h
    rw [this]

theorem getF_upd {f : PeerV → PeerV} (hf : ∀ p, (f p).no = p.no) (peer q : Int) : ∀ L, getF (upd f peer L) q = if q = peer then some (f (getP peer L)) else getF L q
  | [] => by
    unfold upd getP
    rw [getF_cons, hf]
    show (if peer = q then _ else _) = _
    by_cases h : q = peer
    · subst h; simp
    · rw [if_neg (fun e => h e.symm), if_neg h]
  | p :: L => by
    have ih := getF_upd hf peer q L
    unfold upd getP
    by_cases h1 : p.no < peer
    · rw [if_pos h1, if_pos h1, getF_cons, ih, getF_cons]
      by_cases hq : q = peer
      · rw [if_neg (by omega), if_pos hq, if_pos hq]
      · rw [if_neg hq, if_neg hq]
    · rw [if_neg h1, if_neg h1]
      by_cases h2 : p.no = peer
      · rw [if_pos h2, if_pos h2, getF_cons, hf, h2]
        by_cases hq : q = peer
        · rw [if_pos hq.symm, if_pos hq]
        · rw [if_neg (fun e => hq e.symm), if_neg hq, getF_cons, if_neg (by omega)]
      · rw [if_neg h2, if_neg h2, getF_cons, hf]
        show (if peer = q then _ else _) = _
        by_cases hq : q = peer
        · rw [if_pos hq.symm, if_pos hq]
        · rw [if_neg (fun e => hq e.symm), if_neg hq]

abbrev SortedL (L : List PeerV) : Prop := L.Pairwise fun a b => a.no < b.no

theorem getF_none {L : List PeerV} {q : Int} (h : ∀ p ∈ L, q < p.no) : getF L q = none := by
  unfold getF
  rw [List.find?_eq_none]
  intro p hp
  have := h p hp
  simp; omega

theorem getP_getF (peer : Int) : ∀ {L : List PeerV}, SortedL L → getP peer L = (getF L peer).getD (newP peer)
  | [], _ => rfl
  | p :: L, h => by
    obtain ⟨h1, h2⟩ := List.pairwise_cons.1 h
    unfold getP
    rw [getF_cons]
    by_cases hlt : p.no < peer
    · rw [if_pos hlt, if_neg (by omega), getP_getF peer h2]
    · rw [if_neg hlt]
      by_cases he : p.no = peer
      · rw [if_pos he, if_pos he]; rfl
      · rw [if_neg he, if_neg he, getF_none fun q hq => by have := h1 q hq; omega]; rfl

theorem mem_upd {f : PeerV → PeerV} {peer : Int} {x : PeerV} : ∀ {L : List PeerV}, x ∈ upd f peer L → x ∈ L ∨ x = f (getP peer L)
  | [], h => by simp [upd] at h; exact .inr h
  | p :: L, h => by
    unfold upd at h
    unfold getP
    by_cases h1 : p.no < peer
    · rw [if_pos h1] at h ⊢
      rcases List.mem_cons.1 h with rfl | h
      · exact .inl (List.mem_cons_self ..)
      · rcases mem_upd h with h | h
        · exact .inl (List.mem_cons_of_mem _ h)
        · exact .inr h
    · rw [if_neg h1] at h ⊢
      by_cases h2 : p.no = peer
      · rw [if_pos h2] at h ⊢
        rcases List.mem_cons.1 h with rfl | h
        · exact .inr rfl
        · exact .inl (List.mem_cons_of_mem _ h)
      · rw [if_neg h2] at h ⊢
        rcases List.mem_cons.1 h with rfl | h
        · exact .inr rfl
        · exact .inl h

theorem getP_no (peer : Int) : ∀ L : List PeerV, (getP peer L).no = peer
  | [] => rfl
  | p :: L => by
    unfold getP
    split
    · exact getP_no peer L
    · split
      · assumption
      · rfl

theorem upd_sorted {f : PeerV → PeerV} (hf : ∀ p, (f p).no = p.no) (peer : Int) : ∀ {L : List PeerV}, SortedL L → SortedL (upd f peer L)
  | [], _ => by simp [upd]
  | p :: L, h => by
    obtain ⟨h1, h2⟩ := List.pairwise_cons.1 h
    unfold upd
    by_cases hlt : p.no < peer
    · rw [if_pos hlt]
      refine List.pairwise_cons.2 ⟨fun q hq => ?_, upd_sorted hf peer h2⟩
      rcases mem_upd hq with hq | rfl
      · exact h1 q hq
      · rw [hf, getP_no]; exact hlt
    · rw [if_neg hlt]
      by_cases he : p.no = peer
      · rw [if_pos he]
        exact List.pairwise_cons.2 ⟨fun q hq => by rw [hf]; exact h1 q hq, h2⟩
      · rw [if_neg he]
        refine List.pairwise_cons.2 ⟨fun q hq => ?_, h⟩
        rw [hf]
        show peer < q.no
        rcases List.mem_cons.1 hq with rfl | hq
        · omega
        · have := h1 q hq; omega

theorem upd_length (f : PeerV → PeerV) (peer : Int) : ∀ L : List PeerV, (upd f peer L).length ≤ L.length + 1
  | [] => by simp [upd]
  | p :: L => by
    have := upd_length f peer L
    unfold upd
    split
    · simp only [List.length_cons]; omega
    · split <;> simp

structure Sim (T : Tab) (L : List PeerV) : Prop where
  sorted : SortedL L
  asked : ∀ q, aget T.asked q = (getF L q).bind fun p => if p.opn then some p.asked else none
  heard : ∀ q, (aget T.heard q).getD [] = ((getF L q).map (·.vec)).getD []
  nn : ∀ p ∈ L, ∀ v ∈ p.vec, 0 ≤ v

theorem joinv_nn (xs ys : List Int) : ∀ v ∈ joinv xs ys, 0 ≤ v := by
  intro v hv
  obtain ⟨i, _, rfl⟩ := List.mem_map.1 hv
  have := getv_nonneg xs i
  omega

theorem joinv_nil {xs : List Int} (h : ∀ v ∈ xs, 0 ≤ v) : joinv xs [] = xs := by
  apply List.ext_getElem?
  intro i
  by_cases hi : i < xs.length
  · have hx := List.getElem?_eq_getElem hi
    have hn := h xs[i] (List.getElem_mem hi)
    unfold joinv joinTo
    rw [List.getElem?_map, List.getElem?_range (by simp; omega), hx]
    simp only [Option.map_some]
    rw [getv_of (by omega) (show xs[((i : Int)).toNat]? = some xs[i] from hx), getv_out (by simp)]
    congr 1
    omega
  · rw [List.getElem?_eq_none (by rw [joinv_length]; simp; omega), List.getElem?_eq_none (by omega)]

theorem Sim.peer {T : Tab} {L : List PeerV} (h : Sim T L) (peer : Int) : (aget T.heard peer).getD [] = (getP peer L).vec ∧ (aget T.asked peer).isSome = (getP peer L).opn := by
  rw [h.heard, h.asked, getP_getF peer h.sorted]
  cases getF L peer with
  | none => exact ⟨rfl, rfl⟩
  | some p =>
    refine ⟨rfl, ?_⟩
    simp only [Option.bind_some, Option.getD_some]
    cases p.opn <;> rfl

theorem Sim.start {T : Tab} {L : List PeerV} (h : Sim T L) (peer now : Int) : Sim { T with asked := aput T.asked peer now } (upd (fun p => { p with asked := now, opn := true }) peer L) := by
  have hf : ∀ p : PeerV, ({ p with asked := now, opn := true } : PeerV).no = p.no := fun _ => rfl
  refine ⟨upd_sorted hf peer h.sorted, fun q => ?_, fun q => ?_, fun p hp => ?_⟩
  · simp only
    rw [aget_aput, getF_upd hf]
    by_cases hq : q = peer
    · rw [if_pos (by simpa using hq), if_pos hq]; rfl
    · rw [if_neg (by simpa using hq), if_neg hq]; exact h.asked q
  · simp only
    rw [getF_upd hf]
    by_cases hq : q = peer
    · rw [if_pos hq, hq]; exact (h.peer peer).1
    · rw [if_neg hq]; exact h.heard q
  · rcases mem_upd hp with hp | rfl
    · exact h.nn p hp
    · show ∀ v ∈ (getP peer L).vec, 0 ≤ v
      rw [getP_getF peer h.sorted]
      cases hg : getF L peer with
      | none => simp [newP]
      | some p => exact h.nn p (List.mem_of_find?_eq_some hg)

theorem Sim.hear {T : Tab} {L : List PeerV} (h : Sim T L) (ht : Tidy T.asked) (peer : Int) (xs want : List Int) :
    Sim (T.hear peer xs want) (upd (hearP xs want) peer L) ∧ T.ends peer xs want = ((getP peer L).opn && covers (joinv (getP peer L).vec xs) want) := by
  obtain ⟨hv, ho⟩ := h.peer peer
  have ha : T.all peer xs = joinv (getP peer L).vec xs := by unfold Tab.all; rw [hv]
  have he : T.ends peer xs want = ((getP peer L).opn && covers (joinv (getP peer L).vec xs) want) := by unfold Tab.ends; rw [ho, ha]
  have hf : ∀ p : PeerV, (hearP xs want p).no = p.no := fun _ => rfl
  refine ⟨⟨upd_sorted hf peer h.sorted, fun q => ?_, fun q => ?_, fun p hp => ?_⟩, he⟩
  · unfold Tab.hear
    simp only
    rw [getF_upd hf, he]
    by_cases hq : q = peer
    · rw [if_pos hq, hq]
      simp only [Option.bind_some, hearP]
      cases hopn : (getP peer L).opn with
      | false =>
        rw [hopn] at ho
        simp only [Bool.false_and, Bool.false_eq_true, if_false]
        simpa using ho
      | true =>
        cases hc : covers (joinv (getP peer L).vec xs) want with
        | true =>
          simp only [Bool.and_self, if_true, Bool.not_true, Bool.and_false, Bool.false_eq_true, if_false]
          rw [aget_adel ht, if_pos (by simp)]
        | false =>
          simp only [Bool.and_false, Bool.false_eq_true, if_false, Bool.not_false, Bool.and_self, if_true]
          rw [h.asked, getP_getF peer h.sorted]
          rw [getP_getF peer h.sorted] at hopn
          cases hg : getF L peer with
          | none => rw [hg] at hopn; cases hopn
          | some p => rw [hg] at hopn; simp only [Option.getD_some] at hopn; simp [hopn]
    · rw [if_neg hq]
      split
      · rw [aget_adel ht, if_neg (by simpa using hq)]; exact h.asked q
      · exact h.asked q
  · unfold Tab.hear
    simp only
    rw [getF_upd hf, aget_aput, ha]
    by_cases hq : q = peer
    · rw [if_pos (by simpa using hq), if_pos hq]; rfl
    · rw [if_neg (by simpa using hq), if_neg hq]; exact h.heard q
  · rcases mem_upd hp with hp | rfl
    · exact h.nn p hp
    · exact joinv_nn _ _

theorem mem_openL {L : List PeerV} (hs : SortedL L) (q : Int) : q ∈ openL L ↔ ∃ p, getF L q = some p ∧ p.opn = true := by
  induction L with
  | nil => simp [openL, getF]
  | cons p L ih =>
    obtain ⟨h1, h2⟩ := List.pairwise_cons.1 hs
    have ih := ih h2
    have e : openL (p :: L) = (if p.opn then [p.no] else []) ++ openL L := by
      unfold openL; rw [List.filter_cons]; cases p.opn <;> rfl
    rw [e, getF_cons, List.mem_append, ih]
    by_cases hq : p.no = q
    · rw [if_pos hq]
      have hn : getF L q = none := getF_none fun r hr => by have := h1 r hr; omega
      rw [hn]
      cases hp : p.opn with
      | true => simp [hp, hq]
      | false => simp [hp]
    · rw [if_neg hq]
      cases hp : p.opn with
      | true => simp only [if_true, List.mem_singleton]; constructor
                · rintro (h | h)
                  · exact absurd h.symm hq
                  · exact h
                · exact fun h => .inr h
      | false => simp

theorem openL_sorted {L : List PeerV} (hs : SortedL L) : (openL L).Pairwise (· < ·) := by
  unfold openL
  rw [List.pairwise_map]
  exact hs.filter _

theorem Sim.open {T : Tab} {L : List PeerV} (h : Sim T L) (ht : Tidy T.asked) : T.open = openL L := by
  refine open_eq ht (openL_sorted h.sorted) fun q => ?_
  rw [mem_openL h.sorted, h.asked]
  cases getF L q with
  | none => simp
  | some p => cases hp : p.opn <;> simp [hp]

theorem getF_map {r now : Int} (q : Int) : ∀ L : List PeerV, getF (L.map (dueP r now)) q = (getF L q).map (dueP r now)
  | [] => rfl
  | p :: L => by
    have hn : (dueP r now p).no = p.no := by unfold dueP; split <;> rfl
    rw [List.map_cons, getF_cons, getF_cons, hn, getF_map q L]
    split <;> rfl

theorem Sim.due {T : Tab} {L : List PeerV} (h : Sim T L) (ht : Tidy T.asked) (now : Int) : T.due now = dueL T.retry now L ∧ Sim (T.dueT now) (L.map (dueP T.retry now)) := by
  obtain ⟨d1, d2, d3⟩ := due_eq ht now
  have late : ∀ p ∈ L, p.opn = true → lateB T.retry now T.asked p.no = lateP T.retry now p := fun p hp ho => by
    have hg : getF L p.no = some p := by
      have hs := h.sorted
      clear d1 d2 d3 h
      induction L with
      | nil => cases hp
      | cons a L ih =>
        obtain ⟨h1, h2⟩ := List.pairwise_cons.1 hs
        rw [getF_cons]
        rcases List.mem_cons.1 hp with rfl | hp
        · rw [if_pos rfl]
        · rw [if_neg (by have := h1 p hp; omega)]; exact ih hp h2
    unfold lateB lateP
    rw [h.asked, hg]
    simp [ho]
  refine ⟨?_, ⟨?_, fun q => ?_, fun q => ?_, fun p hp => ?_⟩⟩
  · rw [d1, h.open ht]
    unfold openL dueL
    rw [List.filter_map, List.filter_filter]
    congr 1
    refine List.filter_congr fun p hp => ?_
    simp only [Function.comp]
    cases ho : p.opn with
    | false => simp [lateP, ho]
    | true => rw [late p hp ho]; simp
  · rw [SortedL, List.pairwise_map]
    exact h.sorted.imp fun {a b} hab => by
      have e : ∀ p, (dueP T.retry now p).no = p.no := fun p => by unfold dueP; split <;> rfl
      rw [e, e]; exact hab
  · rw [d3, getF_map, h.asked]
    cases hg : getF L q with
    | none => simp
    | some p =>
      have hpm : p ∈ L := List.mem_of_find?_eq_some hg
      have hpn : p.no = q := by have := List.find?_some hg; simpa using this
      simp only [Option.bind_some, Option.map_some]
      cases ho : p.opn with
      | false => simp [dueP, lateP, ho]
      | true =>
        have hl := late p hpm ho
        rw [hpn] at hl
        rw [hl]
        unfold dueP
        cases lateP T.retry now p <;> simp [ho]
  · have e : (T.dueT now).heard = T.heard := rfl
    rw [e, getF_map, h.heard]
    cases getF L q with
    | none => rfl
    | some p =>
      simp only [Option.map_some, Option.getD_some]
      unfold dueP; split <;> rfl
  · obtain ⟨p0, hp0, rfl⟩ := List.mem_map.1 hp
    have e : (dueP T.retry now p0).vec = p0.vec := by unfold dueP; split <;> rfl
    rw [e]; exact h.nn p0 hp0

theorem Sim.vec {T : Tab} {L : List PeerV} (h : Sim T L) (q : Int) : (aget T.heard q).getD [] = vecL L q := by
  rw [h.heard]
  unfold vecL
  show ((getF L q).map (·.vec)).getD [] = match getF L q with | some p => joinv p.vec [] | none => []
  cases hg : getF L q with
  | none => rfl
  | some p => exact (joinv_nil (h.nn p (List.mem_of_find?_eq_some hg))).symm
end Go.Proofs.Ytnfcddhabhbicaa
