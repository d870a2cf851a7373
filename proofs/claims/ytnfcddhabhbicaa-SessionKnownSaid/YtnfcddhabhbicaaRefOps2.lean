/- the document's answer for sessions, what is asked of it -/
import Derived.Test.YtnfcddhabhbicaaRefOps
namespace Go.Proofs.Ytnfcddhabhbicaa
open Go.Lift
set_option linter.unusedVariables false

def openL (L : List PeerV) : List Int := (L.filter (·.opn)).map (·.no)

theorem openL_step {L : List PeerV} {i : Nat} {p : PeerV} (h : L[i]? = some p) : openL (L.take (i + 1)) = openL (L.take i) ++ if p.opn then [p.no] else [] := by
  unfold openL
  rw [List.take_add_one, h, Option.toList_some, List.filter_append, List.map_append]
  congr 1
  cases hp : p.opn <;> simp [hp]

theorem openL_length (L : List PeerV) : (openL L).length ≤ L.length := by
  unfold openL; rw [List.length_map]; exact List.length_filter_le _ _

theorem ref_Open {w : World} {x : Nat} {F : Nat → Prop} {r : Int} {L : List PeerV} (h : RefAt w x F r L) (hl : L.length ≤ 1000) :
    Calls Try.prog F_ref26_Table_Open #[.pointer (some ⟨x, 0, none⟩)] w (Ok (NewInts w 3 (openL L))) := by
  obtain ⟨la, ln, lc, Ps, h1, rfl⟩ := h
  have hn := h1.len
  simp only [List.length_map] at hl
  refine L_ref26_Table_Open ⟨fun k oa on oc i w' => ∃ i' : Nat, i = (i' : Int) ∧ i' ≤ Ps.length ∧ k = Ps.length - i' ∧ Own w' 3 1 oa on oc (Lift.ints (openL ((Ps.map (·.1)).take i'))) ∧ Grew w w' ∧ ∀ b, blk oa = some b → w.heap.size ≤ b,
    ⟨_, 0, rfl, by omega, rfl, Own.nil _ _ _, Keep.refl _, by simp [blk]⟩, ?_⟩
  rintro k oa on oc i B w1 ⟨i', rfl, hi, rfl, ho, hG, hnw⟩
  have hR := h1.grew hG
  have rd := cell_at (w := w1) (off := 0) (v := .slice la ln lc) hR.head rfl
  have hon := own_len ho
  have hol : (openL ((Ps.map (·.1)).take i')).length ≤ 1000 := Nat.le_trans (openL_length _) (by simp; omega)
  refine ⟨x, 0, rfl, la, ln, lc, rd, PIf.mk (fun hlt => ?_) fun hge => ?_⟩
  · have hlt := of_decide_eq_true hlt
    have hlt' : i' < Ps.length := by omega
    obtain ⟨P, hP⟩ : ∃ P, Ps[i']? = some P := ⟨_, List.getElem?_eq_getElem hlt'⟩
    obtain ⟨g, rfl⟩ := hR.addr hlt'
    have hst := openL_step (L := Ps.map (·.1)) (i := i') (p := P.1) (by rw [List.getElem?_map, hP]; rfl)
    have hw : IntKind.wrap .i64 ((i' : Int) + 1) = ((i' + 1 : Nat) : Int) := by rw [wrap_i64 (by unfold I64; omega)]; simp
    refine ⟨x, 0, rfl, _, ln, lc, rd, g, 0, rfl, by omega, hlt, P.1.opn, hR.cell (j := 2) hP rfl, PIf.mk (fun hopn => ?_) fun hopn => ?_⟩
    · refine ⟨x, 0, rfl, _, ln, lc, rd, g, 0, rfl, by omega, hlt, P.1.no, hR.no hP, PA.mk fun w2 k2 s2 g2 => app_int slInt (ho.grew k2) g2 (by unfold Big; omega) fun a' c' w3 ho3 hk3 hl3 => ?_⟩
      refine ⟨_, _, _, rfl, Ps.length - (i' + 1), by omega, i' + 1, hw, by omega, rfl, ?_, (hG.grew k2).new hk3 fun b hb => .inr (hnw b hb.symm), fun b hb => ?_⟩
      · rw [hst, if_pos hopn]; exact ho3
      · rcases hl3 with hl3 | hl3
        · exact hnw b (hl3 ▸ hb)
        · rw [hl3] at hb; cases hb; have := hG.size; have := k2.size; omega
    · refine ⟨Ps.length - (i' + 1), by omega, i' + 1, hw, by omega, rfl, ?_, hG, hnw⟩
      rw [hst, if_neg (by rw [hopn]; simp), List.append_nil]; exact ho
  · have hge := of_decide_eq_false hge
    rw [List.take_of_length_le (by simp; omega)] at ho
    exact Ok.mk ⟨_, _, _, rfl, ho, hG, hnw⟩

def vecL (L : List PeerV) (peer : Int) : List Int := match L.find? (fun p => p.no == peer) with
  | some p => joinv p.vec []
  | none => []

theorem ref_Vec {w : World} {x : Nat} {F : Nat → Prop} {r peer : Int} {L : List PeerV} (h : RefAt w x F r L) (hl : L.length ≤ 1000) :
    Calls Try.prog F_ref26_Table_Vec #[.pointer (some ⟨x, 0, none⟩), .int .i64 peer] w (Ok (NewInts w 3 (vecL L peer))) := by
  obtain ⟨la, ln, lc, Ps, h1, rfl⟩ := h
  have hn := h1.len
  simp only [List.length_map] at hl
  have rd := cell_at (w := w) (off := 0) (v := .slice la ln lc) h1.head rfl
  refine L_ref26_Table_Vec ⟨fun k i w' => ∃ i' : Nat, i = (i' : Int) ∧ i' ≤ Ps.length ∧ k = Ps.length - i' ∧ w' = w ∧ ∀ j p, j < i' → (Ps.map (·.1))[j]? = some p → p.no ≠ peer, ⟨_, 0, rfl, by omega, rfl, rfl, fun j p hj => by omega⟩, ?_⟩
  rintro k i B w1 ⟨i', rfl, hi, rfl, h1w, hall⟩
  obtain rfl := h1w.symm
  refine ⟨x, 0, rfl, la, ln, lc, rd, PIf.mk (fun hlt => ?_) fun hge => ?_⟩
  · have hlt := of_decide_eq_true hlt
    have hlt' : i' < Ps.length := by omega
    obtain ⟨P, hP⟩ : ∃ P, Ps[i']? = some P := ⟨_, List.getElem?_eq_getElem hlt'⟩
    obtain ⟨g, rfl⟩ := h1.addr hlt'
    have hPL : (Ps.map (·.1))[i']? = some P.1 := by rw [List.getElem?_map, hP]; rfl
    refine ⟨x, 0, rfl, _, ln, lc, rd, g, 0, rfl, by omega, hlt, P.1.no, h1.no hP, PIf.mk (fun he => ?_) fun hne => ?_⟩
    · have he : P.1.no = peer := by simpa using he
      have hf : (Ps.map (·.1)).find? (fun p => p.no == peer) = some P.1 := by
        rw [List.find?_eq_some_iff_getElem]
        obtain ⟨hl2, e⟩ := List.getElem?_eq_some_iff.1 hPL
        refine ⟨by simpa using he, i', hl2, e, fun j hj => ?_⟩
        have := hall j _ hj (List.getElem?_eq_getElem (by omega))
        simpa using this
      obtain ⟨va, vn, vc, e2, hvI, hvb⟩ := h1.vecs P (List.mem_of_getElem? hP)
      have c3 := h1.cell (j := 3) hP rfl
      rw [e2] at c3
      refine ⟨x, 0, rfl, _, ln, lc, rd, g, 0, rfl, by omega, hlt, va, vn, vc, c3, PC.ok (ref04_Join hvI (Ints.nil w)) ?_⟩
      rintro _ w2 ⟨a2, n2, c2, rfl, hr⟩
      refine ⟨a2, n2, c2, rfl, Ok.mk ⟨a2, n2, c2, rfl, ?_⟩⟩
      unfold vecL
      rw [hf]
      exact hr
    · have hne : P.1.no ≠ peer := by simpa using hne
      refine ⟨Ps.length - (i' + 1), by omega, i' + 1, by rw [wrap_i64 (by unfold I64; omega)]; simp, by omega, rfl, rfl, fun j p hj hp => ?_⟩
      by_cases hji : j = i'
      · subst hji; rw [hPL] at hp; cases hp; exact hne
      · exact hall j p (by omega) hp
  · have hge := of_decide_eq_false hge
    have hf : (Ps.map (·.1)).find? (fun p => p.no == peer) = none := by
      rw [List.find?_eq_none]
      intro p hp
      obtain ⟨j, hj⟩ := List.getElem?_of_mem hp
      have hjl := (List.getElem?_eq_some_iff.1 hj).1
      simp only [List.length_map] at hjl
      simpa using hall j p (by omega) hj
    refine Ok.mk ⟨none, 0, 0, rfl, ?_, Keep.refl _, by simp [blk]⟩
    unfold vecL
    rw [hf]
    exact Own.nil _ _ _

def lateP (r now : Int) (p : PeerV) : Bool := p.opn && decide (IntKind.wrap .i64 (now - p.asked) ≥ r)
def dueP (r now : Int) (p : PeerV) : PeerV := if lateP r now p then { p with asked := now } else p
def dueL (r now : Int) (L : List PeerV) : List Int := (L.filter (lateP r now)).map (·.no)

theorem dueL_step {r now : Int} {L : List PeerV} {i : Nat} {p : PeerV} (h : L[i]? = some p) : dueL r now (L.take (i + 1)) = dueL r now (L.take i) ++ if lateP r now p then [p.no] else [] := by
  unfold dueL
  rw [List.take_add_one, h, Option.toList_some, List.filter_append, List.map_append]
  congr 1
  cases hp : lateP r now p <;> simp [hp]

theorem ref_Due {w : World} {x : Nat} {F : Nat → Prop} {r now : Int} {L : List PeerV} (h : RefAt w x F r L) (hl : L.length ≤ 1000) :
    Calls Try.prog F_ref26_Table_Due #[.pointer (some ⟨x, 0, none⟩), .int .i64 now] w
      (Ok fun v w' => ∃ a n c, v = .slice a n c ∧ Own w' 3 1 a n c (Lift.ints (dueL r now L)) ∧ RefAt w' x F r (L.map (dueP r now)) ∧ Keep F w w' ∧ ∀ b, blk a = some b → w.heap.size ≤ b) := by
  obtain ⟨la, ln, lc, Ps, h1, rfl⟩ := h
  have hn := h1.len
  simp only [List.length_map] at hl
  refine L_ref26_Table_Due ⟨fun k oa on oc i w' => ∃ (i' : Nat) (Qs : List (PeerV × Value)), i = (i' : Int) ∧ i' ≤ Ps.length ∧ k = Ps.length - i' ∧ RefB w' x F r la ln lc Qs ∧ Qs.map (·.1) = ((Ps.map (·.1)).take i').map (dueP r now) ++ (Ps.map (·.1)).drop i' ∧
      Own w' 3 1 oa on oc (Lift.ints (dueL r now ((Ps.map (·.1)).take i'))) ∧ Keep F w w' ∧ ∀ b, blk oa = some b → w.heap.size ≤ b,
    ⟨_, 0, Ps, rfl, by omega, rfl, h1, by simp, Own.nil _ _ _, Keep.refl _, by simp [blk]⟩, ?_⟩
  rintro k oa on oc i B w1 ⟨i', Qs, rfl, hi, rfl, hR, hQ, ho, hK, hnw⟩
  have rd : ∀ {w' : World} {Q : List (PeerV × Value)}, RefB w' x F r la ln lc Q → w'.cell? ⟨x, 0, none⟩ = some (.slice la ln lc) := fun h => cell_at (off := 0) h.head rfl
  have hon := own_len ho
  have hol : (dueL r now ((Ps.map (·.1)).take i')).length ≤ 1000 := by
    unfold dueL; rw [List.length_map]
    exact Nat.le_trans (List.length_filter_le _ _) (by simp; omega)
  refine ⟨x, 0, rfl, la, ln, lc, rd hR, PIf.mk (fun hlt => ?_) fun hge => ?_⟩
  · have hlt := of_decide_eq_true hlt
    have hlt' : i' < Ps.length := by omega
    obtain ⟨P0, hP0⟩ : ∃ P, Ps[i']? = some P := ⟨_, List.getElem?_eq_getElem hlt'⟩
    have hPL : (Ps.map (·.1))[i']? = some P0.1 := by rw [List.getElem?_map, hP0]; rfl
    have hlen : (((Ps.map (·.1)).take i').map (dueP r now)).length = i' := by simp; omega
    have hdrop : (Ps.map (·.1)).drop i' = P0.1 :: (Ps.map (·.1)).drop (i' + 1) := by
      obtain ⟨hl2, e⟩ := List.getElem?_eq_some_iff.1 hPL
      rw [List.drop_eq_getElem_cons hl2, e]
    have hQi : (Qs.map (·.1))[i']? = some P0.1 := by
      rw [hQ, List.getElem?_append_right (by omega), hlen, hdrop]; simp
    rw [List.getElem?_map] at hQi
    obtain ⟨P, hP, hPe⟩ := Option.map_eq_some_iff.1 hQi
    have hltQ : i' < Qs.length := (List.getElem?_eq_some_iff.1 hP).1
    obtain ⟨g, rfl⟩ := hR.addr hltQ
    have hgF := (hR.lab g rfl).1
    have hst := dueL_step (r := r) (now := now) hPL
    have hw : IntKind.wrap .i64 ((i' : Int) + 1) = ((i' + 1 : Nat) : Int) := by rw [wrap_i64 (by unfold I64; omega)]; simp
    have htake : ((Ps.map (·.1)).take (i' + 1)).map (dueP r now) = ((Ps.map (·.1)).take i').map (dueP r now) ++ [dueP r now P0.1] := by
      rw [List.take_add_one, hPL]; simp
    have same : lateP r now P0.1 = false → Qs.map (·.1) = ((Ps.map (·.1)).take (i' + 1)).map (dueP r now) ++ (Ps.map (·.1)).drop (i' + 1) := fun hf => by
      rw [hQ, htake, hdrop]
      unfold dueP
      simp [hf]
    refine ⟨x, 0, rfl, _, ln, lc, rd hR, g, 0, rfl, by omega, hlt, P.1.opn, hR.cell (j := 2) hP rfl, PIf.mk (fun hopn => ?_) fun hopn => ?_⟩
    · refine ⟨x, 0, rfl, _, ln, lc, rd hR, g, 0, rfl, by omega, hlt, P.1.asked, hR.cell (j := 1) hP rfl, x, 0, rfl, r, cell_at (off := 1) hR.head rfl, ?_⟩
      rintro w2 hd2
      have hR2 := hR.grew hd2.keep
      have hK2 : Keep F w w2 := hK.chain (hd2.keep.mono fun _ _ (h : False) => h.elim)
      have hG2 : Grew w1 w2 := hd2.keep
      refine PIf.mk (fun hlate => ?_) fun hlate => ?_
      · have hlate := of_decide_eq_true hlate
        have hlp : lateP r now P0.1 = true := by rw [← hPe]; unfold lateP; rw [hopn]; simpa using hlate
        refine ⟨x, 0, rfl, _, ln, lc, rd hR2, g, 0, rfl, by omega, hlt, hR2.put (j := 1) (P' := (⟨P.1.no, now, P.1.opn, P.1.vec⟩, P.2)) hP (by decide) rfl (hR2.vecs P (List.mem_of_getElem? hP)) fun w3 k3 h3 => ?_⟩
        have i3 := get_set_self (b := ((⟨P.1.no, now, P.1.opn, P.1.vec⟩, P.2) : PeerV × Value)) hP
        have hno : notIn (· = g) oa := notIn_blk.2 fun b hb e => by
          subst e; have := hnw b hb; have := h1.dom b hgF; omega
        have ho3 := (ho.grew hG2).keep k3 hno
        refine ⟨x, 0, rfl, _, ln, lc, rd h3, g, 0, rfl, by omega, hlt, P.1.no, h3.no (P := (⟨P.1.no, now, P.1.opn, P.1.vec⟩, P.2)) i3, PA.mk fun w4 k4 s4 g4 => app_int slInt (ho3.grew k4) g4 (by unfold Big; omega) fun a' c' w5 ho5 hk5 hl5 => ?_⟩
        have hla : ∀ b, some b = blk oa → ¬ F b := fun b hb hf => by have := hnw b hb.symm; have := h1.dom b hf; omega
        have hK3 : Keep F w w3 := hK2.chain (k3.mono fun b _ hb => by subst hb; exact hgF)
        refine ⟨_, _, _, rfl, Ps.length - (i' + 1), by omega, i' + 1, _, hw, by omega, rfl, (h3.grew k4).keep hk5 (fun b hf hb => hla b hb hf), ?_, ?_, ?_, fun b hb => ?_⟩
        · rw [List.map_set, hQ, htake, hdrop, List.set_append_right _ _ (by omega), hlen]
          simp only [Nat.sub_self, List.set_cons_zero, List.append_assoc, List.cons_append, List.nil_append]
          congr 2
          unfold dueP
          rw [if_pos hlp, ← hPe]
        · rw [hst, if_pos hlp, ← hPe]; exact ho5
        · refine (hK3.chain (k4.mono fun _ _ (h : False) => h.elim)).trans hk5 (fun _ _ h => h) fun b hb hb2 => ?_
          have := hnw b hb2.symm; omega
        · rcases hl5 with hl5 | hl5
          · exact hnw b (hl5 ▸ hb)
          · rw [hl5] at hb; cases hb; have := hK3.size; have := k4.size; omega
      · have hlate := of_decide_eq_false hlate
        have hlp : lateP r now P0.1 = false := by rw [← hPe]; unfold lateP; rw [hopn]; simpa using hlate
        refine ⟨Ps.length - (i' + 1), by omega, i' + 1, Qs, hw, by omega, rfl, hR2, same hlp, ?_, hK2, hnw⟩
        rw [hst, if_neg (by rw [hlp]; simp), List.append_nil]; exact ho.grew hG2
    · have hlp : lateP r now P0.1 = false := by rw [← hPe]; unfold lateP; rw [hopn]; rfl
      rintro w2 hd2
      have hG2 : Grew w1 w2 := hd2.keep
      refine ⟨Ps.length - (i' + 1), by omega, i' + 1, Qs, hw, by omega, rfl, hR.grew hG2, same hlp, ?_, hK.chain (hG2.mono fun _ _ (h : False) => h.elim), hnw⟩
      rw [hst, if_neg (by rw [hlp]; simp), List.append_nil]; exact ho.grew hG2
  · have hge := of_decide_eq_false hge
    rw [List.take_of_length_le (by simp; omega), List.drop_of_length_le (by simp; omega), List.append_nil] at hQ
    rw [List.take_of_length_le (by simp; omega)] at ho
    exact Ok.mk ⟨_, _, _, rfl, ho, ⟨la, ln, lc, Qs, hR, hQ⟩, hK, hnw⟩
end Go.Proofs.Ytnfcddhabhbicaa
