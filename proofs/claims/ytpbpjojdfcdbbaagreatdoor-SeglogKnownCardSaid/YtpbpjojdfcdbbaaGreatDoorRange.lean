/-
  A range over a map; maps with texts for keys. No program is named here.
-/
import Derived.Test.YtpbpjojdfcdbbaaGreatDoorMaps
import Derived.Maps.RangeRun
import Derived.Laws.RangeAny
namespace Go.Lift
open Go
set_option linter.unusedVariables false

instance : LawfulBEq ByteArray where
  eq_of_beq := fun {a b} h => ByteArray.ext (eq_of_beq (show (a.data == b.data) = true from h))
  rfl := fun {a} => show (a.data == a.data) = true from by simp

theorem keyS {P : Program} {kt : TypeId} (h : P.underlying kt = some .string) : KeyT P kt Value.string :=
  ⟨⟨_, h, fun a b => rfl, fun n k w e => by simp [Instr.checkKey, run_underlying h]⟩, fun n a => by cases n <;> simp [Instr.sameBits]⟩

theorem KeyT.inj {κ : Type} [BEq κ] [LawfulBEq κ] {P : Program} {kt : TypeId} {enc : κ → Value} (h : KeyT P kt enc) {a b : κ} (e : enc a = enc b) : a = b := by
  obtain ⟨d, _, hs, _⟩ := h.under
  have h1 := hs a b
  rw [e, hs b b] at h1
  simpa using h1.symm

/-- a range over a map under way: what the map holds, what is still to come -/
structure RangeAt {κ : Type} (w : World) (it r : Nat) (enc : κ → Value) (l left : List (κ × Value)) : Prop where
  at' : ∃ es clock since seen c0, w.heap[r]? = some (.map es clock) ∧ es.toList.map (fun e => (e.key, e.val)) = l.map (fun p => (enc p.1, p.2)) ∧
    (∀ e ∈ es.toList, e.born < clock) ∧ (es.toList.map (·.born)).Nodup ∧ w.heap[it]? = some (.mapIter (some r) since seen c0) ∧ (∀ x ∈ es.toList, x.born < since) ∧ since ≤ c0 ∧ since ≤ clock ∧
    (leftOf es seen).toList.map (fun e => (e.key, e.val)) = left.map (fun p => (enc p.1, p.2))
  tidy : Tidy l

/-- the entry that the step handed out -/
structure CurAt {κ : Type} (w : World) (it r : Nat) (enc : κ → Value) (k : κ) (v : Value) : Prop where
  at' : ∃ (es : Array MapEntry) (clock since : Nat) (seen : Array Nat) (e : MapEntry), w.heap[r]? = some (.map es clock) ∧ w.heap[it]? = some (.mapIter (some r) since (seen.push e.born) clock) ∧ e ∈ es.toList ∧ (es.toList.map (·.born)).Nodup ∧ e.key = enc k ∧ e.val = v

section
variable {κ : Type} {w w' : World} {it r : Nat} {enc : κ → Value} {l left : List (κ × Value)} {S : Nat → Prop}

theorem RangeAt.keep (h : RangeAt w it r enc l left) (hk : Keep S w w') (h1 : ¬ S it) (h2 : ¬ S r) : RangeAt w' it r enc l left := by
  obtain ⟨es, clock, since, seen, c0, a1, a2, a3, a4, a5, rest⟩ := h.at'
  exact ⟨⟨es, clock, since, seen, c0, hk.get a1 h2, a2, a3, a4, hk.get a5 h1, rest⟩, h.tidy⟩
theorem RangeAt.map (h : RangeAt w it r enc l left) : MapAt w r enc l := by
  obtain ⟨es, clock, since, seen, c0, a1, a2, a3, a4, a5, rest⟩ := h.at'
  exact ⟨⟨es, clock, a1, a2, a3, a4⟩, h.tidy⟩
theorem RangeAt.ne (h : RangeAt w it r enc l left) : it ≠ r := by
  obtain ⟨es, clock, since, seen, c0, a1, a2, a3, a4, a5, rest⟩ := h.at'
  rintro rfl; rw [a1] at a5; cases a5
theorem mapRange {P : Program} {t kt vt : TypeId} {z : Value} {c ε : Value → World → Prop} (hT : MapT P t kt vt z) (h : MapAt w r enc l)
    (hc : ∀ w', RangeAt w' w.heap.size r enc l l → Grew w w' → w'.heap.size = w.heap.size + 1 → c (.pointer (some ⟨w.heap.size, 0, none⟩)) w') : PRun P (Instr.range t (.map (some r))) w c ε := by
  obtain ⟨es, clock, hb, hes, hborn, hnd⟩ := h.at'
  have hk : Grew w (w.alloc (.mapIter (some r) clock #[] clock)) := Keep.alloc w _
  refine PRun.mk (run_range_map w t kt vt r es clock hT.under hb) (hc _ ⟨⟨es, clock, clock, #[], clock, hk.get hb id, hes, hborn, hnd, heap_alloc_new w _, hborn, Nat.le_refl _, Nat.le_refl _, ?_⟩, h.tidy⟩ hk (by simp))
  rw [← hes]
  congr 2
  unfold leftOf
  simp

theorem rangeNext {P : Program} {ty : TypeId} {c ε : Value → World → Prop} (h : RangeAt w it r enc l left) (h0 : left = [] → c (.tuple #[.bool false]) w)
    (h1 : ∀ k v l1 l2 w', left = l1 ++ (k, v) :: l2 → RangeAt w' it r enc l (l1 ++ l2) → CurAt w' it r enc k v → Keep (· = it) w w' → w'.heap.size = w.heap.size → c (.tuple #[.bool true, enc k, v]) w') :
    PRun P (Instr.next (.pointer (some ⟨it, 0, none⟩)) false ty) w c ε := by
  have hne := h.ne
  obtain ⟨es, clock, since, seen, c0, a1, a2, a3, a4, a5, a6, a7, a8, a9⟩ := h.at'
  rcases run_next_at (P := P) w ty it r since c0 seen es clock a5 a1 a6 a7 with ⟨hz, hrun⟩ | ⟨e, he, w1, hal, hrun⟩
  · refine PRun.mk hrun (h0 ?_)
    have : (leftOf es seen).toList = [] := by rw [Array.eq_empty_of_size_eq_zero hz]
    rw [this] at a9
    simpa using a9.symm
  · have hk1 : Grew w w1 := by rcases hal with rfl | rfl; exact Keep.refl _; exact Keep.drewN w 1
    have hs1 : w1.heap.size = w.heap.size := by rcases hal with rfl | rfl <;> rfl
    have hit1 : w1.heap[it]? = some (.mapIter (some r) since seen c0) := hk1.get a5 id
    have hr1 : w1.heap[r]? = some (.map es clock) := hk1.get a1 id
    have hitlt := lt_of_get hit1
    let w2 := ChangeMaps.setBlock w1 it (.mapIter (some r) since (seen.push e.born) clock)
    have hk2 : Keep (· = it) w1 w2 := Keep.setObj w1 it _
    have hit2 : w2.heap[it]? = some (.mapIter (some r) since (seen.push e.born) clock) := setObj_get w1 it _ hitlt
    have hr2 : w2.heap[r]? = some (.map es clock) := hk2.get hr1 (fun e => hne e.symm)
    have hmem := mem_left he
    -- where it stands among those that are left
    obtain ⟨i, hi, hie⟩ := List.getElem_of_mem he
    have hin : i < left.length := by have := congrArg List.length a9; simp at this; simp at hi; omega
    have hgi : (e.key, e.val) = (enc left[i].1, left[i].2) := by
      have := congrArg (fun q => q[i]?) a9
      simp only [List.getElem?_map] at this
      rw [List.getElem?_eq_getElem hi, List.getElem?_eq_getElem hin, hie] at this
      simpa using this
    have hsplit : left = left.take i ++ (left[i].1, left[i].2) :: left.drop (i + 1) := by
      have := (List.take_append_drop i left).symm
      rw [List.drop_eq_getElem_cons hin] at this
      exact this
    have hleft : (leftOf es (seen.push e.born)).toList = (leftOf es seen).toList.eraseIdx i := by
      have hnd : ((leftOf es seen).toList.map (·.born)).Nodup := by
        unfold leftOf
        rw [Array.toList_filter]
        exact a4.sublist (List.Sublist.map _ List.filter_sublist)
      have hf : (leftOf es (seen.push e.born)).toList = (leftOf es seen).toList.filter (fun x => x.born != e.born) := by
        unfold leftOf
        rw [Array.toList_filter, Array.toList_filter, List.filter_filter]
        congr 1
        funext x
        rw [contains_push]
        cases seen.contains x.born <;> cases hx : (x.born == e.born) <;> simp only [bne, hx] <;> rfl
      rw [hf]
      have gen : ∀ (L : List MapEntry) (i : Nat) (hi : i < L.length), (L.map (·.born)).Nodup → L.filter (fun x => x.born != L[i].born) = L.eraseIdx i := by
        intro L
        induction L with
        | nil => intro i hi; simp at hi
        | cons x L ih =>
          intro i hi hnd
          simp only [List.map_cons, List.nodup_cons] at hnd
          cases i with
          | zero =>
            simp only [List.getElem_cons_zero, List.eraseIdx_zero, List.tail_cons]
            rw [List.filter_cons_of_neg (by simp)]
            apply List.filter_eq_self.2
            intro y hy
            simp only [bne_iff_ne, ne_eq]
            intro e; exact hnd.1 (e ▸ List.mem_map.2 ⟨y, hy, rfl⟩)
          | succ i =>
            simp only [List.getElem_cons_succ, List.eraseIdx_cons_succ]
            have hi' : i < L.length := by simpa using hi
            rw [List.filter_cons_of_pos, ih i hi' hnd.2]
            simp only [bne_iff_ne, ne_eq]
            intro e; exact hnd.1 (e ▸ List.mem_map.2 ⟨L[i], List.getElem_mem hi', rfl⟩)
      have := gen _ i hi hnd
      rw [hie] at this
      exact this
    have hkey : e.key = enc left[i].1 := (Prod.mk.inj hgi).1
    have hval : e.val = left[i].2 := (Prod.mk.inj hgi).2
    refine PRun.mk hrun ?_
    rw [hkey, hval]
    refine h1 left[i].1 left[i].2 (left.take i) (left.drop (i + 1)) w2 hsplit ⟨⟨es, clock, since, seen.push e.born, clock, hr2, a2, a3, a4, hit2, a6, a8, a8, ?_⟩, h.tidy⟩ ⟨es, clock, since, seen, e, hr2, hit2, hmem.1, a4, hkey, hval⟩ ((Grew.keep hk1).then hk2) ?_
    · rw [hleft, map_eraseIdx, a9, ← map_eraseIdx]
      congr 1
      rw [List.eraseIdx_eq_take_drop_succ]
    · show (w1.heap.setIfInBounds it _).size = _
      simp [hs1]

theorem curEntry {P : Program} {k : κ} {v : Value} {c ε : Value → World → Prop} (h : CurAt w it r enc k v) (hc : c (.tuple #[enc k, v]) w) : PRun P (Instr.entry (.pointer (some ⟨it, 0, none⟩))) w c ε := by
  obtain ⟨es, clock, since, seen, e, hr, hit, he, hn, hk, hv⟩ := h.at'
  refine PRun.mk (run_entry_at w it r since seen es clock e hit hr he hn) ?_
  rw [hk, hv]; exact hc

/-- an entry that is not to come any more goes -/
theorem rangeDel [BEq κ] [LawfulBEq κ] {P : Program} {t kt vt t2 ty : TypeId} {z : Value} {k : κ} {c ε : Value → World → Prop} (hT : MapT P t kt vt z) (hK : KeyT P kt enc) (h : RangeAt w it r enc l left) (hkl : k ∉ left.map (·.1))
    (hc : ∀ w', RangeAt w' it r enc (adel l k) left → Keep (· = r) w w' → w'.heap.size = w.heap.size → c (.tuple #[]) w') : PRun P (Builtin.delete_ #[t, t2] ty #[.map (some r), enc k]) w c ε := by
  have hne := h.ne
  obtain ⟨es, clock, since, seen, c0, hb, hes, hborn, hnd, a5, a6, a7, a8, a9⟩ := h.at'
  have hf := findKey_run hK k es.toList l hes w
  have hlen : es.toList.length = l.length := by have := congrArg List.length hes; simpa using this
  have hr := lt_of_get hb
  cases hp : apos l k 0 with
  | none =>
    rw [hp] at hf
    refine PRun.mk (w' := { w with heap := w.heap.setIfInBounds r (.map es clock) }) ?_ (hc _ ⟨⟨_, _, since, seen, c0, setObj_get w r _ hr, ?_, hborn, hnd, (Keep.setObj w r _).get a5 hne, a6, a7, a8, a9⟩, h.tidy.adel k⟩ (Keep.setObj w r _) (by simp))
    · simp [Builtin.delete_, run_underlying hT.under, getObj_run hb, checkKey_run hK, hf, setObj_run hb]
    · rw [(apos_none hp).2]; exact hes
  | some p =>
    obtain ⟨i, u⟩ := p
    rw [hp] at hf
    obtain ⟨_, hi, hget, hput⟩ := apos_some hp
    rw [Nat.sub_zero] at hi hget hput
    have hie : i < es.size := by have : es.size = l.length := by simpa using hlen
                                 omega
    have htl : (es.eraseIdxIfInBounds i).toList = es.toList.eraseIdx i := by simp [Array.eraseIdxIfInBounds, hie]
    have hki : (es.toList[i]'(by simpa using hie)).key = enc k := by
      have := congrArg (fun q => q[i]?) hes
      simp only [List.getElem?_map, hget, Option.map_some] at this
      rw [List.getElem?_eq_getElem (by simpa using hie)] at this
      simpa using (Prod.mk.inj (Option.some.inj this)).1
    have hgone : ∀ x ∈ (leftOf es seen).toList, x.key ≠ enc k := by
      intro x hx e
      have : (x.key, x.val) ∈ left.map (fun p => (enc p.1, p.2)) := by rw [← a9]; exact List.mem_map.2 ⟨x, hx, rfl⟩
      obtain ⟨q, hq, hqe⟩ := List.mem_map.1 this
      have hqk : enc q.1 = enc k := (Prod.mk.inj hqe).1.trans e
      exact hkl (List.mem_map.2 ⟨q, hq, hK.inj hqk⟩)
    have hleft : (leftOf (es.eraseIdxIfInBounds i) seen).toList = (leftOf es seen).toList := by
      unfold leftOf at hgone ⊢
      rw [Array.toList_filter] at hgone
      rw [Array.toList_filter, Array.toList_filter, htl]
      have gen : ∀ (L : List MapEntry) (p : MapEntry → Bool) (i : Nat) (hi : i < L.length), p L[i] = false → (L.eraseIdx i).filter p = L.filter p := by
        intro L p
        induction L with
        | nil => intro i hi; simp at hi
        | cons x L ih =>
          intro i hi hpi
          cases i with
          | zero =>
            simp only [List.getElem_cons_zero] at hpi
            simp [hpi]
          | succ i =>
            simp only [List.getElem_cons_succ] at hpi
            simp only [List.eraseIdx_cons_succ, List.filter_cons]
            rw [ih i (by simpa using hi) hpi]
      refine gen _ _ i (by simpa using hie) ?_
      cases hpp : !seen.contains (es.toList[i]'(by simpa using hie)).born with
      | false => rfl
      | true => exact absurd hki (hgone _ (List.mem_filter.2 ⟨List.getElem_mem _, hpp⟩))
    refine PRun.mk (w' := { w with heap := w.heap.setIfInBounds r (.map (es.eraseIdxIfInBounds i) clock) }) ?_ (hc _ ⟨⟨_, _, since, seen, c0, setObj_get w r _ hr, ?_, ?_, ?_, (Keep.setObj w r _).get a5 hne, ?_, a7, a8, ?_⟩, h.tidy.adel k⟩ (Keep.setObj w r _) (by simp))
    · simp [Builtin.delete_, run_underlying hT.under, getObj_run hb, checkKey_run hK, hf, setObj_run hb]
    · rw [(hput u).2, htl, map_eraseIdx, hes, map_eraseIdx]
    · intro e he
      rw [htl] at he
      exact hborn e (List.mem_of_mem_eraseIdx he)
    · rw [htl, map_eraseIdx]
      exact hnd.sublist (List.eraseIdx_sublist _ _)
    · intro e he
      rw [htl] at he
      exact a6 e (List.mem_of_mem_eraseIdx he)
    · rw [hleft]; exact a9

theorem mapLen {P : Program} {t kt vt ty : TypeId} {z : Value} {c ε : Value → World → Prop} (hT : MapT P t kt vt z) (h : MapAt w r enc l) (hc : c (.int .i64 (l.length : Int)) w) : PRun P (Builtin.len_ #[t] ty #[.map (some r)]) w c ε := by
  obtain ⟨es, clock, hb, hes, _⟩ := h.at'
  have hlen : es.size = l.length := by have := congrArg List.length hes; simpa using this
  refine PRun.mk (v := .int .i64 (l.length : Int)) ?_ hc
  rw [← hlen]
  simp [Builtin.len_, Builtin.lenOf, run_underlying hT.under, getObj_run hb, goInt]

/-! a range over a text -/
theorem strRange {P : Program} {t : TypeId} {s : ByteArray} {c ε : Value → World → Prop} (hu : P.underlying t = some .string)
    (hc : ∀ w', w'.heap[w.heap.size]? = some (.stringIter s 0) → Grew w w' → w'.heap.size = w.heap.size + 1 → c (.pointer (some ⟨w.heap.size, 0, none⟩)) w') : PRun P (Instr.range t (.string s)) w c ε :=
  PRun.mk (run_range_string w t s hu) (hc _ (World.iter_heap w s 0) (Keep.alloc w _) (by simp [World.iter]))

theorem strNext {P : Program} {ty : TypeId} {s : ByteArray} {pos : Nat} {c ε : Value → World → Prop} (h : w.heap[it]? = some (.stringIter s pos)) (h0 : s.size ≤ pos → c (.tuple #[.bool false]) w)
    (h1 : pos < s.size → ∀ w', w'.heap[it]? = some (.stringIter s (pos + (Utf8.decode s pos).2)) → Keep (· = it) w w' → w'.heap.size = w.heap.size → c (.tuple #[.bool true, .int .i64 (pos : Int), .int .i32 ((Utf8.decode s pos).1 : Int)]) w') :
    PRun P (Instr.next (.pointer (some ⟨it, 0, none⟩)) true ty) w c ε := by
  by_cases hp : pos < s.size
  · refine PRun.mk (w' := { w with heap := w.heap.setIfInBounds it (.stringIter s (pos + (Utf8.decode s pos).2)) }) ?_ (h1 hp _ (setObj_get w it _ (lt_of_get h)) (Keep.setObj w it _) (by simp))
    simp [Instr.next, getObj, setObj, Sem.run, h, hp, goInt]
  · refine PRun.mk ?_ (h0 (by omega))
    simp [Instr.next, getObj, Sem.run, h, hp]
end
end Go.Lift
