/-
  Maps as lists of keys and values. No program is named here.
-/
import Derived.Test.YtpbpjojdfcdbbaaGreatDoorBase
namespace Go.Lift
open Go
set_option linter.unusedVariables false
/-- what is at a key -/
def aget {κ β : Type} [BEq κ] (l : List (κ × β)) (k : κ) : Option β := match l with
  | [] => none
  | (x, v) :: r => if k == x then some v else aget r k

def aput {κ β : Type} [BEq κ] (l : List (κ × β)) (k : κ) (v : β) : List (κ × β) := match l with
  | [] => [(k, v)]
  | (x, u) :: r => if k == x then (k, v) :: r else (x, u) :: aput r k v

def adel {κ β : Type} [BEq κ] (l : List (κ × β)) (k : κ) : List (κ × β) := match l with
  | [] => []
  | (x, u) :: r => if k == x then r else (x, u) :: adel r k

theorem aget_aput {κ β : Type} [BEq κ] [LawfulBEq κ] (l : List (κ × β)) (k k' : κ) (v : β) : aget (aput l k v) k' = if k' == k then some v else aget l k' := by
  induction l with
  | nil => simp [aput, aget]
  | cons p r ih =>
    obtain ⟨x, u⟩ := p
    unfold aput
    by_cases h : k == x
    · rw [if_pos h]
      have hx : k = x := by simpa using h
      subst hx
      unfold aget
      split <;> rfl
    · rw [if_neg h]
      unfold aget
      by_cases h2 : k' == x
      · rw [if_pos h2]
        have hx : k' = x := by simpa using h2
        subst hx
        have : (k' == k) = false := by
          cases hb : k' == k
          · rfl
          · exfalso; apply h; have : k' = k := by simpa using hb
            simp [this]
        rw [this]; simp [aget, h]
      · rw [if_neg h2]; rw [ih]; simp [aget, h2]

/-- each key once -/
def Tidy {κ β : Type} (l : List (κ × β)) : Prop := (l.map (·.1)).Nodup

theorem mem_aput {κ β : Type} [BEq κ] [LawfulBEq κ] {l : List (κ × β)} {k : κ} {v : β} {x : κ} : x ∈ (aput l k v).map (·.1) ↔ x = k ∨ x ∈ l.map (·.1) := by
  induction l with
  | nil => simp [aput]
  | cons p r ih =>
    obtain ⟨y, u⟩ := p
    unfold aput
    by_cases h : k == y
    · rw [if_pos h]
      have hy : k = y := by simpa using h
      subst hy
      simp
    · rw [if_neg h]
      simp only [List.map_cons, List.mem_cons, ih]
      constructor
      · rintro (h | h | h) <;> simp [h]
      · rintro (h | h | h) <;> simp [h]

theorem Tidy.aput {κ β : Type} [BEq κ] [LawfulBEq κ] {l : List (κ × β)} (h : Tidy l) (k : κ) (v : β) : Tidy (aput l k v) := by
  unfold Tidy at *
  induction l with
  | nil => simp [Lift.aput]
  | cons p r ih =>
    obtain ⟨y, u⟩ := p
    simp only [List.map_cons, List.nodup_cons] at h
    unfold Lift.aput
    by_cases hk : k == y
    · rw [if_pos hk]
      have hy : k = y := by simpa using hk
      subst hy
      simpa using h
    · rw [if_neg hk]
      simp only [List.map_cons, List.nodup_cons]
      refine ⟨fun hm => ?_, ih h.2⟩
      rcases mem_aput.1 hm with rfl | hm
      · simp at hk
      · exact h.1 hm

theorem mem_adel {κ β : Type} [BEq κ] [LawfulBEq κ] {l : List (κ × β)} {k x : κ} (hm : x ∈ (adel l k).map (·.1)) : x ∈ l.map (·.1) := by
  induction l with
  | nil => simp [adel] at hm
  | cons p r ih =>
    obtain ⟨y, u⟩ := p
    unfold adel at hm
    split at hm
    · simp only [List.map_cons, List.mem_cons]; exact .inr hm
    · simp only [List.map_cons, List.mem_cons] at hm ⊢
      rcases hm with hm | hm
      · exact .inl hm
      · exact .inr (ih hm)

theorem Tidy.adel {κ β : Type} [BEq κ] [LawfulBEq κ] {l : List (κ × β)} (h : Tidy l) (k : κ) : Tidy (adel l k) := by
  unfold Tidy at *
  induction l with
  | nil => simp [Lift.adel]
  | cons p r ih =>
    obtain ⟨y, u⟩ := p
    simp only [List.map_cons, List.nodup_cons] at h
    unfold Lift.adel
    split
    · exact h.2
    · simp only [List.map_cons, List.nodup_cons]
      exact ⟨fun hm => h.1 (mem_adel hm), ih h.2⟩

theorem aget_none {κ β : Type} [BEq κ] [LawfulBEq κ] {l : List (κ × β)} {k : κ} : aget l k = none ↔ k ∉ l.map (·.1) := by
  induction l with
  | nil => simp [aget]
  | cons p r ih =>
    obtain ⟨y, u⟩ := p
    unfold aget
    by_cases h : k == y
    · have hy : k = y := by simpa using h
      rw [if_pos h]; subst hy; simp
    · rw [if_neg h, ih]
      have : k ≠ y := by rintro rfl; simp at h
      simp [this]

theorem aget_adel {κ β : Type} [BEq κ] [LawfulBEq κ] {l : List (κ × β)} (h : Tidy l) (k k' : κ) : aget (adel l k) k' = if k' == k then none else aget l k' := by
  induction l with
  | nil => simp [adel, aget]
  | cons p r ih =>
    obtain ⟨x, u⟩ := p
    have h' := h
    simp only [Tidy, List.map_cons, List.nodup_cons] at h'
    unfold adel
    by_cases hk : k == x
    · rw [if_pos hk]
      have hx : k = x := by simpa using hk
      subst hx
      by_cases h2 : k' == k
      · have : k' = k := by simpa using h2
        subst this
        simp only [beq_self_eq_true, if_true]
        exact aget_none.2 h'.1
      · rw [if_neg h2]
        simp [aget, h2]
    · rw [if_neg hk]
      unfold aget
      by_cases h2 : k' == x
      · have hx : k' = x := by simpa using h2
        subst hx
        have : (k' == k) = false := by
          cases hb : k' == k
          · rfl
          · exfalso; apply hk; have : k' = k := by simpa using hb
            simp [this]
        simp [this]
      · rw [if_neg h2, if_neg h2]; exact ih h'.2

theorem aget_mem {κ β : Type} [BEq κ] [LawfulBEq κ] {l : List (κ × β)} {k : κ} {v : β} (h : aget l k = some v) : (k, v) ∈ l := by
  induction l with
  | nil => simp [aget] at h
  | cons p r ih =>
    obtain ⟨x, u⟩ := p
    unfold aget at h
    split at h
    · rename_i hk
      have hx : k = x := by simpa using hk
      subst hx
      cases h
      simp
    · exact List.mem_cons_of_mem _ (ih h)

theorem mem_aput_pair {κ β : Type} [BEq κ] [LawfulBEq κ] {l : List (κ × β)} {k : κ} {v : β} {p : κ × β} (h : p ∈ aput l k v) : p = (k, v) ∨ p ∈ l := by
  induction l with
  | nil => simpa [aput] using h
  | cons q r ih =>
    obtain ⟨x, u⟩ := q
    unfold aput at h
    split at h
    · rcases List.mem_cons.1 h with h | h
      · exact .inl h
      · exact .inr (List.mem_cons_of_mem _ h)
    · rcases List.mem_cons.1 h with h | h
      · exact .inr (h ▸ List.mem_cons_self ..)
      · rcases ih h with h | h
        · exact .inl h
        · exact .inr (List.mem_cons_of_mem _ h)

theorem mem_adel_pair {κ β : Type} [BEq κ] [LawfulBEq κ] {l : List (κ × β)} {k : κ} {p : κ × β} (h : p ∈ adel l k) : p ∈ l := by
  induction l with
  | nil => simp [adel] at h
  | cons q r ih =>
    obtain ⟨x, u⟩ := q
    unfold adel at h
    split at h
    · exact List.mem_cons_of_mem _ h
    · rcases List.mem_cons.1 h with h | h
      · exact h ▸ List.mem_cons_self ..
      · exact List.mem_cons_of_mem _ (ih h)

theorem mem_aget {κ β : Type} [BEq κ] [LawfulBEq κ] {l : List (κ × β)} (ht : Tidy l) {k : κ} {v : β} (h : (k, v) ∈ l) : aget l k = some v := by
  induction l with
  | nil => cases h
  | cons p r ih =>
    obtain ⟨x, u⟩ := p
    simp only [Tidy, List.map_cons, List.nodup_cons] at ht
    unfold aget
    rcases List.mem_cons.1 h with h1 | h1
    · cases h1; simp
    · have : k ≠ x := by
        intro he
        exact ht.1 (List.mem_map.2 ⟨(k, v), h1, he⟩)
      rw [if_neg (by simpa using this)]
      exact ih ht.2 h1

/-- a type of keys: how a key lies, and that keys are told apart at once -/
structure KeyT {κ : Type} [BEq κ] (P : Program) (kt : TypeId) (enc : κ → Value) : Prop where
  under : ∃ d, P.underlying kt = some d ∧ (∀ a b, Instr.sameNow d (enc a) (enc b) = some (a == b)) ∧ (∀ n k w e, (Instr.checkKey e (n + 1) kt (enc k)).run P w = .ok () w)
  same : ∀ n a, Instr.sameBits n (enc a) (enc a) = true

theorem length_aput {κ β : Type} [BEq κ] (l : List (κ × β)) (k : κ) (v : β) : (aput l k v).length ≤ l.length + 1 := by
  induction l with
  | nil => simp [aput]
  | cons p r ih =>
    unfold aput
    split
    · simp
    · simp; omega

theorem length_adel {κ β : Type} [BEq κ] (l : List (κ × β)) (k : κ) : (adel l k).length ≤ l.length := by
  induction l with
  | nil => simp [adel]
  | cons p r ih =>
    unfold adel
    split
    · simp
    · simp; omega

/-- block r is a map that reads as the list -/
structure MapAt {κ : Type} (w : World) (r : Nat) (enc : κ → Value) (l : List (κ × Value)) : Prop where
  at' : ∃ es clock, w.heap[r]? = some (.map es clock) ∧ es.toList.map (fun e => (e.key, e.val)) = l.map (fun p => (enc p.1, p.2)) ∧
    (∀ e ∈ es.toList, e.born < clock) ∧ (es.toList.map (·.born)).Nodup
  tidy : Tidy l

theorem MapAt.keep {κ : Type} {S : Nat → Prop} {w w' : World} {r : Nat} {enc : κ → Value} {l : List (κ × Value)} (h : MapAt w r enc l) (hk : Keep S w w') (hn : ¬ S r) : MapAt w' r enc l := by
  obtain ⟨es, clock, hb, rest⟩ := h.at'
  exact ⟨⟨es, clock, hk.get hb hn, rest⟩, h.tidy⟩

theorem MapAt.grew {κ : Type} {w w' : World} {r : Nat} {enc : κ → Value} {l : List (κ × Value)} (h : MapAt w r enc l) (hk : Grew w w') : MapAt w' r enc l := h.keep hk id

theorem MapAt.lt {κ : Type} {w : World} {r : Nat} {enc : κ → Value} {l : List (κ × Value)} (h : MapAt w r enc l) : r < w.heap.size := by
  obtain ⟨es, clock, hb, rest⟩ := h.at'
  exact lt_of_get hb

theorem MapAt.new {κ : Type} {w : World} {r : Nat} {enc : κ → Value} (h : w.heap[r]? = some (.map #[] 0)) : MapAt w r enc ([] : List (κ × Value)) :=
  ⟨⟨_, _, h, rfl, by simp, by simp⟩, by simp [Tidy]⟩

/-- where a key stands -/
def apos {κ : Type} [BEq κ] (l : List (κ × Value)) (k : κ) (i : Nat) : Option (Nat × Value) := match l with
  | [] => none
  | (x, v) :: r => if k == x then some (i, v) else apos r k (i + 1)

theorem findNow_of {κ : Type} [BEq κ] [LawfulBEq κ] {P : Program} {kt : TypeId} {enc : κ → Value} {d : TypeDesc} (hs : ∀ a b, Instr.sameNow d (enc a) (enc b) = some (a == b)) (k : κ) :
    ∀ (es : List MapEntry) (l : List (κ × Value)) (i : Nat), es.map (fun e => (e.key, e.val)) = l.map (fun p => (enc p.1, p.2)) → Instr.findNow d (enc k) es i = some (apos l k i)
  | [], [], _, _ => rfl
  | [], _ :: _, _, h => by simp at h
  | _ :: _, [], _, h => by simp at h
  | e :: es, (x, v) :: l, i, h => by
    simp only [List.map_cons, List.cons.injEq, Prod.mk.injEq] at h
    obtain ⟨⟨h1, h2⟩, h3⟩ := h
    unfold Instr.findNow apos
    rw [h1, hs]
    cases hk : k == x
    · simp only [Bool.false_eq_true, if_false]
      exact findNow_of (P := P) (kt := kt) hs k es l (i + 1) h3
    · simp [h2]

theorem apos_aget {κ : Type} [BEq κ] [LawfulBEq κ] (l : List (κ × Value)) (k : κ) : ∀ i, (apos l k i).map (·.2) = aget l k := by
  induction l with
  | nil => intro i; rfl
  | cons p r ih =>
    intro i
    obtain ⟨x, v⟩ := p
    unfold apos aget
    split
    · rfl
    · exact ih (i + 1)

theorem findKey_run {κ : Type} [BEq κ] [LawfulBEq κ] {P : Program} {kt : TypeId} {enc : κ → Value} (hK : KeyT P kt enc) (k : κ) (es : List MapEntry) (l : List (κ × Value)) (h : es.map (fun e => (e.key, e.val)) = l.map (fun p => (enc p.1, p.2))) (w : World) :
    (Instr.findKey kt (enc k) es).run P w = .ok (apos l k 0) w := by
  obtain ⟨d, hd, hs, _⟩ := hK.under
  have := findNow_of (P := P) (kt := kt) hs k es l 0 h
  simp [Instr.findKey, run_underlying hd, this]

theorem getObj_run {P : Program} {w : World} {r : Nat} {es : Array MapEntry} {clock : Nat} (h : w.heap[r]? = some (.map es clock)) : (getObj r).run P w = .ok (.map es clock) w := by
  simp [getObj, Sem.run, h]

theorem checkKey_run {κ : Type} [BEq κ] [LawfulBEq κ] {P : Program} {kt : TypeId} {enc : κ → Value} (hK : KeyT P kt enc) (e : Bool) (k : κ) (w : World) : (Instr.checkKey e 10000 kt (enc k)).run P w = .ok () w := by
  obtain ⟨d, hd, hs, hc⟩ := hK.under
  exact hc 9999 k w e

theorem zeroValue_run {P : Program} {t : TypeId} {i : TypeInfo} {z : Value} (hi : P.info? t = some i) (hz : i.zero = some z) (w : World) : (zeroValue t).run P w = .ok z w := by
  simp [zeroValue, typeInfo, hi, hz]

/-- a type of maps, with its keys' type, its elements', and their zero -/
structure MapT (P : Program) (t kt vt : TypeId) (z : Value) : Prop where
  under : P.underlying t = some (.map kt vt)
  zero : (P.info? vt).bind (·.zero) = some z

theorem MapT.zeroRun {P : Program} {t kt vt : TypeId} {z : Value} (h : MapT P t kt vt z) (w : World) : (zeroValue vt).run P w = .ok z w := by
  have hz := h.zero
  cases hi : P.info? vt with
  | none => rw [hi] at hz; cases hz
  | some i => rw [hi] at hz; exact zeroValue_run hi hz w

theorem lookup_run {κ : Type} [BEq κ] [LawfulBEq κ] {P : Program} {t kt vt : TypeId} {z : Value} {enc : κ → Value} (hT : MapT P t kt vt z) (hK : KeyT P kt enc) {w : World} {r : Nat} {l : List (κ × Value)} (h : MapAt w r enc l) (k : κ) (ok : Bool) :
    (Instr.lookup t (.map (some r)) (enc k) ok).run P w = .ok (if ok then .tuple #[(aget l k).getD z, .bool (aget l k).isSome] else (aget l k).getD z) w := by
  obtain ⟨es, clock, hb, hes, _⟩ := h.at'
  have hf := findKey_run hK k es.toList l hes w
  have ha := apos_aget l k 0
  simp only [Instr.lookup, Sem.run_bind, run_underlying hT.under, Result.andThen_ok, getObj_run hb, checkKey_run hK, hf, Sem.run_pure]
  cases hp : apos l k 0 with
  | none => rw [hp] at ha; simp only [Option.map_none] at ha; rw [← ha]; cases ok <;> simp [hT.zeroRun]
  | some p => rw [hp] at ha; simp only [Option.map_some] at ha; rw [← ha]; cases ok <;> simp

theorem mapLook {κ : Type} [BEq κ] [LawfulBEq κ] {P : Program} {t kt vt : TypeId} {z : Value} {enc : κ → Value} (hT : MapT P t kt vt z) (hK : KeyT P kt enc) {w : World} {r : Nat} {l : List (κ × Value)} (h : MapAt w r enc l) {k : κ} {c ε : Value → World → Prop}
    (hc : c ((aget l k).getD z) w) : PRun P (Instr.lookup t (.map (some r)) (enc k) false) w c ε := PRun.mk (lookup_run hT hK h k false) hc
theorem Keep.setObj (w : World) (r : Nat) (o : Obj) : Keep (· = r) w { w with heap := w.heap.setIfInBounds r o } :=
  ⟨rfl, rfl, rfl, by simp, fun k hk hn => by simp [Array.getElem?_setIfInBounds, Ne.symm hn]⟩

theorem apos_some {κ : Type} [BEq κ] [LawfulBEq κ] {l : List (κ × Value)} {k : κ} : ∀ {i j : Nat} {v : Value}, apos l k i = some (j, v) → i ≤ j ∧ j - i < l.length ∧ l[j - i]? = some (k, v) ∧ ∀ u, aput l k u = l.set (j - i) (k, u) ∧ adel l k = l.eraseIdx (j - i) := by
  induction l with
  | nil => intro i j v h; simp [apos] at h
  | cons p r ih =>
    intro i j v h
    obtain ⟨x, u⟩ := p
    unfold apos at h
    split at h
    · rename_i hk
      cases h
      have hx : k = x := by simpa using hk
      subst hx
      simp [aput, adel]
    · rename_i hk
      obtain ⟨h1, h2, h3, h4⟩ := ih h
      obtain ⟨d, rfl⟩ : ∃ d, j = i + 1 + d := ⟨j - (i + 1), by omega⟩
      have e : i + 1 + d - i = d + 1 := by omega
      have e2 : i + 1 + d - (i + 1) = d := by omega
      rw [e2] at h2 h3 h4
      rw [e]
      refine ⟨by omega, by simpa using h2, by simpa using h3, fun y => ?_⟩
      obtain ⟨h5, h6⟩ := h4 y
      unfold aput adel
      rw [if_neg hk, if_neg hk]
      simp [h5, h6]

theorem apos_none {κ : Type} [BEq κ] [LawfulBEq κ] {l : List (κ × Value)} {k : κ} : ∀ {i : Nat}, apos l k i = none → (∀ u, aput l k u = l ++ [(k, u)]) ∧ adel l k = l := by
  induction l with
  | nil => intro i _; simp [aput, adel]
  | cons p r ih =>
    intro i h
    obtain ⟨x, u⟩ := p
    unfold apos at h
    split at h
    · cases h
    · rename_i hk
      obtain ⟨h1, h2⟩ := ih h
      refine ⟨fun y => ?_, ?_⟩
      · unfold aput; rw [if_neg hk, h1]; rfl
      · unfold adel; rw [if_neg hk, h2]

theorem map_eraseIdx {α β : Type} (f : α → β) : ∀ (l : List α) (i : Nat), (l.eraseIdx i).map f = (l.map f).eraseIdx i
  | [], _ => by simp
  | x :: l, 0 => rfl
  | x :: l, i + 1 => by simp [map_eraseIdx f l i]

theorem setObj_get (w : World) (r : Nat) (o : Obj) (h : r < w.heap.size) : ({ w with heap := w.heap.setIfInBounds r o } : World).heap[r]? = some o := by simp [h]

theorem setObj_run {P : Program} {w : World} {r : Nat} {es : Array MapEntry} {clock : Nat} (h : w.heap[r]? = some (.map es clock)) (o : Obj) : (setObj r o).run P w = .ok () { w with heap := w.heap.setIfInBounds r o } := by
  simp [setObj, Sem.run, h]

theorem mapPut {κ : Type} [BEq κ] [LawfulBEq κ] {P : Program} {t kt vt : TypeId} {z : Value} {enc : κ → Value} (hT : MapT P t kt vt z) (hK : KeyT P kt enc) {w : World} {r : Nat} {l : List (κ × Value)} (h : MapAt w r enc l) {k : κ} {v : Value} {c : World → Prop} {ε : Value → World → Prop}
    (hc : ∀ w', MapAt w' r enc (aput l k v) → Keep (· = r) w w' → w'.heap.size = w.heap.size → c w') : PRunU P (Instr.mapUpdate t (.map (some r)) (enc k) v) w c ε := by
  obtain ⟨es, clock, hb, hes, hborn, hnd⟩ := h.at'
  have hf := findKey_run hK k es.toList l hes w
  have hlen : es.toList.length = l.length := by have := congrArg List.length hes; simpa using this
  have hr := lt_of_get hb
  cases hp : apos l k 0 with
  | none =>
    rw [hp] at hf
    refine PRunU.mk (w' := { w with heap := w.heap.setIfInBounds r (.map (es.push { key := enc k, val := v, born := clock }) (clock + 1)) }) ?_ (hc _ ⟨⟨_, _, setObj_get w r _ hr, ?_, ?_, ?_⟩, h.tidy.aput k v⟩ (Keep.setObj w r _) (by simp))
    · simp [Instr.mapUpdate, run_underlying hT.under, getObj_run hb, checkKey_run hK, hf, setObj_run hb]
    · rw [(apos_none hp).1 v]; simp [hes]
    · intro e he
      simp only [Array.toList_push, List.mem_append, List.mem_singleton] at he
      rcases he with he | rfl
      · have := hborn e he; omega
      · show clock < clock + 1; omega
    · simp only [Array.toList_push, List.map_append, List.map_cons, List.map_nil]
      rw [List.nodup_append]
      refine ⟨hnd, by simp, ?_⟩
      intro a ha b hb' hab
      simp only [List.mem_singleton] at hb'
      obtain ⟨e, he, rfl⟩ := List.mem_map.1 ha
      have := hborn e he
      omega
  | some p =>
    obtain ⟨i, u⟩ := p
    rw [hp] at hf
    obtain ⟨_, hi, hget, hput⟩ := apos_some hp
    rw [Nat.sub_zero] at hi hget hput
    have hie : i < es.size := by have : es.size = l.length := by simpa using hlen
                                 omega
    have hkey : es[i].key = enc k := by
      have := congrArg (·[i]?) hes
      simp only [List.getElem?_map, hget, Option.map_some] at this
      simp [hie] at this
      exact this.1
    refine PRunU.mk (w' := { w with heap := w.heap.setIfInBounds r (.map (es.modify i fun e => { e with key := enc k, val := v }) clock) }) ?_ (hc _ ⟨⟨_, _, setObj_get w r _ hr, ?_, ?_, ?_⟩, h.tidy.aput k v⟩ (Keep.setObj w r _) (by simp))
    · have hst : (Instr.keyThatStays (enc k) (enc k)).run P w = .ok (enc k) w := by simp [Instr.keyThatStays, hK.same]
      simp [Instr.mapUpdate, run_underlying hT.under, getObj_run hb, checkKey_run hK, hf, hie, hkey, hst, setObj_run hb]
    · rw [(hput v).1]
      apply List.ext_getElem?
      intro j
      have hj := congrArg (·[j]?) hes
      simp only [List.getElem?_map] at hj
      simp only [Array.toList_modify, List.getElem?_map, List.getElem?_set, List.getElem?_modify]
      by_cases hij : i = j
      · subst hij
        simp [hie, hi]
      · simp only [hij, if_false, Option.map_map] at hj ⊢
        simpa using hj
    · intro e he
      rw [Array.toList_modify] at he
      obtain ⟨j, hj⟩ := List.getElem?_of_mem he
      rw [List.getElem?_modify] at hj
      cases hej : es.toList[j]? with
      | none => rw [hej] at hj; simp at hj
      | some e' =>
        rw [hej] at hj
        have hm := List.mem_of_getElem? hej
        have := hborn e' hm
        by_cases hij : i = j
        · simp [hij] at hj; subst hj; exact this
        · simp [hij] at hj; subst hj; exact this
    · have : (es.modify i fun e => { e with key := enc k, val := v }).toList.map (·.born) = es.toList.map (·.born) := by
        apply List.ext_getElem?
        intro j
        simp only [Array.toList_modify, List.getElem?_map, List.getElem?_modify, Option.map_map]
        by_cases hij : i = j <;> simp [hij] <;> rfl
      rw [this]; exact hnd

theorem mapDel {κ : Type} [BEq κ] [LawfulBEq κ] {P : Program} {t kt vt t2 ty : TypeId} {z : Value} {enc : κ → Value} (hT : MapT P t kt vt z) (hK : KeyT P kt enc) {w : World} {r : Nat} {l : List (κ × Value)} (h : MapAt w r enc l) {k : κ} {c ε : Value → World → Prop}
    (hc : ∀ w', MapAt w' r enc (adel l k) → Keep (· = r) w w' → w'.heap.size = w.heap.size → c (.tuple #[]) w') : PRun P (Builtin.delete_ #[t, t2] ty #[.map (some r), enc k]) w c ε := by
  obtain ⟨es, clock, hb, hes, hborn, hnd⟩ := h.at'
  have hf := findKey_run hK k es.toList l hes w
  have hlen : es.toList.length = l.length := by have := congrArg List.length hes; simpa using this
  have hr := lt_of_get hb
  cases hp : apos l k 0 with
  | none =>
    rw [hp] at hf
    refine PRun.mk (w' := { w with heap := w.heap.setIfInBounds r (.map es clock) }) ?_ (hc _ ⟨⟨_, _, setObj_get w r _ hr, ?_, hborn, hnd⟩, h.tidy.adel k⟩ (Keep.setObj w r _) (by simp))
    · simp [Builtin.delete_, run_underlying hT.under, getObj_run hb, checkKey_run hK, hf, setObj_run hb]
    · rw [(apos_none hp).2]; exact hes
  | some p =>
    obtain ⟨i, u⟩ := p
    rw [hp] at hf
    obtain ⟨_, hi, hget, hput⟩ := apos_some hp
    rw [Nat.sub_zero] at hi hget hput
    have hie : i < es.size := by have : es.size = l.length := by simpa using hlen
                                 omega
    refine PRun.mk (w' := { w with heap := w.heap.setIfInBounds r (.map (es.eraseIdxIfInBounds i) clock) }) ?_ (hc _ ⟨⟨_, _, setObj_get w r _ hr, ?_, ?_, ?_⟩, h.tidy.adel k⟩ (Keep.setObj w r _) (by simp))
    · simp [Builtin.delete_, run_underlying hT.under, getObj_run hb, checkKey_run hK, hf, setObj_run hb]
    · rw [(hput u).2]
      have : (es.eraseIdxIfInBounds i).toList = es.toList.eraseIdx i := by simp [Array.eraseIdxIfInBounds, hie]
      rw [this, map_eraseIdx, hes, map_eraseIdx]
    · intro e he
      have : (es.eraseIdxIfInBounds i).toList = es.toList.eraseIdx i := by simp [Array.eraseIdxIfInBounds, hie]
      rw [this] at he
      exact hborn e (List.mem_of_mem_eraseIdx he)
    · have : (es.eraseIdxIfInBounds i).toList = es.toList.eraseIdx i := by simp [Array.eraseIdxIfInBounds, hie]
      rw [this, map_eraseIdx]
      exact hnd.sublist (List.eraseIdx_sublist _ _)

end Go.Lift
