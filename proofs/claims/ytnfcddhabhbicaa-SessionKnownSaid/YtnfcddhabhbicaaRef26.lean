/- the document's answer for sessions: a list of peers, rising -/
import Derived.Test.YtnfcddhabhbicaaRef04
namespace Go.Proofs.Ytnfcddhabhbicaa
open Go.Lift
set_option linter.unusedVariables false

structure PeerV where
  no : Int
  asked : Int
  opn : Bool
  vec : List Int

def pcells (P : PeerV × Value) : List Value := [.int .i64 P.1.no, .int .i64 P.1.asked, .bool P.1.opn, P.2]
theorem pcells_length (P : PeerV × Value) : (pcells P).length = 4 := rfl

theorem flat_get {α : Type} {f : α → List Value} {k : Nat} (hf : ∀ a, (f a).length = k) : ∀ (l : List α) (i j : Nat), j < k → (l.flatMap f)[i * k + j]? = (l[i]?).bind fun a => (f a)[j]?
  | [], i, j, hj => by simp
  | a :: l, 0, j, hj => by
    have := hf a
    rw [List.flatMap_cons, List.getElem?_append_left (by omega)]
    simp
  | a :: l, i + 1, j, hj => by
    have h := hf a
    have e : (i + 1) * k = i * k + k := by rw [Nat.add_mul, Nat.one_mul]
    rw [List.flatMap_cons, List.getElem?_append_right (by omega), h, show (i + 1) * k + j - k = i * k + j by omega, flat_get hf l i j hj]
    simp

theorem flat_set {α : Type} {f : α → List Value} {k : Nat} (hf : ∀ a, (f a).length = k) {v : Value} {a a' : α} {j : Nat} (hj : j < k) (hv : (f a).set j v = f a') : ∀ (l : List α) (i : Nat), l[i]? = some a → (l.flatMap f).set (i * k + j) v = (l.set i a').flatMap f
  | [], i, h => by simp at h
  | b :: l, 0, h => by
    simp only [List.getElem?_cons_zero, Option.some.injEq] at h
    subst h
    have := hf b
    rw [List.flatMap_cons, List.set_append_left _ _ (by omega), Nat.zero_mul, Nat.zero_add, hv]
    simp
  | b :: l, i + 1, h => by
    have hb := hf b
    have e : (i + 1) * k = i * k + k := by rw [Nat.add_mul, Nat.one_mul]
    rw [List.flatMap_cons, List.set_append_right _ _ (by omega), hb, show (i + 1) * k + j - k = i * k + j by omega, flat_set hf hj hv l i (by simpa using h)]
    simp

theorem flat_length {α : Type} {f : α → List Value} {k : Nat} (hf : ∀ a, (f a).length = k) (l : List α) : (l.flatMap f).length = l.length * k := by
  induction l with
  | nil => simp
  | cons a l ih => rw [List.flatMap_cons, List.length_append, hf, ih, List.length_cons, Nat.add_mul]; omega

def vecAt (w : World) (F : Nat → Prop) (x : Nat) (la : Option Addr) (P : PeerV × Value) : Prop :=
  ∃ va vn vc, P.2 = .slice va vn vc ∧ Ints w va vn P.1.vec ∧ ∀ b, blk va = some b → F b ∧ b ≠ x ∧ some b ≠ blk la

structure RefB (w : World) (x : Nat) (F : Nat → Prop) (r : Int) (la : Option Addr) (ln lc : Nat) (Ps : List (PeerV × Value)) : Prop where
  head : w.heap[x]? = some (.cells #[.slice la ln lc, .int .i64 r] 61 (0, 0))
  row : Own w 63 4 la ln lc (Ps.flatMap pcells)
  vecs : ∀ P ∈ Ps, vecAt w F x la P
  lab : ∀ b, blk la = some b → F b ∧ b ≠ x
  self : F x
  dom : ∀ b, F b → b < w.heap.size

theorem vecAt.keep {S F F' : Nat → Prop} {w w' : World} {x : Nat} {la la' : Option Addr} {P : PeerV × Value} (h : vecAt w F x la P) (hk : Keep S w w') (hS : ∀ b, F b → b ≠ x → some b ≠ blk la → ¬ S b) (hF : ∀ b, F b → F' b) (hl : ∀ b, F b → some b ≠ blk la → some b ≠ blk la') : vecAt w' F' x la' P := by
  obtain ⟨va, vn, vc, h1, h2, h3⟩ := h
  refine ⟨va, vn, vc, h1, h2.keep hk (notIn_blk.2 fun b hb => ?_), fun b hb => ?_⟩
  · obtain ⟨a1, a2, a3⟩ := h3 b hb
    exact hS b a1 a2 a3
  · obtain ⟨a1, a2, a3⟩ := h3 b hb
    exact ⟨hF b a1, a2, hl b a1 a3⟩

section
variable {w : World} {x : Nat} {F : Nat → Prop} {r : Int} {la : Option Addr} {ln lc : Nat} {Ps : List (PeerV × Value)}

theorem RefB.len (h : RefB w x F r la ln lc Ps) : ln = Ps.length := by
  have := h.row.length
  rw [flat_length pcells_length] at this
  omega

theorem RefB.keep {S : Nat → Prop} {w' : World} (h : RefB w x F r la ln lc Ps) (hk : Keep S w w') (hS : ∀ b, F b → ¬ S b) : RefB w' x F r la ln lc Ps :=
  ⟨hk.get h.head (hS _ h.self), h.row.keep hk (notIn_blk.2 fun b hb => hS b (h.lab b hb).1), fun P hP => (h.vecs P hP).keep hk (fun b hb _ _ => hS b hb) (fun _ h => h) (fun _ _ h => h), h.lab, h.self, fun b hb => Nat.lt_of_lt_of_le (h.dom b hb) hk.size⟩
theorem RefB.grew {w' : World} (h : RefB w x F r la ln lc Ps) (hk : Grew w w') : RefB w' x F r la ln lc Ps := h.keep hk fun _ _ h => h

theorem RefB.addr (h : RefB w x F r la ln lc Ps) {i : Nat} (hi : i < Ps.length) : ∃ g, la = some ⟨g, 0, none⟩ := h.row.some_of (by rw [flat_length pcells_length]; omega)

/-- a field of a peer, read -/
theorem RefB.cell {g : Nat} (h : RefB w x F r (some ⟨g, 0, none⟩) ln lc Ps) {i j : Nat} {P : PeerV × Value} {u : Value} (hi : Ps[i]? = some P) (hj : (pcells P)[j]? = some u) : w.cell? ⟨g, 0 + Int.toNat (i : Int) * 4 + j, none⟩ = some u := by
  have hj4 : j < 4 := by obtain ⟨h, _⟩ := List.getElem?_eq_some_iff.1 hj; exact h
  obtain ⟨g', hg', _, hc⟩ := h.row.cell (j := i * 4 + j) (u := u) (by rw [flat_get pcells_length _ _ _ hj4, hi]; exact hj)
  cases hg'
  rw [Int.toNat_natCast, show 0 + i * 4 + j = i * 4 + j by omega]
  exact hc

theorem RefB.no {g : Nat} (h : RefB w x F r (some ⟨g, 0, none⟩) ln lc Ps) {i : Nat} {P : PeerV × Value} (hi : Ps[i]? = some P) : w.cell? ⟨g, 0 + Int.toNat (i : Int) * 4, none⟩ = some (.int .i64 P.1.no) := h.cell (j := 0) hi rfl

/-- a field of a peer, written -/
theorem RefB.put {g : Nat} (h : RefB w x F r (some ⟨g, 0, none⟩) ln lc Ps) {i j : Nat} {P P' : PeerV × Value} {v : Value} {κ : World → Prop} (hi : Ps[i]? = some P) (hj : j < 4) (hv : (pcells P).set j v = pcells P') (hP : vecAt w F x (some ⟨g, 0, none⟩) P')
    (hk : ∀ w1, Keep (· = g) w w1 → RefB w1 x F r (some ⟨g, 0, none⟩) ln lc (Ps.set i P') → κ w1) : PS w ⟨g, 0 + Int.toNat (i : Int) * 4 + j, none⟩ v κ := by
  have hil : i < Ps.length := (List.getElem?_eq_some_iff.1 hi).1
  obtain ⟨hgF, hgx⟩ := h.lab g rfl
  rw [Int.toNat_natCast]
  refine Own.ps h.row (by rw [flat_length pcells_length]; omega) fun w1 k1 s1 o1 => hk w1 k1 ⟨k1.get h.head (fun hh => hgx hh.symm), ?_, fun Q hQ => ?_, h.lab, h.self, fun b hb => by rw [s1]; exact h.dom b hb⟩
  · rw [show 0 + i * 4 + j = i * 4 + j by omega, flat_set pcells_length hj hv _ _ hi] at o1
    exact o1
  · have hS : ∀ b, F b → b ≠ x → some b ≠ blk (some ⟨g, 0, none⟩) → ¬ (b = g) := fun b _ _ hb e => hb (by subst e; rfl)
    rcases List.mem_or_eq_of_mem_set hQ with hQ | rfl
    · exact (h.vecs Q hQ).keep k1 hS (fun _ h => h) (fun _ _ h => h)
    · exact hP.keep k1 hS (fun _ h => h) (fun _ _ h => h)

theorem vecAt.move {g : Nat} {w1 : World} {P : PeerV × Value} (h : vecAt w F x (some ⟨g, 0, none⟩) P) (hk : Keep (· = g) w w1) : vecAt w1 F x (some ⟨g, 0, none⟩) P :=
  h.keep hk (fun b _ _ hb e => hb (by subst e; rfl)) (fun _ h => h) (fun _ _ h => h)

theorem get_set_self {α : Type} {l : List α} {i : Nat} {a b : α} (h : l[i]? = some a) : (l.set i b)[i]? = some b := by
  obtain ⟨hl, _⟩ := List.getElem?_eq_some_iff.1 h
  simp [hl]

/-- a peer, written whole -/
theorem RefB.put4 {g : Nat} (h : RefB w x F r (some ⟨g, 0, none⟩) ln lc Ps) {i : Nat} {P Q : PeerV × Value} {κ : World → Prop} (hi : Ps[i]? = some P) (hQ : vecAt w F x (some ⟨g, 0, none⟩) Q)
    (hk : ∀ w1, Keep (· = g) w w1 → RefB w1 x F r (some ⟨g, 0, none⟩) ln lc (Ps.set i Q) → κ w1) :
    PS w ⟨g, 0 + Int.toNat (i : Int) * 4, none⟩ (.int .i64 Q.1.no) fun w1 => PS w1 ⟨g, 0 + Int.toNat (i : Int) * 4 + 1, none⟩ (.int .i64 Q.1.asked) fun w2 =>
      PS w2 ⟨g, 0 + Int.toNat (i : Int) * 4 + 2, none⟩ (.bool Q.1.opn) fun w3 => PS w3 ⟨g, 0 + Int.toNat (i : Int) * 4 + 3, none⟩ Q.2 κ := by
  have e : ∀ {l : List (PeerV × Value)} {A B : PeerV × Value}, l[i]? = some A → B ∈ l.set i B := fun h => List.mem_of_getElem? (get_set_self h)
  have hP := h.vecs P (List.mem_of_getElem? hi)
  refine h.put (j := 0) (P' := (⟨Q.1.no, P.1.asked, P.1.opn, P.1.vec⟩, P.2)) hi (by decide) rfl hP fun w1 k1 h1 => ?_
  have i1 := get_set_self (b := ((⟨Q.1.no, P.1.asked, P.1.opn, P.1.vec⟩, P.2) : PeerV × Value)) hi
  refine h1.put (j := 1) (P' := (⟨Q.1.no, Q.1.asked, P.1.opn, P.1.vec⟩, P.2)) i1 (by decide) rfl (h1.vecs (⟨Q.1.no, P.1.asked, P.1.opn, P.1.vec⟩, P.2) (e hi)) fun w2 k2 h2 => ?_
  rw [List.set_set] at h2
  have i2 := get_set_self (b := ((⟨Q.1.no, Q.1.asked, P.1.opn, P.1.vec⟩, P.2) : PeerV × Value)) hi
  refine h2.put (j := 2) (P' := (⟨Q.1.no, Q.1.asked, Q.1.opn, P.1.vec⟩, P.2)) i2 (by decide) rfl (h2.vecs (⟨Q.1.no, Q.1.asked, P.1.opn, P.1.vec⟩, P.2) (e hi)) fun w3 k3 h3 => ?_
  rw [List.set_set] at h3
  have i3 := get_set_self (b := ((⟨Q.1.no, Q.1.asked, Q.1.opn, P.1.vec⟩, P.2) : PeerV × Value)) hi
  refine h3.put (j := 3) (P' := Q) i3 (by decide) rfl (((hQ.move k1).move k2).move k3) fun w4 k4 h4 => ?_
  rw [List.set_set] at h4
  exact hk w4 (((k1.chain k2).chain k3).chain k4) h4
end

def posL (L : List PeerV) (peer : Int) : Nat := (L.takeWhile fun p => decide (p.no < peer)).length
def newP (peer : Int) : PeerV := ⟨peer, 0, false, []⟩
def insL (L : List PeerV) (peer : Int) : List PeerV := L.take (posL L peer) ++ newP peer :: L.drop (posL L peer)
def atL (L : List PeerV) (peer : Int) : List PeerV := match L[posL L peer]? with
  | some p => if p.no = peer then L else insL L peer
  | none => insL L peer

theorem slPeer : SlT Try.prog 59 63 4 48 := ⟨by kernel_rfl, by kernel_rfl, by decide⟩

theorem posL_of {L : List PeerV} {peer : Int} {i : Nat} (h1 : ∀ j p, j < i → L[j]? = some p → p.no < peer) (h2 : ∀ p, L[i]? = some p → ¬ p.no < peer) (hi : i ≤ L.length) : posL L peer = i := by
  unfold posL
  induction L generalizing i with
  | nil => simp at hi ⊢; omega
  | cons a L ih =>
    cases i with
    | zero =>
      have := h2 a rfl
      rw [List.takeWhile_cons_of_neg (by simpa using this)]
      rfl
    | succ i =>
      have := h1 0 a (by omega) rfl
      rw [List.takeWhile_cons_of_pos (by simpa using this), List.length_cons, ih (i := i) (fun j p hj hp => h1 (j + 1) p (by omega) (by simpa using hp)) (fun p hp => h2 p (by simpa using hp)) (by simpa using hi)]

theorem ref_at {w : World} {x : Nat} {F : Nat → Prop} {r peer : Int} {la : Option Addr} {ln lc : Nat} {Ps : List (PeerV × Value)} (h : RefB w x F r la ln lc Ps) (hl : Ps.length ≤ 1000) (hp : I64 peer) :
    Calls Try.prog F_ref26_Table_at #[.pointer (some ⟨x, 0, none⟩), .int .i64 peer] w
      (Ok fun v w' => ∃ F' la' ln' lc' Ps', v = .int .i64 (posL (Ps.map (·.1)) peer) ∧ RefB w' x F' r la' ln' lc' Ps' ∧ Ps'.map (·.1) = atL (Ps.map (·.1)) peer ∧ Evo F w F' w') := by
  have hn := h.len
  have hL : ∀ (i : Nat) (P : PeerV × Value), Ps[i]? = some P → (Ps.map (·.1))[i]? = some P.1 := fun i P hP => by rw [List.getElem?_map, hP]; rfl
  have hread := cell_at (w := w) (off := 0) (v := .slice la ln lc) h.head rfl
  refine L_ref26_Table_at ⟨fun i w' => ∃ i' : Nat, i = (i' : Int) ∧ i' ≤ Ps.length ∧ w' = w ∧ posL (Ps.map (·.1)) peer = i',
    ⟨fun k i w' => ∃ i' : Nat, i = (i' : Int) ∧ i' ≤ Ps.length ∧ k = Ps.length - i' ∧ w' = w ∧ ∀ j p, j < i' → (Ps.map (·.1))[j]? = some p → p.no < peer, ⟨_, 0, rfl, by omega, rfl, rfl, fun j p hj => by omega⟩, ?_⟩, ?_⟩
  · rintro k i B _ ⟨i', rfl, hi', rfl, rfl, hall⟩
    refine ⟨x, 0, rfl, la, ln, lc, hread, PIf.mk (fun h1 => ?_) fun h1 => ?_⟩
    · have h1 := of_decide_eq_true h1
      have hlt : i' < Ps.length := by omega
      obtain ⟨P, hP⟩ : ∃ P, Ps[i']? = some P := ⟨_, List.getElem?_eq_getElem hlt⟩
      obtain ⟨g, rfl⟩ := h.addr hlt
      refine ⟨x, 0, rfl, _, ln, lc, hread, g, 0, rfl, by omega, h1, P.1.no, h.no hP, PIf.mk (fun h2 => ?_) fun h2 => ?_⟩
      · have h2 := of_decide_eq_true h2
        refine ⟨Ps.length - (i' + 1), by omega, i' + 1, by rw [wrap_i64 (by unfold I64; omega)]; simp, by omega, rfl, rfl, fun j p hj hp => ?_⟩
        by_cases hji : j = i'
        · subst hji; rw [hL _ _ hP] at hp; cases hp; exact h2
        · exact hall j p (by omega) hp
      · have h2 := of_decide_eq_false h2
        refine ⟨i', rfl, hi', rfl, posL_of hall (fun p hp => ?_) (by simpa using hi')⟩
        rw [hL _ _ hP] at hp; cases hp; exact h2
    · have h1 := of_decide_eq_false h1
      refine ⟨i', rfl, hi', rfl, posL_of hall (fun p hp => ?_) (by simpa using hi')⟩
      obtain ⟨hlt, _⟩ := List.getElem?_eq_some_iff.1 hp
      simp only [List.length_map] at hlt
      omega
  rintro i B w1 ⟨i', rfl, hi', h1w, hpos⟩
  obtain rfl := h1w.symm
  refine ⟨fun w' => w' = w ∧ atL (Ps.map (·.1)) peer = insL (Ps.map (·.1)) peer, ?_, ?_⟩
  · refine ⟨x, 0, rfl, la, ln, lc, hread, PIf.mk (fun h1 => ?_) fun h1 => ⟨rfl, ?_⟩⟩
    · have h1 := of_decide_eq_true h1
      have hlt : i' < Ps.length := by omega
      obtain ⟨P, hP⟩ : ∃ P, Ps[i']? = some P := ⟨_, List.getElem?_eq_getElem hlt⟩
      obtain ⟨g, rfl⟩ := h.addr hlt
      refine ⟨x, 0, rfl, _, ln, lc, hread, g, 0, rfl, by omega, h1, P.1.no, h.no hP, PIf.mk (fun h2 => ?_) fun h2 => ⟨rfl, ?_⟩⟩
      · have h2 : P.1.no = peer := by simpa using h2
        refine Ok.mk ⟨F, _, ln, lc, Ps, by rw [hpos], h, ?_, Evo.refl F w⟩
        unfold atL; rw [hpos, hL _ _ hP]; simp [h2]
      · have h2 : P.1.no ≠ peer := by simpa using h2
        unfold atL; rw [hpos, hL _ _ hP]; simp [h2]
    · have h1 := of_decide_eq_false h1
      unfold atL
      rw [hpos, List.getElem?_eq_none (by simp; omega)]
  rintro B w2 ⟨h2w, hins⟩
  obtain rfl := h2w.symm
  refine ⟨x, 0, rfl, la, ln, lc, hread, PA.mk fun w4 k4 s4 g4 => app_own slPeer (h.row.grew k4) g4 (m := 1) (news := pcells (⟨0, 0, false, []⟩, .slice none 0 0)) rfl rfl (by intro u hu; simp [pcells] at hu; rcases hu with rfl | rfl | rfl <;> rfl) (by unfold Big; omega) (by unfold maxLen; omega) fun a' c' w5 ho5 hk5 hl5 => ?_⟩
  have h4 := h.grew k4
  have hxla : ¬ (some x = blk la) := fun e => (h.lab x e.symm).2 rfl
  have g5 := hk5.get h4.head hxla
  refine ⟨_, _, _, rfl, x, 0, rfl, PS.mk g5 (by simp) fun w6 k6 s6 g6 => ?_⟩
  have hxlt : x < w.heap.size := h.dom x h.self
  have hxa : ∀ b, blk a' = some b → b ≠ x := fun b hb e => by
    subst e
    rcases hl5 with e | e
    · exact hxla (by rw [← e]; exact hb.symm)
    · rw [e] at hb; cases hb; have := k4.size; omega
  have hF' : ∀ b, F b → some b ≠ blk la → some b ≠ blk a' := fun b hb h1 h2 => by
    rcases hl5 with e | e
    · exact h1 (by rw [h2, e])
    · rw [e] at h2; cases h2; have := h.dom _ hb; have := k4.size; omega
  have hv6 : ∀ P ∈ Ps, vecAt w6 (fun b => F b ∨ some b = blk a') x a' P := fun P hP =>
    (((h.vecs P hP).keep k4 (fun _ _ _ _ h => h) (fun _ h => h) (fun _ _ h => h)).keep hk5 (fun b _ _ hb e => hb e) (fun _ h => h) (fun _ _ h => h)).keep k6 (fun b _ hb _ e => hb e) (fun _ h => .inl h) hF'
  have hR6 : RefB w6 x (fun b => F b ∨ some b = blk a') r a' (ln + 1) c' (Ps ++ [(⟨0, 0, false, []⟩, .slice none 0 0)]) := by
    refine ⟨g6, ?_, fun P hP => ?_, fun b hb => ⟨.inr hb.symm, hxa b hb⟩, .inl h.self, fun b hb => ?_⟩
    · rw [List.flatMap_append]
      exact ho5.keep k6 (notIn_blk.2 fun b hb e => hxa b hb e)
    · rcases List.mem_append.1 hP with hP | hP
      · exact hv6 P hP
      · simp only [List.mem_singleton] at hP
        subst hP
        exact ⟨none, 0, 0, rfl, Ints.nil w6, by simp [blk]⟩
    · rw [s6]
      rcases hb with hb | hb
      · have := h.dom b hb; have := k4.size; have := hk5.size; omega
      · exact ho5.lt hb.symm
  have hE6 : Evo F w (fun b => F b ∨ some b = blk a') w6 := by
    refine ⟨?_, fun b hb => ?_⟩
    · have k5' : Keep F w4 w5 := hk5.mono fun b _ hb => (h.lab b hb.symm).1
      have k6' : Keep F w5 w6 := k6.mono fun b _ hb => by subst hb; exact h.self
      exact ((k4.mono (fun _ _ h => h.elim)).chain k5').chain k6'
    · rcases hb with hb | hb
      · exact .inl hb
      · rcases hl5 with e | e
        · rw [e] at hb; exact .inl (h.lab b hb.symm).1
        · rw [e] at hb; cases hb; exact .inr k4.size
  obtain ⟨g, rfl⟩ := hR6.addr (i := 0) (by simp)
  have hw0 : IntKind.wrap .i64 (((ln + 1 : Nat) : Int) - 1) = (ln : Int) := by rw [wrap_i64 (by unfold I64; omega)]; omega
  refine ⟨x, 0, rfl, _, _, _, cell_at hR6.head rfl, fun m k w' => ∃ (k' : Nat) (Y : PeerV × Value), k = (k' : Int) ∧ i' ≤ k' ∧ k' ≤ Ps.length ∧ m = k' ∧ RefB w' x (fun b => F b ∨ some b = blk (some ⟨g, 0, none⟩)) r (some ⟨g, 0, none⟩) (ln + 1) c' (Ps.take k' ++ Y :: Ps.drop k') ∧ Keep (fun b => F b ∨ some b = blk (some ⟨g, 0, none⟩)) w6 w',
    ⟨_, ln, (⟨0, 0, false, []⟩, .slice none 0 0), hw0, by omega, by omega, rfl, by rw [List.take_of_length_le (by omega), List.drop_of_length_le (by omega)]; exact hR6, Keep.refl _⟩, ?_⟩
  have hmono : ∀ {a b : World}, Keep (· = g) a b → Keep (fun b => F b ∨ some b = blk (some (⟨g, 0, none⟩ : Addr))) a b := fun hk => hk.mono fun b _ hb => .inr (by subst hb; rfl)
  rintro m k B w7 ⟨k', Y, rfl, hik, hkn, rfl, hR7, hK7⟩
  have hlen7 : (Ps.take m ++ Y :: Ps.drop m)[m]? = some Y := by
    rw [List.getElem?_append_right (by rw [List.length_take]; omega), List.length_take, Nat.min_eq_left hkn]; simp
  have hset7 : ∀ Q, (Ps.take m ++ Y :: Ps.drop m).set m Q = Ps.take m ++ Q :: Ps.drop m := fun Q => by
    rw [List.set_append_right _ _ (by rw [List.length_take]; omega), List.length_take, Nat.min_eq_left hkn]; simp
  refine PIf.mk (fun h1 => ?_) fun h1 => ?_
  · have h1 := of_decide_eq_true h1
    rintro w8 hd8
    have hR8 := hR7.grew hd8.keep
    have hw1 : IntKind.wrap .i64 ((m : Int) - 1) = ((m - 1 : Nat) : Int) := by rw [wrap_i64 (by unfold I64; omega)]; omega
    rw [hw1]
    obtain ⟨P, hP⟩ : ∃ P, Ps[m - 1]? = some P := ⟨_, List.getElem?_eq_getElem (by omega)⟩
    have hP8 : (Ps.take m ++ Y :: Ps.drop m)[m - 1]? = some P := by
      rw [List.getElem?_append_left (by simp; omega), List.getElem?_take, if_pos (by omega)]; exact hP
    have hread8 := cell_at (w := w8) (off := 0) (v := .slice (some ⟨g, 0, none⟩) (ln + 1) c') hR8.head rfl
    obtain ⟨va, vn, vc, e2, hPv⟩ : ∃ va vn vc, P.2 = .slice va vn vc ∧ vecAt w8 (fun b => F b ∨ some b = blk (some ⟨g, 0, none⟩)) x (some ⟨g, 0, none⟩) P := by
      have hv := hR8.vecs P (List.mem_of_getElem? hP8)
      have hv' := hv
      obtain ⟨va, vn, vc, e, _⟩ := hv'
      exact ⟨va, vn, vc, e, hv⟩
    have c3 := hR8.cell (j := 3) hP8 rfl
    rw [e2] at c3
    refine ⟨x, 0, rfl, _, _, _, hread8, x, 0, rfl, _, _, _, hread8, g, 0, rfl, by omega, by omega, P.1.no, P.1.asked, P.1.opn, va, vn, vc, hR8.no hP8, hR8.cell hP8 rfl, hR8.cell hP8 rfl, c3, g, 0, rfl, by omega, by omega, ?_⟩
    have fin := hR8.put4 (Q := P) (κ := fun w72 => ∃ m49, m49 < m ∧ ∃ (k' : Nat) (Y : PeerV × Value), ((m - 1 : Nat) : Int) = (k' : Int) ∧ i' ≤ k' ∧ k' ≤ Ps.length ∧ m49 = k' ∧ RefB w72 x (fun b => F b ∨ some b = blk (some ⟨g, 0, none⟩)) r (some ⟨g, 0, none⟩) (ln + 1) c' (Ps.take k' ++ Y :: Ps.drop k') ∧ Keep (fun b => F b ∨ some b = blk (some ⟨g, 0, none⟩)) w6 w72) hlen7 hPv fun w9 k9 h9 => by
      refine ⟨m - 1, by omega, m - 1, P, rfl, by omega, by omega, rfl, ?_, (hK7.chain (hd8.keep.mono fun _ _ (h : False) => h.elim)).chain (hmono k9)⟩
      rw [hset7] at h9
      have e1 : Ps.take m = Ps.take (m - 1) ++ [P] := by
        have := List.take_add_one (l := Ps) (i := m - 1)
        rw [hP, show m - 1 + 1 = m by omega] at this
        exact this
      have e3 : Ps.drop (m - 1) = P :: Ps.drop m := by
        obtain ⟨hlt, e⟩ := List.getElem?_eq_some_iff.1 hP
        rw [List.drop_eq_getElem_cons hlt, e, show m - 1 + 1 = m by omega]
      rw [e1] at h9
      rw [e3]
      simpa using h9
    rw [e2] at fin
    exact fin
  · have h1 := of_decide_eq_false h1
    have hmi : m = i' := by omega
    subst hmi
    have hread7 := cell_at (w := w7) (off := 0) (v := .slice (some ⟨g, 0, none⟩) (ln + 1) c') hR7.head rfl
    refine ⟨x, 0, rfl, _, _, _, hread7, g, 0, rfl, by omega, by omega, ?_⟩
    refine hR7.put4 (Q := (newP peer, .slice none 0 0)) hlen7 ⟨none, 0, 0, rfl, Ints.nil w7, by simp [blk]⟩ fun w8 k8 h8 => ?_
    rw [hset7] at h8
    refine Ok.mk ⟨_, _, _, _, _, by rw [hpos], h8, ?_, ?_⟩
    · rw [hins]
      unfold insL
      rw [hpos]
      simp [List.map_take, List.map_drop]
    · exact ⟨(hE6.keep.trans (hK7.chain (hmono k8)) (fun _ _ h => h) fun b hb h' => (hE6.new b h').resolve_right (by omega)), hE6.new⟩
end Go.Proofs.Ytnfcddhabhbicaa
