/- what came in, opened: slices of numbers, of slices, of structs; and what a row asks of a call that answers true -/
import Derived.Test.YtnfcddhabhbicaaBase
import Derived.Carry
import Derived.SizedLaws
import Derived.WalkKit
import Derived.ProofKit
import Derived.OpenShut
import Derived.Deep.DeepHandedRow
import Derived.Deep.Slices
namespace Go.Lift
open Go.ChangeShapes Go.WideShapes Go.ChangeAt Go.RowKit
set_option linter.unusedVariables false

def Light {H : Type} (P : Program) (t : TypeId) (d : DataW H) : Prop := ∀ y ∈ d.weights P t, y ≤ reachBytes

section
variable {H : Type} {enc : TypeId × Value → H} {P : Program} {w : World} {base : Nat} {held : Bool}

theorem light_of {ts : List TypeId} {ds : List (DataW H)} (h : (DataW.weightsEach P ts ds).all (· ≤ reachBytes) = true) {j : Nat} {t : TypeId} {d : DataW H} (ht : ts[j]? = some t) (hd : ds[j]? = some d) : Light P t d :=
  fun y hy => by simpa using List.all_eq_true.1 h _ (DataW.weights_mem_each ht hd y hy)

theorem weightsAll_mem {e : TypeId} : ∀ {l : List (DataW H)} {d : DataW H}, d ∈ l → ∀ n ∈ d.weights P e, n ∈ DataW.weightsAll P e l
  | x :: l, d, h, n, hn => by
    simp only [DataW.weightsAll, List.mem_append]
    rcases List.mem_cons.1 h with rfl | h
    · exact Or.inl hn
    · exact Or.inr (weightsAll_mem h n hn)

/-- one element of what came in -/
def Elem (enc : TypeId × Value → H) (P : Program) (w : World) (held : Bool) (e : TypeId) (k : Nat) (a : Option Addr) (i : Nat) : Prop :=
  ∃ b o cs n x, a = some ⟨b, o, none⟩ ∧ b < w.heap.size ∧ cs.length = k ∧ (∀ j, j < k → w.cell? ⟨b, o + i * k + j, none⟩ = cs[j]?) ∧
    DataW.trod enc P w 0 (fun _ => true) held n e cs = some x ∧ Light P e x.1

theorem lt_of_cell {b o : Nat} {s : Option _} {v : Value} (h : w.cell? ⟨b, o, s⟩ = some v) : b < w.heap.size := by
  unfold World.cell? at h
  by_cases hb : b < w.heap.size
  · exact hb
  · rw [show w.heap[b]? = none by simp; omega] at h; cases h

theorem open_elems {t e : TypeId} {k fuel : Nat} {cs : List Value} {x : DataW H × List MemPlace} (ht : P.underlying t = some (.slice e)) (hk : P.cellsOf e = k) (h0 : 0 < k)
    (h : DataW.trod enc P w 0 (fun _ => true) held fuel t cs = some x) (hw : Light P t x.1) :
    ∃ a n c, cs = [.slice a n c] ∧ n * P.bytesOf e ≤ reachBytes ∧ ∀ i, i < n → Elem enc P w held e k a i := by
  rcases DataW.trod_slice ht h with ⟨rfl, rfl⟩ | ⟨a, len, cap, elems, rest, n, _, rfl, rfl, hb, hl, hm, hlen, hel, hsp, hns⟩
  · exact ⟨none, 0, 0, rfl, by simp, fun i hi => by omega⟩
  · have hw' : ∀ y ∈ (elems.length + rest.length) * P.bytesOf e :: (DataW.weightsAll P e (elems.map (·.1)) ++ DataW.weightsAll P e (rest.map (·.1))), y ≤ reachBytes := by
      have := hw
      simpa only [Light, DataW.weights, ht, List.length_map] using this
    refine ⟨some a, len, cap, rfl, ?_, fun i hi => ?_⟩
    · have h1 := hw' _ (List.mem_cons_self ..)
      have h2 : len * P.bytesOf e ≤ (elems.length + rest.length) * P.bytesOf e := Nat.mul_le_mul_right _ (by omega)
      omega
    · have read : ∀ i, i < len → ∃ cs' y, elems[i]? = some y ∧ cs'.length = k ∧ (∀ j, j < k → w.cell? (a.add (i * k + j)) = cs'[j]?) ∧ DataW.trod enc P w 0 (fun _ => true) held n e cs' = some y := by
        intro i hi
        have he := hel i hi
        rw [hk, List.getElem?_eq_getElem (by omega : i < elems.length)] at he
        obtain ⟨cs', h1, h2⟩ := Option.bind_eq_some_iff.1 he
        obtain ⟨_, h3, h4⟩ := World.cells?_some h1
        exact ⟨cs', _, List.getElem?_eq_getElem (by omega), h3, fun j hj => by rw [← Addr.add_add]; exact h4 j hj, h2⟩
      have hspot : a.spot = none := by
        obtain ⟨cs', y, _, h3, h4, _⟩ := read 0 (by omega)
        have := h4 0 h0
        rw [Nat.zero_mul, Nat.add_zero, List.getElem?_eq_getElem (by omega)] at this
        have e : a.add 0 = a := by simp [Addr.add]
        rw [e] at this
        unfold World.cell? at this
        split at this
        · cases hs : a.spot with
          | none => rfl
          | some s => rw [hs] at this; simp at this
        · cases this
      have hadd : ∀ m, a.add m = ⟨a.block, a.off + m, none⟩ := by
        intro m
        obtain ⟨b, o, s⟩ := a
        simp only at hspot
        subst hspot
        unfold Addr.add
        split
        · next h => subst h; rfl
        · rfl
      obtain ⟨cs', y, h2, h3, h4, h5⟩ := read i hi
      refine ⟨a.block, a.off, cs', n, y, ?_, ?_, h3, fun j hj => ?_, h5, fun z hz => ?_⟩
      · obtain ⟨b, o, s⟩ := a
        simp only at hspot
        rw [hspot]
      · have := h4 0 h0
        rw [hadd, List.getElem?_eq_getElem (by omega)] at this
        exact lt_of_cell this
      · have := h4 j hj
        rw [hadd] at this
        rw [← this, Nat.add_assoc]
      · refine hw' z (List.mem_cons_of_mem _ (List.mem_append_left _ (weightsAll_mem (d := y.1) ?_ z hz)))
        exact List.mem_map.2 ⟨y, List.mem_of_getElem? h2, rfl⟩

theorem i64_of_wf {n : Int} (h : (Lit.int .i64 n).wf = true) : I64 n := by
  have : IntKind.i64.min ≤ n ∧ n ≤ IntKind.i64.max := by simpa [Lit.wf] using h
  exact this

/-- a slice of numbers that came in -/
theorem open_ints_in {t e : TypeId} {fuel : Nat} {cs : List Value} {x : DataW H × List MemPlace} (ht : P.underlying t = some (.slice e)) (he : P.underlying e = some (.int .i64)) (hk : P.cellsOf e = 1) (hy : P.bytesOf e = 8)
    (h : DataW.trod enc P w 0 (fun _ => true) held fuel t cs = some x) (hw : Light P t x.1) : ∃ a n c xs, cs = [.slice a n c] ∧ Ints w a n xs := by
  obtain ⟨a, n, c, rfl, hb, hel⟩ := open_elems ht hk (by decide) h hw
  have one : ∀ i, i < n → ∃ z, I64 z ∧ ∃ b o, a = some ⟨b, o, none⟩ ∧ b < w.heap.size ∧ w.cell? ⟨b, o + i, none⟩ = some (.int .i64 z) := by
    intro i hi
    obtain ⟨b, o, cs, m, y, ha, hlt, hl, hc, hr, -⟩ := hel i hi
    obtain ⟨z, rfl, -, hz⟩ := DataW.trod_int he hr
    have := hc 0 (by decide)
    exact ⟨z, i64_of_wf hz, b, o, ha, hlt, by simpa using this⟩
  obtain ⟨f, hf⟩ := Go.Deep.choose_lt one
  refine ⟨a, n, c, (List.range n).map f, rfl, by simp, ?_, ?_, ?_⟩
  · rw [hy] at hb; unfold reachBytes at hb; unfold Big; omega
  · intro z hz
    obtain ⟨i, hi, rfl⟩ := List.mem_map.1 hz
    exact (hf i (List.mem_range.1 hi)).1
  · intro i z hz
    by_cases hi : i < n
    · rw [List.getElem?_map, List.getElem?_range hi] at hz
      cases hz
      exact (hf i hi).2
    · rw [List.getElem?_eq_none (by simp; omega)] at hz; cases hz
end

/-- rows of numbers that came in -/
structure Rows2 (w : World) (a : Option Addr) (n : Nat) (xss : List (List Int)) : Prop where
  len : n = xss.length
  big : n * 24 ≤ Big
  row : ∀ (i : Nat) xs, xss[i]? = some xs → ∃ b o a' n' c', a = some ⟨b, o, none⟩ ∧ b < w.heap.size ∧ w.cell? ⟨b, o + i, none⟩ = some (.slice a' n' c') ∧ Ints w a' n' xs

theorem cell_grew {w w' : World} (hk : Grew w w') {b o : Nat} (hb : b < w.heap.size) : w'.cell? ⟨b, o, none⟩ = w.cell? ⟨b, o, none⟩ := by
  unfold World.cell?
  rw [hk.block b hb id]

theorem Rows2.grew {w w' : World} {a : Option Addr} {n : Nat} {xss : List (List Int)} (h : Rows2 w a n xss) (hk : Grew w w') : Rows2 w' a n xss :=
  ⟨h.len, h.big, fun i xs hi => by
    obtain ⟨b, o, a', n', c', h1, h2, h3, h4⟩ := h.row i xs hi
    exact ⟨b, o, a', n', c', h1, Nat.lt_of_lt_of_le h2 hk.size, by rw [cell_grew hk h2]; exact h3, h4.grew hk⟩⟩

section
variable {H : Type} {enc : TypeId × Value → H} {P : Program} {w : World} {base : Nat} {held : Bool}
theorem open_rows_in {t q e : TypeId} {fuel : Nat} {cs : List Value} {x : DataW H × List MemPlace} (ht : P.underlying t = some (.slice q)) (hq : P.underlying q = some (.slice e)) (he : P.underlying e = some (.int .i64)) (hkq : P.cellsOf q = 1) (hyq : P.bytesOf q = 24) (hk : P.cellsOf e = 1) (hy : P.bytesOf e = 8)
    (h : DataW.trod enc P w 0 (fun _ => true) held fuel t cs = some x) (hw : Light P t x.1) : ∃ a n c xss, cs = [.slice a n c] ∧ Rows2 w a n xss := by
  obtain ⟨a, n, c, rfl, hb, hel⟩ := open_elems ht hkq (by decide) h hw
  have one : ∀ i, i < n → ∃ z, ∃ b o a' n' c', a = some ⟨b, o, none⟩ ∧ b < w.heap.size ∧ w.cell? ⟨b, o + i, none⟩ = some (.slice a' n' c') ∧ Ints w a' n' z := by
    intro i hi
    obtain ⟨b, o, cs, m, y, ha, hlt, hl, hc, hr, hy'⟩ := hel i hi
    obtain ⟨a', n', c', xs, rfl, hx⟩ := open_ints_in hq he hk hy hr hy'
    have := hc 0 (by decide)
    exact ⟨xs, b, o, a', n', c', ha, hlt, by simpa using this, hx⟩
  obtain ⟨f, hf⟩ := Go.Deep.choose_lt one
  refine ⟨a, n, c, (List.range n).map f, rfl, by simp, ?_, ?_⟩
  · rw [hyq] at hb; unfold reachBytes at hb; unfold Big; omega
  · intro i z hz
    by_cases hi : i < n
    · rw [List.getElem?_map, List.getElem?_range hi] at hz
      cases hz
      exact hf i hi
    · rw [List.getElem?_eq_none (by simp; omega)] at hz; cases hz
end

section
variable {H : Type} {enc : TypeId × Value → H} {P : Program} {w : World} {base : Nat} {held : Bool} {r : Reach} {b0 : Nat} {v : Value} {d : DataW H} {ps : List MemPlace}
theorem in_int {t : TypeId} (ht : P.underlying t = some (.int .i64)) (hval : Value.okWide P w r b0 t v) (hd : DataW.Trod enc P w 0 (fun _ => true) held t v d ps) : ∃ n, v = .int .i64 n ∧ I64 n := by
  obtain ⟨n, rfl, -, -, hw⟩ := open_int ht hval hd
  exact ⟨n, rfl, i64_of_wf hw⟩
theorem in_ints {t e : TypeId} (ht : P.underlying t = some (.slice e)) (he : P.underlying e = some (.int .i64)) (hk : P.cellsOf e = 1) (hy : P.bytesOf e = 8) (hval : Value.okWide P w r b0 t v) (hd : DataW.Trod enc P w 0 (fun _ => true) held t v d ps) (hw : Light P t d) :
    ∃ a n c xs, v = .slice a n c ∧ Ints w a n xs := by
  obtain ⟨a, n, c, rfl⟩ := okWide_slice ht hval
  obtain ⟨fuel, hf⟩ := hd
  obtain ⟨a', n', c', xs, h, hx⟩ := open_ints_in ht he hk hy hf hw
  simp only [Value.cells] at h
  cases h
  exact ⟨_, _, _, xs, rfl, hx⟩
theorem in_rows {t q e : TypeId} (ht : P.underlying t = some (.slice q)) (hq : P.underlying q = some (.slice e)) (he : P.underlying e = some (.int .i64)) (hkq : P.cellsOf q = 1) (hyq : P.bytesOf q = 24) (hk : P.cellsOf e = 1) (hy : P.bytesOf e = 8)
    (hval : Value.okWide P w r b0 t v) (hd : DataW.Trod enc P w 0 (fun _ => true) held t v d ps) (hw : Light P t d) : ∃ a n c xss, v = .slice a n c ∧ Rows2 w a n xss := by
  obtain ⟨a, n, c, rfl⟩ := okWide_slice ht hval
  obtain ⟨fuel, hf⟩ := hd
  obtain ⟨a', n', c', xs, h, hx⟩ := open_rows_in ht hq he hkq hyq hk hy hf hw
  simp only [Value.cells] at h
  cases h
  exact ⟨_, _, _, xs, rfl, hx⟩
end

theorem Grew.below {w w' : World} (h : Grew w w') : Below w.heap.size w w' := ⟨h.os, h.tape, h.output, h.size, fun k hk => h.block k hk id⟩

section
variable {H : Type} {enc : TypeId × Value → H} {P : Program}

/-- the arguments read as they did -/
theorem trodAll_grew (hl : laidOutB P = true) {w w' : World} (hk : Grew w w') {sp : Nat → Bool} : ∀ {ts : List TypeId} {vs : List Value} {ds : List (DataW H)} {ps : List MemPlace}, ts.all (fun t => P.readableRec t && decide (t < P.types.size)) = true → (∀ p ∈ ps, p.block < w.heap.size) → (∀ p ∈ ps, sp p.block = true) →
    DataW.TrodAll enc P w 0 (fun _ => true) true ts vs ds ps → DataW.TrodAll enc P w' 0 sp true ts vs ds ps
  | [], _, _, _, _, _, _, h => by
    obtain ⟨rfl, rfl, rfl⟩ := trodAll_nil h
    exact trodAll_mk0
  | t :: ts, _, _, _, ht, hp, hs, h => by
    obtain ⟨v, vs1, d, ds1, a, b, rfl, rfl, rfl, h1, h2⟩ := trodAll_cons h
    simp only [List.all_cons, Bool.and_eq_true, decide_eq_true_eq] at ht
    refine trodAll_cons_mk (WideElems.Trod_stays hl ht.1.1 ht.1.2 h1 (fun x hx => hk.below.same (hp x (List.mem_append_left _ hx))) fun x hx => hs x (List.mem_append_left _ hx)) (trodAll_grew hl hk (by simpa using ht.2) (fun p h => hp p (List.mem_append_right _ h)) (fun p h => hs p (List.mem_append_right _ h)) h2)

theorem post_true {f : Func} {s : ChangeSpec} {W W' : World} {args : Array Value} {ds gs : List (DataW H)} {before : List MemPlace} {tb : TypeId} {apart fresh handsOn again : Bool}
    (hl : laidOutB P = true) (hr : f.resultTypes = #[tb]) (hb : P.underlying tb = some .bool) (hvars : s.vars = []) (hs : (s.fn H (ds ++ gs)).results = [.lit (.bool true)]) (ha : (s.fn H (ds ++ gs)).args = ds) (hv : (s.fn H (ds ++ gs)).vars = [])
    (hts : f.params.toList.all (fun t => P.readableRec t && decide (t < P.types.size)) = true)
    (hW : DataW.Whole enc P f.params.toList s.vars apart W args.toList ds gs before) (hk : Grew W W') : s.post enc P f apart fresh handsOn again W args (.bool true) W' := by
  have hW' := hW
  have hlt := fun p hp => hW.lt p hp
  obtain ⟨p, q, hA, hV, hbef, hfz, hnd⟩ := hW
  rw [hvars] at hV
  obtain ⟨rfl, rfl⟩ := trodVars_none hV
  obtain rfl : before = p := by simpa using hbef
  have hargs : ∀ sp : Nat → Bool, (∀ p ∈ before, sp p.block = true) → DataW.TrodAll enc P W' 0 sp true f.params.toList args.toList (s.fn H (ds ++ [])).args before := fun sp hsp => by
    rw [ha]
    exact trodAll_grew hl hk hts (fun x hx => by simpa using hlt x hx) (fun x hx => hsp x hx) hA
  have hres : ∀ (b : Nat) (sp : Nat → Bool) (hd : Bool), DataW.TrodAll enc P W' b sp hd f.resultTypes.toList ((Value.bool true).resultList f.resultTypes.size) (s.fn H (ds ++ [])).results [] := fun b sp hd => by
    rw [hr, hs]
    exact trodAll_cons_mk (shut_bool hb _) trodAll_mk0
  have hvs : ∀ sp : Nat → Bool, DataW.TrodVars enc P W' sp s.vars (s.fn H (ds ++ [])).vars [] := fun sp => by rw [hv, hvars]; exact rfl
  have hold : ∀ p ∈ before, (fun b => decide (b < W.heap.size)) p.block = true := fun p hp => by simpa using hlt p hp
  refine ⟨ds, [], before, [], before, [], hW', hres _ _ _, hargs _ hold, hvs _, World.keptBut_mono (fun p hp => ⟨hp, Or.inr (by simpa using hp)⟩) (hk.below.frame (· ∈ before)), fun _ => ?_⟩
  refine ⟨ok_one hr rfl (okWide_bool_mk hb _), _, _, ([] ++ before) ++ [], ⟨[] ++ before, [], trodAll_append (hargs _ (fun _ _ => rfl)) (hres _ _ _), hvs _, rfl, ?_, ?_⟩, ?_⟩
  · intro b off hp
    have hp' : MemPlace.cell b off ∈ before := by simpa using hp
    rw [hk.below.frozen (p := ⟨b, off, none⟩) (hlt _ hp')]
    exact hfz b off (by simpa using hp')
  · intro hap
    simpa using hnd hap
  · intro p hp _
    simpa using hp
end
end Go.Lift
