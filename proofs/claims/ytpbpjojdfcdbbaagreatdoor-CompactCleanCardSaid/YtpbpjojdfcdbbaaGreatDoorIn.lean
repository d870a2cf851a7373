/- what came in, opened, by its code; and what a row asks of a call that answers true -/
import Derived.Test.YtpbpjojdfcdbbaaGreatDoorRep
import Derived.Carry
import Derived.SizedLaws
import Derived.WalkKit
import Derived.ProofKit
import Derived.OpenShut
import Derived.Deep.DeepHandedRow
import Derived.Deep.Slices
namespace Go.Lift
open Go.ChangeShapes Go.WideShapes Go.ChangeAt Go.RowKit
set_option linter.unusedVariables false

def Light {H : Type} (P : Program) (t : TypeId) (d : DataW H) : Prop := ∀ y ∈ d.weights P t, y ≤ reachBytes

/-- all blocks that there are -/
abbrev In (w : World) : Nat → Prop := fun b => b < w.heap.size

section
variable {H : Type} {enc : TypeId × Value → H} {P : Program} {w : World} {base : Nat} {held : Bool}

theorem light_of {ts : List TypeId} {ds : List (DataW H)} (h : (DataW.weightsEach P ts ds).all (· ≤ reachBytes) = true) {j : Nat} {t : TypeId} {d : DataW H} (ht : ts[j]? = some t) (hd : ds[j]? = some d) : Light P t d :=
  fun y hy => by simpa using List.all_eq_true.1 h _ (DataW.weights_mem_each ht hd y hy)

theorem weightsAll_mem {e : TypeId} : ∀ {l : List (DataW H)} {d : DataW H}, d ∈ l → ∀ n ∈ d.weights P e, n ∈ DataW.weightsAll P e l
  | x :: l, d, h, n, hn => by
    simp only [DataW.weightsAll, List.mem_append]
    rcases List.mem_cons.1 h with rfl | h
    · exact Or.inl hn
    · exact Or.inr (weightsAll_mem h n hn)

/-- how a type's cells are read, as data and as a thing -/
def Reads {α : Type} (P : Program) (c : Cod α) (t : TypeId) : Prop :=
  ∀ (H : Type) (enc : TypeId × Value → H) (w : World) (held : Bool) (fuel : Nat) (cs : List Value) (x : DataW H × List MemPlace), DataW.trod enc P w 0 (fun _ => true) held fuel t cs = some x → Light P t x.1 → ∃ y, c.rep w (In w) y cs

theorem lt_of_cell {b o : Nat} {s : Option _} {v : Value} (h : w.cell? ⟨b, o, s⟩ = some v) : b < w.heap.size := by
  unfold World.cell? at h
  by_cases hb : b < w.heap.size
  · exact hb
  · rw [show w.heap[b]? = none by simp; omega] at h; cases h

theorem open_row {α : Type} {c : Cod α} {t e : TypeId} {bytes fuel : Nat} {cs : List Value} {x : DataW H × List MemPlace} (ht : P.underlying t = some (.slice e)) (hk : P.cellsOf e = c.k) (h0 : 0 < c.k) (hby : P.bytesOf e = bytes) (hr : Reads P c e)
    (h : DataW.trod enc P w 0 (fun _ => true) held fuel t cs = some x) (hw : Light P t x.1) :
    ∃ a n cap xs, cs = [.slice a n cap] ∧ n ≤ cap ∧ (a = none → n = 0 ∧ cap = 0) ∧ Row c bytes w (In w) a n xs := by
  rcases DataW.trod_slice ht h with ⟨rfl, rfl⟩ | ⟨a, len, cap, elems, rest, n, _, rfl, rfl, hb, hl, hm, hlen, hel, hsp, hns⟩
  · exact ⟨none, 0, 0, [], rfl, Nat.le_refl _, fun _ => ⟨rfl, rfl⟩, Row.nil _ _⟩
  · have hw' : ∀ y ∈ (elems.length + rest.length) * P.bytesOf e :: (DataW.weightsAll P e (elems.map (·.1)) ++ DataW.weightsAll P e (rest.map (·.1))), y ≤ reachBytes := by
      have := hw
      simpa only [Light, DataW.weights, ht, List.length_map] using this
    have read : ∀ i, i < len → ∃ cs' y, elems[i]? = some y ∧ cs'.length = c.k ∧ (∀ j, j < c.k → w.cell? (a.add (i * c.k + j)) = cs'[j]?) ∧ DataW.trod enc P w 0 (fun _ => true) held n e cs' = some y := by
      intro i hi
      have he := hel i hi
      rw [hk, List.getElem?_eq_getElem (by omega : i < elems.length)] at he
      obtain ⟨cs', h1, h2⟩ := Option.bind_eq_some_iff.1 he
      obtain ⟨_, h3, h4⟩ := World.cells?_some h1
      exact ⟨cs', _, List.getElem?_eq_getElem (by omega), h3, fun j hj => by rw [← Addr.add_add]; exact h4 j hj, h2⟩
    have hspot : 0 < len → a.spot = none := by
      intro hpos
      obtain ⟨cs', y, _, h3, h4, _⟩ := read 0 hpos
      have := h4 0 h0
      rw [Nat.zero_mul, Nat.add_zero, List.getElem?_eq_getElem (by omega)] at this
      have e : a.add 0 = a := by simp [Addr.add]
      rw [e] at this
      unfold World.cell? at this
      split at this
      · cases hs : a.spot with
        | none => rfl
        | some s => rw [hs] at this; simp at this
      · cases this
    have one : ∀ i, i < len → ∃ z, ∃ b off es, some a = some ⟨b, off, none⟩ ∧ b < w.heap.size ∧ In w b ∧ (∀ j, j < c.k → w.cell? ⟨b, off + i * c.k + j, none⟩ = es[j]?) ∧ c.rep w (In w) z es := by
      intro i hi
      have hs := hspot (by omega)
      have hadd : ∀ m, a.add m = ⟨a.block, a.off + m, none⟩ := by
        intro m
        obtain ⟨b, o, s⟩ := a
        simp only at hs
        subst hs
        unfold Addr.add
        split
        · next h => subst h; rfl
        · rfl
      obtain ⟨cs', y, h2, h3, h4, h5⟩ := read i hi
      have hlight : Light P e y.1 := fun z hz => hw' z (List.mem_cons_of_mem _ (List.mem_append_left _ (weightsAll_mem (d := y.1) (List.mem_map.2 ⟨y, List.mem_of_getElem? h2, rfl⟩) z hz)))
      obtain ⟨z, hz⟩ := hr H enc w held n cs' y h5 hlight
      have hlt : a.block < w.heap.size := by
        have := h4 0 h0
        rw [hadd, List.getElem?_eq_getElem (by omega)] at this
        exact lt_of_cell this
      refine ⟨z, a.block, a.off, cs', ?_, hlt, hlt, fun j hj => ?_, hz⟩
      · obtain ⟨b, o, s⟩ := a
        simp only at hs
        rw [hs]
      · have := h4 j hj
        rw [hadd] at this
        rw [← this, Nat.add_assoc]
    have hbig : len * bytes ≤ Big := by
      have h1 := hw' _ (List.mem_cons_self ..)
      have h2 : len * P.bytesOf e ≤ (elems.length + rest.length) * P.bytesOf e := Nat.mul_le_mul_right _ (by omega)
      rw [hby] at h1 h2
      unfold reachBytes at h1; unfold Big; omega
    by_cases hz : len = 0
    · subst hz
      exact ⟨some a, 0, cap, [], rfl, Nat.zero_le _, fun h => (by cases h), rfl, by simp, fun i x hi => (by simp at hi)⟩
    · have hne : Nonempty α := ⟨(one 0 (by omega)).choose⟩
      haveI : Inhabited α := ⟨Classical.choice hne⟩
      obtain ⟨f, hf⟩ := Go.Deep.choose_lt one
      refine ⟨some a, len, cap, (List.range len).map f, rfl, hl, fun h => (by cases h), by simp, hbig, fun i z hz => ?_⟩
      by_cases hi : i < len
      · rw [List.getElem?_map, List.getElem?_range hi] at hz
        cases hz
        exact hf i hi
      · rw [List.getElem?_eq_none (by simp; omega)] at hz; cases hz

theorem i64_of_wf {n : Int} (h : (Lit.int .i64 n).wf = true) : I64 n := by
  have : IntKind.i64.min ≤ n ∧ n ≤ IntKind.i64.max := by simpa [Lit.wf] using h
  exact this

theorem reads_I64 {t : TypeId} (ht : P.underlying t = some (.int .i64)) : Reads P cI64 t := fun H enc w held fuel cs x h hw => by
  obtain ⟨z, rfl, -, hz⟩ := DataW.trod_int ht h
  exact ⟨z, rfl, i64_of_wf hz⟩
theorem reads_U8 {t : TypeId} (ht : P.underlying t = some (.int .u8)) : Reads P cU8 t := fun H enc w held fuel cs x h hw => by
  obtain ⟨z, rfl, -, hz⟩ := DataW.trod_int ht h
  have h2 : (0 : Int) ≤ z ∧ z ≤ 255 := by
    have : IntKind.u8.min ≤ z ∧ z ≤ IntKind.u8.max := by simpa [Lit.wf] using hz
    exact this
  refine ⟨UInt8.ofNat z.toNat, ?_, trivial⟩
  show [Value.int .u8 z] = [Value.int .u8 ((UInt8.ofNat z.toNat).toNat : Int)]
  have : (UInt8.ofNat z.toNat).toNat = z.toNat := by simp; omega
  rw [this]
  congr 2
  omega
theorem reads_Str {t : TypeId} (ht : P.underlying t = some .string) : Reads P cStr t := fun H enc w held fuel cs x h hw => by
  obtain ⟨s, rfl, -, hs⟩ := DataW.trod_string ht h
  exact ⟨s, rfl, trivial⟩
theorem reads_Bool {t : TypeId} (ht : P.underlying t = some .bool) : Reads P cBool t := fun H enc w held fuel cs x h hw => by
  obtain ⟨s, rfl, -⟩ := DataW.trod_bool ht h
  exact ⟨s, rfl, trivial⟩
end

section
variable {H : Type} {enc : TypeId × Value → H} {P : Program} {w : World} {held : Bool} {r : Reach} {b0 : Nat} {v : Value} {d : DataW H} {ps : List MemPlace}
theorem in_int {t : TypeId} (ht : P.underlying t = some (.int .i64)) (hval : Value.okWide P w r b0 t v) (hd : DataW.Trod enc P w 0 (fun _ => true) held t v d ps) : ∃ n, v = .int .i64 n ∧ I64 n := by
  obtain ⟨n, rfl, -, -, hw⟩ := open_int ht hval hd
  exact ⟨n, rfl, i64_of_wf hw⟩
theorem in_row {α : Type} {c : Cod α} {t e : TypeId} {bytes : Nat} (ht : P.underlying t = some (.slice e)) (hk : P.cellsOf e = c.k) (h0 : 0 < c.k) (hby : P.bytesOf e = bytes) (hr : Reads P c e) (hval : Value.okWide P w r b0 t v) (hd : DataW.Trod enc P w 0 (fun _ => true) held t v d ps) (hw : Light P t d) :
    ∃ a n cap xs, v = .slice a n cap ∧ n ≤ cap ∧ (a = none → n = 0 ∧ cap = 0) ∧ Row c bytes w (In w) a n xs := by
  obtain ⟨a, n, c, rfl⟩ := okWide_slice ht hval
  obtain ⟨fuel, hf⟩ := hd
  obtain ⟨a', n', c', xs, h, hx⟩ := open_row ht hk h0 hby hr hf hw
  simp only [Value.cells] at h
  cases h
  exact ⟨_, _, _, xs, rfl, hx⟩
end

theorem Grew.below {w w' : World} (h : Grew w w') : Below w.heap.size w w' := ⟨h.os, h.tape, h.output, h.size, fun k hk => h.block k hk id⟩

section
variable {H : Type} {enc : TypeId × Value → H} {P : Program}

/-- the arguments read as they did -/
theorem trodAll_grew (hl : laidOutB P = true) {w w' : World} (hk : Grew w w') {sp : Nat → Bool} : ∀ {ts : List TypeId} {vs : List Value} {ds : List (DataW H)} {ps : List MemPlace}, ts.all (fun t => P.readableRec t && decide (t < P.types.size)) = true → (∀ p ∈ ps, p.block < w.heap.size) → (∀ p ∈ ps, sp p.block = true) →
    DataW.TrodAll enc P w 0 (fun _ => true) true ts vs ds ps → DataW.TrodAll enc P w' 0 sp true ts vs ds ps
  | [], _, _, _, _, _, _, h => by
    obtain ⟨rfl, rfl, rfl⟩ := trodAll_nil h
    exact trodAll_mk0
  | t :: ts, _, _, _, ht, hp, hs, h => by
    obtain ⟨v, vs1, d, ds1, a, b, rfl, rfl, rfl, h1, h2⟩ := trodAll_cons h
    simp only [List.all_cons, Bool.and_eq_true, decide_eq_true_eq] at ht
    refine trodAll_cons_mk (WideElems.Trod_stays hl ht.1.1 ht.1.2 h1 (fun x hx => hk.below.same (hp x (List.mem_append_left _ hx))) fun x hx => hs x (List.mem_append_left _ hx)) (trodAll_grew hl hk (by simpa using ht.2) (fun p h => hp p (List.mem_append_right _ h)) (fun p h => hs p (List.mem_append_right _ h)) h2)

theorem post_true {f : Func} {s : ChangeSpec} {W W' : World} {args : Array Value} {ds gs : List (DataW H)} {before : List MemPlace} {tb : TypeId} {apart fresh handsOn again : Bool}
    (hl : laidOutB P = true) (hr : f.resultTypes = #[tb]) (hb : P.underlying tb = some .bool) (hvars : s.vars = []) (hs : (s.fn H (ds ++ gs)).results = [.lit (.bool true)]) (ha : (s.fn H (ds ++ gs)).args = ds) (hv : (s.fn H (ds ++ gs)).vars = [])
    (hts : f.params.toList.all (fun t => P.readableRec t && decide (t < P.types.size)) = true)
    (hW : DataW.Whole enc P f.params.toList s.vars apart W args.toList ds gs before) (hk : Grew W W') : s.post enc P f apart fresh handsOn again W args (.bool true) W' := by
  have hW' := hW
  have hlt := fun p hp => hW.lt p hp
  obtain ⟨p, q, hA, hV, hbef, hfz, hnd⟩ := hW
  rw [hvars] at hV
  obtain ⟨rfl, rfl⟩ := trodVars_none hV
  obtain rfl : before = p := by simpa using hbef
  have hargs : ∀ sp : Nat → Bool, (∀ p ∈ before, sp p.block = true) → DataW.TrodAll enc P W' 0 sp true f.params.toList args.toList (s.fn H (ds ++ [])).args before := fun sp hsp => by
    rw [ha]
    exact trodAll_grew hl hk hts (fun x hx => by simpa using hlt x hx) (fun x hx => hsp x hx) hA
  have hres : ∀ (b : Nat) (sp : Nat → Bool) (hd : Bool), DataW.TrodAll enc P W' b sp hd f.resultTypes.toList ((Value.bool true).resultList f.resultTypes.size) (s.fn H (ds ++ [])).results [] := fun b sp hd => by
    rw [hr, hs]
    exact trodAll_cons_mk (shut_bool hb _) trodAll_mk0
  have hvs : ∀ sp : Nat → Bool, DataW.TrodVars enc P W' sp s.vars (s.fn H (ds ++ [])).vars [] := fun sp => by rw [hv, hvars]; exact rfl
  have hold : ∀ p ∈ before, (fun b => decide (b < W.heap.size)) p.block = true := fun p hp => by simpa using hlt p hp
  refine ⟨ds, [], before, [], before, [], hW', hres _ _ _, hargs _ hold, hvs _, World.keptBut_mono (fun p hp => ⟨hp, Or.inr (by simpa using hp)⟩) (hk.below.frame (· ∈ before)), fun _ => ?_⟩
  refine ⟨ok_one hr rfl (okWide_bool_mk hb _), _, _, ([] ++ before) ++ [], ⟨[] ++ before, [], trodAll_append (hargs _ (fun _ _ => rfl)) (hres _ _ _), hvs _, rfl, ?_, ?_⟩, ?_⟩
  · intro b off hp
    have hp' : MemPlace.cell b off ∈ before := by simpa using hp
    rw [hk.below.frozen (p := ⟨b, off, none⟩) (hlt _ hp')]
    exact hfz b off (by simpa using hp')
  · intro hap
    simpa using hnd hap
  · intro p hp _
    simpa using hp
end
end Go.Lift
