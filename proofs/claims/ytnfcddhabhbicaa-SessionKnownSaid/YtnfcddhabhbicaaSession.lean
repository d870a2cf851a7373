/- session: the table of sessions -/
import Derived.Test.YtnfcddhabhbicaaSorted
namespace Go.Proofs.Ytnfcddhabhbicaa
open Go.Lift
set_option linter.unusedVariables false

theorem slices_Clone_I {a : Option Addr} {n c : Nat} {xs : List Int} {w : World} (h : Ints w a n xs) :
    Calls Try.prog 34 #[.slice a n c] w (Ok (NewInts w 3 xs)) := by
  have hl := h.len; have hb := h.big
  refine L_slices_Clone_int_int (eq_nil_slice slInt.under ⟨_, rfl, PIf.mk (fun h1 => ?_) (fun h1 => PA.mk fun w1 hk1 hs1 hg1 => ?_)⟩)
  · have : xs = [] := by
      cases a with
      | none =>
        cases xs with
        | nil => rfl
        | cons x r => obtain ⟨b, o, hb, _⟩ := h.cell 0 x rfl; cases hb
      | some p => cases h1
    subst this
    exact Ok.mk ⟨none, 0, 0, rfl, Own.nil _ _ _, Keep.refl _, by simp [blk]⟩
  · cases a with
    | none => cases h1
    | some p =>
      have ho : Own w1 3 1 (some ⟨w.heap.size, 0, none⟩) 0 0 [] := Own.of_new (cur := #[]) hg1 rfl (Nat.zero_le _)
      refine app_src slInt (news := ints xs) ho (h.grew hk1).src (by rw [ints_length, Nat.mul_one, hl]) (ints_one xs) (by simpa using hb) (by unfold Big at hb; unfold maxLen; omega) fun a' c' w2 ho2 hk2 hl2 => ?_
      refine ⟨_, _, _, rfl, Ok.mk ⟨a', _, c', rfl, by simpa using ho2, hk1.new hk2 ?_, ?_⟩⟩
      · intro b hb; simp only [blk, Option.some.injEq] at hb; omega
      · intro b hb
        rcases hl2 with hl2 | hl2
        · rw [hl2] at hb; simp only [blk, Option.some.injEq] at hb; omega
        · rw [hl2] at hb; simp only [Option.some.injEq] at hb; omega

structure Tab where
  retry : Int
  asked : List (Int × Int)
  heard : List (Int × List Int)
  deriving DecidableEq

def isI (v : Value) (n : Int) : Prop := v = .int .i64 n
def isSl (w : World) (F : Nat → Prop) (v : Value) (xs : List Int) : Prop :=
  ∃ a n c, v = .slice a n c ∧ Own w 3 1 a n c (ints xs) ∧ n * 8 ≤ Big ∧ (∀ x ∈ xs, I64 x) ∧ ∀ b, blk a = some b → F b

theorem isSl.keep {S F F' : Nat → Prop} {w w' : World} {v : Value} {xs : List Int} (h : isSl w F v xs) (hk : Keep S w w') (hn : ∀ b, F b → b < w.heap.size → (∃ o, w.heap[b]? = some o ∧ ∀ es cl, o ≠ .map es cl) → ¬ S b) (hF : ∀ b, F b → F' b) : isSl w' F' v xs := by
  obtain ⟨a, n, c, rfl, ho, hb, hr, hf⟩ := h
  refine ⟨a, n, c, rfl, ho.keep hk (notIn_blk.2 fun b hb => ?_), hb, hr, fun b hb => hF b (hf b hb)⟩
  refine hn b (hf b hb) (ho.lt hb) ?_
  rcases ho.cases with ⟨rfl, _⟩ | ⟨g, cur, rfl, hg, _⟩
  · cases hb
  · simp only [blk, Option.some.injEq] at hb
    subst hb
    exact ⟨_, hg, fun es cl h => by cases h⟩

/-- block p is a table, in the blocks of F -/
structure TabAt (w : World) (p : Nat) (F : Nat → Prop) (T : Tab) : Prop where
  body : ∃ ra rh la lh, w.heap[p]? = some (.cells #[.int .i64 T.retry, .map (some ra), .map (some rh)] 52 (0, 0)) ∧ MapAt w ra (Value.int .i64) la ∧ MapAt w rh (Value.int .i64) lh ∧
    RelL isI la T.asked ∧ RelL (isSl w F) lh T.heard ∧ F ra ∧ F rh ∧ ra ≠ rh
  self : F p
  dom : ∀ b, F b → b < w.heap.size
  tidyA : Tidy T.asked
  keysA : ∀ q ∈ T.asked, I64 q.1

theorem TabAt.keep {S F : Nat → Prop} {w w' : World} {p : Nat} {T : Tab} (h : TabAt w p F T) (hk : Keep S w w') (hn : ∀ b, F b → ¬ S b) : TabAt w' p F T := by
  obtain ⟨ra, rh, la, lh, h1, h2, h3, h4, h5, h6, h7, h8⟩ := h.body
  exact ⟨⟨ra, rh, la, lh, hk.get h1 (hn _ h.self), h2.keep hk (hn _ h6), h3.keep hk (hn _ h7), h4, h5.mono fun v xs hv => hv.keep hk (fun b hb _ _ => hn b hb) (fun _ h => h), h6, h7, h8⟩,
    h.self, fun b hb => Nat.lt_of_lt_of_le (h.dom b hb) hk.size, h.tidyA, h.keysA⟩
theorem TabAt.grew {F : Nat → Prop} {w w' : World} {p : Nat} {T : Tab} (h : TabAt w p F T) (hk : Grew w w') : TabAt w' p F T := h.keep hk fun _ _ h => h

theorem kI : KeyT Try.prog 3 (Value.int .i64) := keyI Try.underlying3
theorem mA : MapT Try.prog 49 3 3 (.int .i64 0) := ⟨by kernel_rfl, by kernel_rfl⟩
theorem mH : MapT Try.prog 50 3 23 (.slice none 0 0) := ⟨by kernel_rfl, by kernel_rfl⟩

theorem session_New {retry : Int} {w : World} : Calls Try.prog F_session_New #[.int .i64 retry] w
    (Ok fun v w' => ∃ p F, v = .pointer (some ⟨p, 0, none⟩) ∧ TabAt w' p F ⟨retry, [], []⟩ ∧ Grew w w' ∧ ∀ b, F b → w.heap.size ≤ b) := by
  refine L_session_New (PA.mk fun w1 k1 s1 g1 => PA.mk fun w2 k2 s2 g2 => PA.mk fun w3 k3 s3 g3 => Ok.mk ⟨w2.heap.size, fun b => w.heap.size ≤ b ∧ b < w3.heap.size, rfl,
    ⟨⟨w.heap.size, w1.heap.size, [], [], g3, MapAt.new (k3.get (k2.get g1 id) id), MapAt.new (k3.get g2 id), trivial, trivial, by omega, by omega, by omega⟩, by omega, fun b h => h.2, by simp [Tidy], by simp⟩,
    (k1.grew k2).grew k3, fun b h => h.1⟩)

theorem Table_Start {w : World} {p : Nat} {F : Nat → Prop} {T : Tab} {peer now : Int} (h : TabAt w p F T) (hp : I64 peer) :
    Calls Try.prog F_session_Table_Start #[.pointer (some ⟨p, 0, none⟩), .int .i64 peer, .int .i64 now] w
      (Ok fun v w' => v = .tuple #[] ∧ TabAt w' p F { T with asked := aput T.asked peer now } ∧ Keep F w w') := by
  obtain ⟨ra, rh, la, lh, h1, h2, h3, h4, h5, h6, h7, h8⟩ := h.body
  have hra : ∃ es cl, w.heap[ra]? = some (.map es cl) := by obtain ⟨es, cl, h, _⟩ := h2.at'; exact ⟨es, cl, h⟩
  obtain ⟨es, cl, hes⟩ := hra
  have hpr : p ≠ ra := by rintro rfl; rw [h1] at hes; cases hes
  refine L_session_Table_Start ⟨p, 0, rfl, some ra, cell_at h1 rfl, mapPut mA kI h2 fun w' h2' hk hs => Ok.mk ⟨rfl, ⟨⟨ra, rh, _, lh, hk.get h1 hpr, h2', h3.keep hk (Ne.symm h8), RelL.aput (R := isI) rfl h4, ?_, h6, h7, h8⟩, h.self, ?_, h.tidyA.aput _ _, ?_⟩, hk.mono ?_⟩⟩
  · refine h5.mono fun v xs hv => hv.keep hk (fun b _ _ ho => ?_) (fun _ h => h)
    rintro rfl
    obtain ⟨o, ho, hne⟩ := ho
    rw [hes] at ho; cases ho; exact hne _ _ rfl
  · intro b hb; rw [hs]; exact h.dom b hb
  · intro q hq
    rcases mem_aput_pair hq with rfl | hq
    · exact hp
    · exact h.keysA q hq
  · rintro b _ rfl; exact h6

def Tab.all (T : Tab) (peer : Int) (xs : List Int) : List Int := joinv ((aget T.heard peer).getD []) xs
def covers (xs want : List Int) : Bool := cmpv xs want == 0 || cmpv xs want == 2
def Tab.ends (T : Tab) (peer : Int) (xs want : List Int) : Bool := (aget T.asked peer).isSome && covers (T.all peer xs) want
def Tab.hear (T : Tab) (peer : Int) (xs want : List Int) : Tab :=
  { T with heard := aput T.heard peer (T.all peer xs), asked := if T.ends peer xs want then adel T.asked peer else T.asked }

theorem getv_I64 {xs : List Int} (h : ∀ x ∈ xs, I64 x) (i : Int) : I64 (getv xs i) := by
  unfold getv
  split
  · unfold I64; omega
  · by_cases hi : i.toNat < xs.length
    · have := h xs[i.toNat] (List.getElem_mem hi)
      simp only [List.getD, List.getElem?_eq_getElem hi, Option.getD_some]
      unfold I64 at *; omega
    · have : xs[i.toNat]? = none := by simp; omega
      simp only [List.getD, this, Option.getD_none]
      unfold I64; omega

theorem joinv_I64 {xs ys : List Int} (h1 : ∀ x ∈ xs, I64 x) (h2 : ∀ x ∈ ys, I64 x) : ∀ x ∈ joinv xs ys, I64 x := by
  intro x hx
  obtain ⟨i, _, rfl⟩ := List.mem_map.1 hx
  have a := getv_I64 h1 i; have b := getv_I64 h2 i
  unfold I64 at *; omega

theorem joinv_length (xs ys : List Int) : (joinv xs ys).length = max xs.length ys.length := joinTo_length _ _ _

theorem NewInts.ints {w0 w : World} {xs : List Int} {v : Value} (h : NewInts w0 3 xs v w) (hb : xs.length * 8 ≤ Big) (hr : ∀ x ∈ xs, I64 x) : ∃ a n c, v = .slice a n c ∧ Ints w a n xs := by
  obtain ⟨a, n, c, rfl, ho, _⟩ := h
  have hl := ho.length
  rw [ints_length, Nat.mul_one] at hl
  exact ⟨a, n, c, rfl, ho.ints (by rw [← hl]; exact hb) hr⟩

/-- what was heard of a peer: a list of numbers -/
theorem TabAt.heardAt {w : World} {F : Nat → Prop} {lh : List (Int × Value)} {H : List (Int × List Int)} (h : RelL (isSl w F) lh H) (peer : Int) :
    ∃ a n c, (aget lh peer).getD (.slice none 0 0) = .slice a n c ∧ Ints w a n ((aget H peer).getD []) ∧ n * 8 ≤ Big ∧ ∀ b, blk a = some b → F b := by
  rcases h.aget peer with ⟨h1, h2⟩ | ⟨v, xs, h1, h2, a, n, c, rfl, ho, hb, hr, hf⟩
  · rw [h1, h2]; exact ⟨none, 0, 0, rfl, Ints.nil w, by simp [Big], by simp [blk]⟩
  · rw [h1, h2]; exact ⟨a, n, c, rfl, ho.ints hb hr, hb, hf⟩

theorem Table_Heard {w : World} {p : Nat} {F : Nat → Prop} {T : Tab} {peer : Int} {a b : Option Addr} {n m c d : Nat} {xs want : List Int} (h : TabAt w p F T) (hx : Ints w a n xs) (hy : Ints w b m want) (hb : want ≠ [] → notIn F b) :
    Calls Try.prog F_session_Table_Heard #[.pointer (some ⟨p, 0, none⟩), .int .i64 peer, .slice a n c, .slice b m d] w
      (Ok fun v w' => ∃ F', v = .bool (T.ends peer xs want) ∧ TabAt w' p F' (T.hear peer xs want) ∧ Evo F w F' w') := by
  obtain ⟨ra, rh, la, lh, h1, h2, h3, h4, h5, h6, h7, h8⟩ := h.body
  obtain ⟨es, cl, hes⟩ : ∃ es cl, w.heap[rh]? = some (.map es cl) := by obtain ⟨es, cl, h, _⟩ := h3.at'; exact ⟨es, cl, h⟩
  obtain ⟨es2, cl2, hes2⟩ : ∃ es cl, w.heap[ra]? = some (.map es cl) := by obtain ⟨es, cl, h, _⟩ := h2.at'; exact ⟨es, cl, h⟩
  have hpr : p ≠ rh := by rintro rfl; rw [h1] at hes; cases hes
  have hpa : p ≠ ra := by rintro rfl; rw [h1] at hes2; cases hes2
  obtain ⟨ha, hn, hc, hg, hI, hB, hF⟩ := TabAt.heardAt h5 peer
  refine L_session_Table_Heard ⟨p, 0, rfl, some rh, cell_at h1 rfl, mapLook mH kI h3 ⟨ha, hn, hc, hg, PC.ok (vec_Join hI hx) ?_⟩⟩
  rintro _ w1 ⟨a1, n1, c1, rfl, ho1, hk1, hn1⟩
  have hl1 : n1 = (T.all peer xs).length := by have := ho1.length; rw [ints_length, Nat.mul_one] at this; exact this.symm
  have hbig1 : n1 * 8 ≤ Big := by
    rw [hl1]; unfold Tab.all; rw [joinv_length]
    have := hI.len; have := hI.big; have := hx.len; have := hx.big
    unfold Big at *; omega
  have hr1 : ∀ x ∈ T.all peer xs, I64 x := joinv_I64 hI.rng hx.rng
  refine ⟨a1, n1, c1, rfl, p, 0, rfl, some rh, cell_at (hk1.get h1 id) rfl, mapPut mH kI (h3.keep hk1 id) fun w2 h3' hk2 hs2 => ?_⟩
  have hne : blk a1 ≠ some rh := fun he => by have := hn1 _ he; have := lt_of_get hes; omega
  have ho2 : Own w2 3 1 a1 n1 c1 (ints (T.all peer xs)) := ho1.keep hk2 (notIn_blk.2 fun b hb => by rintro rfl; exact hne hb)
  have hy2 : Ints w2 b m want := (hy.grew hk1).keep0 hk2 fun hw0 q hq => by rintro rfl; exact hb hw0 q hq h7
  refine PC.ok (vec_Cmp (ho2.ints hbig1 hr1) hy2) ?_
  rintro _ _ ⟨rfl, rfl⟩
  have h1' : w2.heap[p]? = some (.cells #[.int .i64 T.retry, .map (some ra), .map (some rh)] 52 (0, 0)) := hk2.get (hk1.get h1 id) hpr
  have h2' : MapAt w2 ra (Value.int .i64) la := (h2.keep hk1 id).keep hk2 h8
  refine ⟨_, rfl, ?_⟩
  -- the blocks now
  let F' : Nat → Prop := fun k => F k ∨ (w.heap.size ≤ k ∧ k < w1.heap.size)
  have hevo : Evo F w F' w2 := ⟨(hk1.keep (S := F)).trans hk2 (fun _ _ h => h) (by rintro k _ rfl; exact h7), fun k hk => hk.imp id (·.1)⟩
  have h5' : RelL (isSl w2 F') (aput lh peer (.slice a1 n1 c1)) (aput T.heard peer (T.all peer xs)) := by
    refine RelL.aput ⟨a1, n1, c1, rfl, ho2, hbig1, hr1, fun k hk => .inr ⟨hn1 k hk, ho1.lt hk⟩⟩ (h5.mono fun v ys hv => ?_)
    refine (hv.keep hk1 (F' := F) (fun _ _ _ _ h => h) (fun _ h => h)).keep hk2 (fun k _ _ ho => ?_) (fun _ h => .inl h)
    rintro rfl
    obtain ⟨o, ho, hne⟩ := ho
    rw [hk1.get hes id] at ho; cases ho; exact hne _ _ rfl
  have hdom : ∀ k, F' k → k < w2.heap.size := fun k hk => by
    rw [hs2]
    rcases hk with hk | hk
    · exact Nat.lt_of_lt_of_le (h.dom k hk) hk1.size
    · exact hk.2
  have hstay : TabAt w2 p F' { T with heard := aput T.heard peer (T.all peer xs) } :=
    ⟨⟨ra, rh, la, _, h1', h2', h3', h4, h5', .inl h6, .inl h7, h8⟩, .inl h.self, hdom, h.tidyA, h.keysA⟩
  have hopen : (aget la peer).isSome = (aget T.asked peer).isSome := by
    rcases h4.aget peer with ⟨e1, e2⟩ | ⟨v, u, e1, e2, _⟩ <;> rw [e1, e2] <;> rfl
  have hgd : ∃ k : Int, (aget la peer).getD (.int .i64 0) = .int .i64 k := by
    rcases h4.aget peer with ⟨e1, e2⟩ | ⟨v, u, e1, e2, hv⟩
    · rw [e1]; exact ⟨0, rfl⟩
    · rw [e1]; exact ⟨u, hv⟩
  obtain ⟨k0, hk0⟩ := hgd
  have no : T.ends peer xs want = false → Ok (fun v w' => ∃ F', v = .bool (T.ends peer xs want) ∧ TabAt w' p F' (T.hear peer xs want) ∧ Evo F w F' w') (.returned (.bool false)) w2 := fun he =>
    Ok.mk ⟨F', by rw [he], by unfold Tab.hear; rw [he]; exact hstay, hevo⟩
  have yes : ∀ w3, T.ends peer xs want = true → MapAt w3 ra (Value.int .i64) (adel la peer) → Keep (· = ra) w2 w3 → w3.heap.size = w2.heap.size →
      Ok (fun v w' => ∃ F', v = .bool (T.ends peer xs want) ∧ TabAt w' p F' (T.hear peer xs want) ∧ Evo F w F' w') (.returned (.bool true)) w3 := fun w3 he hm hk3 hs3 => by
    obtain ⟨es3, cl3, hes3⟩ : ∃ es cl, w2.heap[ra]? = some (.map es cl) := by obtain ⟨es, cl, h, _⟩ := h2'.at'; exact ⟨es, cl, h⟩
    refine Ok.mk ⟨F', by rw [he], ?_, hevo.keep.trans hk3 (fun _ _ h => h) (by rintro k _ rfl; exact h6), hevo.new⟩
    unfold Tab.hear
    rw [he]
    refine ⟨⟨ra, rh, _, _, hk3.get h1' hpa, hm, h3'.keep hk3 (Ne.symm h8), h4.adel, ?_, .inl h6, .inl h7, h8⟩, .inl h.self, fun k hk => by rw [hs3]; exact hdom k hk, h.tidyA.adel peer, fun q hq => h.keysA q (mem_adel_pair hq)⟩
    refine h5'.mono fun v ys hv => hv.keep hk3 (fun k _ _ ho => ?_) (fun _ h => h)
    rintro rfl
    obtain ⟨o, ho, hne⟩ := ho
    rw [hes3] at ho; cases ho; exact hne _ _ rfl
  refine ⟨fun w' => w2 = w' ∧ T.ends peer xs want = true, ⟨p, 0, rfl, some ra, cell_at h1' rfl, mapLookOk mA kI h2' ?_⟩, ?_⟩
  rotate_left
  · rintro _ _ ⟨rfl, he⟩
    exact ⟨p, 0, rfl, some ra, cell_at h1' rfl, mapDel mA kI h2' fun w3 hm hk3 hs3 => yes w3 he hm hk3 hs3⟩
  rw [hk0]
  refine ⟨k0, _, rfl, PIf.mk (fun ho => ?_) (fun ho => PIf.mk (fun h0 => PIf.mk (fun h2 => ?_) (fun h2 => ?_)) (fun h0 => ?_))⟩
  · refine no ?_
    have : (aget T.asked peer).isSome = false := by rw [← hopen]; simpa using ho
    simp [Tab.ends, this]
  · refine no ?_
    have a1 : (cmpv (T.all peer xs) want == 0) = false := by simpa [bne] using h0
    have a2 : (cmpv (T.all peer xs) want == 2) = false := by simpa [bne] using h2
    simp [Tab.ends, covers, a1, a2]
  · have he : T.ends peer xs want = true := by
      have a0 : (aget T.asked peer).isSome = true := by rw [← hopen]; simpa using ho
      have a2 : (cmpv (T.all peer xs) want == 2) = true := by simpa [bne] using h2
      simp [Tab.ends, covers, a0, a2]
    exact ⟨rfl, he⟩
  · have he : T.ends peer xs want = true := by
      have a0 : (aget T.asked peer).isSome = true := by rw [← hopen]; simpa using ho
      have a2 : (cmpv (T.all peer xs) want == 0) = true := by simpa [bne] using h0
      simp [Tab.ends, covers, a0, a2]
    exact ⟨rfl, he⟩

theorem Table_Vec {w : World} {p : Nat} {F : Nat → Prop} {T : Tab} {peer : Int} (h : TabAt w p F T) :
    Calls Try.prog F_session_Table_Vec #[.pointer (some ⟨p, 0, none⟩), .int .i64 peer] w (Ok (NewInts w 3 ((aget T.heard peer).getD []))) := by
  obtain ⟨ra, rh, la, lh, h1, h2, h3, h4, h5, h6, h7, h8⟩ := h.body
  obtain ⟨ha, hn, hc, hg, hI, hB, hF⟩ := TabAt.heardAt h5 peer
  refine L_session_Table_Vec ⟨p, 0, rfl, some rh, cell_at h1 rfl, mapLook mH kI h3 ⟨ha, hn, hc, hg, PC.ok (slices_Clone_I hI) ?_⟩⟩
  rintro _ w1 ⟨a, n, c, rfl, hr⟩
  exact ⟨a, n, c, rfl, Ok.mk ⟨a, n, c, rfl, hr⟩⟩

def Tab.open (T : Tab) : List Int := sortI (T.asked.map (·.1))

theorem Table_Open {w : World} {p : Nat} {F : Nat → Prop} {T : Tab} (h : TabAt w p F T) (hb : T.asked.length * 8 ≤ Big) :
    Calls Try.prog F_session_Table_Open #[.pointer (some ⟨p, 0, none⟩)] w (Ok (NewInts w 3 T.open)) := by
  obtain ⟨ra, rh, la, lh, h1, h2, h3, h4, h5, h6, h7, h8⟩ := h.body
  refine L_session_Table_Open ⟨p, 0, rfl, some ra, cell_at h1 rfl, PC.ok (φ := fun v w' => v = .func (.func 44) #[] #[.pointer (some ⟨w.heap.size, 0, none⟩)] ∧ Grew w w' ∧ w'.heap.size = w.heap.size + 1 ∧
    w'.heap[w.heap.size]? = some (.cells #[.map (some ra)] 49 (0, 0))) (L_maps_Keys_map_int_int_int_int (PA.mk fun w1 k1 s1 g1 => Ok.mk ⟨rfl, k1, s1, g1⟩)) ?_⟩
  rintro _ w1 ⟨rfl, k1, s1, g1⟩
  have hkeys : ∀ q ∈ la, I64 q.1 := by
    intro q hq
    have : q.1 ∈ T.asked.map (·.1) := by rw [← h4.keys]; exact List.mem_map.2 ⟨q, hq, rfl⟩
    obtain ⟨q', hq', he⟩ := List.mem_map.1 this
    rw [← he]; exact h.keysA q' hq'
  refine ⟨_, rfl, PC.ok (slices_Sorted_I (h2.grew k1) hkeys (by rw [h4.length]; exact hb) g1) ?_⟩
  rintro _ w2 ⟨a, n, c, rfl, ho, hk, hn⟩
  refine ⟨a, n, c, rfl, Ok.mk ⟨a, n, c, rfl, ?_, k1.grew hk, fun b hb => by have := hn b hb; omega⟩⟩
  unfold Tab.open
  rw [← h4.keys]
  exact ho

theorem Table_Clear {w : World} {p : Nat} {F : Nat → Prop} {T : Tab} (h : TabAt w p F T) :
    Calls Try.prog F_session_Table_Clear #[.pointer (some ⟨p, 0, none⟩)] w (Ok fun v w' => v = .tuple #[] ∧ TabAt w' p F ⟨T.retry, [], []⟩ ∧ Keep F w w') := by
  obtain ⟨ra, rh, la, lh, h1, h2, h3, h4, h5, h6, h7, h8⟩ := h.body
  obtain ⟨es, cl, hes⟩ : ∃ es cl, w.heap[rh]? = some (.map es cl) := by obtain ⟨es, cl, h, _⟩ := h3.at'; exact ⟨es, cl, h⟩
  obtain ⟨es2, cl2, hes2⟩ : ∃ es cl, w.heap[ra]? = some (.map es cl) := by obtain ⟨es, cl, h, _⟩ := h2.at'; exact ⟨es, cl, h⟩
  have hpr : p ≠ rh := by rintro rfl; rw [h1] at hes; cases hes
  have hpa : p ≠ ra := by rintro rfl; rw [h1] at hes2; cases hes2
  refine L_session_Table_Clear ⟨p, 0, rfl, some ra, cell_at h1 rfl, mapClear mA h2 fun w1 m1 k1 s1 => ⟨p, 0, rfl, some rh, cell_at (k1.get h1 hpa) rfl, mapClear mH (h3.keep k1 (Ne.symm h8)) fun w2 m2 k2 s2 => Ok.mk ⟨rfl,
    ⟨⟨ra, rh, [], [], k2.get (k1.get h1 hpa) hpr, m1.keep k2 h8, m2, trivial, trivial, h6, h7, h8⟩, h.self, fun b hb => by rw [s2, s1]; exact h.dom b hb, by simp [Tidy], by simp⟩, ?_⟩⟩⟩
  exact k1.trans k2 (by rintro k _ rfl; exact h6) (by rintro k _ rfl; exact h7)

/-- who is asked again: a fold over those open -/
def dueStep (retry now : Int) (s : List Int × List (Int × Int)) (peer : Int) : List Int × List (Int × Int) :=
  if IntKind.wrap .i64 (now - (aget s.2 peer).getD 0) ≥ retry then (s.1 ++ [peer], aput s.2 peer now) else s
def Tab.dueTo (T : Tab) (now : Int) (k : Nat) : List Int × List (Int × Int) := (T.open.take k).foldl (dueStep T.retry now) ([], T.asked)
def Tab.due (T : Tab) (now : Int) : List Int := (T.dueTo now T.open.length).1
def Tab.dueT (T : Tab) (now : Int) : Tab := { T with asked := (T.dueTo now T.open.length).2 }

theorem Tab.dueTo_succ (T : Tab) (now : Int) {k : Nat} {x : Int} (h : T.open[k]? = some x) : T.dueTo now (k + 1) = dueStep T.retry now (T.dueTo now k) x := by
  unfold Tab.dueTo
  rw [List.take_add_one, h]
  simp

theorem foldl_due_keys (retry now : Int) : ∀ (l : List Int) (s : List Int × List (Int × Int)), (∀ x ∈ l, I64 x) → (∀ q ∈ s.2, I64 q.1) → Tidy s.2 → (∀ q ∈ (l.foldl (dueStep retry now) s).2, I64 q.1) ∧ Tidy (l.foldl (dueStep retry now) s).2
  | [], s, _, h, ht => ⟨h, ht⟩
  | x :: l, s, hl, h, ht => by
    refine foldl_due_keys retry now l _ (fun y hy => hl y (List.mem_cons_of_mem _ hy)) ?_ ?_
    · unfold dueStep
      split
      · intro q hq
        rcases mem_aput_pair hq with rfl | hq
        · exact hl x (List.mem_cons_self ..)
        · exact h q hq
      · exact h
    · unfold dueStep
      split
      · exact ht.aput _ _
      · exact ht

theorem Table_Due {w : World} {p : Nat} {F : Nat → Prop} {T : Tab} {now : Int} (h : TabAt w p F T) (hb : T.asked.length * 8 ≤ Big) :
    Calls Try.prog F_session_Table_Due #[.pointer (some ⟨p, 0, none⟩), .int .i64 now] w
      (Ok fun v w' => ∃ a n c, v = .slice a n c ∧ Own w' 3 1 a n c (ints (T.due now)) ∧ TabAt w' p F (T.dueT now) ∧ Keep F w w' ∧ ∀ b, blk a = some b → w.heap.size ≤ b) := by
  refine L_session_Table_Due (PC.ok (Table_Open h hb) ?_)
  rintro _ w1 ⟨la, ln, lc, rfl, ho, hk, hn⟩
  have hoI : ∀ x ∈ T.open, I64 x := by
    intro x hx
    have : x ∈ T.asked.map (·.1) := (List.mergeSort_perm _ _).mem_iff.1 hx
    obtain ⟨q, hq, rfl⟩ := List.mem_map.1 this
    exact h.keysA q hq
  have hlen : ln = T.open.length := by have := ho.length; rw [ints_length, Nat.mul_one] at this; exact this.symm
  have hlen2 : T.open.length = T.asked.length := by simp [Tab.open, sortI]
  have hbl : ln * 8 ≤ Big := by rw [hlen, hlen2]; exact hb
  have hL : Ints w1 la ln T.open := ho.ints hbl hoI
  have hnF : notIn F la := notIn_blk.2 fun b hb hf => by have := hn b hb; have := h.dom b hf; omega
  unfold Big at hb
  have hnil : notIn F none := notIn.none
  refine ⟨la, ln, lc, rfl, fun m oa on oc i w2 => ∃ k : Nat, i = k ∧ k ≤ ln ∧ m = ln - k ∧ Own w2 3 1 oa on oc (ints (T.dueTo now k).1) ∧ on ≤ k ∧ TabAt w2 p F { T with asked := (T.dueTo now k).2 } ∧ Keep F w w2 ∧ Ints w2 la ln T.open ∧ w1.heap.size ≤ w2.heap.size ∧
      (∀ b, blk oa = some b → w1.heap.size ≤ b), ⟨_, 0, rfl, Nat.zero_le _, rfl, Own.nil _ _ _, Nat.zero_le _, h.grew hk, hk.keep, hL, Nat.le_refl _, by simp [blk]⟩, ?_⟩
  rintro m oa on oc i _ w2 ⟨k, rfl, hkn, rfl, hO, hon, hT, hK, hI, hws, hnb⟩
  refine PIf.mk (fun h1 => ?_) (fun h1 => ?_)
  · have h1 := of_decide_eq_true h1
    obtain ⟨b, off, x, rfl, hbw, hx, hxi, hc⟩ := hI.at (i := (k : Int)) (by omega) (by omega)
    rw [Int.toNat_natCast] at hx
    have hstep := T.dueTo_succ now hx
    obtain ⟨ra, rh, las, lh, t1, t2, t3, t4, t5, t6, t7, t8⟩ := hT.body
    refine ⟨b, off, rfl, by omega, by omega, x, hc, p, 0, rfl, some ra, cell_at t1 rfl, ?_⟩
    have hget : (aget las x).getD (.int .i64 0) = .int .i64 ((aget (T.dueTo now k).2 x).getD 0) := by
      rcases t4.aget x with ⟨e1, e2⟩ | ⟨v, u, e1, e2, hv⟩
      · rw [e1, e2]; rfl
      · rw [e1, e2]; exact hv
    refine ⟨(aget (T.dueTo now k).2 x).getD 0, fun j => ?_, p, 0, rfl, T.retry, cell_at t1 rfl, fun w3 hd => ?_⟩
    · have := lookup_run mA kI (t2.keep (Keep.drewN (S := fun _ => False) w2 j) id) x false
      simpa [hget] using this
    have hk3 : Grew w2 w3 := hd.keep
    refine PIf.mk (fun h2 => ?_) (fun h2 => ?_)
    · have h2 := of_decide_eq_true h2
      refine PA.mk fun w4 k4 s4 g4 => ?_
      refine app_int slInt ((hO.grew hk3).grew k4) g4 (by unfold Big at *; omega) fun a' c' w5 ho5 hk5 hl5 => ?_
      refine ⟨a', on + 1, c', rfl, p, 0, rfl, ?_⟩
      -- the table is apart from what is collected
      have hsep : ∀ b, F b → ¬ (some b = blk oa) := fun b hf he => by have := hnb b he.symm; have := h.dom b hf; have := hk.size; omega
      have hT5 : TabAt w5 p F { T with asked := (T.dueTo now k).2 } := ((hT.grew hk3).grew k4).keep hk5 hsep
      obtain ⟨ra', rh', las', lh', t1', t2', t3', t4', t5', t6', t7', t8'⟩ := hT5.body
      refine ⟨some ra', cell_at t1' rfl, mapPut mA kI t2' fun w6 hm6 hk6 hs6 => ?_⟩
      obtain ⟨es, cl, hes⟩ : ∃ es cl, w5.heap[ra']? = some (.map es cl) := by obtain ⟨es, cl, h, _⟩ := t2'.at'; exact ⟨es, cl, h⟩
      have hpr : p ≠ ra' := by rintro rfl; rw [t1'] at hes; cases hes
      have hT6 : TabAt w6 p F { T with asked := aput (T.dueTo now k).2 x now } := by
        refine ⟨⟨ra', rh', _, lh', hk6.get t1' hpr, hm6, t3'.keep hk6 (Ne.symm t8'), RelL.aput (R := isI) rfl t4', ?_, t6', t7', t8'⟩, hT5.self, fun b hb => by rw [hs6]; exact hT5.dom b hb, hT5.tidyA.aput _ _, ?_⟩
        · refine t5'.mono fun v ys hv => hv.keep hk6 (fun q _ _ ho => ?_) (fun _ h => h)
          rintro rfl
          obtain ⟨o, ho, hne⟩ := ho
          rw [hes] at ho; cases ho; exact hne _ _ rfl
        · intro q hq
          rcases mem_aput_pair hq with rfl | hq
          · exact hxi
          · exact hT5.keysA q hq
      have hstep2 : T.dueTo now (k + 1) = ((T.dueTo now k).1 ++ [x], aput (T.dueTo now k).2 x now) := by rw [hstep]; unfold dueStep; rw [if_pos h2]
      have hra6 : ∀ b, blk a' = some b → b ≠ ra' := fun b hb => by
        rintro rfl
        exact ho5.ne_map hes hb
      refine ⟨_, ?_, k + 1, ?_, by omega, rfl, ?_, by omega, by rw [hstep2]; exact hT6, ?_, ?_, ?_, ?_⟩
      · omega
      · rw [wrap_i64 (by unfold I64; omega)]; simp
      · rw [hstep2]; exact ho5.keep hk6 (notIn_blk.2 hra6)
      · refine (((hK.grew hk3).grew k4).new hk5 ?_).trans hk6 (fun _ _ h => h) (by rintro q _ rfl; exact t6')
        intro b hb; right; have := hnb b hb.symm; have := hk.size; omega
      · refine (((hI.grew hk3).grew k4).keep hk5 (notIn_blk.2 fun b hb he => ?_)).keep hk6 (notIn_blk.2 fun b hb => ?_)
        · have := hnb b he.symm; have := ho.lt hb; omega
        · rintro rfl; exact notIn_blk.1 hnF b hb t6'
      · have := hk3.size; have := k4.size; have := hk5.size; omega
      · intro b hb
        rcases hl5 with hl5 | hl5
        · exact hnb b (hl5 ▸ hb)
        · rw [hl5] at hb; cases hb; have := hk3.size; have := k4.size; omega
    · have h2 := of_decide_eq_false h2
      have hstep2 : T.dueTo now (k + 1) = T.dueTo now k := by rw [hstep]; unfold dueStep; rw [if_neg h2]
      refine ⟨_, ?_, k + 1, ?_, by omega, rfl, by rw [hstep2]; exact hO.grew hk3, by omega, by rw [hstep2]; exact hT.grew hk3, hK.grew hk3, hI.grew hk3, Nat.le_trans hws hk3.size, hnb⟩
      · omega
      · rw [wrap_i64 (by unfold I64; omega)]; simp
  · have h1 := of_decide_eq_false h1
    obtain rfl : k = ln := by omega
    refine Ok.mk ⟨oa, on, oc, rfl, ?_, ?_, hK, fun b hb => Nat.le_trans hk.size (hnb b hb)⟩
    · unfold Tab.due; rw [← hlen]; exact hO
    · unfold Tab.dueT; rw [← hlen]; exact hT
end Go.Proofs.Ytnfcddhabhbicaa
