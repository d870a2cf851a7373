/- compact.Clean and CompactClean -/
import Derived.Test.YtpbpjojdfcdbbaaGreatDoorCodeR
import Derived.Test.YtpbpjojdfcdbbaaGreatDoorMfAgain
import Derived.Test.YtpbpjojdfcdbbaaGreatDoorE1
import Derived.Test.YtpbpjojdfcdbbaaGreatDoorKitTexts
import Derived.Test.YtpbpjojdfcdbbaaGreatDoorKitEv
/- compact.Clean: the walk over the loose files -/
namespace Go.Proofs.YtpbpjojdfcdbbaaGreatDoor
open Go.Lift
set_option linter.unusedVariables false
set_option maxRecDepth 20000

def looseB (D : DiskV) (s : ByteArray) : Bool := decide (s = mTemp) || ((segNoV s).2 && !decide ((segNoV s).1 ∈ (mfTell D).getD []))
def looseL (D : DiskV) : List ByteArray := D.list.filter (looseB D)
def delL (D : DiskV) (L : List ByteArray) : DiskV := L.foldl (fun D s => (D.delete s).2) D
def cleanAll (D : DiskV) : DiskV := delL D (looseL D)
def strsV (L : List ByteArray) : List (List Value) := L.map fun s => [.string s]
def delV (D : DiskV) (pre : List (List Value)) : DiskV := pre.foldl (fun D vs => match vs with
  | [.string s] => (D.delete s).2
  | _ => D) D
theorem delV_strs : ∀ (L : List ByteArray) (D : DiskV), delV D (strsV L) = delL D L
  | [], D => rfl
  | s :: L, D => delV_strs L (D.delete s).2
theorem delV_snoc (D : DiskV) (pre : List (List Value)) (s : ByteArray) : delV D (pre ++ [[.string s]]) = ((delV D pre).delete s).2 := by
  unfold delV; rw [List.foldl_append]; rfl
theorem strs_snoc (L : List ByteArray) (s : ByteArray) : strsV (L ++ [s]) = strsV L ++ [[.string s]] := by unfold strsV; simp

theorem slices_IndexI {a : Option Addr} {n c : Nat} {l : List Int} {s : Int} {w : World} {D : Nat → Prop} (ha : Row cI64 8 w D a n l) :
    Calls Tryz.prog F_slices_Index_int_int #[.slice a n c, .int .i64 s] w (Ok fun v w' => (∃ t : Int, v = .int .i64 t ∧ (0 ≤ t ↔ s ∈ l)) ∧ w = w') := by
  have hl := ha.len; have hb := ha.big
  unfold Big at hb
  refine L_slices_Index_int_int ⟨fun m i w' => ∃ j : Nat, i = j ∧ j ≤ n ∧ m = n - j ∧ s ∉ l.take j ∧ w = w', ⟨_, 0, rfl, Nat.zero_le _, rfl, by simp, rfl⟩, ?_⟩
  rintro m i _ _ ⟨j, rfl, hj, rfl, hno, rfl⟩
  refine PIf.dec (fun h1 => ?_) (fun h1 => ?_)
  · obtain ⟨b, off, x, rfl, hx, _, hc⟩ := ha.at1 (i := j) (by omega)
    refine ⟨b, off, rfl, by omega, by omega, _, hc, PIf.eqI (fun he => ?_) (fun he => ?_)⟩
    · exact Ok.mk ⟨⟨_, rfl, fun _ => he ▸ List.mem_of_getElem? hx, fun _ => by omega⟩, rfl⟩
    · refine ⟨_, by omega, j + 1, wrap_succ (by omega), by omega, rfl, ?_, rfl⟩
      rw [List.take_add_one, hx]
      intro hm
      rcases List.mem_append.1 hm with h | h
      · exact hno h
      · simp at h; exact he h
  · rw [List.take_of_length_le (by omega)] at hno
    exact Ok.mk ⟨⟨_, rfl, fun h => by omega, fun h => absurd h hno⟩, rfl⟩
theorem slices_ContainsI {a : Option Addr} {n c : Nat} {l : List Int} {s : Int} {w : World} {D : Nat → Prop} (ha : Row cI64 8 w D a n l) :
    Calls Tryz.prog F_slices_Contains_int_int #[.slice a n c, .int .i64 s] w (Ok fun v w' => v = .bool (decide (s ∈ l)) ∧ w = w') := by
  refine L_slices_Contains_int_int (PC.ok (slices_IndexI ha) ?_)
  rintro _ _ ⟨⟨t, rfl, ht⟩, rfl⟩
  exact ⟨_, rfl, Ok.mk ⟨by rw [decide_eq_decide.2 ht], rfl⟩⟩

section
variable {w0 w w1 w' : World} {p : Nat} {D D' : DiskV} {X Y : Nat → Prop}
theorem NDisk.lt (h : NDisk w0 w p D X) : ∀ b, X b → b < w.heap.size := by obtain ⟨F, h1, h2, h3, h4⟩ := h; exact h4

theorem cmp_loose (h : NDisk w0 w p D X) (ht : Tabs w0) : Calls Tryz.prog F_compact_loose #[.pointer (some ⟨p, 0, none⟩)] w (Ok fun v w' => ∃ b2 b4 a n c, ∃ Y G : Nat → Prop, v = .func (.func F_compact_loose_1) #[] #[.pointer (some ⟨b2, 0, none⟩), .pointer (some ⟨b4, 0, none⟩)] ∧
    (∃ e f, w'.heap[b2]? = some (.cells #[.pointer (some ⟨p, 0, none⟩)] e f)) ∧ (∃ e f, w'.heap[b4]? = some (.cells #[.slice a n c] e f)) ∧ Lst cI64 3 G w' a n c ((mfTell D).getD []) ∧ Y b2 ∧ Y b4 ∧ (∀ b, G b → Y b) ∧ NDisk w0 w' p D (fun b => X b ∨ Y b) ∧ Grew w w') := by
  have hs0 := h.gr.size
  refine L_compact_loose (PA.mk fun w1 k1 s1 g1 => ⟨_, cell_at g1 rfl, PC.ok ((h.add k1 (Y := (· = w.heap.size)) fun b hb => ⟨by omega, by omega⟩).mfRead ht) ?_⟩)
  rintro _ w5 ⟨a, n, c, G, rfl, ho, hG, h5, k5⟩
  refine ⟨_, _, _, _, rfl, PA.mk fun w8 k8 s8 g8 => PS.mk g8 (by simp) fun w9 k9 s9 g9 => Ok.mk ⟨w.heap.size, w5.heap.size, a, n, c, fun b => (b = w.heap.size ∨ G b) ∨ b = w5.heap.size, G, rfl, ?_⟩⟩
  have z5 := k5.size
  have hne : w.heap.size ≠ w5.heap.size := by omega
  have hG5 : ∀ b, G b → b < w5.heap.size := ho.dom
  have h8 := h5.add k8 (Y := (· = w5.heap.size)) fun b hb => ⟨by omega, by omega⟩
  refine ⟨⟨_, _, k9.get (k8.get (k5.get g1 id) id) hne⟩, ⟨_, _, g9⟩, (ho.grew k8).keep k9 (fun b hb e => by have := hG5 b hb; omega), .inl (.inl rfl), .inr rfl, fun b hb => .inl (.inr hb), ?_, ?_⟩
  · refine h8.turn k9 (fun b hb => ⟨.inr hb, by omega⟩) fun b hb => ⟨.inl ?_, ?_⟩
    · rcases hb with hb | (hb | hb) | hb
      · exact .inl (.inl (.inl hb))
      · exact .inl (.inl (.inr hb))
      · exact .inl (.inr hb)
      · exact .inr hb
    · have := k9.size
      rcases hb with hb | (hb | hb) | hb
      · have := h.lt b hb; omega
      · omega
      · have := hG5 b hb; omega
      · omega
  · exact Keep.new ((k1.then k5).then k8) k9 fun b hb => .inr (by omega)

/-- in a round -/
def CJ (w0 w5 : World) (p : Nat) (D : DiskV) (X5 : Nat → Prop) (s : World × (Nat → Prop)) (pre : List (List Value)) (A : World) : Prop :=
  NDisk w0 A p (delV D pre) (fun b => (X5 b ∨ (w5.heap.size ≤ b ∧ b < w5.heap.size + 2)) ∨ s.2 b) ∧ Keep (Not' X5) w5 A ∧ Keep (Not' s.2) s.1 A ∧ ∀ b, s.2 b → w5.heap.size + 2 ≤ b

variable {w5 : World} {X5 : Nat → Prop} {s : World × (Nat → Prop)} {pre : List (List Value)} {A B : World}
theorem CJ.grew (h : CJ w0 w5 p D X5 s pre A) (hk : Grew A B) : CJ w0 w5 p D X5 s pre B := ⟨h.1.grew hk, h.2.1.grew hk, h.2.2.1.grew hk, h.2.2.2⟩
theorem CJ.turn (hg : Grew w0 w5) (h : CJ w0 w5 p D X5 s pre A) (ht : Turn (w5.heap.size + 1) A B) : CJ w0 w5 p D X5 s pre B := by
  obtain ⟨h1, h2, h3, h4⟩ := h
  obtain ⟨hk, hs⟩ := ht
  have := hg.size
  refine ⟨h1.turn hk (fun b hb => ⟨.inl (.inr ⟨by omega, by omega⟩), by omega⟩) fun b hb => ⟨.inl hb, by rw [hs]; exact h1.lt b hb⟩, h2.new hk fun b hb => .inr (by omega), h3.new hk fun b hb => .inl fun hz => ?_, h4⟩
  have := h4 b hz
  omega

theorem cmp_loose_1 {b2 b4 : Nat} {a : Option Addr} {n c : Nat} {G : Nat → Prop} {R : World → Prop} (hw : Laid w0) (hX5 : ∀ b, X5 b → b < w5.heap.size)
    (hb2 : ∃ e f, w5.heap[b2]? = some (.cells #[.pointer (some ⟨p, 0, none⟩)] e f)) (h2 : X5 b2) (hb4 : ∃ e f, w5.heap[b4]? = some (.cells #[.slice a n c] e f)) (h4 : X5 b4) (hl : Lst cI64 3 G w5 a n c ((mfTell D).getD [])) (hG : ∀ b, G b → X5 b)
    (hR : ∀ A B, R A → Keep (OffL w5) A B → R B)
    (hy : ∀ s pre vs A, CJ w0 w5 p D X5 s pre A → R A → TypedA [.string ⟨#[]⟩] vs → YieldW Tryz.prog (w5.heap.size + 1) vs A fun b A' => b = true ∧ CJ w0 w5 p D X5 s (pre ++ [vs]) A' ∧ R A')
    (hJ : CJ w0 w5 p D X5 (w5, no) [] w1) (hR1 : R w1) (hs1 : w5.heap.size + 2 ≤ w1.heap.size) :
    Calls Tryz.prog F_compact_loose_1 #[.func (.yield (w5.heap.size + 1)) #[] #[], .pointer (some ⟨b2, 0, none⟩), .pointer (some ⟨b4, 0, none⟩)] w1 (Ok fun v w' => R w' ∧ ∃ s, CJ w0 w5 p D X5 s (strsV (looseL D)) w') := by
  obtain ⟨e2, f2, hb2⟩ := hb2
  obtain ⟨e4, f4, hb4⟩ := hb4
  have h1 : NDisk w0 w1 p D _ := hJ.1
  refine L_compact_loose_1 ⟨_, cell_at (hJ.2.1.get hb2 fun hn => hn h2) rfl, PC.ok h1.list ?_⟩
  rintro _ w8 ⟨a8, n8, c8, F8, rfl, ho8, hF8, h8, k8⟩
  have hlen : D.list.length ≤ 64 := by rw [list_length']; exact h1.ok.many
  have hn8 := ho8.len (by decide)
  have hJ8 : CJ w0 w5 p D X5 (w8, F8) [] w8 := ⟨h8.mono fun b hb => hb.elim (fun h => .inl (.inl h)) .inr, hJ.2.1.grew k8, Keep.refl _, fun b hb => Nat.le_trans hs1 (hF8 b hb)⟩
  refine ⟨_, _, _, rfl, fun m i w' => ∃ j : Nat, i = j ∧ j ≤ n8 ∧ m = n8 - j ∧ CJ w0 w5 p D X5 (w8, F8) (strsV ((D.list.take j).filter (looseB D))) w' ∧ R w', ⟨_, 0, rfl, Nat.zero_le _, rfl, hJ8, hR _ _ hR1 (Grew.keep k8)⟩, ?_⟩
  rintro m i _ w15 ⟨j, rfl, hj, rfl, hj15, hR15⟩
  refine PIf.dec (fun hlt => ?_) (fun hge => ?_)
  · obtain ⟨b, off, s, rfl, hx, _, hc⟩ := ((ho8.keep hj15.2.2.1 fun b hb hn => hn hb).row (bytes := 16) (by decide) (by unfold Big; omega)).at1 (i := j) (by omega)
    refine ⟨b, off, rfl, by omega, by omega, _, hc, PC.ok (seg_Number (hw.grew hj15.1.gr)) ?_⟩
    rintro _ w20 ⟨rfl, k20⟩
    have hj20 := hj15.grew k20
    have hR20 := hR _ _ hR15 (Grew.keep k20)
    have ht : TypedA [.string ⟨#[]⟩] [.string s] := fun φ h => h s
    have hyes : looseB D s = true → (D.list.take (j + 1)).filter (looseB D) = (D.list.take j).filter (looseB D) ++ [s] := fun h => by
      rw [List.take_add_one, hx, List.filter_append]; simp [h]
    have hno : looseB D s = false → (D.list.take (j + 1)).filter (looseB D) = (D.list.take j).filter (looseB D) := fun h => by
      rw [List.take_add_one, hx, List.filter_append]; simp [h]
    refine ⟨_, _, rfl, PIf.eqS (fun he => ?_) (fun hne => PIf.mk (fun hs => ?_) (fun hs => ?_))⟩
    · refine ⟨_, rfl, (hy _ _ _ _ hj20 hR20 ht).mono ?_⟩
      rintro _ A' ⟨rfl, hj', hR'⟩
      refine PIf.ff rfl ⟨_, ?_, j + 1, wrap_succ (by omega), by omega, rfl, ?_, hR'⟩
      · omega
      · rw [hyes (by unfold looseB; rw [show s = mTemp from he]; simp), strs_snoc]; exact hj'
    · refine ⟨_, _, _, cell_at (hj20.2.1.get hb4 fun hn => hn h4) rfl, PC.ok (slices_ContainsI ((hl.keep hj20.2.1 fun b hb hn => hn (hG b hb)).row (bytes := 8) (by decide) (by have := mfTell_le (D := D); unfold Big; omega))) ?_⟩
      rintro _ _ ⟨rfl, rfl⟩
      refine ⟨_, rfl, PIf.mk (fun hc => ?_) (fun hc => ?_)⟩
      · refine ⟨_, rfl, (hy _ _ _ _ hj20 hR20 ht).mono ?_⟩
        rintro _ A' ⟨rfl, hj', hR'⟩
        refine PIf.ff rfl ⟨_, ?_, j + 1, wrap_succ (by omega), by omega, rfl, ?_, hR'⟩
        · omega
        · rw [hyes (by unfold looseB; rw [hs, hc]; simp), strs_snoc]; exact hj'
      · refine ⟨_, ?_, j + 1, wrap_succ (by omega), by omega, rfl, ?_, hR20⟩
        · omega
        · rw [hno (by unfold looseB; rw [hs, hc, decide_eq_false (show ¬ s = mTemp from hne)]; rfl)]; exact hj20
    · refine ⟨_, ?_, j + 1, wrap_succ (by omega), by omega, rfl, ?_, hR20⟩
      · omega
      · rw [hno (by unfold looseB; rw [hs, decide_eq_false (show ¬ s = mTemp from hne)]; rfl)]; exact hj20
  · rw [List.take_of_length_le (by omega)] at hj15
    exact Ok.mk ⟨hR15, _, hj15⟩

theorem cmp_Clean (hw : Laid w0) (h : NDisk w0 w p D X) : Calls Tryz.prog F_compact_Clean #[.pointer (some ⟨p, 0, none⟩)] w (Ok fun v w' => v = .tuple #[] ∧ NDisk w0 w' p (cleanAll D) X ∧ Keep (Not' X) w w') := by
  have hs0 := h.gr.size
  refine L_compact_Clean (PA.mk fun w1 k1 s1 g1 => ⟨_, cell_at g1 rfl, PC.ok (cmp_loose (h.add k1 (Y := (· = w.heap.size)) fun b hb => ⟨by omega, by omega⟩) hw.tabs) ?_⟩)
  rintro _ w5 ⟨b2, b4, a, n, c, Y, G, rfl, hb2, hb4, hl, hY2, hY4, hG, h5, k5⟩
  have g5 := k5.get g1 id
  have hg5 := h5.gr
  have z5 := k5.size
  refine ⟨_, rfl, F_compact_loose_1, _, rfl, by kernel_rfl, World × (Nat → Prop), (w5, no), CJ w0 w5 p D fun b => (X b ∨ b = w.heap.size) ∨ Y b, fun _ _ _ => False, fun _ _ => True, fun all => all = strsV (looseL D), ?_, fun s pre A B hj ht => hj.turn hg5 ht, fun _ _ _ _ h _ => h, ?_, ?_, ?_, trivial⟩
  · intro w6 k6 s6
    exact ⟨(h5.add k6 (Y := fun b => w5.heap.size ≤ b ∧ b < w5.heap.size + 2) fun b hb => ⟨hb.1, by omega⟩).mono fun b hb => hb.elim id False.elim, Grew.keep k6, Grew.keep k6, fun b hb => hb.elim⟩
  · intro s pre A hj hsz t10 _
    refine ⟨Keep.refl _, fun w12 ht => ?_⟩
    obtain ⟨j1, j2, j3, j4⟩ := hj.turn hg5 ht
    refine ⟨_, cell_at (j2.get g5 fun hn => hn (.inl (.inr rfl))) rfl, PC.ok j1.delete ?_⟩
    rintro _ w15 ⟨rfl, h15, k15⟩
    refine ⟨_, rfl, k15.mono fun b _ hn => ⟨fun e => hn (.inl (.inr ⟨by omega, by omega⟩)), fun e => hn (.inl (.inr ⟨by omega, by omega⟩))⟩, ?_⟩
    show CJ _ _ _ _ _ _ _ _
    refine ⟨by rw [delV_snoc]; exact h15, j2.new k15 fun b hn => .inl fun hx => hn (.inl (.inl hx)), j3.new k15 fun b hn => .inl fun hx => hn (.inr hx), j4⟩
  · intro R Rx hR _ hRs hy w6 hj6 hR6
    refine Calls.mono (cmp_loose_1 (R := R) hw h5.lt hb2 (.inr hY2) hb4 (.inr hY4) hl (fun b hb => .inr (hG b hb)) hR (fun s pre vs A hj hRA ht => (hy s pre vs A hj hRA ht trivial).mono ?_) hj6 hR6 (hRs _ hR6)) ?_
    · rintro b A' (h | ⟨-, x, h, -⟩)
      · exact h
      · exact h.elim
    · rintro _ A' ⟨v, rfl, hR', s, hj'⟩
      exact ⟨⟨v, rfl⟩, .inl ⟨hR', s, _, hj', rfl⟩⟩
  · rintro s _ A ⟨j1, j2, j3, j4⟩ rfl hm
    refine ⟨hm, fun w18 ⟨k18, s18⟩ => Ok.mk ⟨rfl, ?_, ?_⟩⟩
    · rw [delV_strs] at j1
      exact (j1.turn k18 (fun b hb => ⟨.inl (.inr ⟨by omega, by omega⟩), by have := hg5.size; omega⟩) fun b hb => ⟨.inl hb, by rw [s18]; exact j1.lt b hb⟩).mono fun b hb => .inl (.inl (.inl (.inl hb)))
    · exact Keep.new (Keep.new (Grew.keep (k1.then k5)) j2 fun b hn => .inl fun hx => hn (.inl (.inl hx))) k18 fun b hb => .inr (by omega)
end
end Go.Proofs.YtpbpjojdfcdbbaaGreatDoor

/- compact.Clean, in plain Lean: what is left -/
namespace Go.Proofs.YtpbpjojdfcdbbaaGreatDoor
open Go.Lift
set_option linter.unusedVariables false
set_option maxRecDepth 20000

section
variable {D E : DiskV} {A : Segs} {no : Int} {l : List EventV} {k : Nat}
theorem Held.there (h : Held D A no l k) : ∀ m ∈ nums A ++ [no], ∃ f, aget D.files (segNm m) = some f := fun m hm => by
  rcases List.mem_append.1 hm with hm | hm
  · obtain ⟨x, hx, rfl⟩ := List.mem_map.1 hm
    exact ⟨_, h.full x hx⟩
  · obtain rfl : m = no := by simpa using hm
    obtain ⟨s, h1, -⟩ := h.last
    exact ⟨_, h1⟩
theorem held_create (h : Held D A no l k) (n : ByteArray) : Held (D.create n).2 A no l k := by
  rcases create_eff D n with ⟨-, e⟩ | ⟨-, -, e1, e2⟩
  · exact h.files e
  · refine h.same (by rw [e2]; exact h.tidy.aput _ _) (fun m hm => ?_) ?_
    · obtain ⟨f, hf⟩ := h.there m hm
      rw [e2, aget_aput, if_neg]
      intro e; rw [beq_iff_eq.1 e, e1] at hf; cases hf
    · rw [e2, aget_aput, if_neg]
      intro e; rw [← beq_iff_eq.1 e, h.man] at e1; cases e1
theorem held_del (h : Held D A no l k) {n : ByteArray} (h1 : ∀ m ∈ nums A ++ [no], segNm m ≠ n) (h2 : mName ≠ n) : Held (D.delete n).2 A no l k := by
  rcases delete_eff D n with e | e
  · exact h.files e
  · refine h.same (by rw [e]; exact h.tidy.adel _) (fun m hm => ?_) ?_
    · rw [e, aget_adel h.tidy, if_neg (by simpa using h1 m hm)]
    · rw [e, aget_adel h.tidy, if_neg (by simpa using h2)]
theorem delL_held : ∀ (L : List ByteArray) {D : DiskV}, (∀ s ∈ L, (∀ m ∈ nums A ++ [no], segNm m ≠ s) ∧ mName ≠ s) → Held D A no l k → Held (delL D L) A no l k
  | [], D, _, h => h
  | s :: L, D, hs, h => delL_held L (D := (D.delete s).2) (fun t ht => hs t (List.mem_cons_of_mem _ ht)) (held_del h (hs s (List.mem_cons_self ..)).1 (hs s (List.mem_cons_self ..)).2)
theorem delL_alive : ∀ (L : List ByteArray) {D : DiskV}, Alive D → Alive (delL D L)
  | [], D, h => h
  | s :: L, D, h => delL_alive L (h.delete s).1
theorem delL_get : ∀ (L : List ByteArray) {D : DiskV}, Alive D → Tidy D.files → ∀ s, aget (delL D L).files s = if s ∈ L then none else aget D.files s
  | [], D, _, _, s => by simp [delL]
  | t :: L, D, ha, ht, s => by
    show aget (delL (D.delete t).2 L).files s = _
    obtain ⟨h1, h2⟩ := ha.delete t
    have ht2 : Tidy (D.delete t).2.files := by
      rcases delete_eff D t with e | e
      · rw [e]; exact ht
      · rw [e]; exact ht.adel _
    have e : aget (D.delete t).2.files s = if s = t then none else aget D.files s := by
      rcases h2 with e | ⟨e0, e⟩
      · rw [e, aget_adel ht]; simp
      · rw [e]; split
        · rename_i h; rw [h, e0]
        · rfl
    rw [delL_get L h1 ht2 s, e]
    by_cases hs : s ∈ L
    · simp [hs]
    · by_cases hst : s = t <;> simp [hs, hst]

theorem Held.tell (h : Held D A no l k) (ha : Alive D) : mfTell D = some (nums A ++ [no]) :=
  by
  have hr : ∀ x ∈ nums A ++ [no], I64 x := fun x hx => by have := h.rng x hx; unfold I64; omega
  have hl : (nums A ++ [no]).length ≤ 64 := by have := h.many; simpa [nums] using this
  unfold mfTell
  rw [ha.read h.man, if_neg (by simp), show (fullF (mfBytes (nums A ++ [no]))).bytes = mfBytes (nums A ++ [no]) from rfl, mfRead_bytes hr hl]
theorem mName_temp : mName ≠ mTemp := by decide +kernel
theorem cln (h : Held D A no l k) (ha : Alive D) : Held (cleanAll D) A no l k ∧ Alive (cleanAll D) ∧ mfTell (cleanAll D) = some (nums A ++ [no]) ∧ (∀ s ∈ (cleanAll D).list, s ≠ mTemp ∧ ((segNoV s).2 = true → (segNoV s).1 ∈ nums A ++ [no])) ∧ cleanAll (cleanAll D) = cleanAll D := by
  have ht := h.tell ha
  have hH : Held (cleanAll D) A no l k := delL_held _ (fun s hs => by
    have hb := (List.mem_filter.1 hs).2
    unfold looseB at hb
    rw [ht] at hb
    refine ⟨fun m hm e => ?_, fun e => ?_⟩
    · have hr := h.rng m hm
      subst e
      rw [segNoV_nm (by omega), decide_eq_false (segNm_ne (n := m) (.inr (by omega))).2] at hb
      simp only [Option.getD_some, decide_eq_true hm] at hb
      simp at hb
    · subst e
      rw [decide_eq_false mName_temp, mName_no] at hb
      simp at hb) h
  have hA : Alive (cleanAll D) := delL_alive _ ha
  have hm := hH.tell hA
  have hl : ∀ s ∈ (cleanAll D).list, looseB (cleanAll D) s = false := fun s hs => by
    have h1 := mem_list'.1 hs
    unfold cleanAll at h1
    rw [delL_get _ ha h.tidy] at h1
    by_cases h2 : s ∈ looseL D
    · rw [if_pos h2] at h1; simp at h1
    · rw [if_neg h2] at h1
      have e : looseB (cleanAll D) s = looseB D s := by unfold looseB; rw [hm, ht]
      rw [e]
      cases hb : looseB D s with
      | false => rfl
      | true => exact absurd (List.mem_filter.2 ⟨mem_list'.2 h1, hb⟩) h2
  refine ⟨hH, hA, hm, fun s hs => ?_, ?_⟩
  · have hb := hl s hs
    unfold looseB at hb
    rw [hm] at hb
    simp only [Option.getD_some, Bool.or_eq_false_iff, decide_eq_false_iff_not, Bool.and_eq_false_iff, Bool.not_eq_false', decide_eq_true_eq] at hb
    exact ⟨hb.1, fun h2 => hb.2.resolve_left (by simp [h2])⟩
  · have e : looseL (cleanAll D) = [] := List.filter_eq_nil_iff.2 fun s hs => by simp [hl s hs]
    show delL (cleanAll D) (looseL (cleanAll D)) = _
    rw [e]; rfl
theorem open4000 (size : Int) : (logOpen (newD 4000) size).no = 0 := by
  rw [open_new_eq]
  show (begin2 ⟨size, [], 0, 1⟩ (newD 4000)).1 = 0
  have e : (begin2 ⟨1, [], 0, 1⟩ (newD 4000)).1 = 0 := by decide +kernel
  exact (show (begin2 ⟨size, [], 0, 1⟩ (newD 4000)).1 = (begin2 ⟨1, [], 0, 1⟩ (newD 4000)).1 by
    unfold begin2 begin3
    dsimp only
    repeat' (first | rfl | split)).trans e
end
end Go.Proofs.YtpbpjojdfcdbbaaGreatDoor

/- CompactClean: the walk -/
namespace Go.Proofs.YtpbpjojdfcdbbaaGreatDoor
open Go.Lift
set_option linter.unusedVariables false
set_option maxRecDepth 20000

section
variable {w0 w w1 w' : World} {p q : Nat} {D D' : DiskV} {V V' : LogV} {X Y Z G S : Nat → Prop}
theorem NLog.createC {s : ByteArray} (h : NLog w0 w p q V D X) : Calls Tryz.prog F_vdisk_Disk_Create #[.pointer (some ⟨p, 0, none⟩), .string s] w (Ok fun v w' => v = .int .i64 (D.create s).1 ∧ NLog w0 w' p q V (D.create s).2 X ∧ Keep (Not' X) w w') := by
  obtain ⟨G, h1, h2, h3⟩ := h
  refine Calls.ok h1.create ?_
  rintro v w' ⟨hv, hD, hk⟩
  exact ⟨hv, ⟨G, hD, h2.keep hk fun b hb hn => hn (.inr hb), h3⟩, hk.mono fun b _ hb hx => hb (.inl hx)⟩
theorem NLog.cleanC (hw : Laid w0) (h : NLog w0 w p q V D X) : Calls Tryz.prog F_compact_Clean #[.pointer (some ⟨p, 0, none⟩)] w (Ok fun v w' => v = .tuple #[] ∧ NLog w0 w' p q V (cleanAll D) X ∧ Keep (Not' X) w w') := by
  obtain ⟨G, h1, h2, h3⟩ := h
  refine Calls.ok (cmp_Clean hw h1) ?_
  rintro v w' ⟨hv, hD, hk⟩
  exact ⟨hv, ⟨G, hD, h2.keep hk fun b hb hn => hn (.inr hb), h3⟩, hk.mono fun b _ hb hx => hb (.inl hx)⟩
end

theorem law23_Beside {n : Int} {w : World} (hn : I64 n) : Calls Tryz.prog F_law23_Beside #[.int .i64 n] w (Ok fun v w' => ∃ s, v = .string s ∧ Grew w w') := by
  refine L_law23_Beside (PA.mk fun w1 k1 s1 g1 => PC.ok (kit_Pick (by unfold I64; omega)) ?_)
  rintro _ _ ⟨rfl, rfl⟩
  have hp := pick_range (k := n) (n := ((8 : Nat) : Int)) (by omega)
  generalize pick n ((8 : Nat) : Int) = P at hp ⊢
  obtain ⟨j, rfl⟩ : ∃ j : Nat, P = j := ⟨P.toNat, by omega⟩
  refine ⟨_, rfl, _, _, rfl, by omega, by omega, ?_⟩
  obtain rfl | rfl | rfl | rfl | rfl | rfl | rfl | rfl : j = 0 ∨ j = 1 ∨ j = 2 ∨ j = 3 ∨ j = 4 ∨ j = 5 ∨ j = 6 ∨ j = 7 := by omega
  all_goals exact ⟨_, cell_at g1 rfl, Ok.mk ⟨_, rfl, k1⟩⟩

theorem CompactClean {size : Int} {la ba : Option Addr} {ln lc bn bc : Nat} {l : List EventV} {x : List Int} {w : World} {Dl Dx : Nat → Prop} (hsz : I64 size) (ha : Row cEv 96 w Dl la ln l) (hDl : ∀ b, Dl b → b < w.heap.size) (hb : Row cI64 8 w Dx ba bn x) (hw : Laid w) :
    Calls Tryz.prog F_law23_CompactClean #[.int .i64 size, .slice la ln lc, .slice ba bn bc] w (Ok fun v w' => v = .bool true ∧ Grew w w') := by
  have hb0 := hb.len; have hb1 := hb.big
  unfold Big at hb1
  refine L_law23_CompactClean (PC.ok (law09_Long ha) ?_)
  rintro _ _ ⟨rfl, rfl⟩
  refine ⟨_, rfl, PIf.dec (fun h => fin23 hw (Keep.refl _)) (fun hlong => PC.ok (law23_fit hw ha hDl (by omega)) ?_)⟩
  rintro _ w2 ⟨xs1, a1, n1, c1, F1, rfl, ho1, hx1l, hx1, -, -, g2⟩
  have hL2 := hw.grew g2
  have r1 : Row cEv 96 w2 F1 a1 n1 xs1 := ho1.row (by decide) (by unfold Big; omega)
  have hn1 := r1.len
  have hc1 : n1 ≤ c1 := ho1.cap_le
  refine ⟨_, _, _, rfl, PC.ok (new_ok (Keep.refl w2) (by omega) (by omega)) ?_⟩
  rintro _ w3 ⟨p, rfl, h3, -⟩
  replace h3 := h3.mono (Y := no) fun _ h => h.elim
  refine ⟨_, _, rfl, PIf.ff rfl (eq_nil_ptr uD ⟨_, rfl, PIf.ff rfl (PC.ok (kit_Pick (by unfold I64; omega)) ?_)⟩)⟩
  rintro _ _ ⟨rfl, rfl⟩
  generalize pick size 300 = sz
  refine ⟨_, rfl, PC.ok (log_Open (size := sz) hL2 h3) ?_⟩
  have h0 := open4000 sz
  rintro _ w4 (⟨hne, -⟩ | ⟨-, q, a4, n4, c4, G4, rfl, ho4, h4, -, -, -, -⟩)
  · exact absurd h0 hne
  obtain ⟨hwell, hout⟩ := well_new h0
  replace h4 := h4.mono (Y := no) fun _ h => h.elim
  rw [show Int.toNat 4000 = 4000 from rfl] at h4
  generalize logOpen (newD 4000) sz = r0 at h4 hwell
  refine ⟨_, _, _, _, _, rfl, PIf.ff rfl (eq_nil_ptr uL ⟨_, rfl, PIf.ff rfl ⟨fun m aa an ac i w' => ∃ (j : Nat) (W : List EventV) (V : LogV) (D : DiskV) (A : Segs) (no : Int) (l : List EventV) (k : Nat) (F : Nat → Prop), i = j ∧ j ≤ n1 ∧ m = n1 - j ∧ Lst cEv 39 F w' aa an ac W ∧ (∀ b, blk aa = some b → w2.heap.size ≤ b) ∧ W.length ≤ j ∧
      Well V D A no l k ∧ evsOf A l = W ∧ NLog w2 w' p q V D F,
    ⟨_, 0, [], r0.V, r0.D, [], 1, [], 0, fun _ => False, rfl, Nat.zero_le _, rfl, Lst.nil w4, (fun b h => by cases h), Nat.zero_le _, hwell, rfl, h4⟩, ?_⟩⟩)⟩
  rintro m aa an ac i _ w5 ⟨j, W, V, D, A, no1, l', k, F, rfl, hj, rfl, ho5, haa, hWl, hwl, hWe, h5⟩
  refine PIf.dec (fun hlt => ?_) (fun hge => ?_)
  · have e1 : IntKind.wrap .i64 ((j : Int) + 1) = ((j + 1 : Nat) : Int) := wrap_succ (by omega)
    rw [e1]
    have hpart : Row cEv 96 w5 F1 (subA a1 j c1 10) (j + 1 - j) ((xs1.take (j + 1)).drop j) := (r1.grew h5.gr).part (by omega) (by omega) hc1
    obtain ⟨b, off, e, es, rfl, hbl, _, hx, hc, a6, n6, c6, rfl, hd, heok⟩ := (r1.grew h5.gr).atN (i := j) (by omega)
    have hsub : (xs1.take (j + 1)).drop j = [e] := by
      rw [List.take_add_one, hx, List.drop_append_of_le_length (by simp; omega), List.drop_of_length_le (by simp; omega)]; rfl
    rw [hsub] at hpart
    have hg5 := h5.gr
    refine ⟨by omega, by omega, by omega, PC.ok (log_Append hL2 h5 (by rw [hwl.v.segs]; simp) hpart (fun b hb => by have := ho1.dom b hb; have := hg5.size; omega) (by simp)) ?_⟩
    rintro _ w6 ⟨rfl, h6, k6⟩
    have hwa := hwl.append (x := [e]) (fun y hy => by simp at hy; subst hy; exact heok) (by simp) h5.ok
    generalize logAppend V D [e] = r at h6 hwa
    obtain ⟨-, -, A', no', l'', k'', hwl', -, hev'⟩ := hwa
    have ho6 := ho5.keep k6 fun b hb hn => hn hb
    refine ⟨_, rfl, PIf.eqI (fun h0 => ?_) (fun hne => ?_)⟩
    · rw [if_pos h0] at hev'
      have hg6 := h6.gr
      obtain ⟨b', off', e', es', hb', _, hF1, hx', hc', a7, n7, c7, rfl, hd', heok'⟩ := (r1.grew hg6).atN (i := j) (by omega)
      cases hb'
      rw [hx] at hx'; cases hx'
      have e2 := fun i (hi : i < 10) => hc' i hi
      refine ⟨b, off, rfl, by omega, by omega, _, _, _, _, _, _, _, _, _, _, _, _, e2 0 (by decide), e2 1 (by decide), e2 2 (by decide), e2 3 (by decide), e2 4 (by decide), e2 5 (by decide), e2 6 (by decide), e2 7 (by decide), e2 8 (by decide), e2 9 (by decide), ?_⟩
      refine papp2 ho6 slEv (x := e) (D := F1) ⟨a7, n7, c7, rfl, hd', heok'⟩ (fun b hb => ⟨by have := ho1.dom b hb; have := hg6.size; omega, fun hc => by have := haa b hc; have := ho1.dom b hb; omega⟩) (by unfold Big; omega) (by unfold maxLen; omega) fun a8 c8 w8 F8 ho8 hk8 hF8 hs8 => ?_
      refine ⟨_, _, _, rfl, n1 - (j + 1), by omega, j + 1, W ++ [e], r.2.1, r.2.2, A', no', l'', k'', F8, rfl, by omega, rfl, ho8, ?_, by simp; omega, hwl', by rw [hev', hWe], ?_⟩
      · intro b hb
        rcases hs8 b hb with h | h
        · exact haa b h
        · have := hg6.size; omega
      · refine h6.turn0 hk8 (fun b hb => ⟨ho6.self b hb, haa b hb⟩) fun b hb => ⟨?_, ho8.dom b hb⟩
        rcases hF8 b hb with h' | h' | h'
        · exact .inl h'
        · exact .inr (.inl (ho1.dom b h'))
        · exact .inr (.inr h')
    · rw [if_neg hne] at hev'
      exact ⟨n1 - (j + 1), by omega, j + 1, W, r.2.1, r.2.2, A', no', l'', k'', F, rfl, by omega, rfl, ho6, haa, by omega, hwl', hev'.trans hWe, h6⟩
  obtain rfl : j = n1 := by omega
  refine ⟨fun w' => ∃ D', NLog w2 w' p q V D' F ∧ Held D' A no1 l' k ∧ Alive D' ∧ Lst cEv 39 F w' aa an ac W, ⟨fun m i w' => ∃ j : Nat, i = j ∧ j ≤ bn ∧ m = bn - j ∧ ∃ D', NLog w2 w' p q V D' F ∧ Held D' A no1 l' k ∧ Alive D' ∧ Lst cEv 39 F w' aa an ac W,
    ⟨_, 0, rfl, Nat.zero_le _, rfl, D, h5, hwl.held, hwl.alive, ho5⟩, ?_⟩, ?_⟩
  · rintro m i _ w6 ⟨j, rfl, hj, rfl, D6, h6, hH6, hA6, ho6⟩
    refine PIf.dec (fun hlt => PIf.dec (fun h20 => ?_) (fun _ => ⟨D6, h6, hH6, hA6, ho6⟩)) (fun _ => ⟨D6, h6, hH6, hA6, ho6⟩)
    obtain ⟨b, off, y, rfl, hy, hyr, hc⟩ := (hb.grew (g2.then h6.gr)).at1 (i := j) (by omega)
    refine ⟨b, off, rfl, by omega, by omega, _, hc, PC.ok (law23_Beside hyr) ?_⟩
    rintro _ w7 ⟨s, rfl, k7⟩
    refine ⟨_, rfl, PC.ok ((h6.grew k7).createC) ?_⟩
    rintro _ w8 ⟨rfl, h8, k8⟩
    refine ⟨_, rfl, bn - (j + 1), by omega, j + 1, wrap_succ (by omega), by omega, rfl, _, h8, held_create hH6 s, (hA6.create s).1, (ho6.grew k7).keep k8 fun b hb hn => hn hb⟩
  rintro _ w6 ⟨D6, h6, hH6, hA6, ho6⟩
  obtain ⟨hHE, hAE, hmE, hlE, hcE⟩ := cln hH6 hA6
  refine PC.ok (h6.cleanC hL2) ?_
  rintro _ w7 ⟨rfl, h7, k7⟩
  have ho7 := ho6.keep k7 fun b hb hn => hn hb
  generalize cleanAll D6 = E at hHE hAE hmE hlE hcE h7
  have hO := open_still (size := 300) hHE hAE.dead
  have hlen : E.list.length ≤ 64 := by rw [list_length']; exact h7.disk.ok.many
  have hsl : (nums A ++ [no1]).length ≤ 64 := by have := hHE.many; simpa [nums] using this
  refine ⟨rfl, PC.ok (h7.disk.mfRead hL2.tabs) ?_⟩
  rintro _ w8 ⟨a8, n8, c8, G8, rfl, ho8, -, -, k8⟩
  rw [hmE] at ho8 ⊢
  change Lst cI64 3 G8 w8 a8 n8 c8 (nums A ++ [no1]) at ho8
  have hwV := hwl.v.segs
  generalize nums A ++ [no1] = L at ho8 hmE hlE hO hsl hwV
  refine ⟨_, _, _, _, rfl, PA.mk fun w9 k9 s9 g9 => PS.mk g9 (by simp) fun w10 k10 s10 g10 => ?_⟩
  have k810 : Grew w8 w10 := Keep.new k9 k10 fun b hb => .inr (by omega)
  refine PC.ok ((h7.grew (k8.then k810)).disk.list) ?_
  rintro _ w11 ⟨a11, n11, c11, F11, rfl, ho11, -, h11, k11⟩
  have hn11 := ho11.len (by decide)
  refine ⟨_, _, _, rfl, fun w12 hd12 => ⟨no, PIf.ff rfl ?_⟩⟩
  have k12 : Grew w11 w12 := Drew.keep hd12
  have g12 := k12.get (k11.get g10 id) id
  refine ⟨id, _, _, _, cell_at g12 rfl, PC.ok (h7.grew ((k8.then k810).then (k11.then k12))).segments ?_⟩
  rintro _ w13 ⟨a13, n13, c13, F13, rfl, ho13, k13, -⟩
  have g13 := k13.get g12 id
  have rM : Row cI64 8 w13 G8 a8 n8 L := ((ho8.grew k810).grew ((k11.then k12).then k13)).row (by decide) (by unfold Big; omega)
  have hn8 := rM.len
  refine ⟨_, _, _, rfl, k13, PC.ok (kit_SameIntsR rM (ho13.row (by decide) (by rw [hwV]; unfold Big; omega))) ?_⟩
  rintro _ w14 ⟨rfl, hd14⟩
  have k14 : Grew w13 w14 := Drew.keep hd14
  have k1114 : Grew w11 w14 := (k12.then k13).then k14
  refine ⟨_, rfl, k14, PIf.ff (by simp [hwV]) ⟨fun m i w' => ∃ j : Nat, i = j ∧ j ≤ n11 ∧ m = n11 - j ∧ Grew w14 w', ⟨_, 0, rfl, Nat.zero_le _, rfl, Keep.refl _⟩, ?_⟩⟩
  rintro m i _ w15 ⟨j, rfl, hj, rfl, k15⟩
  have k1115 := k1114.then k15
  have hNm : Lst cStr 9 F11 w15 a11 n11 c11 E.list := ho11.grew k1115
  refine PIf.dec (fun hlt => ?_) (fun hge => ?_)
  · obtain ⟨b, off, s, rfl, hx, _, hc⟩ := (hNm.row (bytes := 16) (by decide) (by unfold Big; omega)).at1 (i := j) (by omega)
    obtain ⟨hs1, hs2⟩ := hlE s (List.mem_of_getElem? hx)
    refine ⟨b, off, rfl, by omega, by omega, _, hc, PC.ok (seg_Number (hL2.grew (h11.grew k1115).gr)) ?_⟩
    rintro _ w16 ⟨rfl, k16⟩
    have g16 := ((k14.then k15).then k16).get g13 id
    have rM16 := rM.grew ((k14.then k15).then k16)
    refine ⟨_, _, rfl, fun m th k w' => ∃ i : Nat, k = i ∧ i ≤ n8 ∧ m = n8 - i ∧ th = (!(segNoV s).2 || decide ((segNoV s).1 ∈ L.take i)) ∧ w16 = w', ⟨_, 0, rfl, Nat.zero_le _, rfl, by simp, rfl⟩, ?_⟩
    rintro m th k _ _ ⟨i, rfl, hi, rfl, hth, rfl⟩
    refine ⟨_, _, _, cell_at g16 rfl, PIf.dec (fun hlt2 => PIf.mk (fun ht => ?_) (fun ht => ?_)) (fun hge2 => ?_)⟩
    · refine ⟨n8 - (i + 1), by omega, i + 1, wrap_succ (by omega), by omega, rfl, ?_, rfl⟩
      rw [hth] at ht
      symm
      simp only [Bool.or_eq_true, decide_eq_true_eq] at ht ⊢
      exact ht.imp id fun h => by rw [List.take_add_one]; exact List.mem_append_left _ h
    · obtain ⟨b2, off2, y, rfl, hy, _, hc2⟩ := rM16.at1 (i := i) (by omega)
      refine ⟨_, _, _, cell_at g16 rfl, b2, off2, rfl, by omega, by omega, _, hc2, n8 - (i + 1), by omega, i + 1, wrap_succ (by omega), by omega, rfl, ?_, rfl⟩
      rw [hth] at ht
      simp only [Bool.or_eq_false_iff, decide_eq_false_iff_not] at ht
      rw [ht.1, Bool.false_or, List.take_add_one, hy, Bool.eq_iff_iff, beq_iff_eq, decide_eq_true_eq]
      constructor
      · intro h; exact List.mem_append_right _ (by simp [h])
      · intro h
        rcases List.mem_append.1 h with h | h
        · exact absurd h ht.2
        · simp at h; exact h.symm
    · have hth1 : th = true := by
        rw [hth, List.take_of_length_le (by omega)]
        cases hs : (segNoV s).2 with
        | false => rfl
        | true => simp [hs2 hs]
      refine PIf.ff (by rw [hth1]; rfl) ⟨b, off, rfl, by omega, by omega, _, k16.cell' id hc, PIf.eqS (fun he => absurd he hs1) (fun _ => ?_)⟩
      exact ⟨n11 - (j + 1), by omega, j + 1, wrap_succ (by omega), by omega, rfl, k15.then k16⟩
  · refine PC.ok (cmp_Clean hL2 (h11.grew k1115)) ?_
    rintro _ w17 ⟨rfl, h17, k17⟩
    rw [hcE] at h17
    refine ⟨rfl, PC.ok h17.list ?_⟩
    rintro _ w18 ⟨a18, n18, c18, F18, rfl, ho18, -, h18, k18⟩
    have hNm18 := (hNm.keep k17 fun b hb hn => hn (.inr hb)).grew k18
    refine ⟨_, _, _, rfl, PC.ok (kit_SameTexts (ho18.row (by decide) (by unfold Big; omega)) (hNm18.row (by decide) (by unfold Big; omega))) ?_⟩
    rintro _ w19 ⟨rfl, hd19⟩
    have k19 : Grew w18 w19 := Drew.keep hd19
    refine ⟨_, rfl, PIf.ff (by simp) (PC.ok (log_Open (size := 300) hL2 (h18.grew k19)) ?_)⟩
    have hAll := (((ho7.grew (k8.then k810)).grew (k11.then k1115)).keep k17 fun b hb hn => hn (.inl hb)).grew (k18.then k19)
    rw [hO]
    rintro _ w20 (⟨hne, -⟩ | ⟨-, q6, a6, n6, c6, G6, rfl, ho20, h20, k20, -, -, -⟩)
    · exact absurd rfl hne
    refine ⟨_, _, _, _, _, rfl, PIf.tt rfl (PC.ok (kit_SameEvents (lst_evs ho20 (by show (evsOf A l').length ≤ _; rw [hWe]; omega)) ((hAll.keep k20 fun b hb hn => hn (.inl (.inl hb))).row (by decide) (by unfold Big; omega))) ?_)⟩
    rintro _ w21 ⟨rfl, k21⟩
    exact ⟨_, rfl, PIf.tt (by simp [hWe]) (fin23 hw ((g2.then h20.gr).then k21))⟩
end Go.Proofs.YtpbpjojdfcdbbaaGreatDoor
