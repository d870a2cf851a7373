/- quaysideref19: a file goes, a file is laid in its place -/
import Derived.Test.YticehdfebghloaaRefD2
namespace Go.Proofs.Yticehdfebghloaa
open Go.Lift
set_option linter.unusedVariables false
set_option maxRecDepth 20000

theorem PIf.ltS {x y : ByteArray} {X Y : Prop} (h1 : ltK x y → X) (h2 : ¬ ltK x y → Y) : PIf (Op.bytesLess (ByteArray.toList x) (ByteArray.toList y)) X Y := by
  rw [bytesLess_ltK]; exact PIf.dec h1 h2

theorem DiskV.Fit.del {D : DiskV} (h : D.Fit) (k : ByteArray) : (D.delF k).Fit := by
  have hl := length_adel D.files k
  have hs := sumLen_adel (l := D.files) (k := k)
  have hf := h.fits
  have hm := h.many
  unfold DiskV.used at hf
  exact ⟨h.most, by show sumLen (adel D.files k) ≤ D.most; omega, by show (adel D.files k).length ≤ 64; omega, h.tidy.adel k, fun x hx => h.syn x (mem_adel_pair hx)⟩

section
variable {w w' : World} {p : Nat} {F S : Nat → Prop} {D : DiskV} {a : Option Addr} {n cap : Nat} {L : List RB}

/-- another list -/
theorem RefL.swap (h : RefL w p F D a n cap L) {w1 : World} (hk : Grew w w1) {a' : Option Addr} {n' cap' : Nat} {L' : List RB} {G : Nat → Prop} {fs : List (ByteArray × FileV)} (hl : Lst cBox 73 G w1 a' n' cap' L') (hfr : ∀ b, blk a' = some b → w.heap.size ≤ b)
    (each' : ∀ x ∈ L', Lst cU8 5 x.2.F w1 x.2.a x.2.n x.2.c x.2.f.bytes) (apart' : ∀ x ∈ L', ∀ y ∈ L', x.1 ≠ y.1 → ∀ b, x.2.F b → ¬ y.2.F b) (inF' : ∀ x ∈ L', ∀ b, x.2.F b → ((F b ∧ b ≠ p) ∨ w.heap.size ≤ b) ∧ blk a' ≠ some b)
    (sorted' : L'.Pairwise fun x y => ltK x.1 y.1) (same' : ∀ q, q ∈ L'.map rF ↔ q ∈ fs) {κ : World → Prop} (hκ : ∀ w2, RefL w2 p (fun b => F b ∨ (w.heap.size ≤ b ∧ b < w1.heap.size)) (D.withF fs) a' n' cap' L' → Keep (· = p) w w2 → Keep (· = p) w1 w2 → w2.heap.size = w1.heap.size → κ w2) : PS w1 ⟨p, 0 + 2, none⟩ (.slice a' n' cap') κ := by
  have hpl := lt_of_get h.head
  refine PS.mk (hk.get h.head id) (by simp) fun w2 k2 s2 g2 => hκ w2 ⟨g2, hl.alone.keep k2 (fun b hb e => by have := hfr b hb; omega), fun x hx => (each' x hx).keep k2 (fun b hb e => ?_), apart', fun x hx b hb => ?_, fun b hb => ?_, sorted', same', .inl h.self, fun b hb => ?_⟩ (hk.keep.then k2) k2 s2
  · rcases (inF' x hx b hb).1 with h1 | h1
    · exact h1.2 e
    · omega
  · refine ⟨?_, ?_, (inF' x hx b hb).2⟩
    · rcases (inF' x hx b hb).1 with h1 | h1
      · exact .inl h1.1
      · exact .inr ⟨h1, (each' x hx).dom b hb⟩
    · rcases (inF' x hx b hb).1 with h1 | h1
      · exact h1.2
      · omega
  · have h1 := hfr b hb
    exact ⟨.inr ⟨h1, hl.dom b (hl.self b hb)⟩, by omega⟩
  · rcases hb with hb | hb
    · have := h.dom b hb; have := hk.size; omega
    · omega

theorem ref_drop (h : RefL w p F D a n cap L) (hf : D.Fit) {k : ByteArray} : Calls Try.prog F_ref19_Disk_drop #[.pointer (some ⟨p, 0, none⟩), .string k] w
    (Ok fun v w' => v = .tuple #[] ∧ ∃ a' n' cap' F', RefL w' p F' (D.delF k) a' n' cap' (L.filter fun y => y.1 != k) ∧ Keep (· = p) w w' ∧ (∀ b, F' b → F b ∨ w.heap.size ≤ b) ∧ (∀ b, F b → F' b) ∧ ∀ b, blk a' = some b → w.heap.size ≤ b) := by
  have hn := h.n_eq; have hl := h.length hf; have hm := hf.many
  refine L_ref19_Disk_drop ⟨fun m oa on oc i w' => ∃ (j : Nat) (G : Nat → Prop), i = (j : Int) ∧ j ≤ n ∧ m = n - j ∧ Lst cBox 73 G w' oa on oc ((L.take j).filter fun y => y.1 != k) ∧ Grew w w' ∧ ∀ b, G b → w.heap.size ≤ b,
    ⟨_, 0, fun _ => False, rfl, Nat.zero_le _, rfl, by simpa using Lst.nil w, Keep.refl _, fun _ h => h.elim⟩, ?_⟩
  rintro m oa on oc i _ w1 ⟨j, G, rfl, hj, rfl, ho, hk, hG⟩
  have h1 := h.grew hk
  refine ⟨p, 0, rfl, a, n, cap, cell_at h1.head rfl, PIf.dec (fun hlt => ?_) (fun hge => ?_)⟩
  · obtain ⟨b, off, x, rfl, hx, hxm, c0, c1, c2, c3⟩ := h1.at hf (i := j) (by omega)
    have htl : ((L.take j).filter fun y => y.1 != k).length ≤ 64 := by
      have := List.length_filter_le (fun y : RB => y.1 != k) (L.take j)
      rw [List.length_take] at this
      omega
    have hst : (L.take (j + 1)).filter (fun y => y.1 != k) = (L.take j).filter (fun y => y.1 != k) ++ [x].filter (fun y => y.1 != k) := by
      rw [List.take_add_one, hx]; simp [List.filter_append]
    refine ⟨p, 0, rfl, _, n, cap, cell_at h1.head rfl, b, off, rfl, by omega, by omega, x.1, c0, PIf.neS (fun hne => ?_) (fun he => ⟨_, by omega, j + 1, G, wrap_succ (by omega), by omega, rfl, ?_, hk, hG⟩)⟩
    · refine ⟨p, 0, rfl, _, n, cap, cell_at h1.head rfl, b, off, rfl, by omega, by omega, x.1, _, _, _, _, _, c0, c1, c2, c3, papp ho slFile (x := x) (D := fun _ => False) ⟨rfl, trivial⟩ (fun _ h => h.elim) (by unfold Big; omega) (by unfold maxLen; omega) fun a' c' w3 F' ho3 hk3 hF3 _ => ?_⟩
      refine ⟨_, _, _, rfl, n - (j + 1), by omega, j + 1, F', wrap_succ (by omega), by omega, rfl, ?_, hk.new hk3 fun b hb => .inr (hG b (ho.self b hb)), ?_⟩
      · rw [hst]
        simpa [hne] using ho3
      · intro b hb
        rcases hF3 b hb with h | h | h
        · exact hG b h
        · exact h.elim
        · exact Nat.le_trans hk.size h
    · rw [hst]
      simpa [he] using ho
  · obtain rfl : j = n := by omega
    rw [List.take_of_length_le (by omega)] at ho
    have hmem : ∀ y ∈ L.filter (fun y => y.1 != k), y ∈ L ∧ y.1 ≠ k := fun y hy => by
      have := List.mem_filter.1 hy
      exact ⟨this.1, by simpa using this.2⟩
    have hdom := h.dom
    refine ⟨p, 0, rfl, h.swap hk (fs := adel D.files k) ho (fun b hb => hG b (ho.self b hb)) (fun x hx => h1.each x (hmem x hx).1) (fun x hx y hy => h.apart x (hmem x hx).1 y (hmem y hy).1)
      (fun x hx b hb => ⟨.inl ⟨(h.inF x (hmem x hx).1 b hb).1, (h.inF x (hmem x hx).1 b hb).2.1⟩, fun e => ?_⟩) (h.sorted.filter _) (fun q => ?_) fun w2 hR2 k02 k12 s2 => Ok.mk ⟨rfl, _, _, _, _, hR2, k02, fun b hb => hb.imp id (·.1), fun b hb => .inl hb, fun b hb => hG b (ho.self b hb)⟩⟩
    · have := hG b (ho.self b e)
      have := hdom b (h.inF x (hmem x hx).1 b hb).1
      omega
    · rw [mem_adel2 hf.tidy, ← h.same]
      constructor
      · intro hq
        obtain ⟨y, hy, rfl⟩ := List.mem_map.1 hq
        exact ⟨List.mem_map.2 ⟨y, (hmem y hy).1, rfl⟩, (hmem y hy).2⟩
      · rintro ⟨hq, hne⟩
        obtain ⟨y, hy, rfl⟩ := List.mem_map.1 hq
        exact List.mem_map.2 ⟨y, List.mem_filter.2 ⟨hy, by have hne' : y.1 ≠ k := hne; simpa using hne'⟩, rfl⟩

/-! what is laid -/
def lowB (k : ByteArray) (y : RB) : Bool := decide (ltK y.1 k)
def hiB (k : ByteArray) (y : RB) : Bool := decide (ltK k y.1)
def layV (z : RB) (l : List RB) : List RB := if l.any (hiB z.1) then l.filter (lowB z.1) ++ z :: l.filter (hiB z.1) else l.filter (lowB z.1)
def layM (z : RB) (l : List RB) (y : RB) : List RB := if l.any (hiB z.1) = false ∧ ltK z.1 y.1 then layV z l ++ [z] else layV z l

theorem filter_hi_nil {k : ByteArray} {l : List RB} (h : l.any (hiB k) = false) : l.filter (hiB k) = [] := by
  rw [List.filter_eq_nil_iff]
  intro y hy
  rw [List.any_eq_false] at h
  exact h y hy

theorem layV_step (z : RB) (l : List RB) (y : RB) (hs : ∀ u ∈ l, ltK u.1 y.1) : layV z (l ++ [y]) = if y.1 = z.1 then layM z l y else layM z l y ++ [y] := by
  cases hA : l.any (hiB z.1) with
  | true =>
    obtain ⟨u, hu, hz⟩ := List.any_eq_true.1 hA
    have hzy : ltK z.1 y.1 := ltK_trans (of_decide_eq_true hz) (hs u hu)
    have hyz : ¬ ltK y.1 z.1 := fun h => ltK_irrefl _ (ltK_trans h hzy)
    have hne : ¬ y.1 = z.1 := fun e => ltK_irrefl _ (e ▸ hzy)
    have e1 : hiB z.1 y = true := decide_eq_true hzy
    have e2 : lowB z.1 y = false := decide_eq_false hyz
    rw [if_neg hne]
    unfold layM layV
    simp [hA, List.filter_append, e1, e2]
  | false =>
    have hn := filter_hi_nil hA
    by_cases hzy : ltK z.1 y.1
    · have hyz : ¬ ltK y.1 z.1 := fun h => ltK_irrefl _ (ltK_trans h hzy)
      have hne : ¬ y.1 = z.1 := fun e => ltK_irrefl _ (e ▸ hzy)
      have e1 : hiB z.1 y = true := decide_eq_true hzy
      have e2 : lowB z.1 y = false := decide_eq_false hyz
      rw [if_neg hne]
      unfold layM layV
      simp [hA, List.filter_append, e1, e2, hn, hzy]
    · have e1 : hiB z.1 y = false := decide_eq_false hzy
      by_cases hyz : ltK y.1 z.1
      · have hne : ¬ y.1 = z.1 := fun e => ltK_irrefl _ (e ▸ hyz)
        have e2 : lowB z.1 y = true := decide_eq_true hyz
        rw [if_neg hne]
        unfold layM layV
        simp [hA, List.filter_append, e1, e2, hn, hzy]
      · have he : y.1 = z.1 := ltK_tri hyz hzy
        have e2 : lowB z.1 y = false := decide_eq_false hyz
        rw [if_pos he]
        unfold layM layV
        simp [hA, List.filter_append, e1, e2, hn, hzy]

theorem layV_length (z : RB) (l : List RB) : (layV z l).length ≤ l.length + 1 := by
  have h : ∀ l : List RB, (l.filter (lowB z.1)).length + (l.filter (hiB z.1)).length ≤ l.length := by
    intro l
    induction l with
    | nil => simp
    | cons y l ih =>
      simp only [List.filter_cons]
      by_cases h1 : ltK y.1 z.1
      · have h2 : ¬ ltK z.1 y.1 := fun h => ltK_irrefl _ (ltK_trans h h1)
        simp [lowB, hiB, h1, h2] at ih ⊢; omega
      · by_cases h2 : ltK z.1 y.1
        · simp [lowB, hiB, h1, h2] at ih ⊢; omega
        · simp [lowB, hiB, h1, h2] at ih ⊢; omega
  have := h l
  unfold layV
  split
  · simp; omega
  · omega
theorem layM_length (z : RB) (l : List RB) (y : RB) : (layM z l y).length ≤ l.length + 2 := by
  have := layV_length z l
  unfold layM
  split
  · simp; omega
  · omega

def laid (z : RB) (l : List RB) : List RB := l.filter (lowB z.1) ++ z :: l.filter (hiB z.1)
theorem mem_laid {z : RB} {l : List RB} {y : RB} : y ∈ laid z l ↔ y = z ∨ (y ∈ l ∧ y.1 ≠ z.1) := by
  unfold laid
  simp only [List.mem_append, List.mem_cons, List.mem_filter]
  constructor
  · rintro (⟨h1, h2⟩ | rfl | ⟨h1, h2⟩)
    · exact .inr ⟨h1, ltK_ne (of_decide_eq_true h2)⟩
    · exact .inl rfl
    · exact .inr ⟨h1, (ltK_ne (of_decide_eq_true h2)).symm⟩
  · rintro (rfl | ⟨h1, h2⟩)
    · exact .inr (.inl rfl)
    · by_cases hl : ltK y.1 z.1
      · exact .inl ⟨h1, decide_eq_true hl⟩
      · by_cases hh : ltK z.1 y.1
        · exact .inr (.inr ⟨h1, decide_eq_true hh⟩)
        · exact absurd (ltK_tri hl hh) h2
theorem sorted_laid {z : RB} {l : List RB} (h : l.Pairwise fun x y => ltK x.1 y.1) : (laid z l).Pairwise fun x y => ltK x.1 y.1 := by
  unfold laid
  refine List.pairwise_append.2 ⟨h.filter _, List.pairwise_cons.2 ⟨fun y hy => of_decide_eq_true (List.mem_filter.1 hy).2, h.filter _⟩, fun x hx y hy => ?_⟩
  have h1 : ltK x.1 z.1 := of_decide_eq_true (List.mem_filter.1 hx).2
  rcases List.mem_cons.1 hy with rfl | hy
  · exact h1
  · exact ltK_trans h1 (of_decide_eq_true (List.mem_filter.1 hy).2)

theorem ref_lay (h : RefL w p F D a n cap L) (hf : D.Fit) {k : ByteArray} {x : RBox} (hx : Lst cU8 5 x.F w x.a x.n x.c x.f.bytes) (hap : ∀ y ∈ L, y.1 ≠ k → ∀ b, x.F b → ¬ y.2.F b) (hin : ∀ b, x.F b → F b ∧ b ≠ p) :
    Calls Try.prog F_ref19_Disk_lay #[.pointer (some ⟨p, 0, none⟩), .agg #[.string k, .slice x.a x.n x.c, .int .i64 x.f.synced, .bool x.f.good]] w (Ok fun v w' => v = .tuple #[] ∧ ∃ F', RefAt w' p F' (D.setF k x.f) ∧ Evo F w F' w') := by
  have hn := h.n_eq; have hl := h.length hf; have hm := hf.many
  have hdom := h.dom
  refine L_ref19_Disk_lay (PA.mk fun w1 k1 s1 g1 => ?_)
  refine ⟨fun m oa on oc ld i w' => ∃ (j : Nat) (G : Nat → Prop), i = (j : Int) ∧ j ≤ n ∧ m = n - j ∧ ld = (L.take j).any (hiB k) ∧ Lst cBox 73 G w' oa on oc (layV (k, x) (L.take j)) ∧ Grew w1 w' ∧ ∀ b, G b → w1.heap.size ≤ b,
    ⟨_, 0, fun _ => False, rfl, Nat.zero_le _, rfl, by simp, by simpa [layV] using Lst.nil w1, Keep.refl _, fun _ h => h.elim⟩, ?_⟩
  rintro m oa on oc ld i _ w2 ⟨j, G, rfl, hj, rfl, rfl, ho, hk, hG⟩
  have h2 := (h.grew k1).grew hk
  have g2 := hk.get g1 id
  -- the end
  have fin : ∀ {w3 : World} {a' : Option Addr} {n' c' : Nat} {G' : Nat → Prop}, Lst cBox 73 G' w3 a' n' c' (laid (k, x) L) → Grew w1 w3 → (∀ b, G' b → w1.heap.size ≤ b) →
      PS w3 ⟨p, 0 + 2, none⟩ (.slice a' n' c') fun w4 => Ok (fun v w' => v = .tuple #[] ∧ ∃ F', RefAt w' p F' (D.setF k x.f) ∧ Evo F w F' w') (.returned (.tuple #[])) w4 := by
    intro w3 a' n' c' G' ho3 hk3 hG3
    have k03 : Grew w w3 := k1.grew hk3
    refine h.swap k03 (fs := aput D.files k x.f) ho3 (fun b hb => by have := hG3 b (ho3.self b hb); omega) (fun y hy => ?_) (fun y hy u hu hne b hb hbu => ?_) (fun y hy b hb => ?_) (sorted_laid h.sorted) (fun q => ?_) fun w4 hR4 k04 k34 s4 => Ok.mk ⟨rfl, _, ⟨_, _, _, _, hR4⟩, k04.mono fun b _ hb => hb ▸ h.self, fun b hb => hb.imp id (·.1)⟩
    · rcases mem_laid.1 hy with rfl | ⟨hy, hne⟩
      · exact hx.grew k03
      · exact (h.each y hy).grew k03
    · rcases mem_laid.1 hy with rfl | ⟨hy, hny⟩ <;> rcases mem_laid.1 hu with rfl | ⟨hu, hnu⟩
      · exact hne rfl
      · exact hap u hu hnu b hb hbu
      · exact hap y hy hny b hbu hb
      · exact h.apart y hy u hu hne b hb hbu
    · have hFb : F b ∧ b ≠ p := by
        rcases mem_laid.1 hy with rfl | ⟨hy, hny⟩
        · exact hin b hb
        · exact ⟨(h.inF y hy b hb).1, (h.inF y hy b hb).2.1⟩
      exact ⟨.inl hFb, fun e => by have := hG3 b (ho3.self b e); have := hdom b hFb.1; omega⟩
    · rw [mem_aput2 hf.tidy, ← h.same]
      constructor
      · intro hq
        obtain ⟨y, hy, rfl⟩ := List.mem_map.1 hq
        rcases mem_laid.1 hy with rfl | ⟨hy, hny⟩
        · exact .inl rfl
        · exact .inr ⟨List.mem_map.2 ⟨y, hy, rfl⟩, hny⟩
      · rintro (rfl | ⟨hq, hne⟩)
        · exact List.mem_map.2 ⟨(k, x), mem_laid.2 (.inl rfl), rfl⟩
        · obtain ⟨y, hy, rfl⟩ := List.mem_map.1 hq
          exact List.mem_map.2 ⟨y, mem_laid.2 (.inr ⟨hy, hne⟩), rfl⟩
  have hlv := layV_length (k, x) (L.take j)
  have hlt' : (L.take j).length ≤ 64 := by rw [List.length_take]; omega
  refine ⟨p, 0, rfl, a, n, cap, cell_at h2.head rfl, PIf.dec (fun hlt => ?_) (fun hge => ?_)⟩
  · obtain ⟨b, off, y, hab, hy, hym, -⟩ := h2.at hf (i := j) (by omega)
    have hsy : ∀ u ∈ L.take j, ltK u.1 y.1 := by
      intro u hu
      have hsp : L = L.take j ++ y :: L.drop (j + 1) := by
        have := List.take_append_drop j L
        rw [List.drop_eq_getElem_cons (by omega)] at this
        have e : L[j]'(by omega) = y := by
          have := (List.getElem?_eq_some_iff.1 hy).2
          exact this
        rw [e] at this
        exact this.symm
      have hso := h.sorted
      rw [hsp] at hso
      exact (List.pairwise_append.1 hso).2.2 u hu y (List.mem_cons_self ..)
    have hstep := layV_step (k, x) (L.take j) y hsy
    have htk : L.take (j + 1) = L.take j ++ [y] := by rw [List.take_add_one, hy]; rfl
    have hany : (L.take (j + 1)).any (hiB k) = ((L.take j).any (hiB k) || hiB k y) := by rw [htk]; simp
    have hlm := layM_length (k, x) (L.take j) y
    refine ⟨fun oa on oc ld w' => ld = (L.take (j + 1)).any (hiB k) ∧ ∃ G : Nat → Prop, Lst cBox 73 G w' oa on oc (layM (k, x) (L.take j) y) ∧ Grew w1 w' ∧ ∀ b, G b → w1.heap.size ≤ b, ?_, ?_⟩
    · refine PIf.not (PIf.mk (fun hld => fun w3 hd3 => ⟨?_, G, ?_, hk.grew hd3.keep, hG⟩) (fun hld => ?_))
      · rw [hany, hld]; rfl
      · have : layM (k, x) (L.take j) y = layV (k, x) (L.take j) := by unfold layM; rw [if_neg (by rintro ⟨e, -⟩; rw [hld] at e; cases e)]
        rw [this]; exact ho.grew hd3.keep
      · obtain ⟨b, off, y', rfl, hy', hym', c0, c1, c2, c3⟩ := h2.at hf (i := j) (by omega)
        rw [hy] at hy'; cases hy'
        refine ⟨k, cell_at g2 rfl, p, 0, rfl, _, n, cap, cell_at h2.head rfl, b, off, rfl, by omega, by omega, y.1, c0, fun w3 hd3 => PIf.ltS (fun hlt2 => ?_) (fun hge2 => ?_)⟩
        · have g3 := (hd3.keep (S := fun _ => False)).get g2 id
          refine ⟨k, x.a, x.n, x.c, _, _, cell_at g3 rfl, cell_at g3 rfl, cell_at g3 rfl, cell_at g3 rfl, papp (ho.grew hd3.keep) slFile (x := (k, x)) (D := fun _ => False) ⟨rfl, trivial⟩ (fun _ h => h.elim) (by unfold Big; omega) (by unfold maxLen; omega) fun a' c' w4 F' ho4 hk4 hF4 _ => ?_⟩
          refine ⟨_, _, _, rfl, ?_, F', ?_, (hk.grew hd3.keep).new hk4 fun b hb => .inr (hG b (ho.self b hb)), ?_⟩
          · rw [hany, hld, Bool.false_or]; exact (decide_eq_true hlt2).symm
          · have : layM (k, x) (L.take j) y = layV (k, x) (L.take j) ++ [(k, x)] := by unfold layM; rw [if_pos ⟨hld, hlt2⟩]
            rw [this]; exact ho4
          · intro b hb
            rcases hF4 b hb with h | h | h
            · exact hG b h
            · exact h.elim
            · have := hk.size; have := (hd3.keep (S := fun _ => False)).size; omega
        · refine ⟨?_, G, ?_, hk.grew hd3.keep, hG⟩
          · rw [hany, hld, Bool.false_or]; exact (decide_eq_false hge2).symm
          · have : layM (k, x) (L.take j) y = layV (k, x) (L.take j) := by unfold layM; rw [if_neg (fun e => hge2 e.2)]
            rw [this]; exact ho.grew hd3.keep
    · rintro oa3 on3 oc3 ld3 B3 w3 ⟨rfl, G3, ho3, hk3, hG3⟩
      have h3 := (h.grew k1).grew hk3
      have g3 := hk3.get g1 id
      obtain ⟨b, off, y', rfl, hy', hym', c0, c1, c2, c3⟩ := h3.at hf (i := j) (by omega)
      rw [hy] at hy'; cases hy'
      refine ⟨p, 0, rfl, _, n, cap, cell_at h3.head rfl, b, off, rfl, by omega, by omega, y.1, c0, k, cell_at g3 rfl, fun w4 hd4 => PIf.neS (fun hne => ?_) (fun he => ?_)⟩
      · have hd4' : Grew w3 w4 := hd4.keep
        have h4 := h3.grew hd4'
        obtain ⟨b4, off4, y4, hb4, hy4, hym4, d0, d1, d2, d3⟩ := h4.at hf (i := j) (by omega)
        rw [hy] at hy4; cases hy4
        cases hb4
        refine ⟨p, 0, rfl, _, n, cap, cell_at h4.head rfl, b, off, rfl, by omega, by omega, y.1, _, _, _, _, _, d0, d1, d2, d3, papp (ho3.grew hd4') slFile (x := y) (D := fun _ => False) ⟨rfl, trivial⟩ (fun _ h => h.elim) (by unfold Big; omega) (by unfold maxLen; omega) fun a' c' w5 F' ho5 hk5 hF5 _ => ?_⟩
        refine ⟨_, _, _, rfl, n - (j + 1), by omega, j + 1, F', wrap_succ (by omega), by omega, rfl, rfl, ?_, (hk3.grew hd4').new hk5 fun b hb => .inr (hG3 b (ho3.self b hb)), ?_⟩
        · rw [htk, hstep, if_neg hne]; exact ho5
        · intro b hb
          rcases hF5 b hb with h | h | h
          · exact hG3 b h
          · exact h.elim
          · have := hk3.size; have := hd4'.size; omega
      · refine ⟨n - (j + 1), by omega, j + 1, G3, wrap_succ (by omega), by omega, rfl, rfl, ?_, hk3.grew hd4.keep, hG3⟩
        rw [htk, hstep, if_pos he]; exact ho3.grew hd4.keep
  · obtain rfl : j = n := by omega
    have htk : L.take j = L := List.take_of_length_le (by omega)
    rw [htk] at ho hlv hlt'
    rw [htk]
    refine PIf.not (PIf.mk (fun hld => ⟨p, 0, rfl, fin (G' := G) ?_ hk hG⟩) (fun hld => ?_))
    · have : laid (k, x) L = layV (k, x) L := by unfold laid layV; rw [if_pos hld]
      rw [this]; exact ho
    · refine ⟨k, x.a, x.n, x.c, _, _, cell_at g2 rfl, cell_at g2 rfl, cell_at g2 rfl, cell_at g2 rfl, papp ho slFile (x := (k, x)) (D := fun _ => False) ⟨rfl, trivial⟩ (fun _ h => h.elim) (by unfold Big; omega) (by unfold maxLen; omega) fun a' c' w4 F' ho4 hk4 hF4 _ => ?_⟩
      refine ⟨_, _, _, rfl, p, 0, rfl, fin (G' := F') ?_ (hk.new hk4 fun b hb => .inr (hG b (ho.self b hb))) ?_⟩
      · have : laid (k, x) L = layV (k, x) L ++ [(k, x)] := by
          unfold laid layV
          rw [if_neg (by rw [hld]; simp)]
          have := filter_hi_nil hld
          show _ ++ (k, x) :: L.filter (hiB k) = _
          rw [this]
        rw [this]; exact ho4
      · intro b hb
        rcases hF4 b hb with h | h | h
        · exact hG b h
        · exact h.elim
        · have := hk.size; omega
end
end Go.Proofs.Yticehdfebghloaa
