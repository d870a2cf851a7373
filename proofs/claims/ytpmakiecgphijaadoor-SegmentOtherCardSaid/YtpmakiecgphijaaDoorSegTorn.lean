/- SegmentTorn: the walk -/
import Derived.Test.YtpmakiecgphijaaDoorSegBack
import Derived.Test.YtpmakiecgphijaaDoorPick
namespace Go.Lift
open Go
theorem evFrs_snoc (l : List EventV) {j : Nat} {x : EventV} (h : l[j]? = some x) : evFrs (l.take (j + 1)) = evFrs (l.take j) ++ evFr x := by
  rw [List.take_add_one, h, evFrs_append]
  congr 1
  simp [evFrs]
theorem torn_uniq {l : List EventV} {n q c : Nat} (hn : n ≤ l.length) (h1 : (evFrs (l.take n)).length ≤ c) (h2 : n < l.length → c < (evFrs (l.take (n + 1))).length)
    (hq : q ≤ l.length) (h3 : (evFrs (l.take q)).length ≤ c) (h4 : q < l.length → c < (evFrs (l.take (q + 1))).length) : n = q := by
  rcases Nat.lt_trichotomy n q with h | h | h
  · have := h2 (by omega)
    have := evFrs_take (l := l) (i := n + 1) (j := q) (by omega)
    omega
  · exact h
  · have := h4 (by omega)
    have := evFrs_take (l := l) (i := q + 1) (j := n) (by omega)
    omega
end Go.Lift
namespace Go.Proofs.YtpmakiecgphijaaDoor
open Go.Lift
set_option linter.unusedVariables false
set_option maxRecDepth 20000

section
variable {w0 w w1 w' : World} {p : Nat} {D D' : DiskV} {X Y Z : Nat → Prop}
/-- what others do, in blocks of X, and what they make -/
theorem NDisk.step (h : NDisk w0 w p D X) (hk : Keep Y w w') (hY : ∀ b, Y b → X b) (hX : ∀ b, X b → w0.heap.size ≤ b) (hZ : ∀ b, Z b → X b ∨ (w.heap.size ≤ b ∧ b < w'.heap.size)) : NDisk w0 w' p D Z := by
  obtain ⟨F, h1, h2, h3, h4⟩ := h
  exact ⟨F, h1.keep hk fun b hb hy => (h3 b hb).2 (hY b hy), h2.new hk fun b hb => .inr (hX b (hY b hb)), fun b hb => ⟨(h3 b hb).1, fun hz => (hZ b hz).elim (h3 b hb).2 fun h => by have := h1.dom b hb; omega⟩,
    fun b hb => (hZ b hb).elim (fun h => Nat.lt_of_lt_of_le (h4 b h) hk.size) (·.2)⟩
end

theorem SegmentTorn {la : Option Addr} {ln lc : Nat} {l : List EventV} {cut nn : Int} {w : World} {Dl : Nat → Prop} (ha : Row cEv 96 w Dl la ln l) (hDl : ∀ b, Dl b → b < w.heap.size) (hlc : ln ≤ lc) (hcut : I64 cut) (hno : I64 nn) (hw : Laid w) :
    Calls Tryd.prog F_law20_SegmentTorn #[.slice la ln lc, .int .i64 cut, .int .i64 nn] w (Ok fun v w' => v = .bool true ∧ Grew w w') := by
  have ha0 := ha.len
  refine L_law20_SegmentTorn (PC.ok (law10_Long ha) ?_)
  rintro _ _ ⟨rfl, rfl⟩
  refine ⟨_, rfl, PIf.dec (fun h => fin hw (Keep.refl _)) (fun hlong => PIf.dec (fun h => fin hw (Keep.refl _)) (fun h60 => PC.ok (kit_Pick (by unfold I64; omega)) ?_))⟩
  rintro _ _ ⟨rfl, rfl⟩
  have hp := pick_range (k := nn) (n := 1000) (by omega)
  generalize pick nn 1000 = k at hp
  refine ⟨_, rfl, PC.ok (new_ok (Keep.refl w) (by omega) (by omega)) ?_⟩
  rintro _ w1 ⟨p, rfl, h1, -⟩
  replace h1 := h1.mono (Y := no) fun _ h => h.elim
  refine ⟨_, _, rfl, PIf.ff rfl (eq_nil_ptr uD ⟨_, rfl, PIf.ff rfl (PC.ok (seg_Name (hw.grew h1.gr) (by unfold I64; omega)) ?_)⟩)⟩
  rintro _ w2 ⟨rfl, k2⟩
  have h2 := h1.grew k2
  refine ⟨_, rfl, PC.ok h2.create ?_⟩
  rintro _ w3 ⟨rfl, h3, -⟩
  have hcr : (newD (Int.toNat 65536)).create (txt (segName k)) = (0, oneD 65536 (txt (segName k)) []) := create_one (seg_name_ok hp.1 (by omega))
  rw [hcr] at h3 ⊢
  generalize hnm : txt (segName k) = nm at h3 hcr ⊢
  have hl60 : l.length ≤ 60 := by omega
  have hs3 := h3.gr.size
  refine ⟨_, rfl, PIf.ff rfl ⟨fun m oa on oc ea en ec i w' => ∃ j : Nat, i = j ∧ j ≤ ln ∧ m = ln - j ∧ (∀ e ∈ l.take j, e.Ok ∧ e.deps.length ≤ 64) ∧ ∃ F G : Nat → Prop, Lst cU8 5 F w' oa on oc (evFrs (l.take j)) ∧ Lst cI64 3 G w' ea en ec (ends (l.take j)) ∧
    NDisk w w' p (oneD 65536 nm []) (fun b => F b ∨ G b) ∧ (∀ b, F b → w.heap.size ≤ b) ∧ (∀ b, G b → w.heap.size ≤ b) ∧ (∀ b, F b → ¬ G b),
    ⟨_, 0, rfl, Nat.zero_le _, rfl, by simp, fun _ => False, fun _ => False, by simpa [evFrs] using Lst.nil w3, by simpa [ends] using Lst.nil w3, h3.mono fun _ h => h.elim id id, fun _ h => h.elim, fun _ h => h.elim, fun _ h => h.elim⟩, ?_⟩⟩
  rintro m oa on oc ea en ec i _ w4 ⟨j, rfl, hj, rfl, hok, F, G, ho, he, h4, hF, hG, hFG⟩
  have hgr := h4.gr
  have hfl := evFrs_le hok
  have htl : (l.take j).length = j := by simp; omega
  refine PIf.dec (fun hlt => ?_) (fun hge => ?_)
  · obtain ⟨b, off, x, es, rfl, _, _, hx, hc, a1, n1, c1, rfl, hr, hxok⟩ := (ha.grew hgr).atN (i := j) (by omega)
    have e1 := fun i (hi : i < 10) => hc i hi
    refine ⟨b, off, rfl, by omega, by omega, _, _, _, _, _, _, _, _, _, _, _, _, e1 0 (by decide), e1 1 (by decide), e1 2 (by decide), e1 3 (by decide), e1 4 (by decide), e1 5 (by decide), e1 6 (by decide), e1 7 (by decide), e1 8 (by decide), e1 9 (by decide), ?_⟩
    refine PC.ok (seg_Frame (hw.grew hgr) hr hxok fun b hb => Nat.lt_of_lt_of_le (hDl b hb) hgr.size) ?_
    rintro _ w5 ⟨a5, n5, c5, F5, rfl, ho5, k5, hF5⟩
    have h5 := h4.add k5 fun b hb => ⟨hF5 b hb, ho5.dom b hb⟩
    by_cases hd : x.deps.length ≤ 64
    rotate_left
    · rw [segFrame_no hd]
      obtain ⟨b', off', x', es', hb', _, _, hx', hc', a1', n1', c1', rfl, hr', -⟩ := (ha.grew h5.gr).atN (i := j) (by omega)
      cases hb'
      rw [hx] at hx'; cases hx'
      have hlen' := hr'.len
      exact ⟨_, _, _, _, rfl, PIf.tt rfl ⟨b, off, rfl, by omega, by omega, _, _, _, hc' 3 (by decide), PIf.tt (by simp; omega) (fin hw h5.gr)⟩⟩
    rw [segFrame_ok hxok hd] at ho5 ⊢
    simp only at ho5 ⊢
    have hxl := evFr_length hxok hd
    have hn5 := ho5.len (by decide)
    have ho' := ho.grew k5
    have he' := he.grew k5
    rw [htl] at hfl
    refine ⟨_, _, _, _, rfl, PIf.ff rfl (appRow' ho' slU8 (ho5.row (bytes := 1) (by decide) (by unfold Big; omega)) (fun e => ho5.nil0 e) (fun b hb => ⟨ho5.dom b hb, fun hc => ?_⟩) (by unfold Big; omega) (by unfold maxLen; omega) fun a6 c6 w6 F6 ho6 hk6 _ hs6 => ?_)⟩
    · have h1 := ho.dom b (ho.self b hc); have h2 := hF5 b hb; omega
    replace ho6 := ho6.alone
    have h6 : NDisk w w6 p (oneD 65536 nm []) (fun b => blk a6 = some b ∨ G b) := h5.step hk6 (fun b hb => .inl (.inl (ho.self b hb))) (fun b hb => hb.elim (fun h => h.elim (hF b) (hG b)) fun h => by have := hF5 b h; have := hgr.size; omega) fun b hb => by
      rcases hb with hb | hb
      · rcases hs6 b hb with h | h
        · exact .inl (.inl (.inl h))
        · exact .inr ⟨h, ho6.dom b hb⟩
      · exact .inl (.inl (.inr hb))
    have he6 := he'.keep hk6 fun b hb hc => hFG b (ho.self b hc) hb
    have hb6 : ∀ b, blk a6 = some b → w.heap.size ≤ b ∧ ¬ G b := fun b hb => by
      rcases hs6 b hb with h | h
      · exact ⟨hF b h, hFG b h⟩
      · have := k5.size; have := hgr.size
        exact ⟨by omega, fun hg => by have := he.dom b hg; omega⟩
    rw [← evFrs_snoc l hx] at ho6
    have hn6 := ho6.len (by decide)
    have hsn : (ends (l.take j)) ++ [((on + n5 : Nat) : Int)] = ends (l.take (j + 1)) := by
      rw [hn6, List.take_add_one, hx, Option.toList_some, ends_snoc]
    refine ⟨_, _, _, rfl, papp he6 slI64 (x := ((on + n5 : Nat) : Int)) (D := fun _ => False) ⟨rfl, by have := ho.len (by decide); unfold I64; omega⟩ (fun _ h => h.elim) (by rw [ends_length, htl]; unfold Big; omega) (by rw [ends_length, htl]; unfold maxLen; omega) fun a7 c7 w7 F7 ho7 hk7 _ hs7 => ?_⟩
    replace ho7 := ho7.alone
    rw [hsn] at ho7
    refine ⟨_, _, _, rfl, ln - (j + 1), by omega, j + 1, wrap_succ (by omega), by omega, rfl, ?_, (fun b => blk a6 = some b), (fun b => blk a7 = some b), ?_, ho7, ?_, fun b hb => (hb6 b hb).1, ?_, ?_⟩
    · intro e hem
      rw [List.take_add_one, hx] at hem
      rcases List.mem_append.1 hem with h | h
      · exact hok e h
      · simp at h; subst h; exact ⟨hxok, hd⟩
    · exact ho6.keep hk7 fun b hb hc => (hb6 b hb).2 (he.self b hc)
    · refine h6.step hk7 (fun b hb => .inr (he.self b hb)) (fun b hb => hb.elim (fun h => (hb6 b h).1) (hG b)) fun b hb => ?_
      rcases hb with hb | hb
      · exact .inl (.inl hb)
      · rcases hs7 b hb with h | h
        · exact .inl (.inr h)
        · exact .inr ⟨h, ho7.dom b hb⟩
    · intro b hb
      rcases hs7 b hb with h | h
      · exact hG b h
      · have := h6.gr.size; omega
    · intro b hb hc
      rcases hs7 b hc with h | h
      · exact (hb6 b hb).2 h
      · have := ho6.dom b hb; omega
  · obtain rfl : j = ln := by omega
    rw [List.take_of_length_le (by omega)] at ho he hok hfl
    have hon := ho.len (by decide)
    have hen := he.len (by decide)
    rw [ends_length] at hen
    refine PIf.dec (fun h => fin hw hgr) (fun hbig => ?_)
    rw [show IntKind.wrap .i64 ((on : Int) + 1) = ((on + 1 : Nat) : Int) from wrap_succ (by omega)]
    refine PC.ok (kit_Pick (by unfold I64; omega)) ?_
    rintro _ _ ⟨rfl, rfl⟩
    have hpc := pick_range (k := cut) (n := ((on + 1 : Nat) : Int)) (by omega)
    generalize pick cut ((on + 1 : Nat) : Int) = ct at hpc
    obtain ⟨c, rfl⟩ := Int.eq_ofNat_of_zero_le hpc.1
    refine ⟨_, rfl, fun n at' w' => w4 = w' ∧ ∃ q : Nat, n = q ∧ q ≤ l.length ∧ at' = (((evFrs (l.take q)).length : Nat) : Int) ∧ (evFrs (l.take q)).length ≤ c ∧ (q < l.length → c < (evFrs (l.take (q + 1))).length),
      ⟨fun m n at' w' => w4 = w' ∧ ∃ q : Nat, m = l.length - q ∧ n = q ∧ q ≤ l.length ∧ at' = (((evFrs (l.take q)).length : Nat) : Int) ∧ (evFrs (l.take q)).length ≤ c, ⟨_, rfl, 0, rfl, rfl, Nat.zero_le _, by simp [evFrs], by simp [evFrs]⟩, ?_⟩, ?_⟩
    · rintro m n at' _ _ ⟨rfl, q, rfl, rfl, hq, rfl, hqc⟩
      refine PIf.dec (fun hlt => ?_) (fun hge => ⟨rfl, q, rfl, hq, rfl, hqc, fun h => by omega⟩)
      obtain ⟨b, off, x, rfl, hx, hxr, hc⟩ := (he.row (bytes := 8) (by decide) (by rw [ends_length]; unfold Big; omega)).at1 (i := q) (by omega)
      rw [ends_get (by omega)] at hx
      cases hx
      refine ⟨b, off, rfl, by omega, by omega, _, hc, PIf.dec (fun hle => ?_) (fun hgt => ⟨rfl, q, rfl, hq, rfl, hqc, fun h => by omega⟩)⟩
      exact ⟨b, off, rfl, by omega, by omega, _, hc, l.length - (q + 1), by omega, rfl, q + 1, rfl, wrap_succ (by omega), by omega, rfl, by omega⟩
    · rintro n at' _ _ ⟨rfl, q, rfl, hq, rfl, hqc, hqn⟩
      intro w5 d5
      have k5 : Grew w4 w5 := d5.keep
      have hoc := ho.cap_le
      refine ⟨by omega, by omega, PC.ok (seg_Name (hw.grew (hgr.then k5)) (by unfold I64; omega)) ?_⟩
      rintro _ w6 ⟨rfl, k6⟩
      have h6 := (h4.grew k5).grew k6
      have ho6 := (ho.grew k5).grew k6
      refine ⟨_, rfl, ?_⟩
      rw [Int.toNat_natCast]
      refine PC.ok (h6.append (((ho6.row (bytes := 1) (by decide) (by unfold Big; omega))).take (m := c) (by omega)) (fun e => ⟨by have := (ho6.nil0 e).1; omega, (ho6.nil0 e).2⟩) fun b hb => .inr (.inl hb)) ?_
      rintro _ w7 ⟨rfl, h7, k7⟩
      rw [hnm, append_one (by rw [List.length_take, List.length_nil]; omega), List.nil_append] at h7 ⊢
      refine ⟨_, rfl, PIf.ff rfl (PC.ok (h7.load hw (by unfold I64; omega)) ?_)⟩
      rintro _ w8 ⟨a8, n8, c8, F8, rfl, ho8, hF8, h8, k8, -⟩
      rw [hnm, read_one] at ho8 ⊢
      obtain ⟨n, hn, hseg, hnc, hnn⟩ := segLoad_torn hok c
      obtain rfl := torn_uniq hn hnc hnn hq hqc hqn
      rw [hseg] at ho8 ⊢
      refine ⟨_, _, _, _, rfl, PIf.tt (by simp) ⟨by omega, by omega, ?_⟩⟩
      rw [Int.toNat_natCast]
      refine PC.ok (kit_SameEvents (lst_evs ho8 (by simp; omega)) ((ha.grew h8.gr).take (m := n) (by omega))) ?_
      rintro _ w9 ⟨rfl, k9⟩
      exact ⟨_, rfl, PIf.tt (by simp) (fin hw (h8.gr.then k9))⟩
end Go.Proofs.YtpmakiecgphijaaDoor
