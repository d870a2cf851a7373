/- SessionRuns: its walk -/
import Derived.Test.YtnfcddhabhbicaaSim
namespace Go.Proofs.Ytnfcddhabhbicaa
open Go.Lift
set_option linter.unusedVariables false

/-- the program's table and the document's, apart -/
structure Pr (w0 w : World) (p x : Nat) (F G : Nat → Prop) (T : Tab) (r : Int) (L : List PeerV) : Prop where
  ta : TabAt w p F T
  rb : RefAt w x G r L
  fa : ∀ b, F b → w0.heap.size ≤ b
  fb : ∀ b, G b → w0.heap.size ≤ b
  dis : ∀ b, F b → ¬ G b
  gr : Grew w0 w

theorem Pr.keep {w0 w w' : World} {p x : Nat} {F G S : Nat → Prop} {T : Tab} {r : Int} {L : List PeerV} (h : Pr w0 w p x F G T r L) (hk : Keep S w w') (h1 : ∀ b, F b → ¬ S b) (h2 : ∀ b, G b → ¬ S b) (h3 : ∀ b, S b → w0.heap.size ≤ b) : Pr w0 w' p x F G T r L :=
  ⟨h.ta.keep hk h1, h.rb.keep hk h2, h.fa, h.fb, h.dis, h.gr.new hk fun b hb => .inr (h3 b hb)⟩
theorem Pr.grew {w0 w w' : World} {p x : Nat} {F G : Nat → Prop} {T : Tab} {r : Int} {L : List PeerV} (h : Pr w0 w p x F G T r L) (hk : Grew w w') : Pr w0 w' p x F G T r L :=
  h.keep hk (fun _ _ h => h) (fun _ _ h => h) fun _ h => h.elim
theorem Pr.a {w0 w w' : World} {p x : Nat} {F F' G : Nat → Prop} {T T' : Tab} {r : Int} {L : List PeerV} (h : Pr w0 w p x F G T r L) (ht : TabAt w' p F' T') (hk : Evo F w F' w') : Pr w0 w' p x F' G T' r L :=
  ⟨ht, h.rb.keep hk.keep (fun b hg hf => h.dis b hf hg), fun b hb => (hk.new b hb).elim (h.fa b) fun h' => Nat.le_trans h.gr.size h', h.fb,
    fun b hb hg => (hk.new b hb).elim (fun hf => h.dis b hf hg) fun h' => by have := h.rb.dom b hg; omega, h.gr.new hk.keep fun b hb => .inr (h.fa b hb)⟩
theorem Pr.b {w0 w w' : World} {p x : Nat} {F G G' : Nat → Prop} {T : Tab} {r : Int} {L L' : List PeerV} (h : Pr w0 w p x F G T r L) (ht : RefAt w' x G' r L') (hk : Evo G w G' w') : Pr w0 w' p x F G' T r L' :=
  ⟨h.ta.keep hk.keep (fun b hf hg => h.dis b hf hg), ht, h.fa, fun b hb => (hk.new b hb).elim (h.fb b) fun h' => Nat.le_trans h.gr.size h',
    fun b hb hg => (hk.new b hg).elim (fun hg => h.dis b hb hg) fun h' => by have := h.ta.dom b hb; omega, h.gr.new hk.keep fun b hb => .inr (h.fb b hb)⟩

theorem open_I64 {w : World} {p : Nat} {F : Nat → Prop} {T : Tab} (h : TabAt w p F T) : ∀ q ∈ T.open, I64 q := fun q hq => by
  obtain ⟨v, hv⟩ := Option.isSome_iff_exists.1 (mem_open.1 hq)
  exact h.keysA _ (aget_mem hv)

/-- what one call leaves -/
structure Left (w0 w' : World) (p x c : Nat) (r : Int) (k : Nat) (cs : Array Value) : Prop where
  out : ∃ (T : Tab) (L : List PeerV) (F G : Nat → Prop), Pr w0 w' p x F G T r L ∧ T.retry = r ∧ Sim T L ∧ T.asked.length ≤ k ∧ L.length ≤ k ∧ (∀ b, F b → b ≠ c) ∧ (∀ b, G b → b ≠ c)
  size : c < w'.heap.size
  here : w'.heap[c]? = some (.cells cs 40 (0, 0))

theorem SessionRuns {retry : Int} {a : Option Addr} {n c : Nat} {l : List ActV} {w : World} (hr : I64 retry) (hx : Acts w a n l) :
    Calls Try.prog F_law26_SessionRuns #[.int .i64 retry, .slice a n c] w (Ok (tru w)) := by
  have hn := hx.len; have hbig := hx.big
  unfold Big at hbig
  refine L_law26_SessionRuns (PC.ok (law_Long hx) ?_)
  rintro _ _ ⟨b, rfl, rfl, hlong⟩
  refine ⟨_, rfl, PIf.mk (fun _ => works' (Keep.refl _)) fun hb => PC.ok session_New ?_⟩
  obtain ⟨hl200, hl100⟩ := hlong hb
  rintro _ w1 ⟨p, F, rfl, hT, hG, hF⟩
  refine ⟨_, rfl, PC.ok ref_New ?_⟩
  rintro _ w2 ⟨x, G, rfl, hU, hG2, hF2⟩
  refine ⟨_, rfl, eqNil ⟨_, rfl, PIf.ff rfl ?_⟩⟩
  refine ⟨fun k i w' => ∃ (j : Nat) (T : Tab) (L : List PeerV) (F G : Nat → Prop), i = (j : Int) ∧ j ≤ n ∧ k = n - j ∧ Pr w w' p x F G T retry L ∧ T.retry = retry ∧ Sim T L ∧ T.asked.length ≤ j ∧ L.length ≤ j,
    ⟨_, 0, _, _, F, G, rfl, by omega, rfl, ⟨hT.grew hG2, hU, hF, fun b h => Nat.le_trans hG.size (hF2 b h), fun b hf hg => by have := hT.dom b hf; have := hF2 b hg; omega, hG.grew hG2⟩, rfl, ⟨List.Pairwise.nil, fun _ => rfl, fun _ => rfl, by simp⟩, by simp, by simp⟩, ?_⟩
  rintro k i B w3 ⟨j, T, L, F, G, rfl, hj, rfl, hS, hTr, hSim, hlT, hlL⟩
  refine PIf.mk (fun hlt => ?_) (fun hge => works' hS.gr)
  have hlt := of_decide_eq_true hlt
  obtain ⟨y, hyi⟩ : ∃ x, l[j]? = some x := ⟨_, List.getElem?_eq_getElem (by omega : j < l.length)⟩
  have hym : y ∈ l := List.mem_of_getElem? hyi
  obtain ⟨hlv, hlw⟩ := hl100 y hym
  obtain ⟨b, o, a1, n1, c1, a2, n2, c2, ha, hb0, ho0⟩ := hx.act j y hyi
  have ho := ho0.grew hS.gr hb0
  refine ⟨b, o, ha, by omega, hlt, y.kind, y.peer, y.now, a1, n1, c1, a2, n2, c2, ho.kind, ho.peer, ho.now, ho.vec, ho.want, fill5 fun w4 k4 s4 g4 => ?_⟩
  have hS4 := hS.grew k4
  have hcF : ∀ b, F b → b ≠ w3.heap.size := fun b hb => by have := hS.ta.dom b hb; omega
  have hcG : ∀ b, G b → b ≠ w3.heap.size := fun b hb => by have := hS.rb.dom b hb; omega
  have hv1 := ho0.vecI.len; have hv2 := ho0.wantI.len
  have ht := hS.ta.tidyA
  refine ⟨fun e w' => e = true ∧ Left w w' p x w3.heap.size retry (j + 1) #[.int .i64 y.kind, .int .i64 y.peer, .int .i64 y.now, .slice a1 n1 c1, .slice a2 n2 c2], ?_, ?_⟩
  · refine ⟨y.kind, cell_at g4 rfl, PIf.mk (fun hk => ?_) fun hk0 => PIf.mk (fun hk => ?_) fun hk1 => PIf.mk (fun hk => ?_) fun hk2 => PIf.mk (fun hk => ?_) fun hk3 => ?_⟩
    · -- Start
      rintro w5 hd5
      have k5 : Grew w4 w5 := hd5.keep
      have g5 := k5.get g4 id
      have hS5 := hS4.grew k5
      refine ⟨F, fun hf => hcF _ hf rfl, y.peer, cell_at g5 rfl, y.now, cell_at g5 rfl, PC.ok law_at ?_⟩
      rintro _ _ ⟨rfl, rfl⟩
      refine ⟨_, rfl, Keep.refl _, PC.ok (Table_Start hS5.ta ho0.peerR) ?_⟩
      rintro _ w6 ⟨rfl, hT6, k6⟩
      have g6 := k6.get g5 (fun hf => hcF _ hf rfl)
      have hS6 := hS5.a hT6 ⟨k6, fun _ h => .inl h⟩
      refine ⟨rfl, k6, ?_⟩
      rintro w7 hd7
      have k7 : Grew w6 w7 := hd7.keep
      have g7 := k7.get g6 id
      have hS7 := hS6.grew k7
      refine ⟨G, fun hf => hcG _ hf rfl, y.peer, cell_at g7 rfl, y.now, cell_at g7 rfl, PC.ok law_at ?_⟩
      rintro _ _ ⟨rfl, rfl⟩
      refine ⟨_, rfl, Keep.refl _, PC.ok (ref_Start hS7.rb (by omega) ho0.peerR) ?_⟩
      rintro _ w8 ⟨G', rfl, hU8, hE8⟩
      have g8 := hE8.keep.get g7 (fun hf => hcG _ hf rfl)
      have hlt7 := lt_of_get g7
      refine ⟨rfl, hE8.keep, rfl, ⟨⟨_, _, F, G', hS7.b hU8 hE8, hTr, hSim.start y.peer (atT y.now), ?_, ?_, hcF, fun b hb => (hE8.new b hb).elim (hcG b) fun h => by omega⟩, lt_of_get g8, g8⟩⟩
      · have := aput_length T.asked y.peer (atT y.now); simp only; omega
      · have := upd_length (fun p => { p with asked := atT y.now, opn := true }) y.peer L; omega
    · -- Heard
      have hk1 : y.kind = 1 := by simpa using hk
      obtain ⟨hsim, hends⟩ := hSim.hear ht y.peer y.vec y.want
      have hs4 := lt_of_get g4
      have hm5 : marks.length = 5 := rfl
      refine ⟨a1, n1, c1, cell_at g4 rfl, PC.ok (kit_LentInts (ho0.vecI.grew hS4.gr) (by omega)) ?_⟩
      rintro _ w5 ⟨a5, n5, c5, rfl, ho5, hk5, hn5⟩
      have g5 := hk5.get g4 id
      have hS5 := hS4.grew hk5
      refine ⟨_, _, _, rfl, a2, n2, c2, cell_at g5 rfl, PC.ok (kit_LentInts (ho0.wantI.grew hS5.gr) (by omega)) ?_⟩
      rintro _ w6 ⟨a6, n6, c6, rfl, ho6, hk6, hn6⟩
      have g6 := hk6.get g5 id
      have hS6 := hS5.grew hk6
      have hl5 := own_len ho5
      have hl6 := own_len ho6
      simp only [List.length_append, hm5] at hl5 hl6
      have hcap : ∀ {w' : World} {a : Option Addr} {n c : Nat} {cs : List Value}, Own w' 3 1 a n c cs → n ≤ c := fun h => by
        rcases h.cases with ⟨_, h1, h2, _⟩ | ⟨_, _, _, _, hc, _⟩
        · omega
        · exact hc
      have hc5 := hcap ho5
      have hc6 := hcap ho6
      have hb5 : ∀ b, some b = blk a5 → w4.heap.size ≤ b ∧ b < w5.heap.size := fun b hb => ⟨hn5 b hb.symm, ho5.lt hb.symm⟩
      have hb6 : ∀ b, some b = blk a6 → w5.heap.size ≤ b ∧ b < w6.heap.size := fun b hb => ⟨hn6 b hb.symm, ho6.lt hb.symm⟩
      have hFd : ∀ b, F b → b < w4.heap.size := hS4.ta.dom
      have hGd : ∀ b, G b → b < w4.heap.size := hS4.rb.dom
      refine ⟨_, _, _, rfl, ?_⟩
      rintro w7 hd7
      have k7 : Grew w6 w7 := hd7.keep
      have g7 := k7.get g6 id
      have hS7 := hS6.grew k7
      have ho57 := (ho5.grew hk6).grew k7
      have ho67 := ho6.grew k7
      have hxv : Ints w7 a5 (Int.toNat ((n1 : Nat) : Int)) y.vec := by
        rw [Int.toNat_natCast, hv1]; exact ho57.ints_take (by unfold Big; omega) ho0.vecI.rng
      have hxw : Ints w7 a6 (Int.toNat ((n2 : Nat) : Int)) y.want := by
        rw [Int.toNat_natCast, hv2]; exact ho67.ints_take (by unfold Big; omega) ho0.wantI.rng
      have hnS : ¬ (F w3.heap.size ∨ G w3.heap.size) := fun h => h.elim (fun h => hcF _ h rfl) fun h => hcG _ h rfl
      have s45 := hk5.size; have s56 := hk6.size; have s67 := k7.size
      refine ⟨fun b => F b ∨ G b, y.peer, cell_at g7 rfl, a1, n1, c1, cell_at g7 rfl, by omega, by omega, a2, n2, c2, cell_at g7 rfl, by omega, by omega, hnS, y.peer, cell_at g7 rfl, hnS, a1, n1, c1, cell_at g7 rfl, hnS, a2, n2, c2, cell_at g7 rfl,
        PC.ok (Table_Heard hS7.ta hxv hxw fun _ => notIn_blk.2 fun b hb hf => by have := hb6 b hb.symm; have := hFd b hf; omega) ?_⟩
      rintro _ w8 ⟨F', rfl, hT8, hE8⟩
      have g8 := hE8.keep.get g7 (fun hf => hcF _ hf rfl)
      have hS8 := hS7.a hT8 hE8
      refine ⟨_, rfl, hE8.keep.mono fun b _ hb => .inl hb, PC.ok (ref_Heard hS8.rb (by omega) ho0.peerR (ho0.vecI.grew hS8.gr) (ho0.wantI.grew hS8.gr) (ho0.vecI.old hS8.fb (Nat.le_refl _)) (ho0.wantI.old hS8.fb (Nat.le_refl _))) ?_⟩
      rintro _ w9 ⟨G', rfl, hU9, hE9⟩
      have g9 := hE9.keep.get g8 (fun hf => hcG _ hf rfl)
      have hS9 := hS8.b hU9 hE9
      have ho59 := (ho57.keep hE8.keep (notIn_blk.2 fun b hb hf => by have := hb5 b hb.symm; have := hFd b hf; omega)).keep hE9.keep (notIn_blk.2 fun b hb hf => by have := hb5 b hb.symm; have := hGd b hf; omega)
      have ho69 := (ho67.keep hE8.keep (notIn_blk.2 fun b hb hf => by have := hb6 b hb.symm; have := hFd b hf; omega)).keep hE9.keep (notIn_blk.2 fun b hb hf => by have := hb6 b hb.symm; have := hGd b hf; omega)
      refine ⟨_, rfl, hE9.keep.mono fun b _ hb => .inr hb, PIf.tt (by rw [hends]; simp) ⟨a1, n1, c1, cell_at g9 rfl, PC.ok (kit_KeptInts ho59 (ho0.vecI.grew hS9.gr) (by omega)) ?_⟩⟩
      rintro _ w10 ⟨rfl, hd10⟩
      have k10 : Grew w9 w10 := hd10.keep
      have g10 := k10.get g9 id
      have hS10 := hS9.grew k10
      refine ⟨_, rfl, hd10.keep, PIf.tt rfl ⟨a2, n2, c2, cell_at g10 rfl, PC.ok (kit_KeptInts (ho69.grew k10) (ho0.wantI.grew hS10.gr) (by omega)) ?_⟩⟩
      rintro _ w11 ⟨rfl, hd11⟩
      have k11 : Grew w10 w11 := hd11.keep
      have g11 := k11.get g10 id
      have hS11 := hS10.grew k11
      refine ⟨_, rfl, hd11.keep, PC.ok (kit_SpoilInts ((ho59.grew k10).grew k11) (by unfold Big; omega)) ?_⟩
      rintro _ w12 ⟨rfl, k12⟩
      have hF' : ∀ b, F' b → F b ∨ w7.heap.size ≤ b := hE8.new
      have hG' : ∀ b, G' b → G b ∨ w7.heap.size ≤ b := fun b hb => (hE9.new b hb).imp id fun h => Nat.le_trans hE8.keep.size h
      have hS12 := hS11.keep k12 (fun b hf hb => by have := hb5 b hb; rcases hF' b hf with h | h; have := hFd b h; omega; omega) (fun b hg hb => by have := hb5 b hb; rcases hG' b hg with h | h; have := hGd b h; omega; omega) (fun b hb => Nat.le_trans hS4.gr.size (hb5 b hb).1)
      have g12 := k12.get g11 (fun hb => by have := hb5 _ hb; omega)
      have ho612 := ((ho69.grew k10).grew k11).keep k12 (notIn_blk.2 fun b hb hb2 => by have := hb6 b hb.symm; have := hb5 b hb2; omega)
      refine ⟨rfl, PC.ok (kit_SpoilInts ho612 (by unfold Big; omega)) ?_⟩
      rintro _ w13 ⟨rfl, k13⟩
      have hS13 := hS12.keep k13 (fun b hf hb => by have := hb6 b hb; rcases hF' b hf with h | h; have := hFd b h; omega; omega) (fun b hg hb => by have := hb6 b hb; rcases hG' b hg with h | h; have := hGd b h; omega; omega) (fun b hb => by have := hb6 b hb; have := hS4.gr.size; omega)
      have g13 := k13.get g12 (fun hb => by have := hb6 _ hb; omega)
      refine ⟨rfl, rfl, ⟨⟨_, _, F', G', hS13, hTr, hsim, ?_, ?_, fun b hb => (hF' b hb).elim (hcF b) fun h => by omega, fun b hb => (hG' b hb).elim (hcG b) fun h => by omega⟩, lt_of_get g13, g13⟩⟩
      · have h1 := (stA_length y T).1
        unfold stA at h1
        rw [if_neg (by rw [hk1]; decide), if_pos hk1] at h1
        omega
      · have := upd_length (hearP y.vec y.want) y.peer L; omega
    · -- Due
      refine ⟨y.now, cell_at g4 rfl, PC.ok law_at ?_⟩
      rintro _ _ ⟨rfl, rfl⟩
      refine ⟨_, rfl, PC.ok (Table_Due hS4.ta (by unfold Big; omega)) ?_⟩
      rintro _ w5 ⟨a5, n5, c5, rfl, ho5, hT5, k5, hn5⟩
      have g5 := k5.get g4 (fun hf => hcF _ hf rfl)
      have hS5 := hS4.a hT5 ⟨k5, fun _ h => .inl h⟩
      obtain ⟨hdue, hsim⟩ := hSim.due ht (atT y.now)
      refine ⟨_, _, _, rfl, y.now, cell_at g5 rfl, PC.ok law_at ?_⟩
      rintro _ _ ⟨rfl, rfl⟩
      refine ⟨_, rfl, PC.ok (ref_Due (now := atT y.now) hS5.rb (by omega)) ?_⟩
      rintro _ w6 ⟨a6, n6, c6, rfl, ho6, hU6, k6, hn6⟩
      have g6 := k6.get g5 (fun hf => hcG _ hf rfl)
      have hS6 := hS5.b hU6 ⟨k6, fun _ h => .inl h⟩
      rw [hTr] at hdue hsim
      have hdl : (T.due (atT y.now)).length ≤ j := by
        rw [(due_eq ht _).1]
        have := List.length_filter_le (lateB T.retry (atT y.now) T.asked) T.open
        have := open_length T
        omega
      have hdr : ∀ q ∈ T.due (atT y.now), I64 q := fun q hq => by
        rw [(due_eq ht _).1] at hq
        exact open_I64 hS.ta q (List.mem_filter.1 hq).1
      have hna : notIn G a5 := notIn_blk.2 fun b hb hf => by have := hn5 b hb; have := hS4.rb.dom b hf; omega
      have ho5' := ho5.keep k6 hna
      have hl5 := own_len ho5
      rw [← hdue] at ho6
      have hl6 := own_len ho6
      refine ⟨_, _, _, rfl, PC.ok (kit_SameInts (ho5'.ints (by unfold Big; omega) hdr) (ho6.ints (by unfold Big; omega) hdr)) ?_⟩
      rintro _ w7 ⟨rfl, hd7⟩
      have k7 : Grew w6 w7 := hd7.keep
      have hS7 := hS6.grew k7
      refine ⟨_, rfl, PC.ok (kit_SpoilInts (ho5'.grew k7) (by unfold Big; omega)) ?_⟩
      rintro _ w8 ⟨rfl, k8⟩
      have hs4 := lt_of_get g4
      have hblk : ∀ b, some b = blk a5 → w4.heap.size ≤ b := fun b hb => hn5 b hb.symm
      have g8 := k8.get (k7.get g6 id) (fun hb => by have := hblk _ hb; omega)
      refine ⟨rfl, by simp, ⟨⟨_, _, F, G, hS7.keep k8 (fun b hf hb => by have := hblk b hb; have := hS4.ta.dom b hf; omega) (fun b hg hb => by have := hblk b hb; have := hS4.rb.dom b hg; omega) (fun b hb => Nat.le_trans hS4.gr.size (hblk b hb)), hTr, hsim, ?_, by simp; omega, hcF, hcG⟩, lt_of_get g8, g8⟩⟩
      have := (due_eq ht (atT y.now)).2.1
      have e1 := open_length (T.dueT (atT y.now))
      have e2 : (T.dueT (atT y.now)).open.length ≤ j := by
        rw [hsim.open this]
        exact Nat.le_trans (openL_length _) (by simp; omega)
      omega
    · -- Clear
      refine PC.ok (Table_Clear hS4.ta) ?_
      rintro _ w5 ⟨rfl, hT5, k5⟩
      have g5 := k5.get g4 (fun hf => hcF _ hf rfl)
      have hS5 := hS4.a hT5 ⟨k5, fun _ h => .inl h⟩
      refine ⟨rfl, PC.ok (ref_Clear hS5.rb) ?_⟩
      rintro _ w6 ⟨rfl, hU6, k6⟩
      have g6 := k6.get g5 (fun hf => hcG _ hf rfl)
      exact ⟨rfl, rfl, ⟨⟨_, _, F, G, hS5.b hU6 ⟨k6, fun _ h => .inl h⟩, hTr, ⟨List.Pairwise.nil, fun _ => rfl, fun _ => rfl, by simp⟩, by simp, by simp, hcF, hcG⟩, lt_of_get g6, g6⟩⟩
    · exact ⟨rfl, ⟨⟨T, L, F, G, hS4, hTr, hSim, by omega, by omega, hcF, hcG⟩, lt_of_get g4, g4⟩⟩
  · rintro _ B w5 ⟨rfl, ⟨T', L', F', G', hS5, hTr', hSim', hlT', hlL', hcF', hcG'⟩, hsz5, g5⟩
    have ht' := hS5.ta.tidyA
    refine PC.ok (Table_Open hS5.ta (by unfold Big; omega)) ?_
    rintro _ w6 ⟨a6, n6, c6, rfl, ho6, hk6, hn6⟩
    have hl6 := own_len ho6
    have hol := open_length T'
    have g6 := hk6.get g5 id
    have hS6 := hS5.grew hk6
    have hoR := open_I64 hS5.ta
    refine ⟨_, _, _, rfl, y.peer, cell_at g6 rfl, PC.ok (Table_Vec (peer := y.peer) hS6.ta) ?_⟩
    rintro _ w7 ⟨a7, n7, c7, rfl, ho7, hk7, hn7⟩
    have hl7 := own_len ho7
    have g7 := hk7.get g6 id
    have hS7 := hS6.grew hk7
    have hVr := hS7.ta.heard_I64 y.peer
    have hVb := hS7.ta.heard_big y.peer
    refine ⟨_, _, _, rfl, PIf.ff rfl (PC.ok (ref_Open hS7.rb (by omega)) ?_)⟩
    rintro _ w8 ⟨a8, n8, c8, rfl, ho8, hk8, hn8⟩
    rw [← hSim'.open ht'] at ho8
    have hl8 := own_len ho8
    have g8 := hk8.get g7 id
    have hS8 := hS7.grew hk8
    have ho6' := (ho6.grew hk7).grew hk8
    refine ⟨_, _, _, rfl, PC.ok (kit_SameInts (ho6'.ints (by unfold Big; omega) hoR) (ho8.ints (by unfold Big; omega) hoR)) ?_⟩
    rintro _ w9 ⟨rfl, hd9⟩
    have k9 : Grew w8 w9 := hd9.keep
    have g9 := k9.get g8 id
    have hS9 := hS8.grew k9
    refine ⟨_, rfl, PIf.ff (by simp) ⟨y.peer, cell_at g9 rfl, PC.ok (ref_Vec (peer := y.peer) hS9.rb (by omega)) ?_⟩⟩
    rintro _ w10 ⟨a10, n10, c10, rfl, ho10, hk10, hn10⟩
    rw [← hSim'.vec] at ho10
    have hl10 := own_len ho10
    have hS10 := hS9.grew hk10
    have ho7' := ((ho7.grew hk8).grew k9).grew hk10
    refine ⟨_, _, _, rfl, PC.ok (kit_SameInts (ho7'.ints (by rw [hl7]; exact hVb) hVr) (ho10.ints (by rw [hl10]; exact hVb) hVr)) ?_⟩
    rintro _ w11 ⟨rfl, hd11⟩
    have k11 : Grew w10 w11 := hd11.keep
    have hS11 := hS10.grew k11
    have ho6'' := ((ho6'.grew k9).grew hk10).grew k11
    have ho7'' := ho7'.grew k11
    refine ⟨_, rfl, PIf.ff (by simp) (PC.ok (kit_SpoilInts ho6'' (by unfold Big; omega)) ?_)⟩
    rintro _ w12 ⟨rfl, k12⟩
    have b6 : ∀ b, some b = blk a6 → w5.heap.size ≤ b := fun b hb => hn6 b hb.symm
    have hS12 := hS11.keep k12 (fun b hf hb => by have := b6 b hb; have := hS5.ta.dom b hf; omega) (fun b hg hb => by have := b6 b hb; have := hS5.rb.dom b hg; omega) (fun b hb => Nat.le_trans hS5.gr.size (b6 b hb))
    have hne : notIn (fun b => some b = blk a6) a7 := notIn_blk.2 fun b hb hb2 => by
      have := hn7 b hb; have := ho6.lt hb2.symm; omega
    refine ⟨rfl, PC.ok (kit_SpoilInts (ho7''.keep k12 hne) (by rw [hl7]; exact hVb)) ?_⟩
    rintro _ w13 ⟨rfl, k13⟩
    have b7 : ∀ b, some b = blk a7 → w5.heap.size ≤ b := fun b hb => by have := hn7 b hb.symm; have := hk6.size; omega
    have hS13 := hS12.keep k13 (fun b hf hb => by have := b7 b hb; have := hS5.ta.dom b hf; omega) (fun b hg hb => by have := b7 b hb; have := hS5.rb.dom b hg; omega) (fun b hb => Nat.le_trans hS5.gr.size (b7 b hb))
    exact ⟨rfl, n - (j + 1), by omega, j + 1, T', L', F', G', by rw [wrap_i64 (by unfold I64; omega)]; simp, by omega, rfl, hS13, hTr', hSim', hlT', hlL'⟩
end Go.Proofs.Ytnfcddhabhbicaa
