/- SessionApart: its walk -/
import Derived.Test.YtnfcddhabhbicaaSessAnew
namespace Go.Proofs.Ytnfcddhabhbicaa
open Go.Lift
set_option linter.unusedVariables false

/-- a struct of five cells, laid in a new block -/
theorem fill5 {w : World} {z0 z1 z2 z3 z4 v0 v1 v2 v3 v4 : Value} {t : TypeId} {κ : World → Prop}
    (h : ∀ w6, Grew w w6 → w6.heap.size = w.heap.size + 1 → w6.heap[w.heap.size]? = some (.cells #[v0, v1, v2, v3, v4] t (0, 0)) → κ w6) :
    PA w (.cells #[z0, z1, z2, z3, z4] t) fun w1 => PS w1 ⟨w.heap.size, 0, none⟩ v0 fun w2 => PS w2 ⟨w.heap.size, 0 + 1, none⟩ v1 fun w3 => PS w3 ⟨w.heap.size, 0 + 2, none⟩ v2 fun w4 => PS w4 ⟨w.heap.size, 0 + 3, none⟩ v3 fun w5 => PS w5 ⟨w.heap.size, 0 + 4, none⟩ v4 κ := by
  refine PA.mk fun w1 k1 s1 g1 => PS.mk g1 (by simp) fun w2 k2 s2 g2 => PS.mk g2 (by simp) fun w3 k3 s3 g3 => PS.mk g3 (by simp) fun w4 k4 s4 g4 => PS.mk g4 (by simp) fun w5 k5 s5 g5 => PS.mk g5 (by simp) fun w6 k6 s6 g6 => h w6 ?_ (by omega) g6
  have e : ∀ {a b : World}, Grew w a → Keep (· = w.heap.size) a b → Grew w b := fun g k => g.new k fun b hb => .inr (by omega)
  exact e (e (e (e (e k1 k2) k3) k4) k5) k6

def stA (x : ActV) (T : Tab) : Tab := if x.kind = 0 then { T with asked := aput T.asked x.peer (atT x.now) } else if x.kind = 1 then T.hear x.peer x.vec x.want else T

structure PeerEq (peer : Int) (T U : Tab) : Prop where
  asked : aget T.asked peer = aget U.asked peer
  heard : aget T.heard peer = aget U.heard peer
  only : ∀ q, q ≠ peer → aget U.asked q = none

theorem hear_other {T : Tab} {peer q : Int} (ht : Tidy T.asked) (h : q ≠ peer) (xs want : List Int) : aget (T.hear q xs want).asked peer = aget T.asked peer ∧ aget (T.hear q xs want).heard peer = aget T.heard peer := by
  unfold Tab.hear
  refine ⟨?_, ?_⟩
  · simp only
    split
    · rw [aget_adel ht, if_neg (by simpa using Ne.symm h)]
    · rfl
  · simp only
    rw [aget_aput, if_neg (by simpa using Ne.symm h)]

theorem PeerEq.step {peer : Int} {T U : Tab} (h : PeerEq peer T U) (x : ActV) (ht : Tidy T.asked) (hu : Tidy U.asked) : PeerEq peer (stA x T) (if x.peer = peer then stA x U else U) := by
  by_cases hx : x.peer = peer
  · rw [if_pos hx]
    subst hx
    unfold stA
    by_cases h0 : x.kind = 0
    · rw [if_pos h0, if_pos h0]
      refine ⟨by simp only [aget_aput]; simp, h.heard, fun q hq => ?_⟩
      simp only
      rw [aget_aput, if_neg (by simpa using hq)]
      exact h.only q hq
    · rw [if_neg h0, if_neg h0]
      by_cases h1 : x.kind = 1
      · rw [if_pos h1, if_pos h1]
        have ea : T.all x.peer x.vec = U.all x.peer x.vec := by unfold Tab.all; rw [h.heard]
        have ee : T.ends x.peer x.vec x.want = U.ends x.peer x.vec x.want := by unfold Tab.ends; rw [h.asked, ea]
        unfold Tab.hear
        refine ⟨?_, ?_, fun q hq => ?_⟩
        · simp only [ee]
          split
          · rw [aget_adel ht, aget_adel hu]; simp
          · exact h.asked
        · simp only [ea, aget_aput]; simp
        · simp only
          split
          · rw [aget_adel hu, if_neg (by simpa using hq)]; exact h.only q hq
          · exact h.only q hq
      · rw [if_neg h1, if_neg h1]; exact h
  · rw [if_neg hx]
    unfold stA
    by_cases h0 : x.kind = 0
    · rw [if_pos h0]
      refine ⟨?_, h.heard, h.only⟩
      simp only
      rw [aget_aput, if_neg (by simpa using Ne.symm hx)]
      exact h.asked
    · rw [if_neg h0]
      by_cases h1 : x.kind = 1
      · rw [if_pos h1]
        obtain ⟨e1, e2⟩ := hear_other ht hx x.vec x.want
        exact ⟨e1.trans h.asked, e2.trans h.heard, h.only⟩
      · rw [if_neg h1]; exact h

theorem aput_length (l : List (Int × Int)) (k v : Int) : (aput l k v).length ≤ l.length + 1 := by
  induction l with
  | nil => simp [aput]
  | cons p l ih =>
    unfold aput
    split
    · simp
    · simp only [List.length_cons]; omega

theorem stA_length (x : ActV) (T : Tab) : (stA x T).asked.length ≤ T.asked.length + 1 ∧ (stA x T).retry = T.retry := by
  unfold stA
  split
  · exact ⟨aput_length .., rfl⟩
  · split
    · refine ⟨?_, rfl⟩
      unfold Tab.hear
      simp only
      split
      · have := length_adel T.asked x.peer; omega
      · omega
    · exact ⟨by omega, rfl⟩

theorem TabAt.heard_big {w : World} {p : Nat} {F : Nat → Prop} {T : Tab} (h : TabAt w p F T) (peer : Int) : ((aget T.heard peer).getD []).length * 8 ≤ Big := by
  obtain ⟨ra, rh, la, lh, h1, h2, h3, h4, h5, h6, h7, h8⟩ := h.body
  obtain ⟨ha, hn, hc, hg, hI, hB, hF⟩ := TabAt.heardAt h5 peer
  rw [← hI.len]; exact hB

theorem open_sorted {T : Tab} (ht : Tidy T.asked) : T.open.Pairwise (· < ·) := by
  have h1 : T.open.Pairwise (fun a b => decide (a ≤ b) = true) := List.pairwise_mergeSort (fun a b c h1 h2 => by simp at *; omega) (fun a b => by simp; omega) _
  have h2 : T.open.Pairwise (· ≠ ·) := sortI_nodup ht
  exact (h1.and h2).imp fun ⟨h1, h2⟩ => by simp at h1; omega

theorem mem_open {T : Tab} {q : Int} : q ∈ T.open ↔ (aget T.asked q).isSome = true := by unfold Tab.open; rw [mem_sortI, mem_keys]

theorem SessionApart {retry peer : Int} {a : Option Addr} {n c : Nat} {l : List ActV} {w : World} (hr : I64 retry) (hp : I64 peer) (hx : Acts w a n l) :
    Calls Try.prog F_law26_SessionApart #[.int .i64 retry, .int .i64 peer, .slice a n c] w (Ok (tru w)) := by
  have hn := hx.len; have hbig := hx.big
  unfold Big at hbig
  refine L_law26_SessionApart (PC.ok (law_Long hx) ?_)
  rintro _ _ ⟨b, rfl, rfl, hlong⟩
  refine ⟨_, rfl, PIf.mk (fun _ => works' (Keep.refl _)) fun hb => PC.ok session_New ?_⟩
  obtain ⟨hl200, hl100⟩ := hlong hb
  rintro _ w1 ⟨p, F, rfl, hT, hG, hF⟩
  refine ⟨_, rfl, PC.ok session_New ?_⟩
  rintro _ w2 ⟨q, G, rfl, hU, hG2, hF2⟩
  refine ⟨_, rfl, eqNil ⟨_, rfl, PIf.ff rfl (eqNil ⟨_, rfl, PIf.ff rfl ?_⟩)⟩⟩
  refine ⟨fun k i w' => ∃ (j : Nat) (T U : Tab) (F G : Nat → Prop), i = (j : Int) ∧ j ≤ n ∧ k = n - j ∧ Two w w' p q F G T U ∧ PeerEq peer T U ∧ T.asked.length ≤ j,
    ⟨_, 0, _, _, F, G, rfl, by omega, rfl, Two.of hT hG hF hU hG2 hF2, ⟨rfl, rfl, fun _ _ => rfl⟩, by simp⟩, ?_⟩
  rintro k i B w3 ⟨j, T, U, F, G, rfl, hj, rfl, hS, hE, hlen⟩
  refine PIf.mk (fun hlt => ?_) (fun hge => ?_)
  · have hlt := of_decide_eq_true hlt
    obtain ⟨x, hxi⟩ : ∃ x, l[j]? = some x := ⟨_, List.getElem?_eq_getElem (by omega : j < l.length)⟩
    obtain ⟨b, o, a1, n1, c1, a2, n2, c2, ha, hb0, ho0⟩ := hx.act j x hxi
    have ho := ho0.grew hS.gr hb0
    refine ⟨b, o, ha, by omega, hlt, x.kind, x.peer, x.now, a1, n1, c1, a2, n2, c2, ho.kind, ho.peer, ho.now, ho.vec, ho.want, fill5 fun w4 k4 s4 g4 => ?_⟩
    have hS4 := hS.grew k4
    have hcF : ∀ b, F b → b ≠ w3.heap.size := fun b hb => by have := hS.ta.dom b hb; omega
    have hcG : ∀ b, G b → b ≠ w3.heap.size := fun b hb => by have := hS.tb.dom b hb; omega
    refine ⟨fun k kk w' => ∃ (jj : Nat) (T' U' : Tab) (F G : Nat → Prop), kk = (jj : Int) ∧ jj ≤ 2 ∧ k = 2 - jj ∧ Two w w' p q F G T' U' ∧ (∀ b, F b → b ≠ w3.heap.size) ∧ (∀ b, G b → b ≠ w3.heap.size) ∧ w3.heap.size < w'.heap.size ∧
      w'.heap[w3.heap.size]? = some (.cells #[.int .i64 x.kind, .int .i64 x.peer, .int .i64 x.now, .slice a1 n1 c1, .slice a2 n2 c2] 40 (0, 0)) ∧
      T' = (if jj = 0 then T else stA x T) ∧ U' = (if jj = 2 ∧ x.peer = peer then stA x U else U),
      ⟨_, 0, T, U, F, G, rfl, by omega, rfl, hS4, hcF, hcG, by omega, g4, rfl, rfl⟩, ?_⟩
    rintro k kk B w5 ⟨jj, T', U', F, G, rfl, hjj, rfl, hS5, hcF, hcG, hsz, g5, hT', hU'⟩
    refine PIf.mk (fun hlk => ?_) (fun hgk => ?_)
    · have hlk := of_decide_eq_true hlk
      have hwk : IntKind.wrap .i64 ((jj : Int) + 1) = ((jj + 1 : Nat) : Int) := by rw [wrap_i64 (by unfold I64; omega)]; simp
      refine ⟨fun ptr w' => w' = w5 ∧ (jj = 0 ∧ ptr = some ⟨p, 0, none⟩ ∨ jj = 1 ∧ x.peer = peer ∧ ptr = some ⟨q, 0, none⟩), ?_, ?_⟩
      · refine PIf.mk (fun h1 => ?_) (fun h0 => ⟨rfl, .inl ⟨?_, rfl⟩⟩)
        · have h1 : jj = 1 := by have : (jj : Int) = 1 := by simpa using h1
                                 omega
          refine ⟨x.peer, cell_at g5 rfl, PIf.mk (fun hne => ?_) (fun he => ⟨rfl, .inr ⟨h1, by simpa using he, rfl⟩⟩)⟩
          have hne : x.peer ≠ peer := by simpa using hne
          exact ⟨0, by omega, 2, T', U', F, G, by rw [hwk, h1], by omega, rfl, hS5, hcF, hcG, hsz, g5, by rw [hT', h1]; rfl, by rw [hU', h1]; simp [hne]⟩
        · have : (jj : Int) ≠ 1 := by simpa using h0
          omega
      · rintro ptr B w6 ⟨rfl, hcase⟩
        -- the table at hand, the other one, and how the round ends
        obtain ⟨r, s, Fr, Gs, Tr, Us, rfl, hS6, hcr, hcs, fin⟩ : ∃ (r s : Nat) (Fr Gs : Nat → Prop) (Tr Us : Tab), ptr = some ⟨r, 0, none⟩ ∧ Two w w6 r s Fr Gs Tr Us ∧ (∀ b, Fr b → b ≠ w3.heap.size) ∧ (∀ b, Gs b → b ≠ w3.heap.size) ∧
            ∀ (w' : World) (F' : Nat → Prop), Two w w' r s F' Gs (stA x Tr) Us → (∀ b, F' b → b ≠ w3.heap.size) → w3.heap.size < w'.heap.size → w'.heap[w3.heap.size]? = w6.heap[w3.heap.size]? →
              ∃ m', m' < 2 - jj ∧ ∃ (jj' : Nat) (T' U' : Tab) (F G : Nat → Prop), IntKind.wrap .i64 ((jj : Int) + 1) = (jj' : Int) ∧ jj' ≤ 2 ∧ m' = 2 - jj' ∧ Two w w' p q F G T' U' ∧ (∀ b, F b → b ≠ w3.heap.size) ∧ (∀ b, G b → b ≠ w3.heap.size) ∧ w3.heap.size < w'.heap.size ∧
                w'.heap[w3.heap.size]? = some (.cells #[.int .i64 x.kind, .int .i64 x.peer, .int .i64 x.now, .slice a1 n1 c1, .slice a2 n2 c2] 40 (0, 0)) ∧
                T' = (if jj' = 0 then T else stA x T) ∧ U' = (if jj' = 2 ∧ x.peer = peer then stA x U else U) := by
          rcases hcase with ⟨h0, rfl⟩ | ⟨h1, hpe, rfl⟩
          · refine ⟨p, q, F, G, T', U', rfl, hS5, hcF, hcG, fun w' F' h2 hc hz hh => ⟨1, by omega, 1, _, _, F', G, by rw [hwk, h0], by omega, rfl, h2, hc, hcG, hz, hh.trans g5, ?_, ?_⟩⟩
            · rw [hT', h0]; rfl
            · rw [hU', h0]; rfl
          · refine ⟨q, p, G, F, U', T', rfl, hS5.swap, hcG, hcF, fun w' F' h2 hc hz hh => ⟨0, by omega, 2, _, _, F, F', by rw [hwk, h1], by omega, rfl, h2.swap, hcF, hc, hz, hh.trans g5, ?_, ?_⟩⟩
            · rw [hT', h1]; rfl
            · rw [hU', h1]; simp [hpe]
        by_cases hk0 : x.kind = 0
        · refine ⟨fun w' => Two w w' r s Fr Gs (stA x Tr) Us ∧ w3.heap.size < w'.heap.size ∧ w'.heap[w3.heap.size]? = w6.heap[w3.heap.size]?, ?_, ?_⟩
          · refine ⟨x.kind, cell_at g5 rfl, PIf.tt (by simp [hk0]) ?_⟩
            rintro w7 ⟨m, rfl⟩
            have k7 : Grew w6 (w6.drewN m) := Drew.keep ⟨m, rfl⟩
            have g7 := k7.get g5 id
            have hS7 := hS6.grew k7
            refine ⟨Fr, fun hf => hcr _ hf rfl, x.peer, cell_at g7 rfl, x.now, cell_at g7 rfl, PC.ok law_at ?_⟩
            rintro _ _ ⟨rfl, rfl⟩
            refine ⟨_, rfl, Keep.refl _, PC.ok (Table_Start hS7.ta ho0.peerR) ?_⟩
            rintro _ w8 ⟨rfl, hT8, hk8⟩
            refine ⟨rfl, hk8, ?_, ?_, ?_⟩
            · have := hS7.step hT8 hk8
              unfold stA; rw [if_pos hk0]; exact this
            · have := hk8.size; have := k7.size; omega
            · rw [hk8.block _ (by have := k7.size; omega) (fun hf => hcr _ hf rfl)]
              exact k7.block _ (by omega) id
          · rintro B w7 ⟨h2, hz, hh⟩
            refine ⟨x.kind, by rw [g5] at hh; exact cell_at hh rfl, PIf.ff (by simp [hk0]) (fin w7 Fr h2 hcr hz hh)⟩
        · refine ⟨fun w' => w' = w6, ⟨x.kind, cell_at g5 rfl, PIf.ff (by simpa using hk0) rfl⟩, ?_⟩
          rintro B w7 h7
          obtain rfl := h7.symm
          refine ⟨x.kind, cell_at g5 rfl, PIf.mk (fun hk1 => ?_) (fun hk1 => ?_)⟩
          · have hk1 : x.kind = 1 := by simpa using hk1
            refine ⟨x.peer, cell_at g5 rfl, a1, n1, c1, cell_at g5 rfl, a2, n2, c2, cell_at g5 rfl, PC.ok (Table_Heard hS6.ta (ho0.vecI.grew hS6.gr) (ho0.wantI.grew hS6.gr) (ho0.wantI.old hS6.fa (Nat.le_refl _))) ?_⟩
            rintro _ w7 ⟨F', rfl, hT7, hev⟩
            refine ⟨_, rfl, fin w7 F' ?_ (fun b hb => (hev.new b hb).elim (hcr b) fun h => by omega) (by have := hev.keep.size; omega) (hev.keep.block _ (by omega) (fun hf => hcr _ hf rfl))⟩
            have := hS6.stepE hT7 hev
            unfold stA; rw [if_neg hk0, if_pos hk1]; exact this
          · have hk1 : x.kind ≠ 1 := by simpa using hk1
            refine fin w6 Fr ?_ hcr hsz rfl
            unfold stA; rw [if_neg hk0, if_neg hk1]; exact hS6
    · have hgk := of_decide_eq_false hgk
      have h2 : jj = 2 := by omega
      subst h2
      have hT' : T' = stA x T := by rw [hT']; rfl
      have hU' : U' = if x.peer = peer then stA x U else U := by rw [hU']; simp
      subst hT'; subst hU'
      refine ⟨n - (j + 1), by omega, j + 1, _, _, F, G, by rw [wrap_i64 (by unfold I64; omega)]; simp, by omega, rfl, hS5, hE.step x hS.ta.tidyA hS.tb.tidyA, ?_⟩
      have := (stA_length x T).1
      omega
  · have hge := of_decide_eq_false hge
    have hUo : U.open = if (aget U.asked peer).isSome = true then [peer] else [] := by
      refine open_eq hS.tb.tidyA (by split <;> simp) fun q => ?_
      by_cases hq : q = peer
      · subst hq
        by_cases hs : (aget U.asked q).isSome = true
        · simp [hs]
        · simp [hs]
      · rw [hE.only q hq]
        split <;> simp [hq]
    have hUl : U.asked.length ≤ 1 := by rw [← open_length, hUo]; split <;> simp
    have hin : ∀ q ∈ T.open, I64 q := fun q hq => by
      obtain ⟨v, hv⟩ := Option.isSome_iff_exists.1 (mem_open.1 hq)
      exact hS.ta.keysA _ (aget_mem hv)
    refine PC.ok (Table_Open hS.tb (by unfold Big; omega)) ?_
    rintro _ w4 ⟨a4, n4, c4, rfl, ho4, hk4, hn4⟩
    have hl4 := own_len ho4
    have hS4 := hS.grew hk4
    refine ⟨_, _, _, rfl, PC.ok (Table_Open hS4.ta (by unfold Big; omega)) ?_⟩
    rintro _ w5 ⟨a5, n5, c5, rfl, ho5, hk5, hn5⟩
    have hl5 := own_len ho5
    have hol := open_length T
    have hS5 := hS4.grew hk5
    have hI5 : Ints w5 a5 n5 T.open := ho5.ints (by unfold Big; omega) hin
    have hsorted := open_sorted hS.ta.tidyA
    refine ⟨_, _, _, rfl, fun k th i w' => ∃ i' : Nat, i = (i' : Int) ∧ i' ≤ n5 ∧ k = n5 - i' ∧ th = decide (peer ∈ T.open.take i') ∧ Grew w5 w', ⟨_, 0, rfl, by omega, rfl, by simp, Keep.refl _⟩, ?_⟩
    rintro k th i B w6 ⟨i', rfl, hi', rfl, hth, hG6⟩
    refine PIf.mk (fun hlt => ?_) (fun hge2 => ?_)
    · have hlt := of_decide_eq_true hlt
      have hwi : IntKind.wrap .i64 ((i' : Int) + 1) = ((i' + 1 : Nat) : Int) := by rw [wrap_i64 (by unfold I64; omega)]; simp
      obtain ⟨b, off, y, hab, hbs, hy, hyr, hyc⟩ := (hI5.grew hG6).at (i := (i' : Int)) (by omega) hlt
      have htake : decide (peer ∈ T.open.take (i' + 1)) = (th || y == peer) := by
        simp only [Int.toNat_natCast] at hy
        rw [List.take_add_one, hy, hth]
        simp only [Option.toList_some, List.mem_append, List.mem_singleton, Bool.decide_or]
        have e : decide (peer = y) = (y == peer) := by
          by_cases h : peer = y
          · subst h; simp
          · have h' : y ≠ peer := fun h2 => h h2.symm
            rw [decide_eq_false h, beq_eq_false_iff_ne.2 h']
        rw [e]
      refine ⟨fun th' w' => w' = w6 ∧ th' = decide (peer ∈ T.open.take (i' + 1)), ?_, ?_⟩
      · refine PIf.mk (fun h => ⟨rfl, by rw [htake, h]; rfl⟩) (fun h => ⟨b, off, hab, by omega, hlt, y, hyc, rfl, by rw [htake, h]; rfl⟩)
      · rintro th' B w7 ⟨h7, rfl⟩
        obtain rfl := h7.symm
        refine PIf.mk (fun hpos => ?_) (fun hzero => ?_)
        · have hpos := of_decide_eq_true hpos
          have hw1 : IntKind.wrap .i64 ((i' : Int) - 1) = ((i' - 1 : Nat) : Int) := by rw [wrap_i64 (by unfold I64; omega)]; omega
          rw [hw1]
          obtain ⟨b2, off2, z, hab2, hbs2, hz, hzr, hzc⟩ := (hI5.grew hG6).at (i := ((i' - 1 : Nat) : Int)) (by omega) (by omega)
          refine ⟨b, off, hab, by omega, hlt, y, hyc, b2, off2, hab2, by omega, by omega, z, hzc, ?_⟩
          rintro w8 hd8
          have hzy : z < y := by
            simp only [Int.toNat_natCast] at hy hz
            obtain ⟨l1, e1⟩ := List.getElem?_eq_some_iff.1 hy
            obtain ⟨l2, e2⟩ := List.getElem?_eq_some_iff.1 hz
            rw [← e1, ← e2]
            exact List.pairwise_iff_getElem.1 hsorted _ _ l2 l1 (by omega)
          exact PIf.ff (by simp; omega) ⟨n5 - (i' + 1), by omega, i' + 1, hwi, by omega, rfl, rfl, hG6.grew hd8.keep⟩
        · rintro w8 hd8
          exact ⟨n5 - (i' + 1), by omega, i' + 1, hwi, by omega, rfl, rfl, hG6.grew hd8.keep⟩
    · have hge2 := of_decide_eq_false hge2
      rw [List.take_of_length_le (by omega)] at hth
      have hS6 := hS5.grew hG6
      have hsome : decide (peer ∈ T.open) = (aget U.asked peer).isSome := by
        rw [Bool.eq_iff_iff, decide_eq_true_eq, mem_open, hE.asked]
      refine PIf.ff ?_ ?_
      · rw [hth, hsome, hl4, hUo]
        cases (aget U.asked peer).isSome <;> rfl
      · refine PC.ok (Table_Vec (peer := peer) hS6.ta) ?_
        rintro _ w7 ⟨a7, n7, c7, rfl, ho7, hk7, hn7⟩
        have hS7 := hS6.grew hk7
        refine ⟨_, _, _, rfl, PC.ok (Table_Vec (peer := peer) hS7.tb) ?_⟩
        rintro _ w8 ⟨a8, n8, c8, rfl, ho8, hk8, hn8⟩
        rw [hE.heard] at ho7
        have hS8 := hS7.grew hk8
        have hVr := hS8.tb.heard_I64 peer
        have hVb := hS8.tb.heard_big peer
        refine ⟨_, _, _, rfl, PC.ok (kit_SameInts ((ho7.grew hk8).ints (by rw [own_len ho7]; exact hVb) hVr) (ho8.ints (by rw [own_len ho8]; exact hVb) hVr)) ?_⟩
        rintro _ w9 ⟨rfl, hd9⟩
        have hS9 := hS8.grew hd9.keep
        refine ⟨_, rfl, PIf.ff (by simp) (PC.ok (Table_Clear hS9.ta) ?_)⟩
        rintro _ w10 ⟨rfl, hT10, hk10⟩
        have hS10 := hS9.step hT10 hk10
        refine ⟨rfl, PC.ok (Table_Open hS10.ta (by simp [Big])) ?_⟩
        rintro _ w11 ⟨a11, n11, c11, rfl, ho11, hk11, hn11⟩
        rw [open_nil] at ho11
        have hS11 := hS10.grew hk11
        refine ⟨_, _, _, rfl, PIf.tt (by rw [own_len ho11]; rfl) (PC.ok (Table_Vec (peer := peer) hS11.ta) ?_)⟩
        rintro _ w12 ⟨a12, n12, c12, rfl, ho12, hk12, hn12⟩
        have hS12 := hS11.grew hk12
        refine ⟨_, _, _, rfl, PIf.tt (by rw [own_len ho12]; rfl) (PC.ok (Table_Due (now := 2305843009213693952) hS12.ta (by simp [Big])) ?_)⟩
        rintro _ w13 ⟨a13, n13, c13, rfl, ho13, hT13, hk13, hn13⟩
        rw [due_nil.1] at ho13
        have hS13 := hS12.step hT13 hk13
        exact ⟨_, _, _, rfl, PIf.tt (by rw [own_len ho13]; rfl) (works' hS13.gr)⟩
end Go.Proofs.Ytnfcddhabhbicaa
