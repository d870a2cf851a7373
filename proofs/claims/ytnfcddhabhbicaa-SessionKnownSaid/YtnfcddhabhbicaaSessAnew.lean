/- SessionAnew: its walk -/
import Derived.Test.YtnfcddhabhbicaaActs
namespace Go.Proofs.Ytnfcddhabhbicaa
open Go.Lift
set_option linter.unusedVariables false

def one (A : List (Int × Int)) (peer : Int) : Prop := A = [] ∨ ∃ v, A = [(peer, v)]

theorem one.aput {A : List (Int × Int)} {peer : Int} (h : one A peer) (v : Int) : Lift.aput A peer v = [(peer, v)] := by
  rcases h with rfl | ⟨u, rfl⟩ <;> simp [Lift.aput]

theorem one.hear {r peer : Int} {A : List (Int × Int)} {H : List (Int × List Int)} (h : one A peer) (xs want : List Int) : one (Tab.hear ⟨r, A, H⟩ peer xs want).asked peer := by
  unfold Tab.hear
  simp only
  rcases h with rfl | ⟨v, rfl⟩
  · left; split <;> simp [adel]
  · split
    · left; simp [adel]
    · right; exact ⟨v, rfl⟩

theorem open_nil {r : Int} {H : List (Int × List Int)} : Tab.open ⟨r, [], H⟩ = [] := sortI_eq (List.Perm.refl _) (by simp)
theorem open_one {r p v : Int} {H : List (Int × List Int)} : Tab.open ⟨r, [(p, v)], H⟩ = [p] := sortI_eq (List.Perm.refl _) (by simp)
theorem due_nil {r now : Int} {H : List (Int × List Int)} : Tab.due ⟨r, [], H⟩ now = [] ∧ Tab.dueT ⟨r, [], H⟩ now = ⟨r, [], H⟩ := by
  unfold Tab.due Tab.dueT Tab.dueTo; rw [open_nil]; exact ⟨rfl, rfl⟩
theorem due_one {r p v now : Int} {H : List (Int × List Int)} :
    Tab.due ⟨r, [(p, v)], H⟩ now = (if IntKind.wrap .i64 (now - v) ≥ r then [p] else []) ∧ Tab.dueT ⟨r, [(p, v)], H⟩ now = ⟨r, if IntKind.wrap .i64 (now - v) ≥ r then [(p, now)] else [(p, v)], H⟩ := by
  unfold Tab.due Tab.dueT Tab.dueTo
  rw [open_one]
  have ea : aget [(p, v)] p = some v := by simp [aget]
  have ep : aput [(p, v)] p now = [(p, now)] := by simp [aput]
  simp only [List.length_singleton, List.take_succ_cons, List.take_zero, List.foldl_cons, List.foldl_nil, dueStep, ea, ep, Option.getD_some]
  split <;> exact ⟨rfl, rfl⟩

theorem one.due {r peer : Int} {A : List (Int × Int)} {H : List (Int × List Int)} (h : one A peer) (now : Int) : ∃ A', Tab.dueT ⟨r, A, H⟩ now = ⟨r, A', H⟩ ∧ one A' peer := by
  rcases h with rfl | ⟨v, rfl⟩
  · exact ⟨[], due_nil.2, .inl rfl⟩
  · refine ⟨_, due_one.2, .inr ?_⟩
    split
    · exact ⟨_, rfl⟩
    · exact ⟨_, rfl⟩

theorem one.length {A : List (Int × Int)} {peer : Int} (h : one A peer) : A.length ≤ 1 := by
  rcases h with rfl | ⟨v, rfl⟩ <;> simp

theorem own_len {w : World} {e : TypeId} {a : Option Addr} {n c : Nat} {xs : List Int} (h : Own w e 1 a n c (ints xs)) : n = xs.length := by
  have := h.length; rw [ints_length, Nat.mul_one] at this; exact this.symm

theorem TabAt.heard_I64 {w : World} {p : Nat} {F : Nat → Prop} {T : Tab} (h : TabAt w p F T) (peer : Int) : ∀ x ∈ (aget T.heard peer).getD [], I64 x := by
  obtain ⟨ra, rh, la, lh, h1, h2, h3, h4, h5, h6, h7, h8⟩ := h.body
  obtain ⟨ha, hn, hc, hg, hI, hB, hF⟩ := TabAt.heardAt h5 peer
  exact hI.rng

theorem SessionAnew {retry peer now : Int} {a : Option Addr} {n c : Nat} {l : List ActV} {w : World} (hr : I64 retry) (hp : I64 peer) (hnow : I64 now) (hx : Acts w a n l) :
    Calls Try.prog F_law26_SessionAnew #[.int .i64 retry, .int .i64 peer, .int .i64 now, .slice a n c] w (Ok (tru w)) := by
  have hn := hx.len; have hbig := hx.big
  unfold Big at hbig
  refine L_law26_SessionAnew (PC.ok (law_Long hx) ?_)
  rintro _ _ ⟨b, rfl, rfl, hlong⟩
  refine ⟨_, rfl, PIf.mk (fun _ => works' (Keep.refl _)) fun hb => PIf.mk (fun _ => works' (Keep.refl _)) fun h1 => PIf.mk (fun _ => works' (Keep.refl _)) fun h2 => PC.ok session_New ?_⟩
  obtain ⟨hl200, hl100⟩ := hlong hb
  have h1 := of_decide_eq_false h1
  have h2 := of_decide_eq_false h2
  rintro _ w1 ⟨p, F, rfl, hT, hG, hF⟩
  refine ⟨_, rfl, PC.ok session_New ?_⟩
  rintro _ w2 ⟨q, G, rfl, hU, hG2, hF2⟩
  refine ⟨_, rfl, eqNil ⟨_, rfl, PIf.ff rfl (eqNil ⟨_, rfl, PIf.ff rfl ?_⟩)⟩⟩
  refine ⟨fun k i w' => ∃ (j : Nat) (A : List (Int × Int)) (H : List (Int × List Int)) (F : Nat → Prop), i = (j : Int) ∧ j ≤ n ∧ k = n - j ∧ Two w w' p q F G ⟨retry, A, H⟩ ⟨retry, [], []⟩ ∧ one A peer ∧ ((aget H peer).getD []).length ≤ 100,
    ⟨_, 0, [], [], F, rfl, by omega, rfl, Two.of hT hG hF hU hG2 hF2, .inl rfl, by simp [aget]⟩, ?_⟩
  rintro k i B w3 ⟨j, A, H, F, rfl, hj, rfl, hS, hone, hlen⟩
  refine PIf.mk (fun hlt => ?_) (fun hge => ?_)
  · have hlt := of_decide_eq_true hlt
    obtain ⟨x, hxi⟩ : ∃ x, l[j]? = some x := ⟨_, List.getElem?_eq_getElem (by omega : j < l.length)⟩
    have hxm : x ∈ l := List.mem_of_getElem? hxi
    obtain ⟨b, o, a1, n1, c1, a2, n2, c2, ha, hb0, ho0⟩ := hx.act j x hxi
    have ho := ho0.grew hS.gr hb0
    have hb : b < w3.heap.size := Nat.lt_of_lt_of_le hb0 hS.gr.size
    have hwj : IntKind.wrap .i64 ((j : Int) + 1) = ((j + 1 : Nat) : Int) := by rw [wrap_i64 (by unfold I64; omega)]; simp
    refine ⟨b, o, ha, by omega, hlt, x.kind, ho.kind, PIf.mk (fun hk => ?_) fun hk0 => PIf.mk (fun hk => ?_) fun hk1 => PIf.mk (fun hk => ?_) fun hk2 => ?_⟩
    · refine ⟨b, o, ha, by omega, hlt, x.now, ho.now, PC.ok law_at ?_⟩
      rintro _ _ ⟨rfl, rfl⟩
      refine ⟨_, rfl, PC.ok (Table_Start hS.ta hp) ?_⟩
      rintro _ w4 ⟨rfl, hT4, hk4⟩
      exact ⟨rfl, n - (j + 1), by omega, j + 1, _, H, F, hwj, by omega, rfl, hS.step hT4 hk4, .inr ⟨_, hone.aput _⟩, hlen⟩
    · rintro w4 ⟨m, rfl⟩
      have hS4 := hS.grew (Drew.keep ⟨m, rfl⟩)
      have ho4 := ho.grew (Drew.keep (w := w3) ⟨m, rfl⟩) hb
      refine ⟨b, o, ha, by omega, hlt, a1, n1, c1, ho4.vec, b, o, ha, by omega, hlt, a2, n2, c2, ho4.want, PC.ok (Table_Heard hS4.ta ho4.vecI ho4.wantI (ho0.wantI.old hS.fa (Nat.le_refl _))) ?_⟩
      · rintro _ w5 ⟨F', rfl, hT5, hev⟩
        refine ⟨_, rfl, n - (j + 1), by omega, j + 1, _, _, F', hwj, by omega, rfl, hS4.stepE hT5 hev, hone.hear .., ?_⟩
        show ((aget (aput H peer (joinv ((aget H peer).getD []) x.vec)) peer).getD []).length ≤ 100
        rw [aget_aput, if_pos (by simp), Option.getD_some, joinv_length]
        have := (hl100 x hxm).1
        omega
    · refine ⟨b, o, ha, by omega, hlt, x.now, ho.now, PC.ok law_at ?_⟩
      rintro _ _ ⟨rfl, rfl⟩
      refine ⟨_, rfl, PC.ok (Table_Due hS.ta (by have := hone.length; unfold Big; simp only; omega)) ?_⟩
      rintro _ w4 ⟨a4, n4, c4, rfl, ho4, hT4, hk4, hn4⟩
      obtain ⟨A', e, hone'⟩ := hone.due (r := retry) (H := H) (atT x.now)
      rw [e] at hT4
      exact ⟨_, _, _, rfl, n - (j + 1), by omega, j + 1, A', H, F, hwj, by omega, rfl, hS.step hT4 hk4, hone', hlen⟩
    · exact ⟨n - (j + 1), by omega, j + 1, A, H, F, hwj, by omega, rfl, hS, hone, hlen⟩
  · have hVr := hS.ta.heard_I64 peer
    generalize hV : (aget H peer).getD [] = V at hlen hVr
    have lenJ : (joinv [] V).length ≤ 100 := by rw [joinv_length]; simp; omega
    have hJr : ∀ x ∈ joinv [] V, I64 x := joinv_I64 (by simp) hVr
    have ht := atT_range now
    have hN0 : 0 ≤ Int.tdiv (atT now) 4 ∧ Int.tdiv (atT now) 4 < 1152921504606846976 := by
      rw [Int.tdiv_eq_ediv_of_nonneg ht.1]; omega
    generalize hN : Int.tdiv (atT now) 4 = N at hN0
    have w1N : IntKind.wrap .i64 N = N := wrap_i64 (by unfold I64; omega)
    have w2N : IntKind.wrap .i64 (N + retry) = N + retry := wrap_i64 (by unfold I64; omega)
    have w3N : IntKind.wrap .i64 (N + retry - 1) = N + retry - 1 := wrap_i64 (by unfold I64; omega)
    have c1 : ¬ (IntKind.wrap .i64 (N + retry - 1 - N) ≥ retry) := by rw [wrap_i64 (by unfold I64; omega)]; omega
    have c2 : IntKind.wrap .i64 (N + retry - N) ≥ retry := by rw [wrap_i64 (by unfold I64; omega)]; omega
    have getv0 : ∀ l i, 0 ≤ getv l i := fun l i => by unfold getv; split <;> omega
    have cov : ∀ l : List Int, covers (joinv l []) l = true := fun l => by
      have : cmpv (joinv l []) l = 0 := cmpv_eq fun i => by
        rw [getv_joinv]
        have := getv0 l i
        have h0 : getv [] i = 0 := by unfold getv; split <;> simp
        rw [h0]; omega
      unfold covers; rw [this]; rfl
    have r1 : ∀ x ∈ [peer], I64 x := by intro x hx; simp at hx; subst hx; exact hp
    refine PC.ok (Table_Vec (peer := peer) hS.ta) ?_
    rintro _ w4 ⟨a4, n4, c4, rfl, ho4, hk4, hn4⟩
    rw [hV] at ho4
    have hl4 := own_len ho4
    refine ⟨_, _, _, rfl, PA.mk fun w5 k5 s5 g5 => ?_⟩
    have hS5 := (hS.grew hk4).grew k5
    have x5 : Ints w5 (some ⟨w4.heap.size, 0, none⟩) 1 [1] := Ints.lit g5 [1] rfl (by intro x hx; simp at hx; subst hx; unfold I64; omega) (by simp [Big])
    refine PC.ok (Table_Heard hS5.tb ((ho4.grew k5).ints (by unfold Big; omega) hVr) x5 fun _ => notIn_blk.2 fun b hb hf => by
      simp only [blk, Option.some.injEq] at hb; have := (hS.grew hk4).tb.dom b hf; omega) ?_
    rintro _ w6 ⟨G', rfl, hU6, hev⟩
    have hU6 : TabAt w6 q G' ⟨retry, [], [(peer, joinv [] V)]⟩ := hU6
    have hS6 := (hS5.swap.stepE hU6 hev).swap
    refine ⟨_, rfl, PC.ok law_at ?_⟩
    rintro _ _ ⟨rfl, rfl⟩
    refine ⟨_, rfl, ?_⟩
    rw [hN, w1N, w2N, w3N]
    refine PC.ok (Table_Start hS6.ta hp) ?_
    rintro _ w7 ⟨rfl, hT7, hk7⟩
    have hT7 : TabAt w7 p F ⟨retry, [(peer, N)], H⟩ := by have := hT7; simp only [hone.aput] at this; exact this
    have hS7 := hS6.step hT7 hk7
    refine ⟨rfl, PC.ok (Table_Start hS7.tb hp) ?_⟩
    rintro _ w8 ⟨rfl, hU8, hk8⟩
    have hU8 : TabAt w8 q G' ⟨retry, [(peer, N)], [(peer, joinv [] V)]⟩ := hU8
    have hS8 := (hS7.swap.step hU8 hk8).swap
    refine ⟨rfl, fun e w' => e = true ∧ Two w w' p q F G' ⟨retry, [(peer, N)], H⟩ ⟨retry, [(peer, N)], [(peer, joinv [] V)]⟩, ?_, ?_⟩
    · refine PC.ok (Table_Due hS8.ta (by simp [Big])) ?_
      rintro _ w9 ⟨a9, n9, c9, rfl, ho9, hT9, hk9, hn9⟩
      rw [due_one.1, if_neg c1] at ho9
      rw [due_one.2, if_neg c1] at hT9
      have hS9 := hS8.step hT9 hk9
      refine ⟨_, _, _, rfl, PIf.tt (by rw [own_len ho9]; rfl) (PC.ok (Table_Due hS9.tb (by simp [Big])) ?_)⟩
      rintro _ w10 ⟨a10, n10, c10, rfl, ho10, hU10, hk10, hn10⟩
      rw [due_one.1, if_neg c1] at ho10
      rw [due_one.2, if_neg c1] at hU10
      exact ⟨_, _, _, rfl, by rw [own_len ho10]; rfl, (hS9.swap.step hU10 hk10).swap⟩
    rintro _ B w11 ⟨rfl, hS11⟩
    refine ⟨fun e w' => e = true ∧ Two w w' p q F G' ⟨retry, [(peer, N + retry)], H⟩ ⟨retry, [(peer, N + retry)], [(peer, joinv [] V)]⟩, ?_, ?_⟩
    · refine PC.ok (Table_Due hS11.ta (by simp [Big])) ?_
      rintro _ w12 ⟨a12, n12, c12, rfl, ho12, hT12, hk12, hn12⟩
      rw [due_one.1, if_pos c2] at ho12
      rw [due_one.2, if_pos c2] at hT12
      have hS12 := hS11.step hT12 hk12
      have hl12 := own_len ho12
      refine ⟨_, _, _, rfl, PA.mk fun w13 k13 s13 g13 => ?_⟩
      have x13 : Ints w13 (some ⟨w12.heap.size, 0, none⟩) 1 [peer] := Ints.lit g13 [peer] rfl r1 (by simp [Big])
      refine PC.ok (kit_SameInts ((ho12.grew k13).ints (by rw [hl12]; simp [Big]) r1) x13) ?_
      rintro _ w14 ⟨rfl, hd14⟩
      have hS14 := (hS12.grew k13).grew hd14.keep
      refine ⟨_, rfl, PIf.tt (by simp) (PC.ok (Table_Due hS14.tb (by simp [Big])) ?_)⟩
      rintro _ w15 ⟨a15, n15, c15, rfl, ho15, hU15, hk15, hn15⟩
      rw [due_one.1, if_pos c2] at ho15
      rw [due_one.2, if_pos c2] at hU15
      have hS15 := (hS14.swap.step hU15 hk15).swap
      have hl15 := own_len ho15
      refine ⟨_, _, _, rfl, PA.mk fun w16 k16 s16 g16 => ?_⟩
      have x16 : Ints w16 (some ⟨w15.heap.size, 0, none⟩) 1 [peer] := Ints.lit g16 [peer] rfl r1 (by simp [Big])
      refine PC.ok (kit_SameInts ((ho15.grew k16).ints (by rw [hl15]; simp [Big]) r1) x16) ?_
      rintro _ w17 ⟨rfl, hd17⟩
      exact ⟨_, rfl, by simp, (hS15.grew k16).grew hd17.keep⟩
    rintro _ B w18 ⟨rfl, hS18⟩
    refine PC.ok (Table_Vec (peer := peer) hS18.ta) ?_
    rintro _ w19 ⟨a19, n19, c19, rfl, ho19, hk19, hn19⟩
    simp only [hV] at ho19
    have hl19 := own_len ho19
    have hS19 := hS18.grew hk19
    refine ⟨_, _, _, rfl, PC.ok (Table_Heard hS19.ta (Ints.nil w19) (ho19.ints (by unfold Big; omega) hVr) fun _ => notIn_blk.2 fun b hb hf => by
      have := hn19 b hb; have := hS18.ta.dom b hf; omega) ?_⟩
    rintro _ w20 ⟨F', rfl, hT20, hev20⟩
    have e20 : Tab.ends ⟨retry, [(peer, N + retry)], H⟩ peer [] V = true := by
      unfold Tab.ends Tab.all; simp only [hV, cov]; simp [aget]
    have h20 : (Tab.hear ⟨retry, [(peer, N + retry)], H⟩ peer [] V).asked = [] := by
      unfold Tab.hear; simp only [e20]; simp [adel]
    rw [e20]
    have hS20 := hS19.stepE hT20 hev20
    refine ⟨_, rfl, PC.ok (Table_Vec (peer := peer) hS20.tb) ?_⟩
    rintro _ w21 ⟨a21, n21, c21, rfl, ho21, hk21, hn21⟩
    have e21 : (aget [(peer, joinv [] V)] peer).getD [] = joinv [] V := by simp [aget]
    simp only [e21] at ho21
    have hl21 := own_len ho21
    have hS21 := hS20.grew hk21
    refine ⟨_, _, _, rfl, PC.ok (Table_Heard hS21.tb (Ints.nil w21) (ho21.ints (by unfold Big; omega) hJr) fun _ => notIn_blk.2 fun b hb hf => by
      have := hn21 b hb; have := hS20.tb.dom b hf; omega) ?_⟩
    rintro _ w22 ⟨G2, rfl, hU22, hev22⟩
    have e22 : Tab.ends ⟨retry, [(peer, N + retry)], [(peer, joinv [] V)]⟩ peer [] (joinv [] V) = true := by
      unfold Tab.ends Tab.all; simp only [e21, cov]; simp [aget]
    rw [e22]
    have hS22 := (hS21.swap.stepE hU22 hev22).swap
    refine ⟨_, rfl, PIf.tt rfl (PIf.tt rfl (PIf.tt rfl (PIf.tt rfl (PC.ok (Table_Open hS22.ta (by rw [h20]; simp [Big])) ?_))))⟩
    rintro _ w23 ⟨a23, n23, c23, rfl, ho23, hk23, hn23⟩
    have e23 : Tab.open (Tab.hear ⟨retry, [(peer, N + retry)], H⟩ peer [] V) = [] := by
      unfold Tab.open; rw [h20]; exact sortI_eq (List.Perm.refl _) (by simp)
    rw [e23] at ho23
    exact ⟨_, _, _, rfl, PIf.tt (by rw [own_len ho23]; rfl) (works' (hS22.gr.grew hk23))⟩
end Go.Proofs.Ytnfcddhabhbicaa
