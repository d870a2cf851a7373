/- the chapter's sessions: what each statement on them asks -/
import Derived.Test.YtnfcddhabhbicaaSession
import Derived.Test.YtnfcddhabhbicaaKitInts
namespace Go.Proofs.Ytnfcddhabhbicaa
open Go.Lift
set_option linter.unusedVariables false

theorem Ints.lit {w : World} {g : Nat} {e : TypeId} {f : Nat × Nat} {cs : Array Value} (hg : w.heap[g]? = some (.cells cs e f)) (xs : List Int) (hc : cs.toList = ints xs) (hr : ∀ x ∈ xs, I64 x) (hb : xs.length * 8 ≤ Big) : Ints w (some ⟨g, 0, none⟩) xs.length xs :=
  ⟨rfl, hb, hr, fun i x hi => ⟨g, 0, rfl, lt_of_get hg, by
    rw [Nat.zero_add]
    refine cell_at hg ?_
    have : cs.toList[i]? = some (.int .i64 x) := by rw [hc]; simp [ints, hi]
    simpa using this⟩⟩

theorem NewInts.own {w0 w : World} {xs : List Int} {v : Value} (h : NewInts w0 3 xs v w) : ∃ a n c, v = .slice a n c ∧ n = xs.length ∧ Own w 3 1 a n c (Lift.ints xs) ∧ Grew w0 w ∧ ∀ b, blk a = some b → w0.heap.size ≤ b := by
  obtain ⟨a, n, c, rfl, ho, hk, hn⟩ := h
  have hl := ho.length
  rw [ints_length, Nat.mul_one] at hl
  exact ⟨a, n, c, rfl, hl.symm, ho, hk, hn⟩

theorem sortI_eq {l l' : List Int} (hp : l'.Perm l) (hs : l'.Pairwise (· ≤ ·)) : sortI l = l' := by
  have h1 : sortI l = sortI l' := mergeSort_of_perm_i hp.symm
  rw [h1]
  exact List.mergeSort_of_pairwise (hs.imp fun h => by simpa using h)

theorem eqNil {w : World} {x y : Operand} {p : Nat} {κ ε : Value → World → Prop} (h : κ (.bool false) w) :
    PRun Try.prog (do eqGuard .eql 25 x y (.pointer (some ⟨p, 0, none⟩)) (.pointer none); binOp .eql 25 (.pointer (some ⟨p, 0, none⟩)) (.pointer none)) w κ ε :=
  eq_nil_ptr (P := Try.prog) (by kernel_rfl : Try.prog.underlying 25 = some (.pointer 52)) h

theorem small {xs : List Int} (h : xs.length ≤ 1000) : xs.length * 8 ≤ Big := by unfold Big; omega

theorem works {w : World} : Calls Try.prog F_law26_works #[] w (Ok fun v w' => v = .bool true ∧ Grew w w') := by
  have i64 : ∀ k : Int, -1000 ≤ k → k ≤ 1000 → I64 k := fun k h1 h2 => by unfold I64; omega
  refine L_law26_works (PC.ok session_New ?_)
  rintro _ w1 ⟨p, F, rfl, hT, hG, hF⟩
  have step : ∀ {wa wb : World}, Grew w wa → Keep F wa wb → Grew w wb := fun h k => h.new k fun b hb => .inr (hF b hb)
  refine ⟨_, rfl, eqNil ⟨_, rfl, PIf.ff rfl (PC.ok (Table_Start hT (i64 2 (by omega) (by omega))) ?_)⟩⟩
  rintro _ w2 ⟨rfl, hT2, hk2⟩
  refine ⟨rfl, PC.ok (Table_Start hT2 (i64 1 (by omega) (by omega))) ?_⟩
  rintro _ w3 ⟨rfl, hT3, hk3⟩
  have hG3 := step (step hG hk2) hk3
  have o12 : ∀ x y : Int, sortI [2, 1] = [1, 2] := fun x y => sortI_eq (List.Perm.swap ..) (by simp)
  have e4 : (Tab.mk 5 [(2, 0), (1, 3)] []).due 4 = [] ∧ (Tab.mk 5 [(2, 0), (1, 3)] []).dueT 4 = ⟨5, [(2, 0), (1, 3)], []⟩ := by
    simp only [Tab.due, Tab.dueT, Tab.dueTo, Tab.open, List.map, o12 0 0]; decide +kernel
  have e5 : (Tab.mk 5 [(2, 0), (1, 3)] []).due 5 = [2] ∧ (Tab.mk 5 [(2, 0), (1, 3)] []).dueT 5 = ⟨5, [(2, 5), (1, 3)], []⟩ := by
    simp only [Tab.due, Tab.dueT, Tab.dueTo, Tab.open, List.map, o12 0 0]; decide +kernel
  have e6 : (Tab.mk 5 [(2, 5), (1, 3)] []).due 6 = [] ∧ (Tab.mk 5 [(2, 5), (1, 3)] []).dueT 6 = ⟨5, [(2, 5), (1, 3)], []⟩ := by
    simp only [Tab.due, Tab.dueT, Tab.dueTo, Tab.open, List.map, o12 0 0]; decide +kernel
  have e8 : (Tab.mk 5 [(2, 5), (1, 3)] []).due 8 = [1] ∧ (Tab.mk 5 [(2, 5), (1, 3)] []).dueT 8 = ⟨5, [(2, 5), (1, 8)], []⟩ := by
    simp only [Tab.due, Tab.dueT, Tab.dueTo, Tab.open, List.map, o12 0 0]; decide +kernel
  refine ⟨rfl, PC.ok (Table_Due hT3 (by decide)) ?_⟩
  rintro _ w4 ⟨a4, n4, c4, rfl, ho4, hT4, hk4, hn4⟩
  rw [show aput (aput [] (2 : Int) (0 : Int)) 1 3 = [(2, 0), (1, 3)] from rfl] at hT4 ho4
  rw [e4.2] at hT4
  rw [e4.1] at ho4
  have z4 : n4 = 0 := by have := ho4.length.symm; simpa [ints] using this
  refine ⟨_, _, _, rfl, PC.ok (Table_Due hT4 (by decide)) ?_⟩
  rintro _ w5 ⟨a5, n5, c5, rfl, ho5, hT5, hk5, hn5⟩
  rw [e5.2] at hT5
  rw [e5.1] at ho5
  have hb5 : notIn F a5 := notIn_blk.2 fun b hb hf => by have := hn5 b hb; have := hT4.dom b hf; omega
  refine ⟨_, _, _, rfl, PC.ok (Table_Due hT5 (by decide)) ?_⟩
  rintro _ w6 ⟨a6, n6, c6, rfl, ho6, hT6, hk6, hn6⟩
  rw [e6.2] at hT6
  rw [e6.1] at ho6
  have z6 : n6 = 0 := by have := ho6.length.symm; simpa [ints] using this
  have ho5 := ho5.keep hk6 hb5
  refine ⟨_, _, _, rfl, PC.ok (Table_Due hT6 (by decide)) ?_⟩
  rintro _ w7 ⟨a7, n7, c7, rfl, ho7, hT7, hk7, hn7⟩
  rw [e8.2] at hT7
  rw [e8.1] at ho7
  have ho5 := ho5.keep hk7 hb5
  have hb7 : notIn F a7 := notIn_blk.2 fun b hb hf => by have := hn7 b hb; have := hT6.dom b hf; omega
  have hG7 := step (step (step (step hG3 hk4) hk5) hk6) hk7
  refine ⟨_, _, _, rfl, PA.mk fun w8 k8 s8 g8 => PA.mk fun w9 k9 s9 g9 => ?_⟩
  have x8 : Ints w9 (some ⟨w7.heap.size, 0, none⟩) 2 [4, 0] := (Ints.lit g8 [4, 0] rfl (by intro x hx; simp at hx; rcases hx with rfl | rfl <;> exact i64 _ (by omega) (by omega)) (by unfold Big; simp)).grew k9
  have x9 : Ints w9 (some ⟨w8.heap.size, 0, none⟩) 2 [5, 0] := Ints.lit g9 [5, 0] rfl (by intro x hx; simp at hx; rcases hx with rfl | rfl <;> exact i64 _ (by omega) (by omega)) (by unfold Big; simp)
  have hT9 := (hT7.grew k8).grew k9
  have hG9 := (hG7.grew k8).grew k9
  have ho5 := (ho5.grew k8).grew k9
  have ho7 := (ho7.grew k8).grew k9
  refine PC.ok (Table_Heard hT9 x8 x9 fun _ => (notIn_blk.2 fun b hb hf => by simp only [blk, Option.some.injEq] at hb; have := hT7.dom b hf; omega)) ?_
  rintro _ w10 ⟨F', rfl, hT10, hev⟩
  have en1 : (Tab.mk 5 [(2, 5), (1, 8)] []).ends 2 [4, 0] [5, 0] = false ∧ (Tab.mk 5 [(2, 5), (1, 8)] []).hear 2 [4, 0] [5, 0] = ⟨5, [(2, 5), (1, 8)], [(2, [4, 0])]⟩ := by decide +kernel
  rw [en1.2] at hT10
  rw [en1.1]
  have sub5 : ∀ k, blk a5 = some k → k < w9.heap.size := fun k hk => ho5.lt hk
  have sub7 : ∀ k, blk a7 = some k → k < w9.heap.size := fun k hk => ho7.lt hk
  have hb5' : notIn F' a5 := notIn_blk.2 fun b hb hf => (hev.new b hf).elim (notIn_blk.1 hb5 b hb) fun h => by have := sub5 b hb; omega
  have hb7' : notIn F' a7 := notIn_blk.2 fun b hb hf => (hev.new b hf).elim (notIn_blk.1 hb7 b hb) fun h => by have := sub7 b hb; omega
  have hF' : ∀ b, F' b → w.heap.size ≤ b := fun b hf => (hev.new b hf).elim (hF b) fun h => Nat.le_trans hG9.size h
  have ho5 := ho5.keep hev.keep hb5
  have ho7 := ho7.keep hev.keep hb7
  have hG10 := step hG9 hev.keep
  refine ⟨_, rfl, PA.mk fun w11 k11 s11 g11 => PA.mk fun w12 k12 s12 g12 => ?_⟩
  have x11 : Ints w12 (some ⟨w10.heap.size, 0, none⟩) 2 [5, 1] := (Ints.lit g11 [5, 1] rfl (by intro x hx; simp at hx; rcases hx with rfl | rfl <;> exact i64 _ (by omega) (by omega)) (by unfold Big; simp)).grew k12
  have x12 : Ints w12 (some ⟨w11.heap.size, 0, none⟩) 2 [5, 0] := Ints.lit g12 [5, 0] rfl (by intro x hx; simp at hx; rcases hx with rfl | rfl <;> exact i64 _ (by omega) (by omega)) (by unfold Big; simp)
  have hT12 := (hT10.grew k11).grew k12
  have hG12 := (hG10.grew k11).grew k12
  have ho5 := (ho5.grew k11).grew k12
  have ho7 := (ho7.grew k11).grew k12
  refine PC.ok (Table_Heard hT12 x11 x12 fun _ => (notIn_blk.2 fun b hb hf => by simp only [blk, Option.some.injEq] at hb; have := hT10.dom b hf; omega)) ?_
  rintro _ w13 ⟨F2, rfl, hT13, hev2⟩
  have en2 : (Tab.mk 5 [(2, 5), (1, 8)] [(2, [4, 0])]).ends 2 [5, 1] [5, 0] = true ∧ (Tab.mk 5 [(2, 5), (1, 8)] [(2, [4, 0])]).hear 2 [5, 1] [5, 0] = ⟨5, [(1, 8)], [(2, [5, 1])]⟩ := by decide +kernel
  rw [en2.2] at hT13
  rw [en2.1]
  have ho5 := ho5.keep hev2.keep hb5'
  have ho7 := ho7.keep hev2.keep hb7'
  have hG13 : Grew w w13 := hG12.new hev2.keep fun b hb => .inr (hF' b hb)
  refine ⟨_, rfl, PIf.tt (by rw [z4]; rfl) (PA.mk fun w14 k14 s14 g14 => ?_)⟩
  have x14 : Ints w14 (some ⟨w13.heap.size, 0, none⟩) 1 [2] := Ints.lit g14 [2] rfl (by intro x hx; simp at hx; subst hx; exact i64 _ (by omega) (by omega)) (by unfold Big; simp)
  have r5 : ∀ x ∈ ([2] : List Int), I64 x := by intro x hx; simp at hx; subst hx; exact i64 _ (by omega) (by omega)
  have r7 : ∀ x ∈ ([1] : List Int), I64 x := by intro x hx; simp at hx; subst hx; exact i64 _ (by omega) (by omega)
  have l5 := ho5.length; have l7 := ho7.length
  simp [ints] at l5 l7
  refine PC.ok (kit_SameInts ((ho5.grew k14).ints (by unfold Big; omega) r5) x14) ?_
  rintro _ w15 ⟨rfl, hd15⟩
  have ho7 := (ho7.grew k14).grew hd15.keep
  refine ⟨_, rfl, PIf.tt (by simp) (PIf.tt (by rw [z6]; rfl) (PA.mk fun w16 k16 s16 g16 => ?_))⟩
  have x16 : Ints w16 (some ⟨w15.heap.size, 0, none⟩) 1 [1] := Ints.lit g16 [1] rfl r7 (by unfold Big; simp)
  refine PC.ok (kit_SameInts ((ho7.grew k16).ints (by unfold Big; omega) r7) x16) ?_
  rintro _ w17 ⟨rfl, hd17⟩
  have hT17 := (((hT13.grew k14).grew hd15.keep).grew k16).grew hd17.keep
  have hG17 := (((hG13.grew k14).grew hd15.keep).grew k16).grew hd17.keep
  refine ⟨_, rfl, PIf.tt (by simp) (PIf.tt rfl (PIf.tt rfl (PC.ok (Table_Open hT17 (by decide)) ?_)))⟩
  rintro _ w18 hv
  obtain ⟨a18, n18, c18, rfl, hn18, ho18, hk18, -⟩ := hv.own
  have oo : (Tab.mk 5 [(1, 8)] [(2, [5, 1])]).open = [1] := sortI_eq (List.Perm.refl _) (by simp)
  rw [oo] at ho18 hn18
  refine ⟨_, _, _, rfl, PA.mk fun w19 k19 s19 g19 => ?_⟩
  have x19 : Ints w19 (some ⟨w18.heap.size, 0, none⟩) 1 [1] := Ints.lit g19 [1] rfl r7 (by unfold Big; simp)
  refine PC.ok (kit_SameInts ((ho18.grew k19).ints (by rw [hn18]; unfold Big; simp) r7) x19) ?_
  rintro _ w20 ⟨rfl, hd20⟩
  have hT20 := ((hT17.grew hk18).grew k19).grew hd20.keep
  refine ⟨_, rfl, PIf.tt (by simp) (PC.ok (Table_Vec (peer := 2) hT20) ?_)⟩
  rintro _ w21 hv
  obtain ⟨a21, n21, c21, rfl, hn21, ho21, hk21, -⟩ := hv.own
  have hv2 : (aget [((2 : Int), ([5, 1] : List Int))] 2).getD [] = [5, 1] := rfl
  rw [hv2] at ho21 hn21
  refine ⟨_, _, _, rfl, PA.mk fun w22 k22 s22 g22 => ?_⟩
  have r2 : ∀ x ∈ ([5, 1] : List Int), I64 x := by intro x hx; simp at hx; rcases hx with rfl | rfl <;> exact i64 _ (by omega) (by omega)
  have x22 : Ints w22 (some ⟨w21.heap.size, 0, none⟩) 2 [5, 1] := Ints.lit g22 [5, 1] rfl r2 (by unfold Big; simp)
  refine PC.ok (kit_SameInts ((ho21.grew k22).ints (by rw [hn21]; unfold Big; simp) r2) x22) ?_
  rintro _ w23 ⟨rfl, hd23⟩
  exact ⟨_, rfl, Ok.mk ⟨by simp, (((((hG17.grew hk18).grew k19).grew hd20.keep).grew hk21).grew k22).grew hd23.keep⟩⟩
end Go.Proofs.Ytnfcddhabhbicaa
