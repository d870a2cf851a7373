/- SessionEnds: its walk -/
import Derived.Test.YtnfcddhabhbicaaSessWorks
import Derived.Test.YtnfcddhabhbicaaArgs
namespace Go.Proofs.Ytnfcddhabhbicaa
open Go.Lift
set_option linter.unusedVariables false

/-- what each law here answers -/
def tru (w : World) : Value → World → Prop := fun v w' => v = .bool true ∧ Grew w w'

theorem works' {w w1 : World} (hG : Grew w w1) {ε : List PanicEntry → World → Prop} :
    PC Try.prog F_law26_works #[] w1 (fun v w2 => ∃ t : Bool, v = .bool t ∧ Ok (tru w) (.returned (.bool t)) w2) ε :=
  PC.ok works fun _ _ ⟨e, hk⟩ => ⟨true, e, Ok.mk ⟨rfl, hG.grew hk⟩⟩

theorem cmpv_self (xs : List Int) : cmpv xs xs = 0 := by
  have : ∀ k, cmpTo xs xs k = 0 := fun k => by
    induction k with
    | zero => rfl
    | succ k ih => simp [cmpTo, ih]
  exact this _

theorem SessionEnds {peer retry : Int} {a b : Option Addr} {n m c d : Nat} {xss : List (List Int)} {want : List Int} {w : World} (hp : I64 peer) (hr : I64 retry) (hx : Rows2 w a n xss) (hy : Ints w b m want) :
    Calls Try.prog F_law26_SessionEnds #[.int .i64 peer, .int .i64 retry, .slice a n c, .slice b m d] w (Ok (tru w)) := by
  have hn := hx.len; have hbig := hx.big
  unfold Big at hbig
  refine L_law26_SessionEnds (PIf.mk (fun _ => works' (Keep.refl _)) fun h1 => PIf.mk (fun _ => works' (Keep.refl _)) fun h2 => PC.ok session_New ?_)
  have h1 := of_decide_eq_false h1
  have h2 := of_decide_eq_false h2
  rintro _ w1 ⟨p, F, rfl, hT, hG, hF⟩
  refine ⟨_, rfl, eqNil ⟨_, rfl, PIf.ff rfl (PC.ok (Table_Start hT hp) ?_)⟩⟩
  rintro _ w2 ⟨rfl, hT2, hk2⟩
  refine ⟨rfl, fun k aa an ac op i w' => ∃ (j : Nat) (A : List Int) (H : List (Int × List Int)) (F : Nat → Prop), i = (j : Int) ∧ j ≤ n ∧ k = n - j ∧ Grew w w' ∧ TabAt w' p F ⟨retry, if op then [(peer, 0)] else [], H⟩ ∧
    (∀ b, F b → w.heap.size ≤ b) ∧ Ints w' aa an A ∧ (A ≠ [] → notIn F aa) ∧ (aget H peer).getD [] = A ∧ A.length ≤ 100,
    ⟨_, 0, [], [], F, rfl, by omega, rfl, hG.new hk2 fun b hb => .inr (hF b hb), hT2, hF, Ints.nil w2, fun h => absurd rfl h, rfl, by simp⟩, ?_⟩
  rintro k aa an ac op _ B w3 ⟨j, A, H, F, rfl, hj, rfl, hG3, hT3, hF3, hA, hnA, hH, hl⟩
  refine PIf.mk (fun hlt => ?_) (fun hge => ?_)
  · have hlt := of_decide_eq_true hlt
    obtain ⟨xs, hxs⟩ : ∃ xs, xss[j]? = some xs := ⟨_, List.getElem?_eq_getElem (by omega : j < xss.length)⟩
    obtain ⟨b0, o0, a', n', c', ha, hb0, hc0, hxi⟩ := (hx.grew hG3).row j xs hxs
    refine ⟨b0, o0, ha, by omega, hlt, a', n', c', hc0, PIf.mk (fun _ => works' hG3) fun h3 => ⟨b0, o0, ha, by omega, hlt, a', n', c', hc0, PC.ok (vec_Join hA hxi) ?_⟩⟩
    have h3 := of_decide_eq_false h3
    rintro _ w4 ⟨a1, n1, c1, rfl, ho1, hk1, hn1⟩
    have hxl := hxi.len
    have hl1 : (joinv A xs).length ≤ 100 := by rw [joinv_length]; omega
    have hn1l : n1 = (joinv A xs).length := by have := ho1.length; rw [ints_length, Nat.mul_one] at this; exact this.symm
    have hA1 : Ints w4 a1 n1 (joinv A xs) := ho1.ints (by unfold Big; omega) (joinv_I64 hA.rng hxi.rng)
    have hy4 : Ints w4 b m want := (hy.grew hG3).grew hk1
    refine ⟨_, _, _, rfl, PC.ok (vec_Cmp hA1 hy4) ?_⟩
    rintro _ _ ⟨rfl, rfl⟩
    refine ⟨_, rfl, fun cov w' => cov = covers (joinv A xs) want ∧ w' = w4, ?_, ?_⟩
    · refine PIf.mk (fun h => ⟨by simp [covers, h], rfl⟩) fun h => ⟨by simp [covers, h], rfl⟩
    rintro _ B _ ⟨rfl, rfl⟩
    have hF4 : ∀ b, F b → b < w3.heap.size := hT3.dom
    have hT4 := hT3.grew hk1
    have hna1 : notIn F a1 := notIn_blk.2 fun b hb hf => by have := hn1 b hb; have := hF4 b hf; omega
    have hnw : want ≠ [] → notIn F b := hy.old hF3 (Nat.le_refl _)
    refine ⟨fun w' => ∃ F', Grew w w' ∧ TabAt w' p F' ⟨retry, if op && !covers (joinv A xs) want then [(peer, 0)] else [], aput H peer (joinv A xs)⟩ ∧ (∀ b, F' b → w.heap.size ≤ b) ∧
      Own w' 3 1 a1 n1 c1 (ints (joinv A xs)) ∧ notIn F' a1, ?_, ?_⟩
    · refine ⟨b0, o0, ha, by omega, hlt, a', n', c', by rw [cell_grew hk1 hb0]; exact hc0, PC.ok (Table_Heard hT4 (hxi.grew hk1) hy4 hnw) ?_⟩
      rintro _ w5 ⟨F', rfl, hT5, hev⟩
      have hall : Tab.all ⟨retry, if op then [(peer, 0)] else [], H⟩ peer xs = joinv A xs := by unfold Tab.all; rw [hH]
      have hends : Tab.ends ⟨retry, if op then [(peer, 0)] else [], H⟩ peer xs want = (op && covers (joinv A xs) want) := by
        unfold Tab.ends; rw [hall]; cases op <;> simp [aget]
      have hhear : Tab.hear ⟨retry, if op then [(peer, 0)] else [], H⟩ peer xs want = ⟨retry, if op && !covers (joinv A xs) want then [(peer, 0)] else [], aput H peer (joinv A xs)⟩ := by
        unfold Tab.hear; rw [hends, hall]; cases op <;> cases covers (joinv A xs) want <;> simp [adel]
      rw [hends]
      rw [hhear] at hT5
      have hF5 : ∀ b, F' b → w.heap.size ≤ b := fun b hf => (hev.new b hf).elim (hF3 b) fun h => Nat.le_trans (Nat.le_trans hG3.size hk1.size) h
      have hG5 : Grew w w5 := (hG3.grew hk1).new hev.keep fun b hb => .inr (hF3 b hb)
      have ho5 := ho1.keep hev.keep hna1
      have hna5 : notIn F' a1 := notIn_blk.2 fun b hb hf => (hev.new b hf).elim (notIn_blk.1 hna1 b hb) fun h => by have := ho1.lt hb; omega
      have rest : ∀ {ε : List PanicEntry → World → Prop} {κ : World → Prop}, (∀ w', (∃ F', Grew w w' ∧ TabAt w' p F' ⟨retry, if op && !covers (joinv A xs) want then [(peer, 0)] else [], aput H peer (joinv A xs)⟩ ∧ (∀ b, F' b → w.heap.size ≤ b) ∧
          Own w' 3 1 a1 n1 c1 (ints (joinv A xs)) ∧ notIn F' a1) → κ w') →
          PC Try.prog F_session_Table_Vec #[.pointer (some ⟨p, 0, none⟩), .int .i64 peer] w5 (fun v53 w54 => ∃ (t55a : Option Addr) (t55n : Nat) (t55c : Nat), v53 = .slice t55a t55n t55c ∧
            PC Try.prog F_vec_Cmp #[.slice t55a t55n t55c, .slice a1 n1 c1] w54 (fun v56 w57 => ∃ (t58 : Int), v56 = .int .i64 t58 ∧ PIf ((t58 : Int) != 0) (Ok (tru w) (.returned (.bool false)) w57) (κ w57)) ε) ε := by
        intro ε κ hκ
        refine PC.ok (Table_Vec (peer := peer) hT5) ?_
        rintro _ w6 ⟨a6, n6, c6, rfl, ho6, hk6, hn6⟩
        rw [aget_aput, if_pos (by simp)] at ho6
        have hn6l : n6 = (joinv A xs).length := by have := ho6.length; rw [ints_length, Nat.mul_one] at this; exact this.symm
        have hA6 : Ints w6 a6 n6 (joinv A xs) := ho6.ints (by unfold Big; omega) hA1.rng
        have hA6' : Ints w6 a1 n1 (joinv A xs) := (ho5.grew hk6).ints (by unfold Big; omega) hA1.rng
        refine ⟨_, _, _, rfl, PC.ok (vec_Cmp hA6 hA6') ?_⟩
        rintro _ _ ⟨rfl, rfl⟩
        refine ⟨_, rfl, PIf.ff (by rw [cmpv_self]; rfl) (hκ _ ⟨F', hG5.grew hk6, hT5.grew hk6, hF5, ho5.grew hk6, hna5⟩)⟩
      refine ⟨_, rfl, PIf.mk (fun hop => ?_) fun hop => ?_⟩
      · subst hop
        exact PIf.ff (by simp) (rest fun _ h => h)
      · subst hop
        exact PIf.ff (by simp) (rest fun _ h => h)
    · rintro B5 w7 ⟨F', hG7, hT7, hF7, ho7, hna7⟩
      refine ⟨fun op' w' => op' = (op && !covers (joinv A xs) want) ∧ w' = w7, PIf.mk (fun h => ⟨by simp [h], rfl⟩) (fun h => ⟨by simp [h], rfl⟩), ?_⟩
      rintro op' B6 _ ⟨hop', rfl⟩
      rw [← hop'] at hT7
      have hopen : Tab.open ⟨retry, if op' then [(peer, 0)] else [], aput H peer (joinv A xs)⟩ = if op' then [peer] else [] := by
        unfold Tab.open; cases op'
        · exact sortI_eq (List.Perm.refl _) (by simp)
        · exact sortI_eq (List.Perm.refl _) (by simp)
      refine PC.ok (Table_Open hT7 (by cases op' <;> simp [Big])) ?_
      rintro _ w8 ⟨a8, n8, c8, rfl, ho8, hk8, hn8⟩
      rw [hopen] at ho8
      have hn8l : n8 = if op' then 1 else 0 := by have := ho8.length; rw [ints_length, Nat.mul_one] at this; rw [← this]; cases op' <;> rfl
      have next : ∀ w', Grew w w' → TabAt w' p F' ⟨retry, if op' then [(peer, 0)] else [], aput H peer (joinv A xs)⟩ → Own w' 3 1 a1 n1 c1 (ints (joinv A xs)) →
          ∃ m', m' < n - j ∧ ∃ (j' : Nat) (A : List Int) (H : List (Int × List Int)) (F : Nat → Prop), IntKind.wrap .i64 ((j : Int) + 1) = (j' : Int) ∧ j' ≤ n ∧ m' = n - j' ∧ Grew w w' ∧ TabAt w' p F ⟨retry, if op' then [(peer, 0)] else [], H⟩ ∧
          (∀ b, F b → w.heap.size ≤ b) ∧ Ints w' a1 n1 A ∧ (A ≠ [] → notIn F a1) ∧ (aget H peer).getD [] = A ∧ A.length ≤ 100 := by
        intro w' hk hT' ho'
        exact ⟨n - (j + 1), by omega, j + 1, _, _, F', by rw [wrap_i64 (by unfold I64; omega)]; omega, by omega, rfl, hk, hT', hF7, ho'.ints (by unfold Big; omega) hA1.rng, fun _ => hna7, by rw [aget_aput, if_pos (by simp)]; rfl, hl1⟩
      refine ⟨_, _, _, rfl, PIf.ff (by rw [hn8l]; cases op' <;> rfl) (PIf.mk (fun hno => ?_) fun hyes => ?_)⟩
      · have hno : op' = false := by simpa using hno
        subst hno
        refine PC.ok (Table_Due (now := 2305843009213693952) (hT7.grew hk8) (by simp [Big])) ?_
        rintro _ w9 ⟨a9, n9, c9, rfl, ho9, hT9, hk9, hn9⟩
        have e1 : Tab.dueTo ⟨retry, if false = true then [(peer, 0)] else [], aput H peer (joinv A xs)⟩ 2305843009213693952 (Tab.open ⟨retry, if false = true then [(peer, 0)] else [], aput H peer (joinv A xs)⟩).length = ([], []) := by
          unfold Tab.dueTo; rw [hopen]; rfl
        unfold Tab.due at ho9; rw [e1] at ho9
        unfold Tab.dueT at hT9; rw [e1] at hT9
        have hn9l : n9 = 0 := by have := ho9.length; rw [ints_length, Nat.mul_one] at this; exact this.symm
        refine ⟨_, _, _, rfl, PIf.ff (by rw [hn9l]; rfl) (next w9 ((hG7.grew hk8).new hk9 fun b hb => .inr (hF7 b hb)) hT9 ((ho7.grew hk8).keep hk9 hna7))⟩
      · exact next w8 (hG7.grew hk8) (hT7.grew hk8) (ho7.grew hk8)
  · have hop : ∀ op : Bool, aput (if op then [(peer, (0 : Int))] else []) peer 2305843009213693952 = [(peer, 2305843009213693952)] := fun op => by cases op <;> simp [aput]
    refine PC.ok (Table_Start (now := 2305843009213693952) hT3 hp) ?_
    rintro _ w4 ⟨rfl, hT4, hk4⟩
    have hT4 : TabAt w4 p F ⟨retry, [(peer, 2305843009213693952)], H⟩ := by have := hT4; simp only [hop] at this; exact this
    have hG4 : Grew w w4 := hG3.new hk4 fun b hb => .inr (hF3 b hb)
    have hopen : Tab.open ⟨retry, [(peer, 2305843009213693952)], H⟩ = [peer] := sortI_eq (List.Perm.refl _) (by simp)
    refine ⟨rfl, PC.ok (Table_Open hT4 (by simp [Big])) ?_⟩
    rintro _ w5 ⟨a5, n5, c5, rfl, ho5, hk5, hn5⟩
    rw [hopen] at ho5
    have r1 : ∀ x ∈ [peer], I64 x := by intro x hx; simp at hx; subst hx; exact hp
    have hn5l : n5 = 1 := by have := ho5.length; simpa [ints] using this.symm
    refine ⟨_, _, _, rfl, PA.mk fun w6 k6 s6 g6 => ?_⟩
    have x6 : Ints w6 (some ⟨w5.heap.size, 0, none⟩) 1 [peer] := Ints.lit g6 [peer] rfl r1 (by simp [Big])
    refine PC.ok (kit_SameInts ((ho5.grew k6).ints (by rw [hn5l]; simp [Big]) r1) x6) ?_
    rintro _ w7 ⟨rfl, hd7⟩
    have hT7 := ((hT4.grew hk5).grew k6).grew hd7.keep
    have hG7 := ((hG4.grew hk5).grew k6).grew hd7.keep
    refine ⟨_, rfl, PIf.tt (by simp) (PC.ok (Table_Due (now := 4611686018427387904) hT7 (by simp [Big])) ?_)⟩
    rintro _ w8 ⟨a8, n8, c8, rfl, ho8, hT8, hk8, hn8⟩
    have e8 : Tab.due ⟨retry, [(peer, 2305843009213693952)], H⟩ 4611686018427387904 = if (2305843009213693952 : Int) ≥ retry then [peer] else [] := by
      unfold Tab.due Tab.dueTo
      rw [hopen]
      have e : IntKind.wrap .i64 (4611686018427387904 - 2305843009213693952) = 2305843009213693952 := by rw [wrap_i64 (by unfold I64; omega)]; rfl
      have ea : aget [(peer, (2305843009213693952 : Int))] peer = some 2305843009213693952 := by simp [aget]
      simp only [List.length_singleton, List.take_succ_cons, List.take_zero, List.foldl_cons, List.foldl_nil, dueStep, ea, Option.getD_some, e]
      split <;> rfl
    rw [e8] at ho8
    have hn8l : n8 ≤ 1 := by have := ho8.length; rw [ints_length, Nat.mul_one] at this; rw [← this]; split <;> simp
    have r8 : ∀ x ∈ (if (2305843009213693952 : Int) ≥ retry then [peer] else []), I64 x := by split; exact r1; simp
    refine ⟨_, _, _, rfl, PA.mk fun w9 k9 s9 g9 => ?_⟩
    have x9 : Ints w9 (some ⟨w8.heap.size, 0, none⟩) 1 [peer] := Ints.lit g9 [peer] rfl r1 (by simp [Big])
    refine PC.ok (kit_SameInts ((ho8.grew k9).ints (by unfold Big; omega) r8) x9) ?_
    rintro _ w10 ⟨rfl, hd10⟩
    have hG10 := ((hG7.new hk8 fun b hb => .inr (hF3 b hb)).grew k9).grew hd10.keep
    refine ⟨_, rfl, PIf.tt ?_ (works' hG10)⟩
    by_cases h : (2305843009213693952 : Int) ≥ retry <;> simp [h]
end Go.Proofs.Ytnfcddhabhbicaa
