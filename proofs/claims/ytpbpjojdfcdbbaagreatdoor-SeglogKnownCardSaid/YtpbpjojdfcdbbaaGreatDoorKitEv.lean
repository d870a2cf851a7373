/- what the statements share, of events: the same, copied -/
import Derived.Test.YtpbpjojdfcdbbaaGreatDoorEvent
import Derived.Laws.StructEq
namespace Go.Proofs.YtpbpjojdfcdbbaaGreatDoor
open Go.Lift
set_option linter.unusedVariables false
set_option maxRecDepth 20000

theorem eql_Id {x y : Operand} {a b c d : Int} {w : World} : (do eqGuard .eql 36 x y (.agg #[.int .i64 a, .int .i64 b]) (.agg #[.int .i64 c, .int .i64 d]); binOp .eql 36 (.agg #[.int .i64 a, .int .i64 b]) (.agg #[.int .i64 c, .int .i64 d]) : Sem Value).run Tryz.prog w = .ok (.bool (a == c && b == d)) w := by
  have hu : Tryz.prog.underlying 36 = some (.struct (Tryz.prog.fieldsOf 36)) := by kernel_rfl
  have ui : Tryz.prog.underlying 3 = some (.int .i64) := by kernel_rfl
  have hf : (Tryz.prog.fieldsOf 36).toList.map (fun f => (f.name, f.type, f.offset)) = [("Origin", 3, 0), ("Seq", 3, 1)] := by kernel_rfl
  rw [Sem.run_bind, run_eqGuard_agg w .eql _ x y _ _ (by kernel_rfl), Result.andThen_ok, run_eql_struct, run_equalIn_struct w 9999 _ _ _ hu (by kernel_rfl)]
  generalize (Tryz.prog.fieldsOf 36).toList = fs at hf
  match fs, hf with
  | [f, g], hf =>
    simp only [List.map_cons, List.map_nil, List.cons.injEq, Prod.mk.injEq, and_true] at hf
    obtain ⟨⟨f1, f2, f3⟩, g1, g2, g3⟩ := hf
    have agg0 : (isAgg 3).run Tryz.prog w = .ok false w := isAggP_run _ _ _ (by kernel_rfl) ⟨_, ui⟩ w
    have e1 := run_equalIn_int (P := Tryz.prog) w 9998 3 .i64 .i64 a c ui
    have e2 := run_equalIn_int (P := Tryz.prog) w 9998 3 .i64 .i64 b d ui
    unfold Op.eqFields Op.eqFields Op.eqFields
    rw [f1, f2, f3, g1, g2, g3]
    cases h : a == c <;> simp [part, agg0, e1, e2, h]
    by_cases hb : b = d <;> simp [hb]
  | [], hf => simp at hf
  | [_], hf => simp at hf
  | _ :: _ :: _ :: _, hf => simp at hf

theorem kit_SameIntsR {a b : Option Addr} {n m c d : Nat} {xs ys : List Int} {w : World} {D E : Nat → Prop} (ha : Row cI64 8 w D a n xs) (hb : Row cI64 8 w E b m ys) :
    Calls Tryz.prog F_kit_SameInts #[.slice a n c, .slice b m d] w (Ok fun v w' => v = .bool (decide (xs = ys)) ∧ Drew w w') := by
  have ha0 := ha.len; have hb0 := hb.len; have ha1 := ha.big
  unfold Big at ha1
  refine L_kit_SameInts (PIf.neI (fun h => ?_) (fun h => ?_))
  · have hne : xs ≠ ys := by rintro rfl; simp [ha0, hb0] at h
    exact Ok.mk ⟨by simp [hne], Drew.refl w⟩
  · refine ⟨fun k i w' => ∃ j : Nat, i = j ∧ j ≤ n ∧ k = n - j ∧ xs.take j = ys.take j ∧ Drew w w', ⟨_, 0, rfl, Nat.zero_le _, rfl, rfl, Drew.refl w⟩, ?_⟩
    rintro k i _ w1 ⟨j, rfl, hj, rfl, ht, hd⟩
    refine PIf.dec (fun h1 => ?_) (fun h1 => ?_)
    · obtain ⟨b1, o1, x, rfl, hx, _, hc1⟩ := (ha.grew hd.keep).at1 (i := j) (by omega)
      obtain ⟨b2, o2, y, rfl, hy, _, hc2⟩ := (hb.grew hd.keep).at1 (i := j) (by omega)
      refine ⟨b1, o1, rfl, by omega, by omega, _, hc1, b2, o2, rfl, by omega, by omega, _, hc2, fun w2 hd2 => ?_⟩
      refine PIf.neI (fun h2 => ?_) (fun h2 => ?_)
      · have hne : xs ≠ ys := by rintro rfl; rw [hx] at hy; cases hy; exact h2 rfl
        exact Ok.mk ⟨by simp [hne], hd.then hd2⟩
      · subst h2
        exact ⟨_, by omega, j + 1, wrap_succ (by omega), by omega, rfl, take_same ht hx hy, hd.then hd2⟩
    · have : xs = ys := by
        have e1 : xs.take j = xs := List.take_of_length_le (by omega)
        have e2 : ys.take j = ys := List.take_of_length_le (by omega)
        rw [← e1, ← e2, ht]
      exact Ok.mk ⟨by simp [this], hd⟩

theorem kit_CopyIntsR {a : Option Addr} {n c : Nat} {xs : List Int} {w : World} {D : Nat → Prop} (ha : Row cI64 8 w D a n xs) :
    Calls Tryz.prog F_kit_CopyInts #[.slice a n c] w (Ok (New cI64 3 w xs)) := by
  have ha0 := ha.len; have ha1 := ha.big
  unfold Big at ha1
  refine L_kit_CopyInts ⟨fun k oa on oc i w' => i = (on : Int) ∧ on ≤ n ∧ k = n - on ∧ ∃ F, Lst cI64 3 F w' oa on oc (xs.take on) ∧ Grew w w' ∧ ∀ b, F b → w.heap.size ≤ b,
    ⟨_, rfl, Nat.zero_le _, rfl, fun _ => False, by simpa using Lst.nil w, Keep.refl _, fun _ h => h.elim⟩, ?_⟩
  rintro k oa on oc i _ w1 ⟨rfl, hj, rfl, F, ho, hk, hF⟩
  refine PIf.dec (fun h1 => ?_) (fun h1 => ?_)
  · obtain ⟨b, off, x, rfl, hx, hxr, hc⟩ := (ha.grew hk).at1 (i := on) (by omega)
    have htl : (xs.take on).length = on := by simp; omega
    refine ⟨b, off, rfl, by omega, by omega, _, hc, papp ho slI64 (x := x) (D := fun _ => False) ⟨rfl, hxr⟩ (fun _ h => h.elim) (by rw [htl]; unfold Big; omega) (by rw [htl]; unfold maxLen; omega) fun a' c' w3 F' ho3 hk3 hF3 _ => ?_⟩
    refine ⟨_, _, _, rfl, n - (on + 1), by omega, wrap_succ (by omega), by omega, rfl, F', ?_, hk.new hk3 fun b hb => .inr (hF b (ho.self b hb)), ?_⟩
    · rw [List.take_add_one, hx]; exact ho3
    · intro b hb
      rcases hF3 b hb with h | h | h
      · exact hF b h
      · exact h.elim
      · exact Nat.le_trans hk.size h
  · obtain rfl : on = n := by omega
    rw [List.take_of_length_le (by omega)] at ho
    exact Ok.mk ⟨_, _, _, F, rfl, ho, hk, hF⟩

theorem kit_SameEvent {x y : EventV} {a b : Option Addr} {n m c d : Nat} {w : World} {D E : Nat → Prop} (hx : Row cI64 8 w D a n x.deps) (hy : Row cI64 8 w E b m y.deps) :
    Calls Tryz.prog F_kit_SameEvent #[.agg (evCells x a n c).toArray, .agg (evCells y b m d).toArray] w (Ok fun v w' => v = .bool (decide (x = y)) ∧ Grew w w') := by
  have no : ∀ {w'}, Grew w w' → x ≠ y → Ok (fun v w' => v = .bool (decide (x = y)) ∧ Grew w w') (.returned (.bool false)) w' := fun hk hne => Ok.mk ⟨by rw [decide_eq_false hne], hk⟩
  refine L_kit_SameEvent (PA.mk fun w1 k1 s1 g1 => PA.mk fun w2 k2 s2 g2 => ?_)
  have gx := k2.get g1 id
  have k02 : Grew w w2 := k1.then k2
  refine ⟨_, _, cell_at gx rfl, cell_at gx rfl, _, _, cell_at g2 rfl, cell_at g2 rfl, PRun.mk eql_Id ⟨_, rfl, PIf.mk (fun hid => ?_) (fun hid => ?_)⟩⟩
  rotate_left
  · exact no k02 fun e => by subst e; simp at hid
  refine ⟨_, cell_at gx rfl, _, cell_at g2 rfl, PIf.eqI (fun hl => ?_) (fun hl => no k02 fun e => hl (by rw [e]))⟩
  refine ⟨_, _, _, cell_at gx rfl, _, _, _, cell_at g2 rfl, PC.ok (kit_SameIntsR (hx.grew k02) (hy.grew k02)) ?_⟩
  rintro _ w3 ⟨rfl, d3⟩
  have k3 : Grew w2 w3 := d3.keep
  have gx := k3.get gx id
  have gy := k3.get g2 id
  have k03 : Grew w w3 := k02.then k3
  refine ⟨_, rfl, PIf.dec (fun hd => ?_) (fun hd => no k03 fun e => hd (by rw [e]))⟩
  refine ⟨_, cell_at gx rfl, _, cell_at gy rfl, PIf.eqI (fun h4 => ?_) (fun h => no k03 fun e => h (by rw [e]))⟩
  refine ⟨_, cell_at gx rfl, _, cell_at gy rfl, PIf.eqI (fun h5 => ?_) (fun h => no k03 fun e => h (by rw [e]))⟩
  refine ⟨_, cell_at gx rfl, _, cell_at gy rfl, PIf.eqI (fun h6 => ?_) (fun h => no k03 fun e => h (by rw [e]))⟩
  refine ⟨_, cell_at gx rfl, _, cell_at gy rfl, PIf.eqI (fun h7 => ?_) (fun h => no k03 fun e => h (by rw [e]))⟩
  refine ⟨_, cell_at gx rfl, _, cell_at gy rfl, PIf.eqI (fun h8 => ?_) (fun h => no k03 fun e => h (by rw [e]))⟩
  refine ⟨_, cell_at gx rfl, _, cell_at gy rfl, Ok.mk ⟨?_, k03⟩⟩
  congr 1
  have hid' : x.origin = y.origin ∧ x.seq = y.seq := by simpa using hid
  by_cases h9 : x.key = y.key
  · have : x = y := by cases x; cases y; simp_all
    subst this
    simp
  · rw [decide_eq_false fun e => h9 (by rw [e])]
    simp [h9]

theorem kit_SameEvents {xs ys : List EventV} {a b : Option Addr} {n m c d : Nat} {w : World} {D E : Nat → Prop} (ha : Row cEv 96 w D a n xs) (hb : Row cEv 96 w E b m ys) :
    Calls Tryz.prog F_kit_SameEvents #[.slice a n c, .slice b m d] w (Ok fun v w' => v = .bool (decide (xs = ys)) ∧ Grew w w') := by
  have ha0 := ha.len; have hb0 := hb.len; have ha1 := ha.big
  unfold Big at ha1
  refine L_kit_SameEvents (PIf.neI (fun h => ?_) (fun h => ?_))
  · have hne : xs ≠ ys := by rintro rfl; simp [ha0, hb0] at h
    exact Ok.mk ⟨by simp [hne], Keep.refl w⟩
  · refine ⟨fun k i w' => ∃ j : Nat, i = j ∧ j ≤ n ∧ k = n - j ∧ xs.take j = ys.take j ∧ Grew w w', ⟨_, 0, rfl, Nat.zero_le _, rfl, rfl, Keep.refl w⟩, ?_⟩
    rintro k i _ w1 ⟨j, rfl, hj, rfl, ht, hd⟩
    refine PIf.dec (fun h1 => ?_) (fun h1 => ?_)
    · intro w2 hd2
      have k2 : Grew w w2 := hd.then hd2.keep
      obtain ⟨b1, o1, x, es, rfl, _, _, hx, hc1, a1, n1, c1, rfl, hr1, ho1⟩ := (ha.grew k2).atN (i := j) (by omega)
      obtain ⟨b2, o2, y, fs, rfl, _, _, hy, hc2, a2, n2, c2, rfl, hr2, ho2⟩ := (hb.grew k2).atN (i := j) (by omega)
      have e1 := fun i (hi : i < 10) => hc1 i hi
      have e2 := fun i (hi : i < 10) => hc2 i hi
      refine ⟨b1, o1, rfl, by omega, by omega, _, _, _, _, _, _, _, _, _, _, _, _, e1 0 (by decide), e1 1 (by decide), e1 2 (by decide), e1 3 (by decide), e1 4 (by decide), e1 5 (by decide), e1 6 (by decide), e1 7 (by decide), e1 8 (by decide), e1 9 (by decide), ?_⟩
      refine ⟨b2, o2, rfl, by omega, by omega, _, _, _, _, _, _, _, _, _, _, _, _, e2 0 (by decide), e2 1 (by decide), e2 2 (by decide), e2 3 (by decide), e2 4 (by decide), e2 5 (by decide), e2 6 (by decide), e2 7 (by decide), e2 8 (by decide), e2 9 (by decide), ?_⟩
      refine PC.ok (kit_SameEvent hr1 hr2) ?_
      rintro _ w3 ⟨rfl, k3⟩
      refine ⟨_, rfl, PIf.not (PIf.dec (fun h2 => ?_) (fun h2 => ?_))⟩
      · subst h2
        exact ⟨_, by omega, j + 1, wrap_succ (by omega), by omega, rfl, take_same ht hx hy, k2.then k3⟩
      · have hne : xs ≠ ys := by rintro rfl; rw [hx] at hy; cases hy; exact h2 rfl
        exact Ok.mk ⟨by simp [hne], k2.then k3⟩
    · have : xs = ys := by
        have e1 : xs.take j = xs := List.take_of_length_le (by omega)
        have e2 : ys.take j = ys := List.take_of_length_le (by omega)
        rw [← e1, ← e2, ht]
      exact Ok.mk ⟨by simp [this], hd⟩

theorem law10_Long {l : List EventV} {a : Option Addr} {n c : Nat} {w : World} {D : Nat → Prop} (ha : Row cEv 96 w D a n l) :
    Calls Tryz.prog F_law10_Long #[.slice a n c] w (Ok fun v w' => v = .bool (decide ((∃ e ∈ l, 100 < e.deps.length) ∨ 200 < l.length)) ∧ w = w') := by
  have ha0 := ha.len; have ha1 := ha.big
  unfold Big at ha1
  refine L_law10_Long ⟨fun k i w' => ∃ j : Nat, i = j ∧ j ≤ n ∧ k = n - j ∧ (∀ e ∈ l.take j, ¬ 100 < e.deps.length) ∧ w = w', ⟨_, 0, rfl, Nat.zero_le _, rfl, by simp, rfl⟩, ?_⟩
  rintro k i _ w1 ⟨j, rfl, hj, rfl, ht, rfl⟩
  refine PIf.dec (fun h1 => ?_) (fun h1 => ?_)
  · obtain ⟨b1, o1, x, es, rfl, _, _, hx, hc1, a1, n1, c1, rfl, hr1, ho1⟩ := ha.atN (i := j) (by omega)
    have hl := hr1.len
    refine ⟨b1, o1, rfl, by omega, by omega, _, _, _, hc1 3 (by decide), PIf.dec (fun h2 => ?_) (fun h2 => ?_)⟩
    · exact Ok.mk ⟨by rw [decide_eq_true (.inl ⟨x, List.mem_of_getElem? hx, by omega⟩)], rfl⟩
    · refine ⟨_, by omega, j + 1, wrap_succ (by omega), by omega, rfl, fun e he => ?_, rfl⟩
      rw [List.take_add_one, hx] at he
      rcases List.mem_append.1 he with he | he
      · exact ht e he
      · simp at he; subst he; omega
  · rw [List.take_of_length_le (by omega)] at ht
    refine Ok.mk ⟨?_, rfl⟩
    congr 1
    refine decide_eq_decide.2 ⟨fun h => .inr (by omega), fun h => h.elim (fun ⟨e, he, h⟩ => absurd h (ht e he)) fun h => by omega⟩
end Go.Proofs.YtpbpjojdfcdbbaaGreatDoor
