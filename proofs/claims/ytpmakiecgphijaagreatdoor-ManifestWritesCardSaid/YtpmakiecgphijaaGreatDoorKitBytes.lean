/- what the statements share, of bytes -/
import Derived.Test.YtpmakiecgphijaaGreatDoorPick
import Derived.Test.YtpmakiecgphijaaGreatDoorBytes8
namespace Go.Proofs.YtpmakiecgphijaaGreatDoor
open Go.Lift
set_option linter.unusedVariables false
set_option maxRecDepth 20000

theorem kit_SameBytes {a b : Option Addr} {n m c d : Nat} {xs ys : List UInt8} {w : World} {D E : Nat → Prop} (ha : Row cU8 1 w D a n xs) (hb : Row cU8 1 w E b m ys) :
    Calls Tryz.prog F_kit_SameBytes #[.slice a n c, .slice b m d] w (Ok fun v w' => v = .bool (decide (xs = ys)) ∧ Drew w w') := by
  have ha0 := ha.len; have hb0 := hb.len; have ha1 := ha.big
  unfold Big at ha1
  refine L_kit_SameBytes (PIf.neI (fun h => ?_) (fun h => ?_))
  · have hne : xs ≠ ys := by rintro rfl; simp [ha0, hb0] at h
    exact Ok.mk ⟨by simp [hne], Drew.refl w⟩
  · refine ⟨fun k i w' => ∃ j : Nat, i = j ∧ j ≤ n ∧ k = n - j ∧ xs.take j = ys.take j ∧ Drew w w', ⟨_, 0, rfl, Nat.zero_le _, rfl, rfl, Drew.refl w⟩, ?_⟩
    rintro k i _ w1 ⟨j, rfl, hj, rfl, ht, hd⟩
    refine PIf.dec (fun h1 => ?_) (fun h1 => ?_)
    · obtain ⟨b1, o1, x, rfl, hx, _, hc1⟩ := (ha.grew hd.keep).at1 (i := j) (by omega)
      obtain ⟨b2, o2, y, rfl, hy, _, hc2⟩ := (hb.grew hd.keep).at1 (i := j) (by omega)
      refine ⟨b1, o1, rfl, by omega, by omega, _, hc1, b2, o2, rfl, by omega, by omega, _, hc2, fun w2 hd2 => ?_⟩
      refine PIf.neI (fun h2 => ?_) (fun h2 => ?_)
      · have hne : xs ≠ ys := by rintro rfl; rw [hx] at hy; cases hy; exact h2 rfl
        exact Ok.mk ⟨by simp [hne], hd.then hd2⟩
      · have hxy : x = y := UInt8.toNat_inj.1 (by omega)
        subst hxy
        exact ⟨_, by omega, j + 1, wrap_succ (by omega), by omega, rfl, take_same ht hx hy, hd.then hd2⟩
    · have : xs = ys := by
        have e1 : xs.take j = xs := List.take_of_length_le (by omega)
        have e2 : ys.take j = ys := List.take_of_length_le (by omega)
        rw [← e1, ← e2, ht]
      exact Ok.mk ⟨by simp [this], hd⟩

theorem kit_CopyBytes {a : Option Addr} {n c : Nat} {xs : List UInt8} {w : World} {D : Nat → Prop} (ha : Row cU8 1 w D a n xs) :
    Calls Tryz.prog F_kit_CopyBytes #[.slice a n c] w (Ok (New cU8 5 w xs)) := by
  have ha0 := ha.len; have ha1 := ha.big
  unfold Big at ha1
  refine L_kit_CopyBytes ⟨fun k oa on oc i w' => i = (on : Int) ∧ on ≤ n ∧ k = n - on ∧ ∃ F, Lst cU8 5 F w' oa on oc (xs.take on) ∧ Grew w w' ∧ ∀ b, F b → w.heap.size ≤ b,
    ⟨_, rfl, Nat.zero_le _, rfl, fun _ => False, by simpa using Lst.nil w, Keep.refl _, fun _ h => h.elim⟩, ?_⟩
  rintro k oa on oc i _ w1 ⟨rfl, hj, rfl, F, ho, hk, hF⟩
  refine PIf.dec (fun h1 => ?_) (fun h1 => ?_)
  · obtain ⟨b, off, x, rfl, hx, _, hc⟩ := (ha.grew hk).at1 (i := on) (by omega)
    have htl : (xs.take on).length = on := by simp; omega
    refine ⟨b, off, rfl, by omega, by omega, _, hc, papp ho slU8 (x := x) (D := fun _ => False) ⟨rfl, trivial⟩ (fun _ h => h.elim) (by rw [htl]; unfold Big; omega) (by rw [htl]; unfold maxLen; omega) fun a' c' w3 F' ho3 hk3 hF3 _ => ?_⟩
    refine ⟨_, _, _, rfl, n - (on + 1), by omega, wrap_succ (by omega), by omega, rfl, F', ?_, hk.new hk3 fun b hb => .inr (hF b (ho.self b hb)), ?_⟩
    · rw [List.take_add_one, hx]; exact ho3
    · intro b hb
      rcases hF3 b hb with h | h | h
      · exact hF b h
      · exact h.elim
      · exact Nat.le_trans hk.size h
  · obtain rfl : on = n := by omega
    rw [List.take_of_length_le (by omega)] at ho
    exact Ok.mk ⟨_, _, _, F, rfl, ho, hk, hF⟩

theorem kit_markBytes {i : Int} {w : World} : Calls Tryz.prog F_kit_markBytes #[.int .i64 i] w (Ok fun v w' => (∃ x : Int, v = .int .u8 x) ∧ w = w') :=
  L_kit_markBytes (Ok.mk ⟨⟨_, rfl⟩, rfl⟩)

theorem kit_SpoilBytes {a : Option Addr} {n c : Nat} {xs : List UInt8} {w : World} {F : Nat → Prop} (ha : Lst cU8 5 F w a n c xs) (hbig : n ≤ Big) :
    Calls Tryz.prog F_kit_SpoilBytes #[.slice a n c] w (Ok fun v w' => v = .tuple #[] ∧ Keep F w w' ∧ w'.heap.size = w.heap.size) := by
  obtain ⟨cs, D, ho, -, -⟩ := ha.body
  have hs := ha.self
  unfold Big at hbig
  rcases ho.cases with ⟨rfl, rfl, rfl, -⟩ | ⟨g, cur, rfl, hg, hnc, hcs, -⟩
  · refine L_kit_SpoilBytes ⟨fun k i w' => i = 0 ∧ w' = w, ⟨0, rfl, rfl⟩, ?_⟩
    rintro k i _ w1 ⟨rfl, rfl⟩
    exact PIf.ff (by simp) (Ok.mk ⟨rfl, Keep.refl _, rfl⟩)
  · have hFg : F g := hs g rfl
    change cur.size = c * 1 at hcs
    refine L_kit_SpoilBytes ⟨fun k i w' => ∃ (j : Nat) (cur' : Array Value), i = j ∧ j ≤ n ∧ k = n - j ∧ w'.heap[g]? = some (.cells cur' 5 (0, 0)) ∧ cur'.size = c ∧ Keep (· = g) w w' ∧ w'.heap.size = w.heap.size,
      ⟨_, 0, cur, rfl, Nat.zero_le _, rfl, hg, by omega, Keep.refl _, rfl⟩, ?_⟩
    rintro k i _ w1 ⟨j, cur', rfl, hj, rfl, hg1, hc1, hk1, hs1⟩
    refine PIf.dec (fun h1 => ?_) (fun h1 => ?_)
    · refine PC.ok kit_markBytes ?_
      rintro _ w2 ⟨⟨x, rfl⟩, rfl⟩
      refine ⟨x, rfl, g, 0, rfl, by omega, by omega, PS.mk hg1 (by simp; omega) fun w3 k3 s3 g3 => ?_⟩
      exact ⟨_, by omega, j + 1, _, wrap_succ (by omega), by omega, rfl, g3, by simp [hc1], hk1.then k3, by omega⟩
    · exact Ok.mk ⟨rfl, hk1.mono (fun b _ hb => hb ▸ hFg), hs1⟩
end Go.Proofs.YtpmakiecgphijaaGreatDoor
