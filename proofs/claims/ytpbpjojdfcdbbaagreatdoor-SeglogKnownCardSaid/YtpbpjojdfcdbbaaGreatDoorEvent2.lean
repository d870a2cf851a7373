/- event: an event read off bytes -/
import Derived.Test.YtpbpjojdfcdbbaaGreatDoorEvent
namespace Go.Proofs.YtpbpjojdfcdbbaaGreatDoor
open Go.Lift
set_option linter.unusedVariables false
set_option maxRecDepth 20000

/-- a block's ten cells amid reading: the first numbers, the Deps, the last numbers -/
def evMid (l : List Int) (a : Option Addr) (n c : Nat) (m : List Int) : List Value :=
  [.int .i64 (l.getD 0 0), .int .i64 (l.getD 1 0), .int .i64 (l.getD 2 0), .slice a n c, .int .i64 (m.getD 0 0), .int .i64 (m.getD 1 0), .int .i64 (m.getD 2 0), .int .i64 (m.getD 3 0), .int .i64 (m.getD 4 0), .int .i64 (m.getD 5 0)]

theorem evMid_set1 {l m : List Int} {a : Option Addr} {n c : Nat} {x : Int} {j : Nat} (hj : l.length = j) (h : j < 3) : (evMid l a n c m).toArray.setIfInBounds j (.int .i64 x) = (evMid (l ++ [x]) a n c m).toArray := by
  match l, hj with
  | [], hj => subst hj; rfl
  | [_], hj => subst hj; rfl
  | [_, _], hj => subst hj; rfl
  | _ :: _ :: _ :: _, hj => simp at hj; omega
theorem evMid_set2 {l m : List Int} {a : Option Addr} {n c : Nat} {x : Int} {j : Nat} (hj : m.length = j) (h : j < 6) : (evMid l a n c m).toArray.setIfInBounds (4 + j) (.int .i64 x) = (evMid l a n c (m ++ [x])).toArray := by
  match m, hj with
  | [], hj => subst hj; rfl
  | [_], hj => subst hj; rfl
  | [_, _], hj => subst hj; rfl
  | [_, _, _], hj => subst hj; rfl
  | [_, _, _, _], hj => subst hj; rfl
  | [_, _, _, _, _], hj => subst hj; rfl
  | _ :: _ :: _ :: _ :: _ :: _ :: _, hj => simp at hj; omega

theorem rdInts_succ (k : Nat) (r : RdV) : rdInts (k + 1) r = ((rdInts k r).1 ++ [(rdInt (rdInts k r).2).1], (rdInt (rdInts k r).2).2) := rfl

theorem event_Get {w : World} {a : Option Addr} {n c : Nat} {bs : List UInt8} {D : Nat → Prop} (hb : Row cU8 1 w D a n bs) (hD : ∀ b, D b → b < w.heap.size) :
    Calls Tryz.prog F_event_Get #[.slice a n c] w (Ok fun v w' => ∃ a' n' c' F, v = .tuple #[.agg (evCells (evGet bs).1 a' n' c').toArray, .int .i64 (evGet bs).2] ∧ Lst cI64 3 F w' a' n' c' (evGet bs).1.deps ∧ Grew w w' ∧ ∀ b, F b → w.heap.size ≤ b) := by
  refine L_event_Get (PA.mk fun w1 k1 s1 g1 => PC.ok (pack_From (hb.grew k1) (fun b h => by have := hD b h; omega)) ?_)
  rintro _ w2 ⟨p, P, rfl, hr2, k2, hP⟩
  refine ⟨_, rfl, PA.mk fun w3 k3 s3 g3 => PA.mk fun w4 k4 s4 g4 => ?_⟩
  have hPp := hr2.self
  have hp2 : w1.heap.size ≤ p ∧ p < w2.heap.size := ⟨hP p hPp, hr2.dom p hPp⟩
  have hPd := hr2.dom
  have hs12 := k2.size
  have gE4 := k4.get g3 id
  have gR4 := k4.get (k3.get (k2.get g1 id) id) id
  have hr4 := (hr2.grew k3).grew k4
  have hk04 : Grew w w4 := ((k1.then k2).then k3).then k4
  -- the first three
  refine ⟨fun m i w' => ∃ j : Nat, i = j ∧ j ≤ 3 ∧ m = 3 - j ∧ w'.heap[w2.heap.size]? = some (.cells (evMid (rdInts j ⟨bs, 0, 0⟩).1 none 0 0 []).toArray 39 (0, 0)) ∧ RdAt w' p P (rdInts j ⟨bs, 0, 0⟩).2 ∧ Keep (fun b => b = w2.heap.size ∨ b = p) w4 w',
    ⟨_, 0, rfl, by omega, rfl, gE4, hr4, Keep.refl _⟩, ?_⟩
  rintro m i _ w5 ⟨j, rfl, hj, rfl, gE5, hr5, k5⟩
  have hr0 : (RdV.mk bs 0 0).Fit := ⟨Nat.zero_le _, .inl rfl⟩
  refine PIf.dec (fun h1 => ?_) (fun h1 => ?_)
  · have hj3 : j < 3 := by omega
    have g5 := k5.get g4 (by omega)
    have hptr : w5.cell? ⟨w3.heap.size, 0 + Int.toNat (j : Int), none⟩ = some (.pointer (some ⟨w2.heap.size, j, none⟩)) := by
      rw [Int.toNat_natCast, Nat.zero_add]
      match j, hj3 with
      | 0, _ => exact cell_at g5 rfl
      | 1, _ => exact cell_at g5 rfl
      | 2, _ => exact cell_at g5 rfl
    refine ⟨_, _, rfl, by omega, by omega, _, hptr, PC.ok (rd_Int hr5) ?_⟩
    rintro _ w6 ⟨rfl, hr6, k6⟩
    have gE6 := k6.get gE5 (by omega)
    refine ⟨_, rfl, _, _, rfl, PS.mk gE6 (by simp [evMid]; omega) fun w7 k7 s7 g7 => ⟨_, by omega, j + 1, wrap_succ (by omega), by omega, rfl, ?_, ?_, ?_⟩⟩
    · rw [g7, evMid_set1 (hr0.ints j).2.2.1 hj3]; rfl
    · rw [rdInts_succ]
      exact hr6.keep k7 fun b hb e => by have := hPd b hb; omega
    · exact k5.then ((k6.mono fun _ _ h => .inr h).then (k7.mono fun _ _ h => .inl h))
  obtain rfl : j = 3 := by omega
  obtain ⟨hf3, hl3, hn3, _⟩ := hr0.ints 3
  -- how many
  refine PC.ok (rd_Count hr5) ?_
  rintro _ w6 ⟨rfl, hr6, k6⟩
  have gE6 := k6.get gE5 (by omega)
  have k46 : Keep (fun b => b = w2.heap.size ∨ b = p) w4 w6 := k5.then (k6.mono fun _ _ h => .inr h)
  generalize hL : (rdInts 3 ⟨bs, 0, 0⟩).1 = L at gE6 hl3
  generalize hR : (rdInts 3 ⟨bs, 0, 0⟩).2 = R at hr6 hf3
  obtain ⟨hfc, hc0, hc64, _⟩ := hf3.count (m := 64) (by omega)
  generalize hC : (rdCount 64 R).1 = C at hc0 hc64
  generalize hRc : (rdCount 64 R).2 = Rc at hr6 hfc
  -- the Deps
  refine ⟨_, rfl, fun m i w' => ∃ j : Nat, i = j ∧ j ≤ C.toNat ∧ m = C.toNat - j ∧ ∃ da dn dc F, w'.heap[w2.heap.size]? = some (.cells (evMid L da dn dc []).toArray 39 (0, 0)) ∧ RdAt w' p P (rdInts j Rc).2 ∧
      Lst cI64 3 F w' da dn dc (rdInts j Rc).1 ∧ (∀ b, F b → w4.heap.size ≤ b) ∧ Keep (fun b => b = w2.heap.size ∨ b = p) w4 w',
    ⟨_, 0, rfl, by omega, rfl, none, 0, 0, fun _ => False, gE6, hr6, Lst.nil w6, fun _ h => h.elim, k46⟩, ?_⟩
  rintro m i _ w7 ⟨j, rfl, hj, rfl, da, dn, dc, F, gE7, hr7, ho7, hF7, k7⟩
  have hs7 := k7.size
  refine PIf.dec (fun h1 => ?_) (fun h1 => ?_)
  · intro w8 hd8
    have k8 : Grew w7 w8 := hd8.keep
    have s8 : w8.heap.size = w7.heap.size := by rw [hd8.heap]
    refine ⟨fun b => b ≠ w2.heap.size, by simp, da, dn, dc, cell_at (k8.get gE7 id) rfl, PC.ok (rd_Int (hr7.grew k8)) ?_⟩
    rintro _ w9 ⟨rfl, hr9, k9⟩
    have hlen := (hfc.ints j).2.2.1
    refine ⟨_, rfl, k9.mono (fun b _ h => by omega), ?_⟩
    have ho9 : Lst cI64 3 F w9 da dn dc (rdInts j Rc).1 := (ho7.grew k8).keep k9 fun b hb e => by have := hF7 b hb; have := k4.size; omega
    refine PA.mk fun w10 k10 s10 g10 => ⟨k10.keep, ?_⟩
    have ho10 := ho9.grew k10
    have gE9 := k9.get (k8.get gE7 id) (by omega)
    have gE10 := k10.get gE9 id
    have hxr := ((hfc.ints j).1.int).2.1
    have hrow : Row cI64 8 w10 (· = w9.heap.size) (some ⟨w9.heap.size, 0, none⟩) 1 [(rdInt (rdInts j Rc).2).1] := row_ints (f := (0, 0)) [(rdInt (rdInts j Rc).2).1] g10 (by simpa using hxr) (by simp)
    refine appRow ho10 slI64 hrow (fun b e => ⟨by omega, ?_⟩) (by rw [hlen]; unfold Big; simp; omega) (by rw [hlen]; unfold maxLen; simp; omega) fun a11 c11 w11 F11 ho11 hk11 hF11 hs11 => ?_
    · intro e2
      have := ho9.dom b (ho9.self b e2)
      omega
    refine ⟨_, _, _, rfl, PS.mk (hk11.get gE10 ?_) (by simp [evMid]) fun w12 k12 s12 g12 => ⟨_, by omega, j + 1, wrap_succ (by omega), by omega, rfl, a11, dn + 1, c11, fun b => blk a11 = some b, ?_, ?_, ?_, ?_, ?_⟩⟩
    · intro e; have := hF7 _ (ho9.self _ e); have := k4.size; omega
    · rw [g12]; rfl
    · rw [rdInts_succ]
      refine ((hr9.grew k10).keep hk11 fun b hb e => ?_).keep k12 fun b hb e => ?_
      · have := hF7 _ (ho9.self _ e); have := hPd b hb; have := k4.size; have := k3.size; omega
      · have := hPd b hb; omega
    · have h11 := ho11.alone
      rw [rdInts_succ]
      refine h11.keep k12 fun b hb e => ?_
      rcases hs11 b hb with h | h
      · have := hF7 b h; have := k4.size; omega
      · have := k10.size; have := k9.size; have := k8.size; omega
    · intro b hb
      rcases hs11 b hb with h | h
      · exact hF7 b h
      · have := k10.size; have := k9.size; have := k8.size; omega
    · have ka : Keep (fun b => b = w2.heap.size ∨ b = p) w4 w10 := ((k7.grew k8).then (k9.mono fun _ _ h => .inr h)).grew k10
      have kb : Keep (fun b => b = w2.heap.size ∨ b = p) w4 w11 := ka.new hk11 fun b hb => .inr (hF7 b (ho9.self b hb))
      exact kb.then (k12.mono fun _ _ h => .inl h)
  obtain rfl : j = C.toNat := by omega
  obtain ⟨hfd, hdl, hdn, _⟩ := hfc.ints C.toNat
  generalize hDp : (rdInts C.toNat Rc).1 = dps at ho7 hdl hdn
  generalize hRd : (rdInts C.toNat Rc).2 = Rd at hr7 hfd
  refine PA.mk fun w8 k8 s8 g8 => ?_
  have gE8 := k8.get gE7 id
  have k48 : Keep (fun b => b = w2.heap.size ∨ b = p) w4 w8 := k7.grew k8
  have ho8 := ho7.grew k8
  have hs4 := k4.size
  -- the last six
  refine ⟨fun m i w' => ∃ j : Nat, i = j ∧ j ≤ 6 ∧ m = 6 - j ∧ w'.heap[w2.heap.size]? = some (.cells (evMid L da dn dc (rdInts j Rd).1).toArray 39 (0, 0)) ∧ RdAt w' p P (rdInts j Rd).2 ∧ Keep (fun b => b = w2.heap.size ∨ b = p) w8 w',
    ⟨_, 0, rfl, by omega, rfl, gE8, hr7.grew k8, Keep.refl _⟩, ?_⟩
  rintro m i _ w9 ⟨j, rfl, hj, rfl, gE9, hr9, k9⟩
  refine PIf.dec (fun h1 => ?_) (fun h1 => ?_)
  · have hj6 : j < 6 := by omega
    have g9 := k9.get g8 (by have := k7.size; omega)
    have hptr : w9.cell? ⟨w7.heap.size, 0 + Int.toNat (j : Int), none⟩ = some (.pointer (some ⟨w2.heap.size, 4 + j, none⟩)) := by
      rw [Int.toNat_natCast, Nat.zero_add]
      match j, hj6 with
      | 0, _ => exact cell_at g9 rfl
      | 1, _ => exact cell_at g9 rfl
      | 2, _ => exact cell_at g9 rfl
      | 3, _ => exact cell_at g9 rfl
      | 4, _ => exact cell_at g9 rfl
      | 5, _ => exact cell_at g9 rfl
    refine ⟨_, _, rfl, by omega, by omega, _, hptr, PC.ok (rd_Int hr9) ?_⟩
    rintro _ w10 ⟨rfl, hr10, k10⟩
    have gE10 := k10.get gE9 (by omega)
    refine ⟨_, rfl, _, _, rfl, PS.mk gE10 (by simp [evMid]; omega) fun w11 k11 s11 g11 => ⟨_, by omega, j + 1, wrap_succ (by omega), by omega, rfl, ?_, ?_, ?_⟩⟩
    · rw [g11, evMid_set2 (hfd.ints j).2.2.1 hj6]; rfl
    · rw [rdInts_succ]
      exact hr10.keep k11 fun b hb e => by have := hPd b hb; omega
    · exact k9.then ((k10.mono fun _ _ h => .inr h).then (k11.mono fun _ _ h => .inl h))
  obtain rfl : j = 6 := by omega
  have hread : evRead ⟨bs, 0, 0⟩ = (⟨L.getD 0 0, L.getD 1 0, L.getD 2 0, dps, (rdInts 6 Rd).1.getD 0 0, (rdInts 6 Rd).1.getD 1 0, (rdInts 6 Rd).1.getD 2 0, (rdInts 6 Rd).1.getD 3 0, (rdInts 6 Rd).1.getD 4 0, (rdInts 6 Rd).1.getD 5 0⟩, (rdInts 6 Rd).2) := by
    unfold evRead
    simp only [hL, hR, hC, hRc, hDp, hRd]
  refine PC.ok (rd_Done hr9) ?_
  rintro _ w10 ⟨rfl, hd10⟩
  have k10 : Grew w9 w10 := hd10.keep
  have k810 : Keep (fun b => b = w2.heap.size ∨ b = p) w8 w10 := k9.grew k10
  have k410 : Keep (fun b => b = w2.heap.size ∨ b = p) w4 w10 := k48.then k810
  have gR10 := k410.get gR4 (by omega)
  have gE10 := k10.get gE9 id
  have ho10 : Lst cI64 3 F w10 da dn dc dps := ho8.keep k810 fun b hb e => by have := hF7 b hb; omega
  have kw10 : Grew w w10 := hk04.new k410 fun b hb => .inr (by omega)
  have hdone : rdDone (evRead ⟨bs, 0, 0⟩).2 = rdDone (rdInts 6 Rd).2 := by rw [hread]
  refine ⟨_, rfl, PIf.neI (fun hne => ?_) (fun he => ?_)⟩
  · have hget : evGet bs = (zeroEv, rdDone (rdInts 6 Rd).2) := by unfold evGet; rw [hdone, if_pos hne]
    rw [hget]
    refine storeAll [.int .i64 0, .int .i64 0, .int .i64 0, .slice none 0 0, .int .i64 0, .int .i64 0, .int .i64 0, .int .i64 0, .int .i64 0, .int .i64 0] gR10 rfl fun w11 k11 s11 g11 => ?_
    refine ⟨0, 0, 0, none, 0, 0, 0, 0, 0, 0, 0, 0, cell_at g11 rfl, cell_at g11 rfl, cell_at g11 rfl, cell_at g11 rfl, cell_at g11 rfl, cell_at g11 rfl, cell_at g11 rfl, cell_at g11 rfl, cell_at g11 rfl, cell_at g11 rfl, Ok.mk ⟨none, 0, 0, fun _ => False, rfl, Lst.nil w11, ?_, fun _ h => h.elim⟩⟩
    exact kw10.new k11 fun b hb => .inr (by omega)
  · have hget : evGet bs = ((evRead ⟨bs, 0, 0⟩).1, 0) := by unfold evGet; rw [hdone, if_neg (by simpa using he)]
    rw [hget, hread]
    refine ⟨_, _, _, da, dn, dc, _, _, _, _, _, _, cell_at gE10 rfl, cell_at gE10 rfl, cell_at gE10 rfl, cell_at gE10 rfl, cell_at gE10 rfl, cell_at gE10 rfl, cell_at gE10 rfl, cell_at gE10 rfl, cell_at gE10 rfl, cell_at gE10 rfl, ?_⟩
    refine storeAll (evMid L da dn dc (rdInts 6 Rd).1) gR10 rfl fun w11 k11 s11 g11 => ?_
    refine ⟨_, _, _, da, dn, dc, _, _, _, _, _, _, cell_at g11 rfl, cell_at g11 rfl, cell_at g11 rfl, cell_at g11 rfl, cell_at g11 rfl, cell_at g11 rfl, cell_at g11 rfl, cell_at g11 rfl, cell_at g11 rfl, cell_at g11 rfl, Ok.mk ⟨da, dn, dc, F, rfl, ho10.keep k11 fun b hb e => ?_, ?_, fun b hb => ?_⟩⟩
    · have := hF7 b hb; omega
    · exact kw10.new k11 fun b hb => .inr (by omega)
    · have := hF7 b hb; have := hk04.size; omega
end Go.Proofs.YtpbpjojdfcdbbaaGreatDoor
