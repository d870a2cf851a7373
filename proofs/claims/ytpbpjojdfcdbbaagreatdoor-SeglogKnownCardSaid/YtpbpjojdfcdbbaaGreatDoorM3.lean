/- KitRow, SlKnown -/
import Derived.Test.YtpbpjojdfcdbbaaGreatDoorM2
import Derived.Test.YtpbpjojdfcdbbaaGreatDoorBytes8
import Derived.Test.YtpbpjojdfcdbbaaGreatDoorCrc
/- what the statements share: a row of bytes, by how many -/
namespace Go.Proofs.YtpbpjojdfcdbbaaGreatDoor
open Go.Lift
set_option linter.unusedVariables false
set_option maxRecDepth 20000
def rowV (n : Nat) : List UInt8 := (List.range n).map fun i => UInt8.ofNat (3 + 5 * i)
theorem rowV_length (n : Nat) : (rowV n).length = n := by simp [rowV]
theorem rowV_succ (n : Nat) : rowV (n + 1) = rowV n ++ [UInt8.ofNat (3 + 5 * n)] := by simp [rowV, List.range_succ]
theorem kit_Row {n : Nat} {w : World} (hn : n ≤ 100000) : Calls Tryz.prog F_kit_Row #[.int .i64 (n : Int)] w (Ok (New cU8 5 w (rowV n))) := by
  refine L_kit_Row ⟨fun m oa on oc i w' => ∃ j : Nat, i = j ∧ j ≤ n ∧ m = n - j ∧ ∃ F, Lst cU8 5 F w' oa on oc (rowV j) ∧ Grew w w' ∧ ∀ b, F b → w.heap.size ≤ b,
    ⟨_, 0, rfl, Nat.zero_le _, rfl, fun _ => False, by simpa [rowV] using Lst.nil w, Keep.refl w, fun _ h => h.elim⟩, ?_⟩
  rintro m oa on oc i _ w1 ⟨j, rfl, hj, rfl, F, ho, k1, hF⟩
  have hl := rowV_length j
  refine PIf.dec (fun hlt => ?_) (fun hge => ?_)
  · have ex : IntKind.wrap .u8 (IntKind.wrap .i64 (3 + (IntKind.wrap .i64 (5 * (j : Int))))) = (((UInt8.ofNat (3 + 5 * j)).toNat : Nat) : Int) := by
      rw [wrap_i64 (x := 5 * (j : Int)) (by unfold I64; omega), wrap_i64 (by unfold I64; omega), show (3 : Int) + 5 * (j : Int) = ((3 + 5 * j : Nat) : Int) by omega, wrap_u8, UInt8.toNat_ofNat']
    refine papp ho slU8 (x := UInt8.ofNat (3 + 5 * j)) (D := fun _ => False) ⟨by rw [ex], trivial⟩ (fun _ h => h.elim) (by rw [hl]; unfold Big; omega) (by rw [hl]; unfold maxLen; omega) fun a2 c2 w2 F2 ho2 hk2 hF2 _ => ?_
    rw [← rowV_succ] at ho2
    refine ⟨_, _, _, rfl, n - (j + 1), by omega, j + 1, wrap_succ (by omega), by omega, rfl, F2, ho2, k1.new hk2 fun b hb => .inr (hF b (ho.self b hb)), fun b hb => ?_⟩
    rcases hF2 b hb with h | h | h
    · exact hF b h
    · exact h.elim
    · have := k1.size; omega
  · obtain rfl : j = n := by omega
    exact Ok.mk ⟨_, _, _, F, rfl, ho, k1, hF⟩
end Go.Proofs.YtpbpjojdfcdbbaaGreatDoor

/- SeglogKnown: the walk -/
namespace Go.Proofs.YtpbpjojdfcdbbaaGreatDoor
open Go.Lift
set_option linter.unusedVariables false
set_option maxRecDepth 20000

theorem slAct22 : SlT Tryz.prog 47 51 4 64 := ⟨by kernel_rfl, by kernel_rfl, by decide⟩
theorem rcons {α : Type} {c : Cod α} {w : World} {D : Nat → Prop} {x : α} {xs : List α} {es r : List Value} (h : c.rep w D x es) (hr : Reps c w D xs r) : Reps c w D (x :: xs) (es ++ r) := ⟨es, r, rfl, h, hr⟩
theorem lst_reps {α : Type} {c : Cod α} {w : World} {D : Nat → Prop} {g : Nat} {e : TypeId} {cs : List Value} {xs : List α} (hg : w.heap[g]? = some (.cells cs.toArray e (0, 0))) (hr : Reps c w D xs cs) (hD : ∀ b, D b → b < g) (hb : xs.length ≤ maxLen) :
    Lst c e (fun b => D b ∨ b = g) w (some ⟨g, 0, none⟩) xs.length xs.length xs :=
  have hlt := lt_of_get hg
  ⟨⟨cs, D, by simpa using Own.of_new (n := xs.length) (k := c.k) hg (by simpa using hr.length) hb, hr, fun b hb => ⟨.inl hb, fun h => by have h2 : g = b := (by simpa [blk] using h); have := hD _ hb; omega⟩⟩, fun b h => .inr (by simpa [blk] using h.symm), fun b h => h.elim (fun h => by have := hD b h; omega) fun h => by omega⟩
theorem i64_0 : I64 0 := by unfold I64; decide
theorem rep0 {w : World} {D : Nat → Prop} {kind n : Int} (hk : I64 kind) (hn : I64 n) : cAct22.rep w D ⟨kind, n, [], []⟩ [.int .i64 kind, .int .i64 n, .slice none 0 0, .slice none 0 0] :=
  ⟨none, 0, 0, none, 0, 0, rfl, Row.nil w D, Row.nil w D, hk, hn, fun _ => ⟨rfl, rfl⟩⟩
theorem repE {w : World} {D : Nat → Prop} {a : Option Addr} {n c : Nat} {l : List EventV} (h : Row cEv 96 w D a n l) : cAct22.rep w D ⟨0, 0, l, []⟩ [.int .i64 0, .int .i64 0, .slice a n c, .slice none 0 0] :=
  ⟨a, n, c, none, 0, 0, rfl, h, Row.nil w D, i64_0, i64_0, fun _ => ⟨rfl, rfl⟩⟩
def knActs (x1 x2 x3 : List EventV) (r k : Int) : List Act22 := [⟨0, 0, x1, []⟩, ⟨1, 0, [], []⟩, ⟨3, r, [], []⟩, ⟨0, 0, x2, []⟩, ⟨1, 0, [], []⟩, ⟨0, 0, x3, []⟩, ⟨2, k, [], []⟩, ⟨0, 0, x2, []⟩, ⟨4, 0, [], []⟩, ⟨1, 0, [], []⟩, ⟨0, 0, x1, []⟩, ⟨2, 0, [], []⟩, ⟨3, 0, [], []⟩, ⟨0, 0, x1, []⟩, ⟨4, 0, [], []⟩, ⟨2, 0, [], []⟩, ⟨9, 0, [], []⟩]

theorem knReps {w : World} {D : Nat → Prop} {p1 p2 p3 : Option Addr} {x1 x2 x3 : List EventV} {r k : Int} (e1 : Row cEv 96 w D p1 1 x1) (e2 : Row cEv 96 w D p2 2 x2) (e3 : Row cEv 96 w D p3 3 x3) (hr : I64 r) (hk : I64 k) :
    Reps cAct22 w D (knActs x1 x2 x3 r k) [.int .i64 0, .int .i64 0, .slice p1 1 1, .slice none 0 0, .int .i64 1, .int .i64 0, .slice none 0 0, .slice none 0 0, .int .i64 3, .int .i64 r, .slice none 0 0, .slice none 0 0, .int .i64 0, .int .i64 0, .slice p2 2 2, .slice none 0 0, .int .i64 1, .int .i64 0, .slice none 0 0, .slice none 0 0, .int .i64 0, .int .i64 0, .slice p3 3 3, .slice none 0 0, .int .i64 2, .int .i64 k, .slice none 0 0, .slice none 0 0, .int .i64 0, .int .i64 0, .slice p2 2 2, .slice none 0 0, .int .i64 4, .int .i64 0, .slice none 0 0, .slice none 0 0, .int .i64 1, .int .i64 0, .slice none 0 0, .slice none 0 0, .int .i64 0, .int .i64 0, .slice p1 1 1, .slice none 0 0, .int .i64 2, .int .i64 0, .slice none 0 0, .slice none 0 0, .int .i64 3, .int .i64 0, .slice none 0 0, .slice none 0 0, .int .i64 0, .int .i64 0, .slice p1 1 1, .slice none 0 0, .int .i64 4, .int .i64 0, .slice none 0 0, .slice none 0 0, .int .i64 2, .int .i64 0, .slice none 0 0, .slice none 0 0, .int .i64 9, .int .i64 0, .slice none 0 0, .slice none 0 0] :=
  rcons (repE (c := 1) e1) (rcons (rep0 (show I64 1 by unfold I64; decide) i64_0) (rcons (rep0 (show I64 3 by unfold I64; decide) hr) (rcons (repE (c := 2) e2) (rcons (rep0 (show I64 1 by unfold I64; decide) i64_0) (rcons (repE (c := 3) e3) (rcons (rep0 (show I64 2 by unfold I64; decide) hk) (rcons (repE (c := 2) e2) (rcons (rep0 (show I64 4 by unfold I64; decide) i64_0) (rcons (rep0 (show I64 1 by unfold I64; decide) i64_0) (rcons (repE (c := 1) e1) (rcons (rep0 (show I64 2 by unfold I64; decide) i64_0) (rcons (rep0 (show I64 3 by unfold I64; decide) i64_0) (rcons (repE (c := 1) e1) (rcons (rep0 (show I64 4 by unfold I64; decide) i64_0) (rcons (rep0 (show I64 2 by unfold I64; decide) i64_0) (rcons (rep0 (show I64 9 by unfold I64; decide) i64_0) (rfl)))))))))))))))))

theorem SeglogKnown {w : World} (hw : Laid w) : Calls Tryz.prog F_law22_SeglogKnown #[] w (Ok fun v w' => v = .bool true ∧ Grew w w') := by
  have o1 := evSome_ok (n := 1) (by decide) (by decide)
  have o2 := evSome_ok (n := 2) (by decide) (by decide)
  have o3 := evSome_ok (n := 3) (by decide) (by decide)
  have o4 := evSome_ok (n := 4) (by decide) (by decide)
  have o5 := evSome_ok (n := 5) (by decide) (by decide)
  have o6 := evSome_ok (n := 6) (by decide) (by decide)
  have z0 : I64 0 := by unfold I64; decide
  refine L_law22_SeglogKnown (PC.ok (law22_some (by decide) (by decide)) ?_)
  rintro _ w1 ⟨a1, n1, c1, F1, rfl, ho1, -, k1⟩
  refine ⟨_, _, _, _, _, _, _, _, _, _, _, _, rfl, PA.mk fun w2 k2 s2 g2 => ?_⟩
  have r1 := row_one (e := evSome 1) g2 (ho1.grew k2) o1.1 (by simp [evSome])
  refine PC.ok (law22_some (by decide) (by decide)) ?_
  rintro _ w3 ⟨a2, n2, c2, F2, rfl, ho2, -, k3⟩
  refine ⟨_, _, _, _, _, _, _, _, _, _, _, _, rfl, PC.ok (law22_some (by decide) (by decide)) ?_⟩
  rintro _ w4 ⟨a3, n3, c3, F3, rfl, ho3, -, k4⟩
  refine ⟨_, _, _, _, _, _, _, _, _, _, _, _, rfl, PA.mk fun w5 k5 s5 g5 => ?_⟩
  have q2 := ((ho2.grew k4).grew k5).row (bytes := 8) (by decide) (by simp [evSome, Big])
  have q3 := (ho3.grew k5).row (bytes := 8) (by decide) (by simp [evSome, Big])
  have r2 : Row cEv 96 w5 (fun b => b < w5.heap.size) (some ⟨w4.heap.size, 0, none⟩) 2 [evSome 2, evSome 3] :=
    Row.of_reps (xs := [evSome 2, evSome 3]) (cs := evCells (evSome 2) a2 n2 c2 ++ evCells (evSome 3) a3 n3 c3) g5
      (Reps.append (Reps.one (c := cEv) ⟨a2, n2, c2, rfl, q2.mono fun b hb => ((ho2.grew k4).grew k5).dom b hb, o2.1⟩) (Reps.one (c := cEv) ⟨a3, n3, c3, rfl, q3.mono fun b hb => (ho3.grew k5).dom b hb, o3.1⟩)) (lt_of_get g5) (by unfold Big; simp)
  refine PC.ok (law22_some (by decide) (by decide)) ?_
  rintro _ w6 ⟨a4, n4, c4, F4, rfl, ho4, -, k6⟩
  refine ⟨_, _, _, _, _, _, _, _, _, _, _, _, rfl, PC.ok (law22_some (by decide) (by decide)) ?_⟩
  rintro _ w7 ⟨a5, n5, c5, F5, rfl, ho5, -, k7⟩
  refine ⟨_, _, _, _, _, _, _, _, _, _, _, _, rfl, PC.ok (law22_some (by decide) (by decide)) ?_⟩
  rintro _ w8 ⟨a6, n6, c6, F6, rfl, ho6, -, k8⟩
  refine ⟨_, _, _, _, _, _, _, _, _, _, _, _, rfl, PA.mk fun w9 k9 s9 g9 => ?_⟩
  have q4 := (((ho4.grew k7).grew k8).grew k9).row (bytes := 8) (by decide) (by simp [evSome, Big])
  have q5 := ((ho5.grew k8).grew k9).row (bytes := 8) (by decide) (by simp [evSome, Big])
  have q6 := (ho6.grew k9).row (bytes := 8) (by decide) (by simp [evSome, Big])
  have r3 : Row cEv 96 w9 (fun b => b < w9.heap.size) (some ⟨w8.heap.size, 0, none⟩) 3 [evSome 4, evSome 5, evSome 6] :=
    Row.of_reps (xs := [evSome 4, evSome 5, evSome 6]) (cs := evCells (evSome 4) a4 n4 c4 ++ (evCells (evSome 5) a5 n5 c5 ++ evCells (evSome 6) a6 n6 c6)) g9
      (rcons (c := cEv) ⟨a4, n4, c4, rfl, q4.mono fun b hb => (((ho4.grew k7).grew k8).grew k9).dom b hb, o4.1⟩ (Reps.append (Reps.one (c := cEv) ⟨a5, n5, c5, rfl, q5.mono fun b hb => ((ho5.grew k8).grew k9).dom b hb, o5.1⟩) (Reps.one (c := cEv) ⟨a6, n6, c6, rfl, q6.mono fun b hb => (ho6.grew k9).dom b hb, o6.1⟩))) (lt_of_get g9) (by unfold Big; simp)
  have k02 : Grew w w2 := k1.then k2
  have k25 : Grew w2 w5 := (k3.then k4).then k5
  have k59 : Grew w5 w9 := ((k6.then k7).then k8).then k9
  have z25 := k25.size; have z59 := k59.size
  replace r1 := ((r1.grew k25).grew k59).mono (D' := fun b => b < w9.heap.size) fun b hb => by omega
  replace r2 := (r2.grew k59).mono (D' := fun b => b < w9.heap.size) fun b hb => by omega
  have k09 : Grew w w9 := (k02.then k25).then k59
  generalize [evSome 1] = x1 at r1
  generalize [evSome 2, evSome 3] = x2 at r2
  generalize [evSome 4, evSome 5, evSome 6] = x3 at r3
  refine ⟨fun m k w' => ∃ j : Nat, k = j ∧ j ≤ 40 ∧ m = 40 - j ∧ Grew w9 w', ⟨_, 0, rfl, Nat.zero_le _, rfl, Keep.refl _⟩, ?_⟩
  rintro m k _ w10 ⟨j, rfl, hj, rfl, k10⟩
  refine PIf.dec (fun hlt => ?_) (fun hge => fin22 hw (k09.then k10))
  refine PA.mk fun w11 k11 s11 g11 => ?_
  have z10 := k10.size
  have e1 := ((r1.grew k10).grew k11).mono (D' := fun b => b < w10.heap.size) fun b hb => by omega
  have e2 := ((r2.grew k10).grew k11).mono (D' := fun b => b < w10.heap.size) fun b hb => by omega
  have e3 := ((r3.grew k10).grew k11).mono (D' := fun b => b < w10.heap.size) fun b hb => by omega
  have ij : I64 (j : Int) := by unfold I64; omega
  have im : I64 (Int.tmod j 20) := by unfold I64; rw [Int.tmod_eq_emod_of_nonneg (by omega)]; omega
  have hr11 := knReps e1 e2 e3 im ij
  have ho11 := lst_reps g11 hr11 (fun b hb => hb) (by unfold maxLen; simp [knActs])
  have ra : Row cAct22 64 w11 _ (some ⟨w10.heap.size, 0, none⟩) 17 _ := ho11.row (by decide) (by unfold Big; simp [knActs])
  have hL : ∀ {w' : World}, Grew w11 w' → Laid w' := fun hk => hw.grew ((k09.then k10).then (k11.then hk))
  have w40 : IntKind.wrap .i64 (400 + (j : Int)) = 400 + (j : Int) := wrap_i64 (by unfold I64; omega)
  have dom : ∀ {w' : World}, Grew w11 w' → ∀ b, (b < w10.heap.size ∨ b = w10.heap.size) → b < w'.heap.size := fun hk b hb => by have := hk.size; omega
  rw [w40]
  refine PC.ok (SeglogRuns (by unfold I64; omega) ra (dom (Keep.refl _)) (hL (Keep.refl _))) ?_
  rintro _ w12 ⟨rfl, k12⟩
  refine ⟨_, rfl, PIf.ff rfl (PC.ok (SeglogLasts (by unfold I64; omega) (ra.grew k12) (hL k12)) ?_)⟩
  rintro _ w13 ⟨rfl, k13⟩
  have k113 := k12.then k13
  rw [wrap_i64 (x := 3 * (j : Int)) (by unfold I64; omega)]
  refine ⟨_, rfl, PIf.ff rfl (PC.ok (SeglogRuns (by unfold I64; omega) (ra.grew k113) (dom k113) (hL k113)) ?_)⟩
  rintro _ w14 ⟨rfl, k14⟩
  have k114 := k113.then k14
  refine ⟨_, rfl, PIf.ff rfl (PC.ok (kit_Row (by omega)) ?_)⟩
  rintro _ w15 ⟨a15, n15, c15, F15, rfl, ho15, k15, hF15⟩
  have k115 := k114.then k15
  refine ⟨_, _, _, rfl, PA.mk fun w16 k16 s16 g16 => ?_⟩
  have k116 := k115.then k16
  have z115 := k115.size
  have hr16 : Reps cAct22 w16 (fun b => b < w15.heap.size) [⟨0, 0, x2, []⟩, ⟨5, 0, [], rowV j⟩, ⟨4, 0, [], []⟩] _ :=
    rcons (repE (c := 2) (((r2.grew k10).grew (k11.then k116)).mono (D' := fun b => b < w15.heap.size) fun b hb => by omega))
      (rcons ⟨none, 0, 0, a15, n15, c15, rfl, Row.nil _ _, ((ho15.grew k16).row (by decide) (by rw [rowV_length]; unfold Big; omega)).mono ho15.dom, (show I64 5 by unfold I64; decide), z0, fun e => ho15.nil0 e⟩ (rcons (rep0 (by unfold I64; decide) z0) rfl))
  have ho16 := lst_reps g16 hr16 (fun b hb => hb) (by unfold maxLen; simp)
  refine appRow ho16 slAct22 (ra.grew k116) (fun b hb => ⟨dom k116 b hb, fun h => by have h2 : w15.heap.size = b := (by simpa [blk] using h); have := dom k115 _ hb; omega⟩) (by unfold Big; simp [knActs]) (by unfold maxLen; simp [knActs]) fun a17 c17 w17 F17 ho17 hk17 hF17 hs17 => ?_
  have k17 : Grew w15 w17 := Keep.new k16 hk17 fun b hb => .inr (by cases hb; exact Nat.le_refl _)
  have k117 := k115.then k17
  refine ⟨_, _, _, rfl, PC.ok (SeglogRuns (by unfold I64; decide) (ho17.row (by decide) (by unfold Big; simp [knActs])) ho17.dom (hL k117)) ?_⟩
  rintro _ w18 ⟨rfl, k18⟩
  have k118 := k117.then k18
  rw [wrap_i64 (x := 2 * (j : Int)) (by unfold I64; omega)]
  have k918 : Grew w9 w18 := k10.then (k11.then k118)
  have z918 := k918.size
  refine ⟨_, rfl, PIf.ff rfl (PC.ok (SeglogRefuses (by unfold I64; omega) (by unfold I64; omega) (r3.grew k918) (fun b hb => by omega) (fun h => by cases h) (hL k118)) ?_)⟩
  rintro _ w19 ⟨rfl, k19⟩
  have k119 := k118.then k19
  refine ⟨_, rfl, PIf.ff rfl (PA.mk fun w20 k20 s20 g20 => ?_)⟩
  have k920 : Grew w9 w20 := (k918.then k19).then k20
  have z1 := (k918.then k19).size
  have ho20 : Lst cEv 39 _ w20 (some ⟨w19.heap.size, 0, none⟩) 0 0 [] := lst_reps (c := cEv) (xs := []) (cs := []) (D := fun _ => False) g20 rfl (fun b hb => hb.elim) (by unfold maxLen; simp)
  refine appRow ho20 slEv (r2.grew k920) (fun b hb => ⟨by omega, fun h => by have h2 : w19.heap.size = b := (by simpa [blk] using h); omega⟩) (by have := r2.len; have := r2.big; unfold Big at *; simp; omega) (by have := r2.len; unfold maxLen; simp; omega) fun a21 c21 w21 F21 ho21 hk21 hF21 hs21 => ?_
  have k21 : Grew w19 w21 := Keep.new k20 hk21 fun b hb => .inr (by cases hb; exact Nat.le_refl _)
  have z21 := k21.size
  have hl2 := r2.len; have hl3 := r3.len
  have k921 : Grew w9 w21 := (k918.then k19).then k21
  have hlow : ∀ b, blk a21 = some b → w19.heap.size ≤ b := fun b hb => by
    rcases hs21 b hb with (h | h) | h
    · exact h.elim
    · omega
    · omega
  refine ⟨_, _, _, rfl, appRow ho21 slEv (r3.grew k921) (fun b hb => ⟨by omega, fun h => by have := hlow b h; omega⟩) (by unfold Big; simp; omega) (by unfold maxLen; simp; omega) fun a22 c22 w22 F22 ho22 hk22 hF22 hs22 => ?_⟩
  have k22 : Grew w19 w22 := Keep.new k21 hk22 fun b hb => .inr (hlow b hb)
  refine ⟨_, _, _, rfl, PA.mk fun w23 k23 s23 g23 => ?_⟩
  have ij : I64 (j : Int) := by unfold I64; omega
  rw [wrap_i64 (x := 5 * (j : Int)) (by unfold I64; omega)]
  refine PC.ok (SeglogSegments (by unfold I64; omega) ((ho22.grew k23).row (by decide) (by unfold Big; simp; omega)) (ho22.grew k23).dom ho22.cap_le (Row.lit g23 [(j : Int)] rfl (fun x hx => by simp at hx; subst hx; exact ij) (by unfold Big; simp) : Row cI64 8 w23 (· = w22.heap.size) (some ⟨w22.heap.size, 0, none⟩) 1 [(j : Int)]) (hL ((k119.then k22).then k23))) ?_
  rintro _ w24 ⟨rfl, k24⟩
  exact ⟨_, rfl, PIf.ff rfl ⟨40 - (j + 1), by omega, j + 1, wrap_succ (by omega), by omega, rfl, (((k918.then k19).then k22).then k23).then k24⟩⟩
end Go.Proofs.YtpbpjojdfcdbbaaGreatDoor
