/- the document's events: laid, and read -/
import Derived.Test.YtpmakiecgphijaaGreatDoorRef01
import Derived.Test.YtpmakiecgphijaaGreatDoorEvent2
import Derived.Test.YtpmakiecgphijaaGreatDoorLstLit
namespace Go.Proofs.YtpmakiecgphijaaGreatDoor
open Go.Lift
set_option linter.unusedVariables false
set_option maxRecDepth 20000

theorem ref05_Put {w : World} {D : Nat → Prop} {e : EventV} {a : Option Addr} {n c : Nat} (hd : Row cI64 8 w D a n e.deps) (he : e.Ok) (hD : ∀ b, D b → b < w.heap.size) :
    Calls Tryz.prog F_ref05_Put #[.agg (evCells e a n c).toArray] w (Ok fun v w' => ∃ u, v = .tuple #[u, .int .i64 (evPut e).2] ∧ New cU8 5 w (evPut e).1 u w') := by
  have hn := hd.len
  refine L_ref05_Put (PA.mk fun w1 k1 s1 g1 => ⟨_, _, _, cell_at g1 rfl, PIf.dec (fun h => ?_) (fun h => ?_)⟩)
  · rw [show evPut e = ([], 3) by unfold evPut; rw [if_pos (by omega)]]
    exact Ok.mk ⟨_, rfl, none, 0, 0, fun _ => False, rfl, Lst.nil _, k1, fun _ h => h.elim⟩
  rw [show evPut e = (encInts (evInts e), 0) by unfold evPut; rw [if_neg (by omega)]]
  refine ⟨_, cell_at g1 rfl, _, cell_at g1 rfl, _, cell_at g1 rfl, _, _, _, cell_at g1 rfl, PA.mk fun w2 k2 s2 g2 => ⟨_, _, _, cell_at (k2.get g1 id) rfl, ?_⟩⟩
  have hints := he.ints (by omega)
  have hlen : (evInts e).length = 10 + n := by simp [evInts]; omega
  have ho2 : Lst cI64 3 (· = w1.heap.size) w2 (some ⟨w1.heap.size, 0, none⟩) 4 4 [e.origin, e.seq, e.lamport, (n : Int)] :=
    Lst.of_block g2 [e.origin, e.seq, e.lamport, (n : Int)] rfl (by
      intro x hx
      simp only [List.mem_cons, List.not_mem_nil, or_false] at hx
      rcases hx with rfl | rfl | rfl | rfl
      · exact he.origin
      · exact he.seq
      · exact he.lamport
      · unfold I64; omega) (by unfold maxLen; simp)
  refine appRow0 ho2 slI64 ((hd.grew k1).grew k2) (fun b hb => ⟨by have := hD b hb; omega, fun e2 => by have := hD b hb; have := ho2.self b e2; omega⟩) (by unfold Big; simp; omega) (by unfold maxLen; simp; omega) fun a3 c3 w3 F3 ho3 hk3 _ hs3 => ?_
  replace ho3 := ho3.alone
  have hs3' : ∀ b, blk a3 = some b → w1.heap.size ≤ b := fun b hb => (hs3 b hb).elim (fun h => by omega) (fun h => by omega)
  have k23 : Keep (fun b => blk (some (⟨w1.heap.size, 0, none⟩ : Addr)) = some b) w2 w3 := hk3
  have g3 := k23.get (k2.get g1 id) (fun h => by simp only [blk, Option.some.injEq] at h; omega)
  have k03 : Grew w w3 := (k1.then k2).new k23 fun b hb => .inr (by simp only [blk, Option.some.injEq] at hb; omega)
  refine ⟨_, _, _, rfl, _, cell_at g3 rfl, _, cell_at g3 rfl, _, cell_at g3 rfl, _, cell_at g3 rfl, _, cell_at g3 rfl, _, cell_at g3 rfl, PA.mk fun w4 k4 s4 g4 => ?_⟩
  have hrow4 : Row cI64 8 w4 (· = w3.heap.size) (some ⟨w3.heap.size, 0, none⟩) 6 [e.typ, e.agg, e.field, e.op, e.arg, e.key] := Row.lit g4 [e.typ, e.agg, e.field, e.op, e.arg, e.key] rfl (by
      intro x hx
      simp only [List.mem_cons, List.not_mem_nil, or_false] at hx
      rcases hx with rfl | rfl | rfl | rfl | rfl | rfl
      · exact he.typ
      · exact he.agg
      · exact he.field
      · exact he.op
      · exact he.arg
      · exact he.key) (by unfold Big; simp)
  refine appRow (ho3.grew k4) slI64 hrow4 (fun b e2 => ⟨by omega, fun e3 => by have := ho3.dom b (ho3.self b e3); omega⟩) (by unfold Big; simp; omega) (by unfold maxLen; simp; omega) fun a5 c5 w5 F5 ho5 hk5 _ hs5 => ?_
  replace ho5 := ho5.alone
  have hs5' : ∀ b, blk a5 = some b → w1.heap.size ≤ b := fun b hb => (hs5 b hb).elim (hs3' b) (fun h => by have := k23.size; omega)
  have k05 : Grew w w5 := (k03.then k4).new hk5 fun b hb => .inr (by have := hs3' b hb; omega)
  have hev : [e.origin, e.seq, e.lamport, (n : Int)] ++ e.deps ++ [e.typ, e.agg, e.field, e.op, e.arg, e.key] = evInts e := by unfold evInts; rw [hn]
  rw [hev] at ho5
  have hn5 := ho5.len (by decide)
  generalize evInts e = l at ho5 hints hlen hn5 ⊢
  refine ⟨_, _, _, rfl, fun m ba bn bc i w' => ∃ j : Nat, i = j ∧ j ≤ 10 + n ∧ m = 10 + n - j ∧ ∃ F, Lst cU8 5 F w' ba bn bc (encInts (l.take j)) ∧ Grew w5 w' ∧ ∀ b, F b → w5.heap.size ≤ b,
    ⟨_, 0, rfl, Nat.zero_le _, rfl, fun _ => False, by simpa [encInts] using Lst.nil w5, Keep.refl _, fun _ h => h.elim⟩, ?_⟩
  rintro m ba bn bc i _ w6 ⟨j, rfl, hj, rfl, F6, ho6, k6, hF6⟩
  have hle : (encInts (l.take j)).length ≤ 9 * j := by
    have h1 := encInts_le (l := l.take j) fun x hx => hints x (List.mem_of_mem_take hx)
    have h2 : (l.take j).length = j := by simp; omega
    omega
  have hbn := ho6.len (by decide)
  refine PIf.dec (fun hlt => ?_) (fun hge => ?_)
  · obtain ⟨b, off, x, hab, hx, hxr, hc⟩ := ((ho5.grew k6).row (bytes := 8) (by decide) (by unfold Big; omega)).at1 (i := j) (by omega)
    refine ⟨b, off, hab, by omega, by omega, _, by rw [Int.toNat_natCast]; exact hc, PC.ok (ref01_Int hxr (ho6.row (bytes := 1) (by decide) (by unfold Big; omega)) (by unfold Big; omega) ho6.dom) ?_⟩
    rintro _ w7 ⟨a7, n7, c7, F7, rfl, ho7, k7, hF7⟩
    refine ⟨_, _, _, rfl, 10 + n - (j + 1), by omega, j + 1, wrap_succ (by omega), by omega, rfl, F7, ?_, k6.then k7, fun b hb => by have := hF7 b hb; have := k6.size; omega⟩
    have e2 : encInts (l.take (j + 1)) = encInts (l.take j) ++ encInt x := by
      rw [List.take_add_one, hx, encInts_append]
      congr 1
      simp [encInts]
    rw [e2]; exact ho7
  · obtain rfl : j = 10 + n := by omega
    rw [List.take_of_length_le (by omega)] at ho6
    exact Ok.mk ⟨_, rfl, _, _, _, F6, rfl, ho6, k05.then k6, fun b hb => by have := hF6 b hb; have := k05.size; omega⟩

section
variable {w : World} {e q j off : Nat} {P : Nat → Prop} {r : RdV} {xs ys : List Int} {a : Option Addr} {n c : Nat} {κ : World → Prop} {ε : List PanicEntry → World → Prop}
theorem rstep1 (hg : w.heap[e]? = some (.cells (evMid xs a n c ys).toArray 47 (0, 0))) (hr : RdR w q P r) (he : ¬ P e) (hx : xs.length = j) (hj : j < 3) (ho : off = j)
    (hκ : ∀ w', w'.heap[e]? = some (.cells (evMid (xs ++ [(rdInt r).1]) a n c ys).toArray 47 (0, 0)) → RdR w' q P (rdInt r).2 → Keep (fun b => b = e ∨ b = q) w w' → κ w') :
    PC Tryz.prog F_ref01_Reader_Int #[.pointer (some ⟨q, 0, none⟩)] w (fun v w1 => ∃ t : Int, v = .int .i64 t ∧ PS w1 ⟨e, off, none⟩ (.int .i64 t) κ) ε := by
  subst ho
  refine PC.ok (ref01_rdInt hr) ?_
  rintro _ w1 ⟨rfl, hr1, k1⟩
  have hq := hr.self
  have hne : e ≠ q := fun h => he (h ▸ hq)
  refine ⟨_, rfl, PS.mk (k1.get hg hne) (by simp [evMid]; omega) fun w2 k2 s2 g2 => hκ w2 ?_ (hr1.keep k2 fun b hb h => he (h ▸ hb)) ((k1.mono fun _ _ h => .inr h).then (k2.mono fun _ _ h => .inl h))⟩
  rw [g2, evMid_set1 hx hj]
theorem rstep2 (hg : w.heap[e]? = some (.cells (evMid xs a n c ys).toArray 47 (0, 0))) (hr : RdR w q P r) (he : ¬ P e) (hx : ys.length = j) (hj : j < 6) (ho : off = 4 + j)
    (hκ : ∀ w', w'.heap[e]? = some (.cells (evMid xs a n c (ys ++ [(rdInt r).1])).toArray 47 (0, 0)) → RdR w' q P (rdInt r).2 → Keep (fun b => b = e ∨ b = q) w w' → κ w') :
    PC Tryz.prog F_ref01_Reader_Int #[.pointer (some ⟨q, 0, none⟩)] w (fun v w1 => ∃ t : Int, v = .int .i64 t ∧ PS w1 ⟨e, off, none⟩ (.int .i64 t) κ) ε := by
  subst ho
  refine PC.ok (ref01_rdInt hr) ?_
  rintro _ w1 ⟨rfl, hr1, k1⟩
  have hq := hr.self
  have hne : e ≠ q := fun h => he (h ▸ hq)
  refine ⟨_, rfl, PS.mk (k1.get hg hne) (by simp [evMid]; omega) fun w2 k2 s2 g2 => hκ w2 ?_ (hr1.keep k2 fun b hb h => he (h ▸ hb)) ((k1.mono fun _ _ h => .inr h).then (k2.mono fun _ _ h => .inl h))⟩
  rw [g2, evMid_set2 hx hj]
end

theorem ref05_Read {w : World} {q : Nat} {P : Nat → Prop} {r : RdV} (hr : RdR w q P r) :
    Calls Tryz.prog F_ref05_Read #[.pointer (some ⟨q, 0, none⟩)] w (Ok fun v w' => ∃ a n c G, v = .agg (evCells (evRead r).1 a n c).toArray ∧ Lst cI64 3 G w' a n c (evRead r).1.deps ∧ RdR w' q P (evRead r).2 ∧ Keep (· = q) w w' ∧ ∀ b, G b → w.heap.size ≤ b) := by
  have hPd := hr.dom
  have hq := hPd q hr.self
  refine L_ref05_Read (PA.mk fun w1 k1 s1 g1 => PA.mk fun w2 k2 s2 g2 => storeAll (evCells zeroEv none 0 0) g2 rfl fun w3 k3 s3 g3 => ?_)
  have gE3 : w3.heap[w1.heap.size]? = some (.cells (evMid [] none 0 0 []).toArray 47 (0, 0)) := g3
  have nE : ¬ P w1.heap.size := fun h => by have := hPd _ h; omega
  have hr3 : RdR w3 q P r := ((hr.grew k1).grew k2).keep k3 fun b hb e => by have := hPd b hb; omega
  have gR3 := k3.get (k2.get g1 id) (by omega)
  have k03 : Grew w w3 := (k1.then k2).new k3 fun b hb => .inr (by omega)
  refine rstep1 (j := 0) gE3 hr3 nE rfl (by decide) rfl fun w4 g4 hr4 k4 => rstep1 (j := 1) g4 hr4 nE rfl (by decide) rfl fun w5 g5 hr5 k5 => rstep1 (j := 2) g5 hr5 nE rfl (by decide) rfl fun w6 g6 hr6 k6 => ?_
  change w6.heap[w1.heap.size]? = some (.cells (evMid (rdInts 3 r).1 none 0 0 []).toArray 47 (0, 0)) at g6
  change RdR w6 q P (rdInts 3 r).2 at hr6
  have k36 : Keep (fun b => b = w1.heap.size ∨ b = q) w3 w6 := (k4.then k5).then k6
  obtain ⟨hf3, hl3, hn3, _⟩ := hr.fit.ints 3
  refine PC.ok (ref01_rdCount (m := 64) hr6 (by omega)) ?_
  rintro _ w7 ⟨rfl, hr7, k7⟩
  have g7 := k7.get g6 (by omega)
  have k37 : Keep (fun b => b = w1.heap.size ∨ b = q) w3 w7 := k36.then (k7.mono fun _ _ h => .inr h)
  have hev : evRead r = (⟨(rdInts 3 r).1.getD 0 0, (rdInts 3 r).1.getD 1 0, (rdInts 3 r).1.getD 2 0, (rdInts (rdCount 64 (rdInts 3 r).2).1.toNat (rdCount 64 (rdInts 3 r).2).2).1,
      (rdInts 6 (rdInts (rdCount 64 (rdInts 3 r).2).1.toNat (rdCount 64 (rdInts 3 r).2).2).2).1.getD 0 0, (rdInts 6 (rdInts (rdCount 64 (rdInts 3 r).2).1.toNat (rdCount 64 (rdInts 3 r).2).2).2).1.getD 1 0, (rdInts 6 (rdInts (rdCount 64 (rdInts 3 r).2).1.toNat (rdCount 64 (rdInts 3 r).2).2).2).1.getD 2 0,
      (rdInts 6 (rdInts (rdCount 64 (rdInts 3 r).2).1.toNat (rdCount 64 (rdInts 3 r).2).2).2).1.getD 3 0, (rdInts 6 (rdInts (rdCount 64 (rdInts 3 r).2).1.toNat (rdCount 64 (rdInts 3 r).2).2).2).1.getD 4 0, (rdInts 6 (rdInts (rdCount 64 (rdInts 3 r).2).1.toNat (rdCount 64 (rdInts 3 r).2).2).2).1.getD 5 0⟩,
      (rdInts 6 (rdInts (rdCount 64 (rdInts 3 r).2).1.toNat (rdCount 64 (rdInts 3 r).2).2).2).2) := rfl
  rw [hev]
  generalize (rdInts 3 r).1 = L at g7 ⊢
  generalize (rdInts 3 r).2 = R at hr7 hf3 ⊢
  obtain ⟨hfc, hc0, hc64, _⟩ := hf3.count (m := 64) (by omega)
  generalize (rdCount 64 R).1 = C at hc0 hc64 ⊢
  generalize (rdCount 64 R).2 = Rc at hr7 hfc ⊢
  have h37 := k37.size
  refine ⟨_, rfl, fun m i w' => ∃ j : Nat, i = j ∧ j ≤ C.toNat ∧ m = C.toNat - j ∧ ∃ da dn dc F, w'.heap[w1.heap.size]? = some (.cells (evMid L da dn dc []).toArray 47 (0, 0)) ∧ RdR w' q P (rdInts j Rc).2 ∧
      Lst cI64 3 F w' da dn dc (rdInts j Rc).1 ∧ (∀ b, F b → w3.heap.size ≤ b) ∧ Keep (fun b => b = w1.heap.size ∨ b = q) w3 w',
    ⟨_, 0, rfl, by omega, rfl, none, 0, 0, fun _ => False, g7, hr7, Lst.nil w7, fun _ h => h.elim, k37⟩, ?_⟩
  rintro m i _ w8 ⟨j, rfl, hj, rfl, da, dn, dc, F, g8, hr8, ho8, hF8, k8⟩
  have hs8 := k8.size
  have hP3 : ∀ b, P b → b < w3.heap.size := fun b hb => by have := hPd b hb; omega
  refine PIf.dec (fun h1 => ?_) (fun h1 => ?_)
  · intro w9 d9
    have k9 : Grew w8 w9 := d9.keep
    refine ⟨fun b => b ≠ w1.heap.size, by simp, da, dn, dc, cell_at (k9.get g8 id) rfl, PC.ok (ref01_rdInt (hr8.grew k9)) ?_⟩
    rintro _ w10 ⟨rfl, hr10, k10⟩
    have hlen := (hfc.ints j).2.2.1
    refine ⟨_, rfl, k10.mono (fun b _ h => by omega), PA.mk fun w11 k11 s11 g11 => ⟨k11.keep, ?_⟩⟩
    have ho10 : Lst cI64 3 F w10 da dn dc (rdInts j Rc).1 := (ho8.grew k9).keep k10 fun b hb e => by have := hF8 b hb; omega
    have ho11 := ho10.grew k11
    have gE11 := k11.get (k10.get (k9.get g8 id) (by omega)) id
    have hxr := ((hfc.ints j).1.int).2.1
    have z9 := k9.size; have z10 := k10.size; have z11 := k11.size
    have hrow : Row cI64 8 w11 (· = w10.heap.size) (some ⟨w10.heap.size, 0, none⟩) 1 [(rdInt (rdInts j Rc).2).1] := Row.lit g11 [(rdInt (rdInts j Rc).2).1] rfl (fun x hx => by simp at hx; subst hx; exact hxr) (by unfold Big; simp)
    refine appRow ho11 slI64 hrow (fun b e => ⟨by omega, fun e2 => by have := ho10.dom b (ho10.self b e2); omega⟩) (by rw [hlen]; unfold Big; simp; omega) (by rw [hlen]; unfold maxLen; simp; omega) fun a12 c12 w12 F12 ho12 hk12 _ hs12 => ?_
    have ho12' := ho12.alone
    have hnb : ∀ b, blk da = some b → w3.heap.size ≤ b := fun b hb => hF8 b (ho8.self b hb)
    have hs12' : ∀ b, blk a12 = some b → w3.heap.size ≤ b := fun b hb => (hs12 b hb).elim (hF8 b) (fun h => by omega)
    refine ⟨_, _, _, rfl, PS.mk (hk12.get gE11 fun e => by have := hnb _ e; omega) (by simp [evMid]) fun w13 k13 s13 g13 => ⟨C.toNat - (j + 1), by omega, j + 1, wrap_succ (by omega), by omega, rfl, a12, dn + 1, c12, fun b => blk a12 = some b, ?_, ?_, ?_, hs12', ?_⟩⟩
    · rw [g13]; rfl
    · rw [rdInts_succ]
      exact ((hr10.grew k11).keep hk12 fun b hb e => by have := hP3 b hb; have := hnb b e; omega).keep k13 fun b hb e => nE (e ▸ hb)
    · rw [rdInts_succ]
      exact ho12'.keep k13 fun b hb e => by have := hs12' b hb; omega
    · have ka : Keep (fun b => b = w1.heap.size ∨ b = q) w3 w11 := ((k8.grew k9).then (k10.mono fun _ _ h => .inr h)).grew k11
      exact (ka.new hk12 fun b hb => .inr (hnb b hb)).then (k13.mono fun _ _ h => .inl h)
  obtain rfl : j = C.toNat := by omega
  obtain ⟨hfd, hdl, hdn, _⟩ := hfc.ints C.toNat
  generalize (rdInts C.toNat Rc).1 = dps at ho8 hdl hdn ⊢
  generalize (rdInts C.toNat Rc).2 = Rd at hr8 hfd ⊢
  refine rstep2 (j := 0) g8 hr8 nE rfl (by decide) rfl fun w9 g9 hr9 k9 => rstep2 (j := 1) g9 hr9 nE rfl (by decide) rfl fun w10 g10 hr10 k10 => rstep2 (j := 2) g10 hr10 nE rfl (by decide) rfl fun w11 g11 hr11 k11 => rstep2 (j := 3) g11 hr11 nE rfl (by decide) rfl fun w12 g12 hr12 k12 => rstep2 (j := 4) g12 hr12 nE rfl (by decide) rfl fun w13 g13 hr13 k13 => rstep2 (j := 5) g13 hr13 nE rfl (by decide) rfl fun w14 g14 hr14 k14 => ?_
  change w14.heap[w1.heap.size]? = some (.cells (evMid L da dn dc (rdInts 6 Rd).1).toArray 47 (0, 0)) at g14
  change RdR w14 q P (rdInts 6 Rd).2 at hr14
  generalize (rdInts 6 Rd).1 = Y at g14 ⊢
  generalize (rdInts 6 Rd).2 = Re at hr14 ⊢
  have k814 : Keep (fun b => b = w1.heap.size ∨ b = q) w8 w14 := ((((k9.then k10).then k11).then k12).then k13).then k14
  have k314 : Keep (fun b => b = w1.heap.size ∨ b = q) w3 w14 := k8.then k814
  have gR14 := k314.get gR3 (by omega)
  refine ⟨_, _, _, _, _, _, _, _, _, _, _, _, cell_at g14 rfl, cell_at g14 rfl, cell_at g14 rfl, cell_at g14 rfl, cell_at g14 rfl, cell_at g14 rfl, cell_at g14 rfl, cell_at g14 rfl, cell_at g14 rfl, cell_at g14 rfl, ?_⟩
  refine storeAll (evMid L da dn dc Y) gR14 rfl fun w15 k15 s15 g15 => ?_
  refine ⟨_, _, _, _, _, _, _, _, _, _, _, _, cell_at g15 rfl, cell_at g15 rfl, cell_at g15 rfl, cell_at g15 rfl, cell_at g15 rfl, cell_at g15 rfl, cell_at g15 rfl, cell_at g15 rfl, cell_at g15 rfl, cell_at g15 rfl, Ok.mk ⟨da, dn, dc, F, rfl, ?_, ?_, ?_, ?_⟩⟩
  · exact (ho8.keep k814 fun b hb hs => by have := hF8 b hb; omega).keep k15 fun b hb e => by have := hF8 b hb; omega
  · exact hr14.keep k15 fun b hb e => by have := hPd b hb; omega
  · have ka : Keep (· = q) w w14 := k03.keep.new k314 fun b hb => hb.elim (fun h => .inr (by omega)) .inl
    exact ka.new k15 fun b hb => .inr (by omega)
  · intro b hb; have := hF8 b hb; have := k03.size; omega

theorem ref05_Get {w : World} {a : Option Addr} {n c : Nat} {bs : List UInt8} {D : Nat → Prop} (hb : Row cU8 1 w D a n bs) (hD : ∀ b, D b → b < w.heap.size) :
    Calls Tryz.prog F_ref05_Get #[.slice a n c] w (Ok fun v w' => ∃ a' n' c' F, v = .tuple #[.agg (evCells (evGet bs).1 a' n' c').toArray, .int .i64 (evGet bs).2] ∧ Lst cI64 3 F w' a' n' c' (evGet bs).1.deps ∧ Grew w w' ∧ ∀ b, F b → w.heap.size ≤ b) := by
  refine L_ref05_Get (PA.mk fun w1 k1 s1 g1 => PC.ok (ref01_From (hb.grew k1) (fun b h => by have := hD b h; omega)) ?_)
  rintro _ w2 ⟨q, P, rfl, hr2, k2, hP⟩
  have hq2 := hr2.dom q hr2.self
  have hq1 := hP q hr2.self
  refine ⟨_, rfl, PC.ok (ref05_Read hr2) ?_⟩
  rintro _ w3 ⟨a3, n3, c3, G3, rfl, ho3, hr3, k3, hG3⟩
  have hz := k1.size; have hz2 := k2.size; have hz3 := k3.size
  refine ⟨_, _, _, _, _, _, _, _, _, _, _, _, rfl, PA.mk fun w4 k4 s4 g4 => storeAll (evCells (evRead ⟨bs, 0, 0⟩).1 a3 n3 c3) g4 rfl fun w5 k5 s5 g5 => ?_⟩
  have k35 : Grew w3 w5 := k4.new k5 fun b hb => .inr (by omega)
  have gR5 := k35.get (k3.get (k2.get g1 id) (by omega)) id
  have k05 : Grew w w5 := (((k1.then k2).new k3 fun b hb => .inr (by omega)).then k35)
  refine PC.ok (ref01_rdDone (hr3.grew k35)) ?_
  rintro _ w6 ⟨rfl, d6⟩
  have k6 : Grew w5 w6 := d6.keep
  refine ⟨_, rfl, PIf.neI (fun hne => PC.ok (ref01_rdDone ((hr3.grew k35).grew k6)) ?_) (fun h0 => ?_)⟩
  · rintro _ w7 ⟨rfl, d7⟩
    have k7 : Grew w6 w7 := d7.keep
    have gR7 := (k6.then k7).get gR5 id
    have eg : evGet bs = (zeroEv, rdDone (evRead ⟨bs, 0, 0⟩).2) := by unfold evGet; exact if_pos hne
    refine ⟨_, rfl, storeAll (evCells zeroEv none 0 0) gR7 rfl fun w8 k8 s8 g8 => ?_⟩
    refine ⟨_, _, _, _, _, _, _, _, _, _, _, _, cell_at g8 rfl, cell_at g8 rfl, cell_at g8 rfl, cell_at g8 rfl, cell_at g8 rfl, cell_at g8 rfl, cell_at g8 rfl, cell_at g8 rfl, cell_at g8 rfl, cell_at g8 rfl, ?_⟩
    rw [eg]
    exact Ok.mk ⟨none, 0, 0, fun _ => False, rfl, Lst.nil _, ((k05.then k6).then k7).new k8 fun b hb => .inr (by omega), fun _ h => h.elim⟩
  · have g6 := k6.get g5 id
    have eg : evGet bs = ((evRead ⟨bs, 0, 0⟩).1, 0) := by unfold evGet; exact if_neg fun h => h h0
    refine ⟨_, _, _, _, _, _, _, _, _, _, _, _, cell_at g6 rfl, cell_at g6 rfl, cell_at g6 rfl, cell_at g6 rfl, cell_at g6 rfl, cell_at g6 rfl, cell_at g6 rfl, cell_at g6 rfl, cell_at g6 rfl, cell_at g6 rfl, ?_⟩
    refine storeAll (evCells (evRead ⟨bs, 0, 0⟩).1 a3 n3 c3) (k6.get gR5 id) rfl fun w7 k7 s7 g7 => ?_
    refine ⟨_, _, _, _, _, _, _, _, _, _, _, _, cell_at g7 rfl, cell_at g7 rfl, cell_at g7 rfl, cell_at g7 rfl, cell_at g7 rfl, cell_at g7 rfl, cell_at g7 rfl, cell_at g7 rfl, cell_at g7 rfl, cell_at g7 rfl, ?_⟩
    rw [eg]
    refine Ok.mk ⟨a3, n3, c3, G3, rfl, ?_, ?_, ?_⟩
    · exact ((ho3.grew k35).grew k6).keep k7 fun b hb e => by have := hG3 b hb; omega
    · exact (k05.then k6).new k7 fun b hb => .inr (by omega)
    · intro b hb; have := hG3 b hb; omega
end Go.Proofs.YtpmakiecgphijaaGreatDoor
