/- the document's numbers: laid, and read -/
import Derived.Test.YtpmakiecgphijaaGreatDoorReader
import Derived.Test.YtpmakiecgphijaaGreatDoorCrc
namespace Go.Lift
open Go
set_option linter.unusedVariables false
theorem rdNum_fail {l : List UInt8} (h : (rdNum l).1 ≠ 0) : (rdNum l).2 = (0, 0) := by
  cases l with
  | nil => rfl
  | cons x t =>
    by_cases hk : kOf x ≤ 8
    · by_cases hs : t.length < kOf x
      · rw [rdNum_short hk hs]
      · by_cases hb : (0 < kOf x ∧ t.head? = some 0) ∨ (¬ 16 < x.toNat ∧ 2 ^ 63 ≤ valB (t.take (kOf x))) ∨ (16 < x.toNat ∧ 2 ^ 63 < valB (t.take (kOf x)))
        · rw [rdNum_bad hk hs hb]
        · rw [rdNum_good hk hs hb] at h; exact absurd rfl h
    · rw [rdNum_long hk]
theorem rdInt_eq {r : RdV} (h : r.why = 0) : rdInt r = (r.num.2.1, ⟨r.bytes, r.pos + r.num.2.2, r.num.1⟩) := by
  unfold rdInt
  rw [if_neg (by simp [h])]
  split
  · rename_i h0; rw [h0]
  · rename_i h0
    have := rdNum_fail (l := r.bytes.drop r.pos) h0
    rw [show r.num.2 = (0, 0) from this]; rfl
end Go.Lift
namespace Go.Proofs.YtpmakiecgphijaaGreatDoor
open Go.Lift
set_option linter.unusedVariables false
set_option maxRecDepth 20000

theorem ref01_size {n : Int} {w : World} (hn : I64 n) : Calls Tryz.prog F_ref01_size #[.int .i64 n] w (Ok fun v w' => v = .int .u64 (n.natAbs : Int) ∧ w = w') := by
  unfold I64 at hn
  refine L_ref01_size (PIf.dec (fun h => ?_) (fun h => ?_))
  · refine Ok.mk ⟨?_, rfl⟩
    rw [wrap_u64, wrap_u64]
    have e : (0 - n % 18446744073709551616) % 18446744073709551616 = (n.natAbs : Int) := by omega
    rw [e]
  · refine Ok.mk ⟨?_, rfl⟩
    rw [wrap_u64]
    have e : n % 18446744073709551616 = (n.natAbs : Int) := by omega
    rw [e]

theorem ref01_Int {a : Option Addr} {n c : Nat} {bs : List UInt8} {m : Int} {w : World} {D : Nat → Prop} (hm : I64 m) (hb : Row cU8 1 w D a n bs) (hbig : n + 9 ≤ Big) (hD : ∀ b, D b → b < w.heap.size) :
    Calls Tryz.prog F_ref01_Int #[.slice a n c, .int .i64 m] w (Ok (New cU8 5 w (bs ++ encInt m))) := by
  have hl := hb.len
  have hm' := hm
  unfold I64 at hm'
  have hbig' := hbig
  unfold Big at hbig'
  have hu : m.natAbs < 2 ^ 64 := by omega
  have hk8 := lowB_le8 hu
  refine L_ref01_Int (PC.ok (ref01_size hm) ?_)
  rintro _ _ ⟨rfl, rfl⟩
  refine ⟨_, rfl, fun q la ln lc u w' => ∃ (U : Nat) (d : List UInt8) (F : Nat → Prop), u = U ∧ q = U ∧ U < 2 ^ 64 ∧ lowB m.natAbs = d ++ lowB U ∧ Lst cU8 5 F w' la ln lc d ∧ Grew w w' ∧ ∀ b, F b → w.heap.size ≤ b,
    ⟨_, m.natAbs, [], fun _ => False, rfl, rfl, hu, by simp, Lst.nil w, Keep.refl w, fun _ h => h.elim⟩, ?_⟩
  rintro U la ln lc u _ w1 ⟨_, d, F, rfl, rfl, hU, hd, ho, k1, hF⟩
  have hln := ho.len (by decide)
  have hdl : d.length + (lowB U).length = (lowB m.natAbs).length := by rw [hd, List.length_append]
  refine PIf.dec (fun hpos => ?_) (fun hz => ?_)
  · have hU0 : U ≠ 0 := by omega
    have hlow := lowB_pos hU0
    have hll : (lowB U).length = (lowB (U / 256)).length + 1 := by rw [hlow]; rfl
    have ex : IntKind.wrap .u8 (Int.tmod (U : Int) 256) = (((UInt8.ofNat (U % 256)).toNat : Nat) : Int) := by
      have h1 : Int.tmod (U : Int) 256 = ((U % 256 : Nat) : Int) := by rw [Int.tmod_eq_emod_of_nonneg (by omega)]; omega
      rw [h1, wrap_u8, UInt8.toNat_ofNat']
    have ed : IntKind.wrap .u64 (Int.tdiv (U : Int) 256) = ((U / 256 : Nat) : Int) := by
      have h1 : Int.tdiv (U : Int) 256 = ((U / 256 : Nat) : Int) := by rw [Int.tdiv_eq_ediv_of_nonneg (by omega)]; omega
      rw [h1, wrap_u64n (by omega)]
    rw [ed]
    refine papp ho slU8 (x := UInt8.ofNat (U % 256)) (D := fun _ => False) ⟨by rw [ex], trivial⟩ (fun _ h => h.elim) (by unfold Big; omega) (by unfold maxLen; omega) fun a2 c2 w2 F2 ho2 hk2 hF2 _ => ?_
    refine ⟨_, _, _, rfl, U / 256, by omega, U / 256, d ++ [UInt8.ofNat (U % 256)], F2, rfl, rfl, by omega, ?_, ho2, k1.new hk2 fun b hb => .inr (hF b (ho.self b hb)), fun b hb => ?_⟩
    · rw [hd, hlow]; simp
    · rcases hF2 b hb with h | h | h
      · exact hF b h
      · exact h.elim
      · have := k1.size; omega
  · obtain rfl : U = 0 := by omega
    rw [lowB_zero, List.append_nil] at hd
    subst hd
    have hlk : ln = (lowB m.natAbs).length := hln
    refine ⟨fun hd w' => hd = (((lowB m.natAbs).length + if m < 0 then 16 else 0 : Nat) : Int) ∧ w1 = w', PIf.dec (fun h => ⟨?_, rfl⟩) (fun h => ⟨?_, rfl⟩), ?_⟩
    · rw [if_pos h, wrap_i64 (by unfold I64; omega)]; omega
    · rw [if_neg h]; omega
    · rintro hd _ _ ⟨rfl, rfl⟩
      refine appRow0 (Lst.nil w1) slU8 (hb.grew k1) (fun b h => ⟨by have := hD b h; have := k1.size; omega, by simp [blk]⟩) (by unfold Big; simp; omega) (by unfold maxLen; simp; omega) fun a2 c2 w2 F2 ho2 hk2 _ hs2 => ?_
      have k2 : Grew w1 w2 := hk2.mono fun b _ hb => by simp [blk] at hb
      replace ho2 := ho2.alone
      rw [List.nil_append, Nat.zero_add] at ho2
      have hself : ∀ b, blk a2 = some b → w1.heap.size ≤ b := fun b hb => (hs2 b hb).elim (fun h => h.elim) id
      rw [Nat.zero_add]
      have ehd : IntKind.wrap .u8 (((lowB m.natAbs).length + if m < 0 then 16 else 0 : Nat) : Int) = (((UInt8.ofNat ((lowB m.natAbs).length + if m < 0 then 16 else 0)).toNat : Nat) : Int) := by
        rw [wrap_u8, UInt8.toNat_ofNat']
      refine ⟨_, _, _, rfl, papp ho2 slU8 (x := UInt8.ofNat ((lowB m.natAbs).length + if m < 0 then 16 else 0)) (D := fun _ => False) ⟨by rw [ehd], trivial⟩ (fun _ h => h.elim) (by unfold Big; omega) (by unfold maxLen; omega) fun a3 c3 w3 F3 ho3 hk3 hF3 hs3 => ?_⟩
      have k13 : Grew w1 w3 := k2.new hk3 fun b hb => .inr (hself b hb)
      have k3 : Grew w w3 := k1.then k13
      have henc : bs ++ encInt m = (bs ++ [UInt8.ofNat ((lowB m.natAbs).length + if m < 0 then 16 else 0)]) ++ (lowB m.natAbs).reverse := by rw [List.append_assoc]; rfl
      rw [henc]
      have hlen3 : (bs ++ [UInt8.ofNat ((lowB m.natAbs).length + if m < 0 then 16 else 0)]).length = n + 1 := by simp [hl]
      generalize bs ++ [UInt8.ofNat ((lowB m.natAbs).length + if m < 0 then 16 else 0)] = hdl at ho3 hlen3
      generalize lowB m.natAbs = lw at hk8 ho hlk ⊢
      refine ⟨_, _, _, rfl, fun q oa on oc i w' => ∃ j : Nat, j ≤ ln ∧ i = (ln : Int) - 1 - j ∧ q = ln - j ∧ ∃ F, Lst cU8 5 F w' oa on oc (hdl ++ lw.reverse.take j) ∧ Grew w1 w' ∧ ∀ b, F b → w1.heap.size ≤ b,
        ⟨_, 0, Nat.zero_le _, by rw [wrap_i64 (by unfold I64; omega)]; omega, rfl, F3, by rw [List.take_zero, List.append_nil]; exact ho3, k13, fun b hb => ?_⟩, ?_⟩
      · rcases hF3 b hb with h | h | h
        · exact hself b h
        · exact h.elim
        · have := k2.size; omega
      · rintro q oa on oc i _ w4 ⟨j, hj, rfl, rfl, F4, ho4, k4, hF4⟩
        have htk : (lw.reverse.take j).length = j := by simp; omega
        refine PIf.dec (fun hge => ?_) (fun hlt => ?_)
        · have ei : Int.toNat ((ln : Int) - 1 - j) = ln - 1 - j := by omega
          obtain ⟨b, off, x, rfl, hx, -, hc⟩ := ((ho.grew k4).row (bytes := 1) (by decide) (by unfold Big; omega)).at1 (i := ln - 1 - j) (by omega)
          have hxr : lw.reverse[j]? = some x := by
            rw [List.getElem?_reverse (by omega), ← hlk]; exact hx
          rw [ei]
          refine ⟨b, off, rfl, by omega, by omega, _, hc, papp ho4 slU8 (x := x) (D := fun _ => False) ⟨rfl, trivial⟩ (fun _ h => h.elim) (by rw [List.length_append, htk]; unfold Big; omega) (by rw [List.length_append, htk]; unfold maxLen; omega) fun a5 c5 w5 F5 ho5 hk5 hF5 _ => ?_⟩
          refine ⟨_, _, _, rfl, _, ?_, j + 1, by omega, ?_, rfl, F5, ?_, k4.new hk5 fun b hb => .inr (hF4 b (ho4.self b hb)), fun b hb => ?_⟩
          · omega
          · rw [wrap_i64 (by unfold I64; omega)]; omega
          · rw [List.take_add_one, hxr, ← List.append_assoc]; exact ho5
          · rcases hF5 b hb with h | h | h
            · exact hF4 b h
            · exact h.elim
            · have := k4.size; omega
        · obtain rfl : j = ln := by omega
          rw [List.take_of_length_le (by simp; omega)] at ho4
          exact Ok.mk ⟨_, _, _, F4, rfl, ho4, k1.then k4, fun b hb => by have := hF4 b hb; have := k1.size; omega⟩

/-- block p is a reader of the document's -/
structure RdR (w : World) (p : Nat) (F : Nat → Prop) (r : RdV) : Prop where
  body : ∃ a n cap G, w.heap[p]? = some (.cells #[.slice a n cap, .int .i64 (r.pos : Int), .int .i64 r.why] 157 (0, 0)) ∧ Lst cU8 5 G w a n cap r.bytes ∧ (∀ b, G b → F b ∧ b ≠ p)
  self : F p
  dom : ∀ b, F b → b < w.heap.size
  fit : r.Fit
  big : r.bytes.length ≤ Big

theorem RdR.keep {S F : Nat → Prop} {w w' : World} {p : Nat} {r : RdV} (h : RdR w p F r) (hk : Keep S w w') (hd : ∀ b, F b → ¬ S b) : RdR w' p F r := by
  obtain ⟨a, n, cap, G, h1, h2, h3⟩ := h.body
  exact ⟨⟨a, n, cap, G, hk.get h1 (hd _ h.self), h2.keep hk (fun b hb => hd b (h3 b hb).1), h3⟩, h.self, fun b hb => Nat.lt_of_lt_of_le (h.dom b hb) hk.size, h.fit, h.big⟩
theorem RdR.grew {F : Nat → Prop} {w w' : World} {p : Nat} {r : RdV} (h : RdR w p F r) (hk : Grew w w') : RdR w' p F r := h.keep hk fun _ _ h => h
theorem RdR.turn {F : Nat → Prop} {w w' : World} {p : Nat} {r r' : RdV} (h : RdR w p F r) {a : Option Addr} {n cap : Nat} {G : Nat → Prop} (hl : Lst cU8 5 G w a n cap r.bytes) (hG : ∀ b, G b → F b ∧ b ≠ p) (hk : Keep (· = p) w w')
    (hg : w'.heap[p]? = some (.cells #[.slice a n cap, .int .i64 (r'.pos : Int), .int .i64 r'.why] 157 (0, 0))) (hb : r'.bytes = r.bytes) (hf : r'.Fit) : RdR w' p F r' :=
  ⟨⟨a, n, cap, G, hg, by rw [hb]; exact hl.keep hk fun b hb => (hG b hb).2, hG⟩, h.self, fun b hb => Nat.lt_of_lt_of_le (h.dom b hb) hk.size, hf, by rw [hb]; exact h.big⟩

theorem ref01_From {a : Option Addr} {n c : Nat} {bs : List UInt8} {w : World} {D : Nat → Prop} (hb : Row cU8 1 w D a n bs) (hD : ∀ b, D b → b < w.heap.size) :
    Calls Tryz.prog F_ref01_From #[.slice a n c] w (Ok fun v w' => ∃ p F, v = .pointer (some ⟨p, 0, none⟩) ∧ RdR w' p F ⟨bs, 0, 0⟩ ∧ Grew w w' ∧ ∀ b, F b → w.heap.size ≤ b) := by
  have hl := hb.len
  have hbig := hb.big
  refine L_ref01_From (appRow0 (Lst.nil w) slU8 hb (fun b h => ⟨hD b h, by simp [blk]⟩) (by simp; omega) (by unfold Big at hbig; unfold maxLen; simp; omega) fun a1 c1 w1 F1 ho1 hk1 _ hs1 => ?_)
  refine ⟨_, _, _, rfl, PA.mk fun w2 k2 s2 g2 => ?_⟩
  have hk : Grew w w1 := hk1.mono fun b _ hb => by simp [blk] at hb
  have ho := ho1.alone
  rw [List.nil_append] at ho
  have hself : ∀ b, blk a1 = some b → w.heap.size ≤ b := fun b hb => (hs1 b hb).elim (fun h => h.elim) id
  refine Ok.mk ⟨w1.heap.size, fun b => b = w1.heap.size ∨ blk a1 = some b, rfl, ⟨⟨a1, _, c1, fun b => blk a1 = some b, g2, ho.grew k2, fun b hb => ⟨.inr hb, ?_⟩⟩, .inl rfl, ?_, ⟨Nat.zero_le _, .inl rfl⟩, by rw [← hl]; omega⟩, hk.then k2, ?_⟩
  · have := ho.dom b hb; omega
  · rintro b (rfl | hb)
    · omega
    · have := ho.dom b hb; have := k2.size; omega
  · rintro b (rfl | hb)
    · exact hk.size
    · exact hself b hb

theorem ref01_number {w : World} {p : Nat} {F : Nat → Prop} {r : RdV} (h : RdR w p F r) :
    Calls Tryz.prog F_ref01_Reader_number #[.pointer (some ⟨p, 0, none⟩), .int .i64 (r.pos : Int)] w (Ok fun v w' => v = .tuple #[.int .i64 r.num.2.1, .int .i64 (r.num.2.2 : Int), .int .i64 r.num.1] ∧ w = w') := by
  obtain ⟨a, n, cap, G, h1, h2, h3⟩ := h.body
  have hn := h2.len (by decide)
  have hbig := h.big
  have hpos := h.fit.pos
  unfold Big at hbig
  have hrow : Row cU8 1 w G a n r.bytes := h2.row (by decide) (by unfold Big; omega)
  refine L_ref01_Reader_number ⟨p, 0, rfl, _, _, _, cell_at h1 rfl, PIf.dec (fun hge => ?_) (fun hlt => ?_)⟩
  · have e : r.num = (4, 0, 0) := by unfold RdV.num; rw [List.drop_of_length_le (by omega)]; rfl
    rw [e]; exact Ok.mk ⟨rfl, rfl⟩
  obtain ⟨b, off, hd, rfl, hx, -, hc⟩ := hrow.at1 (i := r.pos) (by omega)
  have hdrop : r.bytes.drop r.pos = hd :: r.bytes.drop (r.pos + 1) := by
    have hl : r.pos < r.bytes.length := by omega
    rw [List.drop_eq_getElem_cons hl]; rw [List.getElem?_eq_getElem hl] at hx; cases hx; rfl
  have htl : (r.bytes.drop (r.pos + 1)).length = n - r.pos - 1 := by simp; omega
  generalize ht : r.bytes.drop (r.pos + 1) = t at hdrop htl
  have hget : ∀ j, j < t.length → ∃ x, t[j]? = some x ∧ w.cell? ⟨b, off + (r.pos + 1 + j), none⟩ = some (.int .u8 (x.toNat : Int)) := fun j hj => by
    obtain ⟨b', off', x, hab, hx', -, hc'⟩ := hrow.at1 (i := r.pos + 1 + j) (by omega)
    cases hab
    exact ⟨x, by rw [← ht, List.getElem?_drop]; exact hx', hc'⟩
  have hnum : r.num = rdNum (hd :: t) := by unfold RdV.num; rw [hdrop]
  rw [hnum]
  have hdlt := hd.toNat_lt
  have e1 : IntKind.wrap .i64 ((r.pos : Int) + 1) = ((r.pos + 1 : Nat) : Int) := wrap_succ (by omega)
  refine ⟨p, 0, rfl, _, _, _, cell_at h1 rfl, b, off, rfl, by omega, by omega, _, by rw [Int.toNat_natCast]; exact hc, ?_⟩
  rw [wrap_i64u8]
  refine ⟨fun x w' => x = (kOf hd : Int) ∧ w = w', PIf.dec (fun h16 => ⟨?_, rfl⟩) (fun h16 => ⟨?_, rfl⟩), ?_⟩
  · unfold kOf; rw [if_pos (by omega), wrap_i64 (by unfold I64; omega)]; omega
  · unfold kOf; rw [if_neg (by omega)]
  rintro x _ _ ⟨rfl, rfl⟩
  refine ⟨fun w' => w = w' ∧ kOf hd ≤ 8, PIf.dec (fun h8 => ?_) (fun h8 => PIf.dec (fun h16 => PIf.eqI (fun h0 => ?_) (fun _ => ⟨rfl, by omega⟩)) (fun _ => ⟨rfl, by omega⟩)), ?_⟩
  · rw [rdNum_long (by omega)]; exact Ok.mk ⟨rfl, rfl⟩
  · unfold kOf at h0; rw [if_pos (by omega)] at h0; omega
  rintro _ _ ⟨rfl, hk8⟩
  refine ⟨p, 0, rfl, _, _, _, cell_at h1 rfl, ?_⟩
  rw [wrap_i64 (x := ((n : Nat) : Int) - (r.pos : Int)) (by unfold I64; omega), wrap_i64 (x := ((n : Nat) : Int) - (r.pos : Int) - 1) (by unfold I64; omega)]
  refine PIf.dec (fun hs => ?_) (fun hs => ?_)
  · rw [rdNum_short hk8 (by omega)]; exact Ok.mk ⟨rfl, rfl⟩
  have hsl : ¬ t.length < kOf hd := by omega
  refine ⟨fun m u i w' => w = w' ∧ ∃ j : Nat, i = j ∧ j ≤ kOf hd ∧ m = kOf hd - j ∧ u = (valB (t.take j) : Int), ⟨_, rfl, 0, rfl, Nat.zero_le _, rfl, rfl⟩, ?_⟩
  rintro m u i _ _ ⟨rfl, j, rfl, hj, rfl, rfl⟩
  refine PIf.dec (fun hlt2 => ?_) (fun hge2 => ?_)
  · obtain ⟨x, hx2, hc2⟩ := hget j (by omega)
    have hv := valB_take_lt t (j := j) (m := 7) (by omega)
    have hxl := x.toNat_lt
    have e256 : (256 : Nat) ^ 7 = 72057594037927936 := by decide
    have e2 : IntKind.wrap .i64 (((r.pos + 1 : Nat) : Int) + (j : Int)) = ((r.pos + 1 + j : Nat) : Int) := by rw [wrap_i64 (by unfold I64; omega)]; omega
    rw [e1, e2, Int.toNat_natCast]
    refine ⟨p, 0, rfl, _, _, _, cell_at h1 rfl, b, off, rfl, by omega, by omega, _, hc2, _, ?_, rfl, j + 1, wrap_succ (by omega), by omega, rfl, ?_⟩
    · omega
    · rw [valB_take hx2, wrap_u64n (n := x.toNat) (by omega), show (((valB (t.take j) : Nat) : Int) * 256) = ((valB (t.take j) * 256 : Nat) : Int) by omega, wrap_u64n (by omega), show ((valB (t.take j) * 256 : Nat) : Int) + (x.toNat : Int) = ((valB (t.take j) * 256 + x.toNat : Nat) : Int) by omega, wrap_u64n (by omega)]
  · obtain rfl : j = kOf hd := by omega
    have hv := valB_take_lt t (j := kOf hd) (m := 8) (by omega)
    have e256 : (256 : Nat) ^ 8 = 18446744073709551616 := by decide
    have stop : ((0 < kOf hd ∧ t.head? = some 0) ∨ (¬ 16 < hd.toNat ∧ 2 ^ 63 ≤ valB (t.take (kOf hd))) ∨ (16 < hd.toNat ∧ 2 ^ 63 < valB (t.take (kOf hd)))) → Ok (fun v w' => v = .tuple #[.int .i64 (rdNum (hd :: t)).2.1, .int .i64 ((rdNum (hd :: t)).2.2 : Int), .int .i64 (rdNum (hd :: t)).1] ∧ w = w') (.returned (.tuple #[.int .i64 0, .int .i64 0, .int .i64 5])) w := fun hb => by
      rw [rdNum_bad hk8 hsl hb]; exact Ok.mk ⟨rfl, rfl⟩
    refine ⟨fun w' => w = w' ∧ ¬ ((0 < kOf hd ∧ t.head? = some 0) ∨ (¬ 16 < hd.toNat ∧ 2 ^ 63 ≤ valB (t.take (kOf hd))) ∨ (16 < hd.toNat ∧ 2 ^ 63 < valB (t.take (kOf hd)))), PIf.dec (fun hk0 => ?_) (fun hk0 => ?_), ?_⟩
    · obtain ⟨x, hx2, hc2⟩ := hget 0 (by omega)
      rw [e1, Int.toNat_natCast]
      have hh : t.head? = some x := by rw [List.head?_eq_getElem?]; exact hx2
      refine ⟨p, 0, rfl, _, _, _, cell_at h1 rfl, b, off, rfl, by omega, by omega, _, hc2, PIf.eqI (fun h0 => stop (.inl ⟨by omega, ?_⟩)) (fun h0 => ?_)⟩
      · rw [hh]; congr 1; exact UInt8.toNat_inj.1 (by show _ = 0; omega)
      · have hno : ¬ (0 < kOf hd ∧ t.head? = some 0) := fun hc => by
          rw [hh] at hc
          have := Option.some.inj hc.2
          rw [this] at h0
          exact h0 rfl
        exact PIf.not (PIf.dec (fun hb => PIf.dec (fun _ => PIf.dec (fun hu => stop (.inr (.inr ⟨by omega, by omega⟩))) (fun hu => ⟨rfl, fun hc => hc.elim hno fun hc => hc.elim (fun hc => by omega) (fun hc => by omega)⟩)) (fun hb' => absurd hb hb')) (fun hb => PIf.dec (fun hu => stop (.inr (.inl ⟨by omega, by omega⟩))) (fun hu => PIf.dec (fun hb' => absurd hb' hb) (fun _ => ⟨rfl, fun hc => hc.elim hno fun hc => hc.elim (fun hc => by omega) (fun hc => by omega)⟩))))
    · have hno : ¬ (0 < kOf hd ∧ t.head? = some 0) := fun hc => by omega
      exact PIf.not (PIf.dec (fun hb => PIf.dec (fun _ => PIf.dec (fun hu => stop (.inr (.inr ⟨by omega, by omega⟩))) (fun hu => ⟨rfl, fun hc => hc.elim hno fun hc => hc.elim (fun hc => by omega) (fun hc => by omega)⟩)) (fun hb' => absurd hb hb')) (fun hb => PIf.dec (fun hu => stop (.inr (.inl ⟨by omega, by omega⟩))) (fun hu => PIf.dec (fun hb' => absurd hb' hb) (fun _ => ⟨rfl, fun hc => hc.elim hno fun hc => hc.elim (fun hc => by omega) (fun hc => by omega)⟩))))
    · rintro _ _ ⟨rfl, hgood⟩
      rw [rdNum_good hk8 hsl hgood]
      have ek : IntKind.wrap .i64 ((kOf hd : Int) + 1) = ((kOf hd + 1 : Nat) : Int) := wrap_succ (by omega)
      rw [ek]
      refine PIf.dec (fun hb => Ok.mk ⟨?_, rfl⟩) (fun hb => Ok.mk ⟨?_, rfl⟩)
      · rw [if_pos (by omega)]
        have hle : valB (t.take (kOf hd)) ≤ 2 ^ 63 := Nat.le_of_not_lt fun h => hgood (.inr (.inr ⟨by omega, h⟩))
        generalize valB (t.take (kOf hd)) = u at hle
        have e : IntKind.wrap .i64 (IntKind.wrap .u64 (0 - (u : Int))) = -(u : Int) := by
          rw [wrap_u64]; unfold IntKind.wrap; simp [IntKind.signed, IntKind.bits]; omega
        rw [e]
      · rw [if_neg (by omega)]
        have hlt3 : valB (t.take (kOf hd)) < 2 ^ 63 := Nat.lt_of_not_le fun h => hgood (.inr (.inl ⟨by omega, h⟩))
        rw [wrap_i64 (by unfold I64; omega)]

theorem ref01_rdInt {w : World} {p : Nat} {F : Nat → Prop} {r : RdV} (h : RdR w p F r) :
    Calls Tryz.prog F_ref01_Reader_Int #[.pointer (some ⟨p, 0, none⟩)] w (Ok fun v w' => v = .int .i64 (rdInt r).1 ∧ RdR w' p F (rdInt r).2 ∧ Keep (· = p) w w') := by
  obtain ⟨a, n, cap, G, h1, h2, h3⟩ := h.body
  refine L_ref01_Reader_Int ⟨p, 0, rfl, _, cell_at h1 rfl, PIf.neI (fun hne => ?_) (fun h0 => ?_)⟩
  · rw [show rdInt r = (0, r) by unfold rdInt; exact if_pos hne]
    exact Ok.mk ⟨rfl, h, Keep.refl _⟩
  have hf := h.fit.int
  rw [rdInt_eq h0] at hf ⊢
  have hpos := hf.1.pos
  have hbig := h.big
  unfold Big at hbig
  simp only at hpos
  refine ⟨p, 0, rfl, _, cell_at h1 rfl, PC.ok (ref01_number h) ?_⟩
  rintro _ _ ⟨rfl, rfl⟩
  have ew : IntKind.wrap .i64 ((r.pos : Int) + (r.num.2.2 : Int)) = ((r.pos + r.num.2.2 : Nat) : Int) := by rw [wrap_i64 (by unfold I64; omega)]; omega
  refine ⟨_, _, _, rfl, p, 0, rfl, _, cell_at h1 rfl, p, 0, rfl, PS.mk h1 (by simp) fun w1 k1 s1 g1 => ⟨p, 0, rfl, PS.mk g1 (by simp) fun w2 k2 s2 g2 => Ok.mk ⟨rfl, ?_, k1.then k2⟩⟩⟩
  exact h.turn h2 h3 (k1.then k2) (by rw [g2, ew]; rfl) rfl hf.1

theorem ref01_rdCount {w : World} {p : Nat} {F : Nat → Prop} {r : RdV} {m : Int} (h : RdR w p F r) (hm : 0 ≤ m) :
    Calls Tryz.prog F_ref01_Reader_Count #[.pointer (some ⟨p, 0, none⟩), .int .i64 m] w (Ok fun v w' => v = .int .i64 (rdCount m r).1 ∧ RdR w' p F (rdCount m r).2 ∧ Keep (· = p) w w') := by
  obtain ⟨a, n, cap, G, h1, h2, h3⟩ := h.body
  refine L_ref01_Reader_Count ⟨p, 0, rfl, _, cell_at h1 rfl, PIf.neI (fun hne => ?_) (fun h0 => ?_)⟩
  · rw [show rdCount m r = (0, r) by unfold rdCount; exact if_pos hne]
    exact Ok.mk ⟨rfl, h, Keep.refl _⟩
  have hf := (h.fit.count hm).1
  have hbig := h.big
  have hpos0 := h.fit.pos
  unfold Big at hbig
  have hcd : Calls Tryz.prog F_ref01_Reader_counted #[.pointer (some ⟨p, 0, none⟩), .int .i64 m] w (Ok fun v w' => ∃ k : Nat, v = .tuple #[.int .i64 (rdCount m r).1, .int .i64 (k : Int), .int .i64 (rdCount m r).2.why] ∧ r.pos + k = (rdCount m r).2.pos ∧ (rdCount m r).2.bytes = r.bytes ∧ w = w') := by
    have hc : rdCount m r = if r.num.1 = 0 then (if r.num.2.1 < 0 ∨ m < r.num.2.1 then (0, ⟨r.bytes, r.pos, 3⟩) else (r.num.2.1, ⟨r.bytes, r.pos + r.num.2.2, 0⟩)) else (0, ⟨r.bytes, r.pos, r.num.1⟩) := by unfold rdCount; exact if_neg fun h => h h0
    rw [hc]
    refine L_ref01_Reader_counted ⟨p, 0, rfl, _, cell_at h1 rfl, PC.ok (ref01_number h) ?_⟩
    rintro _ _ ⟨rfl, rfl⟩
    refine ⟨_, _, _, rfl, PIf.eqI (fun he => ?_) (fun he => ?_)⟩
    · rw [if_pos he]
      refine PIf.dec (fun hl => ?_) (fun hl => PIf.dec (fun hg => ?_) (fun hg => ?_))
      · rw [if_pos (.inl hl)]; exact Ok.mk ⟨0, rfl, rfl, rfl, rfl⟩
      · rw [if_pos (.inr hg)]; exact Ok.mk ⟨0, rfl, rfl, rfl, rfl⟩
      · rw [if_neg (by omega), he]; exact Ok.mk ⟨r.num.2.2, rfl, rfl, rfl, rfl⟩
    · rw [if_neg he]
      have := rdNum_fail (l := r.bytes.drop r.pos) he
      rw [show r.num.2 = (0, 0) from this]
      exact Ok.mk ⟨0, rfl, rfl, rfl, rfl⟩
  refine PC.ok hcd ?_
  rintro _ _ ⟨k, rfl, hk, hby, rfl⟩
  have hpos := hf.pos
  rw [hby] at hpos
  have ew : IntKind.wrap .i64 ((r.pos : Int) + (k : Int)) = ((rdCount m r).2.pos : Int) := by rw [wrap_i64 (by unfold I64; omega)]; omega
  refine ⟨_, _, _, rfl, p, 0, rfl, _, cell_at h1 rfl, p, 0, rfl, PS.mk h1 (by simp) fun w1 k1 s1 g1 => ⟨p, 0, rfl, PS.mk g1 (by simp) fun w2 k2 s2 g2 => Ok.mk ⟨rfl, ?_, k1.then k2⟩⟩⟩
  exact h.turn h2 h3 (k1.then k2) (by rw [g2, ew]; rfl) hby hf

theorem ref01_rdDone {w : World} {p : Nat} {F : Nat → Prop} {r : RdV} (h : RdR w p F r) :
    Calls Tryz.prog F_ref01_Reader_Done #[.pointer (some ⟨p, 0, none⟩)] w (Ok fun v w' => v = .int .i64 (rdDone r) ∧ Drew w w') := by
  obtain ⟨a, n, cap, G, h1, h2, h3⟩ := h.body
  have hn := h2.len (by decide)
  refine L_ref01_Reader_Done ⟨p, 0, rfl, _, cell_at h1 rfl, PIf.eqI (fun h0 => ?_) (fun h0 => ?_)⟩
  · refine ⟨p, 0, rfl, _, cell_at h1 rfl, p, 0, rfl, _, _, _, cell_at h1 rfl, fun w2 d2 => ?_⟩
    have g2 := (d2.keep (S := fun _ => False)).get h1 id
    refine PIf.dec (fun hlt => Ok.mk ⟨?_, d2⟩) (fun hge => ⟨p, 0, rfl, _, cell_at g2 rfl, Ok.mk ⟨?_, d2⟩⟩)
    · unfold rdDone; rw [if_pos ⟨h0, by omega⟩]
    · unfold rdDone; rw [if_neg (by omega)]
  · intro w2 d2
    have g2 := (d2.keep (S := fun _ => False)).get h1 id
    refine ⟨p, 0, rfl, _, cell_at g2 rfl, Ok.mk ⟨?_, d2⟩⟩
    unfold rdDone; rw [if_neg fun hc => h0 hc.1]
end Go.Proofs.YtpmakiecgphijaaGreatDoor
