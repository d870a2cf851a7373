/- pack: numbers that are laid; a reader of numbers -/
import Derived.Test.YtpbpjojdfcdbbaaGreatDoorWire
import Derived.Test.YtpbpjojdfcdbbaaGreatDoorBytes8
import Derived.Test.YtpbpjojdfcdbbaaGreatDoorShelf
import Derived.Shelf.Strconv.Itoa3
import Derived.Laws.CopyRow
import Derived.Laws.IdiomCopy
namespace Go.Lift
open Go
set_option linter.unusedVariables false
theorem wrap_u64 (x : Int) : IntKind.wrap .u64 x = x % 18446744073709551616 := by
  unfold IntKind.wrap; simp [IntKind.signed, IntKind.bits]
theorem wrap_u64n {n : Nat} (h : n < 18446744073709551616) : IntKind.wrap .u64 (n : Int) = n := by rw [wrap_u64]; omega

/-- bytes laid over bytes -/
theorem copy_bytes {P : Program} {t e ty : TypeId} (hT : SlT P t e 1 1) {w : World} {g n cap : Nat} {xs ys : List UInt8} {F D : Nat → Prop} {a2 : Option Addr} {c2 : Nat} {κ ε : Value → World → Prop}
    (h : Lst cU8 e F w (some ⟨g, 0, none⟩) n cap xs) (hx : Row cU8 1 w D a2 n ys) (hκ : ∀ w', Lst cU8 e (· = g) w' (some ⟨g, 0, none⟩) n cap ys → Keep (· = g) w w' → w'.heap.size = w.heap.size → κ (.int .i64 n) w') :
    PRun P (Builtin.copy_ #[t, t] ty #[.slice (some ⟨g, 0, none⟩) n cap, .slice a2 n c2]) w κ ε := by
  obtain ⟨i, z, hi, hz, hs, hby, hzs⟩ := hT.info
  have hs1 : (P.info? e).map (·.size) = some 1 := by rw [hi]; simp [hs]
  have hl := hx.len
  have hlx := h.len (by decide)
  obtain ⟨cs0, D0, ho, hr0, hD0⟩ := h.body
  rcases ho.cases with ⟨ha, _⟩ | ⟨g', cur, ha, hg, hnc, hcs, htk⟩
  · cases ha
  cases ha
  by_cases hn : n = 0
  · subst hn
    have : ys = [] := List.eq_nil_of_length_eq_zero hl.symm
    subst this
    have : xs = [] := List.eq_nil_of_length_eq_zero hlx.symm
    subst this
    have hr := run_copy_none (P := P) w t t ty e (some ⟨g, 0, none⟩) a2 0 cap 0 c2 hT.under hs1 (by rfl)
    refine PRun.mk (v := .int .i64 0) hr (hκ w ?_ (Keep.refl _) rfl)
    have := h.alone
    exact ⟨by obtain ⟨cs, D, a, b, c⟩ := this.body; exact ⟨cs, fun _ => False, a, by rw [show cs = [] from b]; rfl, fun _ h => h.elim⟩, fun b hb => by simpa [blk] using hb.symm, fun b hb => by rw [hb]; exact lt_of_get hg⟩
  · obtain ⟨cs, hrep, hcell⟩ := hx.reps
    have hne : ys ≠ [] := by rintro rfl; simp at hl; exact hn hl
    obtain ⟨b, off, hp, _, _, hc⟩ := hcell hne (by decide)
    subst hp
    have hcl : cs.length = n := by have := hrep.length; rw [this, hl]; show _ * 1 = _; omega
    have hcur : cur.size = cap := by rw [hcs]; show cap * 1 = cap; omega
    have hr := run_copy_row (P := P) w t t ty e g 0 n cap ⟨b, off, none⟩ n c2 cur e cs hT.under hs1 hg (by rw [hcl]; simp [Nat.min_self]) (fun j v hj => by rw [Addr.add_lit]; exact hc j v hj) (by omega) (hrep.one')
    rw [hcl] at hr
    have hnew := setRow_heap w g cur (cur.toList.take 0 ++ cs ++ cur.toList.drop (0 + n)).toArray e (0, 0) hg
    refine PRun.mk hr (hκ _ ⟨⟨cs, fun _ => False, ⟨⟨by rw [hcl]; show n = n * 1; omega, .inr ⟨g, cap, _, rfl, Nat.zero_le _, hnew, hnc, ?_, ?_, ?_⟩⟩⟩, hrep.free, fun _ h => h.elim⟩, fun b hb => by simpa [blk] using hb.symm, fun b hb => by subst hb; exact lt_of_get hnew⟩ ⟨rfl, rfl, rfl, by simp [World.setRow], fun k hk hne => setRow_other w g k _ hne⟩ (by simp [World.setRow]))
    · rcases ho.row.2 with ⟨he, _⟩ | ⟨g', cap', cur', he, _, _, _, hm, _⟩
      · cases he
      · cases he; exact hm
    · show _ = cap * 1
      simp; omega
    · simp only [List.take_zero, List.nil_append, Nat.zero_add]
      show (cs ++ cur.toList.drop n).take (n * 1) = cs
      rw [Nat.mul_one, ← hcl, List.take_left]
end Go.Lift
namespace Go.Proofs.YtpbpjojdfcdbbaaGreatDoor
open Go.Lift
set_option linter.unusedVariables false
set_option maxRecDepth 20000

theorem pack_size {n : Int} {w : World} (hn : I64 n) : Calls Tryz.prog F_pack_size #[.int .i64 n] w (Ok fun v w' => v = .tuple #[.int .u64 (n.natAbs : Int), .int .u8 (if n < 0 then 16 else 0)] ∧ w = w') := by
  unfold I64 at hn
  refine L_pack_size (PIf.dec (fun h => ?_) (fun h => ?_))
  · refine Ok.mk ⟨?_, rfl⟩
    rw [if_pos h, wrap_u64, wrap_u64]
    have e : (0 - n % 18446744073709551616) % 18446744073709551616 = (n.natAbs : Int) := by omega
    rw [e]
  · refine Ok.mk ⟨?_, rfl⟩
    rw [if_neg h, wrap_u64]
    have e : n % 18446744073709551616 = (n.natAbs : Int) := by omega
    rw [e]

theorem bits_Len64 {u : Nat} {w : World} (hu : u < 18446744073709551616) : Calls Tryz.prog 165 #[.int .u64 (u : Int)] w (Ok fun v w' => v = .int .i64 (Lib.bitLen u : Int) ∧ w = w') := by
  refine (Any.bits_Len64 Tryz.lays129 (u : Int) w (by omega) (by omega)).mono ?_
  rintro e w' ⟨rfl, rfl⟩
  exact Ok.mk ⟨by rw [Int.toNat_natCast], rfl⟩

theorem headOr {k : Nat} (hk : k ≤ 8) (b : Bool) : iOr .u8 (if b then 16 else 0) (IntKind.wrap .u8 (k : Int)) = ((UInt8.ofNat (k + if b then 16 else 0)).toNat : Int) := by
  have h : (List.range 9).all (fun k => iOr .u8 16 (IntKind.wrap .u8 (k : Int)) == ((UInt8.ofNat (k + 16)).toNat : Int) && iOr .u8 0 (IntKind.wrap .u8 (k : Int)) == ((UInt8.ofNat (k + 0)).toNat : Int)) = true := by decide +kernel
  have := List.all_eq_true.1 h k (List.mem_range.2 (by omega))
  simp only [Bool.and_eq_true, beq_iff_eq] at this
  cases b
  · exact this.2
  · exact this.1

theorem pack_Int {a : Option Addr} {n c : Nat} {bs : List UInt8} {m : Int} {w : World} {D : Nat → Prop} (hm : I64 m) (hb : Row cU8 1 w D a n bs) (hbig : n + 9 ≤ Big) (hD : ∀ b, D b → b < w.heap.size) :
    Calls Tryz.prog F_pack_Int #[.slice a n c, .int .i64 m] w (Ok (New cU8 5 w (bs ++ encInt m))) := by
  have hl := hb.len
  have hm' := hm
  unfold I64 at hm'
  have hbig' := hbig
  unfold Big at hbig'
  have hu : m.natAbs < 2 ^ 64 := by omega
  have hk8 := lowB_le8 hu
  have hkl := lowB_length _ hu
  refine L_pack_Int (PC.ok (pack_size hm) ?_)
  rintro _ _ ⟨rfl, rfl⟩
  refine ⟨_, _, rfl, PC.ok (bits_Len64 (by omega)) ?_⟩
  rintro _ _ ⟨rfl, rfl⟩
  have hdiv : IntKind.wrap .i64 (Int.tdiv (IntKind.wrap .i64 ((Lib.bitLen m.natAbs : Int) + 7)) 8) = ((lowB m.natAbs).length : Int) := by
    rw [wrap_i64 (x := (Lib.bitLen m.natAbs : Int) + 7) (by unfold I64; omega), Int.tdiv_eq_ediv_of_nonneg (by omega), wrap_i64 (by unfold I64; omega), hkl]
    omega
  have hcap : IntKind.wrap .i64 ((IntKind.wrap .i64 (((n : Nat) : Int) + 1)) + ((lowB m.natAbs).length : Int)) = ((n + 1 + (lowB m.natAbs).length : Nat) : Int) := by
    rw [wrap_i64 (x := ((n : Nat) : Int) + 1) (by unfold I64; omega), wrap_i64 (by unfold I64; omega)]
    omega
  refine ⟨_, rfl, ?_⟩
  rw [hdiv, hcap]
  refine makeU8 slU8 (by kernel_rfl) (by omega) (by unfold Big; omega) fun w1 ho1 hk1 hs1 => ?_
  refine ⟨_, _, _, rfl, copy_bytes slU8 ho1 (hb.grew hk1) fun w2 ho2 hk2 hs2 => ⟨_, rfl, ?_⟩⟩
  have hkw2 : Grew w w2 := hk1.new hk2 fun b hb => .inr (by omega)
  rw [show IntKind.wrap .u8 ((lowB m.natAbs).length : Int) = IntKind.wrap .u8 ((lowB m.natAbs).length : Int) from rfl]
  have hhead := headOr hk8 (decide (m < 0))
  simp only [decide_eq_true_eq] at hhead
  rw [hhead]
  refine papp ho2 slU8 (x := UInt8.ofNat ((lowB m.natAbs).length + if m < 0 then 16 else 0)) (D := fun _ => False) ⟨rfl, trivial⟩ (fun _ h => h.elim) (by rw [← hl]; unfold Big; omega) (by rw [← hl]; unfold maxLen; omega) fun a3 c3 w3 F3 ho3 hk3 hF3 hs3 => ?_
  have hkw3 : Grew w w3 := hkw2.new hk3 fun b hb => .inr (by simp only [blk, Option.some.injEq] at hb; omega)
  have hlen3 : n + 1 = (bs ++ [UInt8.ofNat ((lowB m.natAbs).length + if m < 0 then 16 else 0)]).length := by simp [hl]
  generalize hhd : bs ++ [UInt8.ofNat ((lowB m.natAbs).length + if m < 0 then 16 else 0)] = hd at ho3 hlen3
  have henc : bs ++ encInt m = hd ++ (lowB m.natAbs).reverse := by rw [← hhd, List.append_assoc]; rfl
  rw [henc]
  generalize hlw : (lowB m.natAbs).length = k at hk8 ⊢
  refine ⟨_, _, _, rfl, fun q oa on oc i w' => ∃ j : Nat, j ≤ k ∧ i = (k : Int) - 1 - j ∧ q = k - j ∧ on = n + 1 + j ∧ ∃ F, Lst cU8 5 F w' oa on oc (hd ++ (lowB m.natAbs).reverse.take j) ∧ Grew w w' ∧ ∀ b, F b → w.heap.size ≤ b,
    ⟨_, 0, Nat.zero_le _, by rw [wrap_i64 (by unfold I64; omega)]; omega, rfl, rfl, F3, by simpa using ho3, hkw3, fun b hb => ?_⟩, ?_⟩
  · rcases hF3 b hb with h | h | h
    · omega
    · exact h.elim
    · have := hkw2.size; omega
  rintro q oa on oc i _ w4 ⟨j, hj, rfl, rfl, rfl, F, ho, hk, hF⟩
  refine PIf.dec (fun h1 => ?_) (fun h1 => ?_)
  · have hjk : j < k := by omega
    have hsh : IntKind.wrap .i64 (8 * ((k : Int) - 1 - j)) = ((8 * (k - 1 - j) : Nat) : Int) := by rw [wrap_i64 (by unfold I64; omega)]; omega
    rw [hsh]
    have hrun : ∀ x y, (do eqGuard .shr 167 x y (.int .u64 (m.natAbs : Int)) (.int .i64 ((8 * (k - 1 - j) : Nat) : Int)); binOp .shr 167 (.int .u64 (m.natAbs : Int)) (.int .i64 ((8 * (k - 1 - j) : Nat) : Int)) : Sem Value).run Tryz.prog w4 =
        .ok (.int .u64 ((m.natAbs / 256 ^ (k - 1 - j) : Nat) : Int)) w4 := fun x y => by
      have h0 := shift_shr .u64 .i64 (m.natAbs : Int) ((8 * (k - 1 - j) : Nat) : Int) (by omega) (by show _ ≤ ((64 : Nat) : Int); omega)
      have e1 : (m.natAbs : Int) / 2 ^ (Int.toNat ((8 * (k - 1 - j) : Nat) : Int)) = ((m.natAbs / 256 ^ (k - 1 - j) : Nat) : Int) := by
        have e2 : (256 : Nat) ^ (k - 1 - j) = 2 ^ (8 * (k - 1 - j)) := by rw [Nat.pow_mul]
        rw [Int.toNat_natCast, e2]
        simp
      show (Op.shift .shr .u64 (m.natAbs : Int) .i64 ((8 * (k - 1 - j) : Nat) : Int)).run Tryz.prog w4 = _
      rw [h0, e1]
      rfl
    refine PRun.mk (hrun _ _) ⟨_, rfl, ?_⟩
    have hget : (lowB m.natAbs).reverse[j]? = some (UInt8.ofNat (m.natAbs / 256 ^ (k - 1 - j))) := by
      rw [List.getElem?_reverse (by omega), hlw]
      rw [lowB_get _ _ (by omega)]
      congr 1
      refine UInt8.toNat_inj.1 ?_
      rw [UInt8.toNat_ofNat', UInt8.toNat_ofNat']
      omega
    have hbyte : IntKind.wrap .u8 ((m.natAbs / 256 ^ (k - 1 - j) : Nat) : Int) = ((UInt8.ofNat (m.natAbs / 256 ^ (k - 1 - j))).toNat : Int) := by
      rw [UInt8.toNat_ofNat']
      unfold IntKind.wrap; simp [IntKind.signed, IntKind.bits]
    rw [hbyte]
    have hln : (hd ++ (lowB m.natAbs).reverse.take j).length = n + 1 + j := by simp; omega
    refine papp ho slU8 (x := UInt8.ofNat (m.natAbs / 256 ^ (k - 1 - j))) (D := fun _ => False) ⟨rfl, trivial⟩ (fun _ h => h.elim) (by rw [hln]; unfold Big; omega) (by rw [hln]; unfold maxLen; omega) fun a5 c5 w5 F5 ho5 hk5 hF5 hs5 => ?_
    refine ⟨_, _, _, rfl, _, by omega, j + 1, by omega, by rw [wrap_i64 (by unfold I64; omega)]; omega, rfl, by omega, F5, ?_, hk.new hk5 fun b hb => .inr (hF b (ho.self b hb)), fun b hb => ?_⟩
    · rw [List.take_add_one, hget]
      simpa using ho5
    · rcases hF5 b hb with h | h | h
      · exact hF b h
      · exact h.elim
      · exact Nat.le_trans hk.size h
  · obtain rfl : j = k := by omega
    rw [List.take_of_length_le (by simp; omega)] at ho
    exact Ok.mk ⟨_, _, _, F, rfl, ho, hk, hF⟩
end Go.Proofs.YtpbpjojdfcdbbaaGreatDoor
