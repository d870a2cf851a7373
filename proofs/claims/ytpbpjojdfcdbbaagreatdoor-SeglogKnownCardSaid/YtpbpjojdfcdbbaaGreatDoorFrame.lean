/- frame: frames laid and read -/
import Derived.Test.YtpbpjojdfcdbbaaGreatDoorReader
import Derived.Test.YtpbpjojdfcdbbaaGreatDoorDiskOps
import Derived.Test.YtpbpjojdfcdbbaaGreatDoorStore
import Derived.Test.YtpbpjojdfcdbbaaGreatDoorCrc
import Derived.Lib.AppendZeros
namespace Go.Lift
open Go
set_option linter.unusedVariables false
theorem wrap_u32' (x : Int) : IntKind.wrap .u32 x = x % 4294967296 := by
  unfold IntKind.wrap; simp [IntKind.signed, IntKind.bits]
theorem or_digit32 {u d : Nat} (hu : u < 16777216) (hd : d < 256) : iOr .u32 (iShl .u32 (u : Int) 8) (IntKind.wrap .u32 (d : Int)) = ((u * 256 + d : Nat) : Int) := by
  have e1 : iShl .u32 (u : Int) 8 = ((u * 256 : Nat) : Int) := by
    unfold iShl
    have : min (Int.toNat 8) (IntKind.bits .u32) = 8 := by decide
    rw [this, wrap_u32']
    have : ((2 : Int) ^ 8) = 256 := by decide
    rw [this]; omega
  rw [e1, wrap_u32 _ (by omega)]
  unfold iOr
  show IntKind.wrap .u32 ((BitVec.ofInt 32 ((u * 256 : Nat) : Int) ||| BitVec.ofInt 32 (d : Int)).toNat : Int) = _
  have h2 : u * 256 ||| d = u * 256 + d := by
    have := (Nat.shiftLeft_add_eq_or_of_lt (a := u) (i := 8) (b := d) (by omega)).symm
    rwa [Nat.shiftLeft_eq] at this
  rw [BitVec.ofInt_natCast, BitVec.ofInt_natCast, BitVec.toNat_or, BitVec.toNat_ofNat, BitVec.toNat_ofNat, Nat.mod_eq_of_lt (by omega), Nat.mod_eq_of_lt (by omega), h2, wrap_u32 _ (by omega)]
/-- a byte of a number -/
theorem wrapByte (u : Nat) : IntKind.wrap .u8 (u : Int) = ((UInt8.ofNat u).toNat : Int) := by
  rw [wrap_u8, UInt8.toNat_ofNat']
theorem shrN {k : IntKind} {u m : Nat} (hm : m ≤ k.bits) : iShr k (u : Int) (m : Int) = ((u / 2 ^ m : Nat) : Int) := by
  unfold iShr
  rw [Int.toNat_natCast, Nat.min_eq_left hm]
  show Int.fdiv _ ((2 : Int) ^ m) = _
  rw [Int.fdiv_eq_ediv_of_nonneg _ (Int.pow_nonneg (by decide))]
  simp
/-- room for bytes, none of them there yet -/
theorem appZeros8 {P : Program} {t tn ty e : TypeId} (hT : SlT P t e 1 1) (htn : P.underlying tn = some (.int .i64)) {w : World} {n : Nat} (h0 : 0 < n) (hn : n ≤ Big) {κ ε : Value → World → Prop}
    (h : ∀ w' c, Lst cU8 e (· = w.heap.size) w' (some ⟨w.heap.size, 0, none⟩) 0 c [] → n ≤ c → Grew w w' → κ (.slice (some ⟨w.heap.size, 0, none⟩) n c) w') :
    PRun P (Builtin.append_ #[t, tn] ty #[.slice none 0 0, .int .i64 (n : Int)]) w κ ε := by
  obtain ⟨i, z, hi, hz, hs, hby, hzs⟩ := hT.info
  unfold Big at hn
  have hr := Lib.run_append_nil_zeros (P := P) w t tn ty e i z .i64 .i64 hT.under htn hi hz n h0 (by omega) (by omega) (by rw [hby]; omega)
  have hge := grownCap_ge w n 0 e
  refine PRun.mk hr (h _ _ ?_ hge ?_)
  · have hnew := heap_alloc_new w.drew (.cells (Builtin.zeroCells z.cells n ++ Builtin.zeroCells z.cells (grownCap w n 0 e - n)) e)
    refine ⟨⟨[], fun _ => False, ⟨⟨by simp, .inr ⟨w.heap.size, grownCap w n 0 e, _, rfl, Nat.zero_le _, hnew, Nat.zero_le _, grownCap_le_maxLen w n 0 e (by unfold maxLen; omega), ?_, by simp⟩⟩⟩, rfl, fun _ h => h.elim⟩, fun b hb => by simpa [blk] using hb.symm, fun b hb => by rw [hb]; exact lt_of_get hnew⟩
    rw [Array.size_append, size_zeroCells, size_zeroCells, hzs]
    show n * 1 + (grownCap w n 0 e - n) * 1 = grownCap w n 0 e * 1
    omega
  · have k1 : Grew w (w.drewN 1) := Keep.drewN w 1
    exact k1.then (Keep.alloc _ _)
theorem capOf {P : Program} {t e ty : TypeId} (ht : P.underlying t = some (.slice e)) {w : World} {a : Option Addr} {n c : Nat} {κ ε : Value → World → Prop} (h : κ (.int .i64 (c : Int)) w) : PRun P (Builtin.cap_ #[t] ty #[.slice a n c]) w κ ε := by
  refine PRun.mk (v := .int .i64 (c : Int)) ?_ h
  simp [Builtin.cap_, run_underlying ht, goInt]
end Go.Lift
namespace Go.Proofs.YtpbpjojdfcdbbaaGreatDoor
open Go.Lift
set_option linter.unusedVariables false
set_option maxRecDepth 20000

theorem frame_number {w : World} {a : Option Addr} {n c : Nat} {bs : List UInt8} {D : Nat → Prop} (hb : Row cU8 1 w D a n bs) (h4 : n ≤ 4) :
    Calls Tryz.prog F_frame_number #[.slice a n c] w (Ok fun v w' => v = .int .u32 (valB bs : Int) ∧ w = w') := by
  have hl := hb.len
  refine L_frame_number ⟨fun m u i w' => ∃ j : Nat, i = j ∧ j ≤ n ∧ m = n - j ∧ u = (valB (bs.take j) : Int) ∧ w = w', ⟨_, 0, rfl, Nat.zero_le _, rfl, rfl, rfl⟩, ?_⟩
  rintro m u i _ w1 ⟨j, rfl, hj, rfl, rfl, rfl⟩
  refine PIf.dec (fun h1 => ?_) (fun h1 => ?_)
  · obtain ⟨b, off, x, rfl, hx, _, hc⟩ := hb.at1 (i := j) (by omega)
    have hlt := valB_take_lt bs (j := j) (m := 3) (by omega)
    refine ⟨b, off, rfl, by omega, by omega, _, hc, _, by omega, j + 1, wrap_succ (by omega), by omega, rfl, ?_, rfl⟩
    rw [or_digit32 (by have : (256 : Nat) ^ 3 = 16777216 := by decide
                       omega) x.toNat_lt, valB_take hx]
  · rw [List.take_of_length_le (by omega)]
    exact Ok.mk ⟨rfl, rfl⟩

theorem slices_Grow0 {w : World} {m : Nat} (h0 : 0 < m) (hm : m ≤ Big) :
    Calls Tryz.prog 166 #[.slice none 0 0, .int .i64 (m : Int)] w (Ok fun v w' => ∃ g c, v = .slice (some ⟨g, 0, none⟩) 0 c ∧ Lst cU8 5 (· = g) w' (some ⟨g, 0, none⟩) 0 c [] ∧ Grew w w' ∧ w.heap.size ≤ g) := by
  have hm' := hm
  unfold Big at hm'
  refine L_slices_Grow_byte_byte ⟨fun w' => w' = w, PIf.dec (fun h => by omega) (fun _ => rfl), ?_⟩
  rintro _ w1 rfl
  refine capOf slU8.under ⟨_, rfl, ?_⟩
  have e1 : IntKind.wrap .i64 ((m : Int) - IntKind.wrap .i64 (((0 : Nat) : Int) - ((0 : Nat) : Int))) = (m : Int) := by
    rw [wrap_i64 (x := ((0 : Nat) : Int) - ((0 : Nat) : Int)) (by unfold I64; omega), wrap_i64 (by unfold I64; omega)]; omega
  rw [e1]
  refine PIf.dec (fun h => ?_) (fun h => by omega)
  refine capOf slU8.under ⟨_, rfl, by omega, by omega, ?_⟩
  refine appZeros8 slU8 (by kernel_rfl) h0 hm fun w2 c2 ho2 hc2 k2 => ⟨_, _, _, rfl, by omega, by omega, Ok.mk ⟨_, c2, rfl, ho2, k2, Nat.le_refl _⟩⟩

/-- two rows of bytes, one behind the other -/
theorem slices_Concat2 {w : World} {g : Nat} {f : Nat × Nat} {a1 a2 : Option Addr} {n1 n2 c1 c2 : Nat} {xs ys : List UInt8} {D : Nat → Prop} (hg : w.heap[g]? = some (.cells #[.slice a1 n1 c1, .slice a2 n2 c2] 49 f))
    (h1 : Row cU8 1 w D a1 n1 xs) (h2 : Row cU8 1 w D a2 n2 ys) (hD : ∀ b, D b → b < w.heap.size) (h0 : 0 < n1) (hb : n1 + n2 ≤ Big) :
    Calls Tryz.prog 132 #[.slice (some ⟨g, 0, none⟩) 2 2] w (Ok (New cU8 5 w (xs ++ ys))) := by
  have l1 := h1.len
  have l2 := h2.len
  have hb' := hb
  unfold Big at hb'
  refine L_slices_Concat_byte_byte ⟨fun m s i w' => w = w' ∧ ((m = 2 ∧ s = 0 ∧ i = 0) ∨ (m = 1 ∧ s = (n1 : Int) ∧ i = 1) ∨ (m = 0 ∧ s = ((n1 + n2 : Nat) : Int) ∧ i = 2)), ⟨2, rfl, .inl ⟨rfl, rfl, rfl⟩⟩, ?_⟩
  rintro m s i _ w1 ⟨rfl, hc⟩
  rcases hc with ⟨rfl, rfl, rfl⟩ | ⟨rfl, rfl, rfl⟩ | ⟨rfl, rfl, rfl⟩
  · refine PIf.tt (by decide) ⟨g, 0, rfl, by omega, by omega, a1, n1, c1, cell_at hg rfl, ?_⟩
    dsimp only; rw [wrap_i64 (x := 0 + ((n1 : Nat) : Int)) (by unfold I64; omega)]
    exact PIf.dec (fun h => by omega) (fun _ => ⟨1, by omega, rfl, .inr (.inl ⟨rfl, by omega, rfl⟩)⟩)
  · refine PIf.tt (by decide) ⟨g, 0, rfl, by omega, by omega, a2, n2, c2, cell_at hg rfl, ?_⟩
    dsimp only; rw [wrap_i64 (x := ((n1 : Nat) : Int) + ((n2 : Nat) : Int)) (by unfold I64; omega)]
    exact PIf.dec (fun h => by omega) (fun _ => ⟨0, by omega, rfl, .inr (.inr ⟨rfl, by omega, rfl⟩)⟩)
  refine PIf.ff (by decide) (PC.ok (slices_Grow0 (m := n1 + n2) (by omega) hb) ?_)
  rintro _ w2 ⟨q, cq, rfl, ho2, k2, hq⟩
  have hDq : ∀ b, D b → b ≠ q := fun b hb e => by have := hD b hb; omega
  refine ⟨_, _, _, rfl, fun m oa on oc i w' => Grew w w' ∧ ∃ F, (∀ b, F b → w.heap.size ≤ b) ∧ ((m = 2 ∧ i = 0 ∧ Lst cU8 5 F w' oa on oc []) ∨ (m = 1 ∧ i = 1 ∧ Lst cU8 5 F w' oa on oc xs) ∨ (m = 0 ∧ i = 2 ∧ Lst cU8 5 F w' oa on oc (xs ++ ys))),
    ⟨2, k2, (· = q), fun b e => by omega, .inl ⟨rfl, rfl, ho2⟩⟩, ?_⟩
  rintro m oa on oc i _ w3 ⟨k3, F, hF, hc⟩
  have hg3 := k3.get hg id
  have ap : ∀ {zs us : List UInt8} {a n c} {κ ε : Value → World → Prop}, Lst cU8 5 F w3 oa on oc zs → Row cU8 1 w D a n us → zs.length + us.length ≤ 140737488355328 →
      (∀ a' c' w' F', Lst cU8 5 F' w' a' (on + n) c' (zs ++ us) → Grew w w' → (∀ b, F' b → w.heap.size ≤ b) → κ (.slice a' (on + n) c') w') →
      PRun Tryz.prog (Builtin.append_ #[49, 49] 49 #[.slice oa on oc, .slice a n c]) w3 κ ε := by
    intro zs us a n c κ ε ho hr hlen hκ
    refine appRow0 ho slU8 (hr.grew k3) (fun b hb => ⟨by have := hD b hb; have := k3.size; omega, fun e => ?_⟩) (by unfold Big; omega) (by unfold maxLen; omega) fun a' c' w4 F' ho4 hk4 _ hs4 => ?_
    · have := hD b hb; have := hF b (ho.self b e); omega
    · exact hκ a' c' w4 (fun b => blk a' = some b) ho4.alone (k3.new hk4 fun b hb => .inr (hF b (ho.self b hb))) fun b hb => (hs4 b hb).elim (hF b) fun h => by have := k3.size; omega
  rcases hc with ⟨rfl, rfl, ho⟩ | ⟨rfl, rfl, ho⟩ | ⟨rfl, rfl, ho⟩
  · refine PIf.tt (by decide) ⟨g, 0, rfl, by omega, by omega, a1, n1, c1, cell_at hg3 rfl, ?_⟩
    exact ap ho h1 (by simp; omega) fun a' c' w4 F' ho4 k4 hF4 => ⟨_, _, _, rfl, 1, by omega, k4, F', hF4, .inr (.inl ⟨rfl, rfl, ho4⟩)⟩
  · refine PIf.tt (by decide) ⟨g, 0, rfl, by omega, by omega, a2, n2, c2, cell_at hg3 rfl, ?_⟩
    exact ap ho h2 (by omega) fun a' c' w4 F' ho4 k4 hF4 => ⟨_, _, _, rfl, 0, by omega, k4, F', hF4, .inr (.inr ⟨rfl, rfl, ho4⟩)⟩
  · exact PIf.ff (by decide) (Ok.mk ⟨_, _, _, F, rfl, ho, k3, hF⟩)
end Go.Proofs.YtpbpjojdfcdbbaaGreatDoor
