/- the document's sums and frames -/
import Derived.Test.YtpmakiecgphijaaGreatDoorFrame2
import Derived.Test.YtpmakiecgphijaaGreatDoorLstLit
import Derived.Test.YtpmakiecgphijaaGreatDoorOwn
namespace Go.Lift
open Go
set_option linter.unusedVariables false
def bitsOf (x : UInt8) : List Bool := (List.range 8).map fun k => x.toNat.testBit k
def bitsL (l : List UInt8) : List Bool := l.flatMap bitsOf
theorem bitsOf_length (x : UInt8) : (bitsOf x).length = 8 := by simp [bitsOf]
theorem bitsL_length (l : List UInt8) : (bitsL l).length = 8 * l.length := by
  induction l with
  | nil => rfl
  | cons x l ih => show ((bitsOf x) ++ bitsL l).length = _; rw [List.length_append, bitsOf_length, ih, List.length_cons]; omega
theorem bitsL_snoc (l : List UInt8) (x : UInt8) : bitsL (l ++ [x]) = bitsL l ++ bitsOf x := by simp [bitsL]
theorem crc_bitsL (l : List UInt8) : ∀ r, (bitsL l).foldl crcBit r = l.foldl crcByte r := by
  induction l with
  | nil => intro r; rfl
  | cons x l ih =>
    intro r
    show ((bitsOf x) ++ bitsL l).foldl crcBit r = _
    rw [List.foldl_append, ih, List.foldl_cons]
    unfold bitsOf crcByte
    rw [List.foldl_map]
theorem testBit_div (x k : Nat) : decide (x / 2 ^ k % 2 = 1) = x.testBit k := by rw [Nat.testBit_eq_decide_div_mod_eq]
theorem crcBit_no {r : W32} {b : Bool} (h : (r.getLsbD 0 != b) = false) : crcBit r b = r >>> 1 := by unfold crcBit; rw [h]; simp
theorem crcBit_yes {r : W32} {b : Bool} (h : (r.getLsbD 0 != b) = true) : crcBit r b = (r >>> 1) ^^^ poly := by unfold crcBit; rw [h]; simp
theorem lsb_mod (r : W32) : r.getLsbD 0 = decide (r.toNat % 2 = 1) := by
  show r.toNat.testBit 0 = _
  rw [Nat.testBit_zero]
theorem half32 (r : W32) : IntKind.wrap .u32 (Int.tdiv ((r.toNat : Nat) : Int) 2) = (((r >>> 1).toNat : Nat) : Int) := by
  have h1 : Int.tdiv ((r.toNat : Nat) : Int) 2 = ((r.toNat / 2 : Nat) : Int) := by rw [Int.tdiv_eq_ediv_of_nonneg (by omega)]; omega
  have hlt := r.isLt
  rw [h1, wrap_u32 _ (by omega), BitVec.toNat_ushiftRight, Nat.shiftRight_eq_div_pow]
theorem be_at (s : Nat) (hs : s < 2 ^ 32) : IntKind.wrap .u8 (IntKind.wrap .u32 (Int.tdiv (s : Int) 16777216)) = (((UInt8.ofNat (s / 16777216)).toNat : Nat) : Int) ∧ IntKind.wrap .u8 (Int.tmod (IntKind.wrap .u32 (Int.tdiv (s : Int) 65536)) 256) = (((UInt8.ofNat (s / 65536)).toNat : Nat) : Int) ∧
    IntKind.wrap .u8 (Int.tmod (IntKind.wrap .u32 (Int.tdiv (s : Int) 256)) 256) = (((UInt8.ofNat (s / 256)).toNat : Nat) : Int) ∧ IntKind.wrap .u8 (Int.tmod (s : Int) 256) = (((UInt8.ofNat s).toNat : Nat) : Int) := by
  have d : ∀ m : Nat, 0 < m → IntKind.wrap .u32 (Int.tdiv (s : Int) (m : Int)) = ((s / m : Nat) : Int) := fun m hm => by
    have h1 : Int.tdiv (s : Int) (m : Int) = ((s / m : Nat) : Int) := by rw [Int.tdiv_eq_ediv_of_nonneg (by omega)]; rfl
    have h2 : s / m ≤ s := Nat.div_le_self _ _
    rw [h1, wrap_u32 _ (by omega)]
  have t : ∀ m : Nat, Int.tmod (m : Int) 256 = ((m % 256 : Nat) : Int) := fun m => by rw [Int.tmod_eq_emod_of_nonneg (by omega)]; omega
  refine ⟨?_, ?_, ?_, ?_⟩
  · rw [show (16777216 : Int) = ((16777216 : Nat) : Int) from rfl, d _ (by omega), wrap_u8, UInt8.toNat_ofNat']
  · rw [show (65536 : Int) = ((65536 : Nat) : Int) from rfl, d _ (by omega), t, wrap_u8, UInt8.toNat_ofNat', Nat.mod_mod]
  · rw [show Int.tdiv (s : Int) 256 = Int.tdiv (s : Int) ((256 : Nat) : Int) from rfl, d _ (by omega), t, wrap_u8, UInt8.toNat_ofNat', Nat.mod_mod]
  · rw [t, wrap_u8, UInt8.toNat_ofNat', Nat.mod_mod]
theorem hd_at (n : Nat) (hn : n ≤ 65536) : IntKind.wrap .u8 (IntKind.wrap .i64 (Int.tdiv (n : Int) 65536)) = (((UInt8.ofNat (n / 65536)).toNat : Nat) : Int) ∧ IntKind.wrap .u8 (Int.tmod (IntKind.wrap .i64 (Int.tdiv (n : Int) 256)) 256) = (((UInt8.ofNat (n / 256)).toNat : Nat) : Int) ∧ IntKind.wrap .u8 (Int.tmod (n : Int) 256) = (((UInt8.ofNat n).toNat : Nat) : Int) := by
  have d : ∀ m : Nat, 0 < m → IntKind.wrap .i64 (Int.tdiv (n : Int) (m : Int)) = ((n / m : Nat) : Int) := fun m hm => by
    have h1 : Int.tdiv (n : Int) (m : Int) = ((n / m : Nat) : Int) := by rw [Int.tdiv_eq_ediv_of_nonneg (by omega)]; rfl
    have h2 : n / m ≤ n := Nat.div_le_self _ _
    rw [h1]
    generalize n / m = z at h2
    rw [wrap_i64 (by unfold I64; omega)]
  have t : ∀ m : Nat, Int.tmod (m : Int) 256 = ((m % 256 : Nat) : Int) := fun m => by rw [Int.tmod_eq_emod_of_nonneg (by omega)]; omega
  refine ⟨?_, ?_, ?_⟩
  · rw [show (65536 : Int) = ((65536 : Nat) : Int) from rfl, d _ (by omega), wrap_u8, UInt8.toNat_ofNat']
  · rw [show Int.tdiv (n : Int) 256 = Int.tdiv (n : Int) ((256 : Nat) : Int) from rfl, d _ (by omega), t, wrap_u8, UInt8.toNat_ofNat', Nat.mod_mod]
  · rw [t, wrap_u8, UInt8.toNat_ofNat', Nat.mod_mod]
end Go.Lift
namespace Go.Proofs.YtpmakiecgphijaaGreatDoor
open Go.Lift
set_option linter.unusedVariables false
set_option maxRecDepth 20000

theorem slBool : SlT Tryz.prog 184 4 1 1 := ⟨by kernel_rfl, by kernel_rfl, by decide⟩

theorem ref02_bits {a : Option Addr} {n c : Nat} {bs : List UInt8} {w : World} {D : Nat → Prop} (hb : Row cU8 1 w D a n bs) (hbig : bs.length ≤ 1000000) :
    Calls Tryz.prog F_ref02_bits #[.slice a n c] w (Ok (New cBool 4 w (bitsL bs))) := by
  have hn := hb.len
  refine L_ref02_bits ⟨fun m oa on oc i w' => ∃ j : Nat, i = j ∧ j ≤ n ∧ m = n - j ∧ ∃ F, Lst cBool 4 F w' oa on oc (bitsL (bs.take j)) ∧ Grew w w' ∧ ∀ b, F b → w.heap.size ≤ b,
    ⟨_, 0, rfl, Nat.zero_le _, rfl, fun _ => False, by simpa [bitsL] using Lst.nil w, Keep.refl w, fun _ h => h.elim⟩, ?_⟩
  rintro m oa on oc i _ w1 ⟨j, rfl, hj, rfl, F, ho, k1, hF⟩
  refine PIf.dec (fun hlt => ?_) (fun hge => ?_)
  · obtain ⟨b0, off0, x, ha0, hx, -, -⟩ := hb.at1 (i := j) (by omega)
    have hsn : bitsL (bs.take (j + 1)) = bitsL (bs.take j) ++ (bitsOf x).take 8 := by
      rw [List.take_add_one, hx, Option.toList_some, bitsL_snoc, List.take_of_length_le (l := bitsOf x) (by rw [bitsOf_length]; omega)]
    have hlen : (bitsL (bs.take j)).length = 8 * j := by rw [bitsL_length]; simp; omega
    refine ⟨fun q oa on oc k w' => ∃ i : Nat, k = i ∧ i ≤ 8 ∧ q = 8 - i ∧ ∃ F, Lst cBool 4 F w' oa on oc (bitsL (bs.take j) ++ (bitsOf x).take i) ∧ Grew w w' ∧ ∀ b, F b → w.heap.size ≤ b,
      ⟨_, 0, rfl, by omega, rfl, F, by rw [List.take_zero, List.append_nil]; exact ho, k1, hF⟩, ?_⟩
    rintro q oa on oc k _ w2 ⟨i, rfl, hi, rfl, F2, ho2, k2, hF2⟩
    have hlen2 : (bitsL (bs.take j) ++ (bitsOf x).take i).length = 8 * j + i := by rw [List.length_append, hlen, List.length_take, bitsOf_length]; omega
    refine PIf.dec (fun hlt2 => ?_) (fun hge2 => ?_)
    · obtain ⟨b, off, x', rfl, hx', -, hc⟩ := (hb.grew k2).at1 (i := j) (by omega)
      rw [hx] at hx'
      cases hx'
      have hrun : ∀ y z, (do eqGuard .shr 5 y z (.int .u8 (x.toNat : Int)) (.int .u64 (IntKind.wrap .u64 (i : Int))); binOp .shr 5 (.int .u8 (x.toNat : Int)) (.int .u64 (IntKind.wrap .u64 (i : Int))) : Sem Value).run Tryz.prog w2 = .ok (.int .u8 ((x.toNat / 2 ^ i : Nat) : Int)) w2 := fun y z => by
        rw [wrap_u64n (by omega)]
        have h0 := shift_shr .u8 .u64 (x.toNat : Int) (i : Int) (by omega) (by show _ ≤ ((8 : Nat) : Int); omega)
        have e1 : (x.toNat : Int) / 2 ^ (Int.toNat (i : Int)) = ((x.toNat / 2 ^ i : Nat) : Int) := by rw [Int.toNat_natCast]; simp
        show (Op.shift .shr .u8 (x.toNat : Int) .u64 (i : Int)).run Tryz.prog w2 = _
        rw [h0, e1]
        rfl
      have hb2 : ∀ z : Nat, ((Int.tmod (z : Int) 2 : Int) == 1) = decide (z % 2 = 1) := fun z => by
        rw [Int.tmod_eq_emod_of_nonneg (by omega)]
        by_cases h : z % 2 = 1
        · rw [decide_eq_true h, beq_iff_eq]; omega
        · rw [decide_eq_false h, beq_eq_false_iff_ne]; omega
      have hbit : ((Int.tmod ((x.toNat / 2 ^ i : Nat) : Int) 2 : Int) == 1) = x.toNat.testBit i := by rw [hb2, testBit_div]
      have hi8 : i < 8 := by omega
      have hget : (bitsOf x)[i]? = some (x.toNat.testBit i) := by simp [bitsOf, hi8]
      refine ⟨b, off, rfl, by omega, by omega, _, by rw [Int.toNat_natCast]; exact hc, PRun.mk (hrun _ _) ⟨_, rfl, ?_⟩⟩
      rw [hbit]
      refine papp ho2 slBool (x := x.toNat.testBit i) (D := fun _ => False) ⟨rfl, trivial⟩ (fun _ h => h.elim) (by rw [hlen2]; unfold Big; omega) (by rw [hlen2]; unfold maxLen; omega) fun a3 c3 w3 F3 ho3 hk3 hF3 _ => ?_
      refine ⟨_, _, _, rfl, 8 - (i + 1), by omega, i + 1, wrap_succ (by omega), by omega, rfl, F3, ?_, k2.new hk3 fun b hb => .inr (hF2 b (ho2.self b hb)), fun b hb => ?_⟩
      · rw [List.take_add_one, hget, ← List.append_assoc]; exact ho3
      · rcases hF3 b hb with h | h | h
        · exact hF2 b h
        · exact h.elim
        · have := k2.size; omega
    · obtain rfl : i = 8 := by omega
      rw [← hsn] at ho2
      exact ⟨_, by omega, j + 1, wrap_succ (by omega), by omega, rfl, F2, ho2, k2, hF2⟩
  · obtain rfl : j = n := by omega
    rw [List.take_of_length_le (by omega)] at ho
    exact Ok.mk ⟨_, _, _, F, rfl, ho, k1, hF⟩

theorem ref02_halves {r : W32} {b : Bool} {w : World} : Calls Tryz.prog F_ref02_halves #[.int .u32 ((r.toNat : Nat) : Int), .bool b] w (Ok fun v w' => v = .int .u32 (((crcBit r b).toNat : Nat) : Int) ∧ w = w') := by
  refine L_ref02_halves ?_
  have e : (((Int.tmod ((r.toNat : Nat) : Int) 2 : Int) == 1) == b) = !(r.getLsbD 0 != b) := by
    rw [lsb_mod, Int.tmod_eq_emod_of_nonneg (by omega)]
    by_cases h : r.toNat % 2 = 1
    · have : ((r.toNat : Nat) : Int) % 2 = 1 := by omega
      rw [this, decide_eq_true h]; cases b <;> rfl
    · have : ((r.toNat : Nat) : Int) % 2 = 0 := by omega
      rw [this, decide_eq_false h]; cases b <;> rfl
  rw [e, Bool.not_not, half32]
  cases h : r.getLsbD 0 != b with
  | false => exact PIf.ff rfl (Ok.mk ⟨by rw [crcBit_no h], rfl⟩)
  | true =>
    refine PIf.tt rfl (Ok.mk ⟨?_, rfl⟩)
    have hp : (3988292384 : Int) = ((poly.toNat : Nat) : Int) := by decide +kernel
    rw [crcBit_yes h, hp, iXor32]

theorem ref02_Sum {a : Option Addr} {n c : Nat} {bs : List UInt8} {w : World} {D : Nat → Prop} (hb : Row cU8 1 w D a n bs) (hbig : bs.length ≤ 1000000) :
    Calls Tryz.prog F_ref02_Sum #[.slice a n c] w (Ok fun v w' => v = .int .u32 (((crcV bs).toNat : Nat) : Int) ∧ Grew w w') := by
  refine L_ref02_Sum (PC.ok (φ := fun v w' => v = .int .u32 (((crcV bs).toNat : Nat) : Int) ∧ Grew w w') (L_ref02_More (PC.ok (ref02_bits hb hbig) ?_)) fun v w' ⟨hv, hk⟩ => ⟨_, hv, Ok.mk ⟨rfl, hk⟩⟩)
  rintro _ w1 ⟨a1, n1, c1, F1, rfl, ho1, k1, hF1⟩
  have hn1 := ho1.len (by decide)
  have hbl := bitsL_length bs
  have hmax : (4294967295 : Int) = (((BitVec.allOnes 32).toNat : Nat) : Int) := by decide +kernel
  have hz : (0 : Int) = (((0#32 : W32).toNat : Nat) : Int) := rfl
  refine ⟨_, _, _, rfl, fun m r i w' => w1 = w' ∧ ∃ j : Nat, i = j ∧ j ≤ n1 ∧ m = n1 - j ∧ r = (((((bitsL bs).take j).foldl crcBit (~~~0#32)).toNat : Nat) : Int), ⟨_, rfl, 0, rfl, Nat.zero_le _, rfl, ?_⟩, ?_⟩
  · rw [hz, hmax, iXor32]; rfl
  · rintro m r i _ _ ⟨rfl, j, rfl, hj, rfl, rfl⟩
    refine PIf.dec (fun hlt => ?_) (fun hge => ?_)
    · obtain ⟨b, off, x, rfl, hx, -, hc⟩ := (ho1.row (bytes := 1) (by decide) (by unfold Big; omega)).at1 (i := j) (by omega)
      refine ⟨b, off, rfl, by omega, by omega, _, by rw [Int.toNat_natCast]; exact hc, PC.ok ref02_halves ?_⟩
      rintro _ _ ⟨rfl, rfl⟩
      refine ⟨_, rfl, n1 - (j + 1), by omega, rfl, j + 1, wrap_succ (by omega), by omega, rfl, ?_⟩
      rw [List.take_add_one, hx, List.foldl_append]; rfl
    · obtain rfl : j = n1 := by omega
      rw [List.take_of_length_le (by omega), crc_bitsL, hmax, iXor32]
      refine Ok.mk ⟨?_, k1⟩
      rw [BitVec.xor_allOnes]; rfl

theorem ref03_Put {w : World} {D : Nat → Prop} {k : Int} {a : Option Addr} {n c : Nat} {body : List UInt8} (hb : Row cU8 1 w D a n body) :
    Calls Tryz.prog F_ref03_Put #[.agg #[.int .i64 k, .slice a n c]] w (Ok fun v w' => ∃ u, v = .tuple #[u, .int .i64 (frPut k body).2] ∧ New cU8 5 w (frPut k body).1 u w') := by
  have hn := hb.len
  have nil : ∀ {w' : World} {e : Int}, Grew w w' → frPut k body = ([], e) → Ok (fun v w' => ∃ u, v = .tuple #[u, .int .i64 (frPut k body).2] ∧ New cU8 5 w (frPut k body).1 u w') (.returned (.tuple #[.slice none 0 0, .int .i64 e])) w' := fun hk he => by
    rw [he]; exact Ok.mk ⟨_, rfl, none, 0, 0, fun _ => False, rfl, Lst.nil _, hk, fun _ h => h.elim⟩
  refine L_ref03_Put (PA.mk fun w1 k1 s1 g1 => ⟨_, cell_at g1 rfl, PIf.dec (fun h => nil k1 (by unfold frPut; rw [if_pos (.inl h)])) (fun h1 => ⟨_, cell_at g1 rfl, PIf.dec (fun h => nil k1 (by unfold frPut; rw [if_pos (.inr h)])) (fun h2 => ⟨_, _, _, cell_at g1 rfl, PIf.dec (fun h => nil k1 (by unfold frPut; rw [if_neg (by omega), if_pos (by omega)])) (fun h3 => ⟨_, cell_at g1 rfl, PA.mk fun w2 k2 s2 g2 => ?_⟩)⟩)⟩)⟩)
  have hput : frPut k body = (frBytes k body, 0) := by unfold frPut; rw [if_neg (by omega), if_neg (by omega)]
  rw [hput]
  obtain ⟨p1, p2, p3⟩ := hd_at n (by omega)
  have pk : IntKind.wrap .u8 k = (((UInt8.ofNat k.toNat).toNat : Nat) : Int) := by
    have : k = ((k.toNat : Nat) : Int) := by omega
    rw [this, wrap_u8, UInt8.toNat_ofNat', Int.toNat_natCast]
  rw [p1, p2, p3, pk] at g2
  have ho2 : Lst cU8 5 (· = w1.heap.size) w2 (some ⟨w1.heap.size, 0, none⟩) 4 4 [UInt8.ofNat k.toNat, UInt8.ofNat (n / 65536), UInt8.ofNat (n / 256), UInt8.ofNat n] :=
    Lst.of_block g2 [UInt8.ofNat k.toNat, UInt8.ofNat (n / 65536), UInt8.ofNat (n / 256), UInt8.ofNat n] rfl (fun _ _ => trivial) (by unfold maxLen; simp)
  have hfh : frHead k body = [UInt8.ofNat k.toNat, UInt8.ofNat (n / 65536), UInt8.ofNat (n / 256), UInt8.ofNat n] ++ body := by unfold frHead; rw [hn]
  have hl4 : [UInt8.ofNat k.toNat, UInt8.ofNat (n / 65536), UInt8.ofNat (n / 256), UInt8.ofNat n].length = 4 := rfl
  generalize [UInt8.ofNat k.toNat, UInt8.ofNat (n / 65536), UInt8.ofNat (n / 256), UInt8.ofNat n] = hdr at ho2 hfh hl4
  refine ⟨fun m oa on oc i w' => ∃ j : Nat, i = j ∧ j ≤ n ∧ m = n - j ∧ ∃ F, Lst cU8 5 F w' oa on oc (hdr ++ body.take j) ∧ Grew w1 w' ∧ ∀ b, F b → w1.heap.size ≤ b,
    ⟨_, 0, rfl, Nat.zero_le _, rfl, _, by rw [List.take_zero, List.append_nil]; exact ho2, k2, fun b hb => by omega⟩, ?_⟩
  rintro m oa on oc i _ w3 ⟨j, rfl, hj, rfl, F, ho, k3, hF⟩
  have htl : (hdr ++ body.take j).length = 4 + j := by rw [List.length_append, hl4, List.length_take]; omega
  refine PIf.dec (fun hlt => ?_) (fun hge => ?_)
  · obtain ⟨b, off, x, rfl, hx, -, hc⟩ := (hb.grew (k1.then k3)).at1 (i := j) (by omega)
    refine ⟨_, _, _, cell_at (k3.get g1 id) rfl, b, off, rfl, by omega, by omega, _, by rw [Int.toNat_natCast]; exact hc, papp ho slU8 (x := x) (D := fun _ => False) ⟨rfl, trivial⟩ (fun _ h => h.elim) (by rw [htl]; unfold Big; omega) (by rw [htl]; unfold maxLen; omega) fun a4 c4 w4 F4 ho4 hk4 hF4 _ => ?_⟩
    refine ⟨_, _, _, rfl, n - (j + 1), by omega, j + 1, wrap_succ (by omega), by omega, rfl, F4, ?_, k3.new hk4 fun b hb => .inr (hF b (ho.self b hb)), fun b hb => ?_⟩
    · rw [List.take_add_one, hx, ← List.append_assoc]; exact ho4
    · rcases hF4 b hb with h | h | h
      · exact hF b h
      · exact h.elim
      · have := k3.size; omega
  · obtain rfl : j = n := by omega
    rw [List.take_of_length_le (by omega), ← hfh] at ho htl
    refine PC.ok (ref02_Sum (ho.row (bytes := 1) (by decide) (by rw [htl]; unfold Big; omega)) (by omega)) ?_
    rintro _ w4 ⟨rfl, k4⟩
    refine ⟨_, rfl, PA.mk fun w5 k5 s5 g5 => ?_⟩
    have hs32 := (crcV (frHead k body)).isLt
    obtain ⟨q1, q2, q3, q4⟩ := be_at (crcV (frHead k body)).toNat hs32
    rw [q1, q2, q3, q4] at g5
    have hrow5' : Row cU8 1 w5 (· = w4.heap.size) (some ⟨w4.heap.size, 0, none⟩) (be4 (crcV (frHead k body)).toNat ++ [10]).length (be4 (crcV (frHead k body)).toNat ++ [10]) := Row.lit g5 (be4 (crcV (frHead k body)).toNat ++ [10]) rfl (fun _ _ => trivial) (by unfold Big; simp [be4])
    have hrow5 : Row cU8 1 w5 (· = w4.heap.size) (some ⟨w4.heap.size, 0, none⟩) 5 (be4 (crcV (frHead k body)).toNat ++ [10]) := hrow5'
    refine appRow (ho.grew (k4.then k5)) slU8 hrow5 (fun b e => ⟨by omega, fun e2 => by have := ho.dom b (ho.self b e2); have := k4.size; omega⟩) (by rw [htl]; unfold Big; simp [be4]; omega) (by rw [htl]; unfold maxLen; simp [be4]; omega) fun a6 c6 w6 F6 ho6 hk6 _ hs6 => ?_
    replace ho6 := ho6.alone
    rw [← List.append_assoc] at ho6
    change Lst cU8 5 _ w6 a6 _ c6 (frBytes k body) at ho6
    refine ⟨_, _, _, rfl, Ok.mk ⟨_, rfl, a6, _, c6, _, rfl, ho6, ?_, fun b hb => ?_⟩⟩
    · exact (k1.then ((k3.then k4).then k5)).new hk6 fun b hb => .inr (by have := hF b (ho.self b hb); omega)
    · rcases hs6 b hb with h | h
      · have := hF b h; omega
      · have := (k1.then ((k3.then k4).then k5)).size; omega

theorem ref03_Get {w : World} {D : Nat → Prop} {a : Option Addr} {n c : Nat} {bs : List UInt8} (hb : Row cU8 1 w D a n bs) (hcap : n ≤ c) (hD : ∀ b, D b → b < w.heap.size) :
    Calls Tryz.prog F_ref03_Get #[.slice a n c] w (Ok fun v w' => ∃ a' n' c' F, v = .tuple #[.agg #[.int .i64 (frGet bs).kind, .slice a' n' c'], .int .i64 ((frGet bs).n : Int), .int .i64 (frGet bs).no] ∧
      Lst cU8 5 F w' a' n' c' (frGet bs).body ∧ Grew w w' ∧ ∀ b, F b → w.heap.size ≤ b) := by
  have hn := hb.len
  have hbig := hb.big
  unfold Big at hbig
  refine L_ref03_Get (PA.mk fun w1 k1 s1 g1 => ?_)
  have stop : ∀ (e : Int) (w2 : World), Grew w1 w2 → frGet bs = ⟨0, [], 0, e⟩ → PS w2 ⟨w.heap.size, 0, none⟩ (.int .i64 0) fun w3 => PS w3 ⟨w.heap.size, 0 + 1, none⟩ (.slice none 0 0) fun w4 => ∃ (r5 : Int) (r6a : Option Addr) (r6n : Nat) (r6c : Nat), w4.cell? ⟨w.heap.size, 0, none⟩ = some (.int .i64 r5) ∧
      w4.cell? ⟨w.heap.size, 0 + 1, none⟩ = some (.slice r6a r6n r6c) ∧ Ok (fun v w' => ∃ a' n' c' F, v = .tuple #[.agg #[.int .i64 (frGet bs).kind, .slice a' n' c'], .int .i64 ((frGet bs).n : Int), .int .i64 (frGet bs).no] ∧ Lst cU8 5 F w' a' n' c' (frGet bs).body ∧ Grew w w' ∧ ∀ b, F b → w.heap.size ≤ b) (.returned (.tuple #[.agg #[.int .i64 r5, .slice r6a r6n r6c], .int .i64 0, .int .i64 e])) w4 := by
    intro e w2 k2 he
    refine PS.mk (k2.get g1 id) (by simp) fun w3 k3 s3 g3 => PS.mk g3 (by simp) fun w4 k4 s4 g4 => ⟨_, _, _, _, cell_at g4 rfl, cell_at g4 rfl, ?_⟩
    rw [he]
    exact Ok.mk ⟨none, 0, 0, fun _ => False, rfl, Lst.nil _, ((k1.then k2).new k3 fun b hb => .inr (by omega)).new k4 fun b hb => .inr (by omega), fun _ h => h.elim⟩
  refine PIf.dec (fun h4 => stop 4 w1 (Keep.refl _) (by unfold frGet; rw [if_pos (by omega)])) (fun h4 => ?_)
  have rd : ∀ {w' : World} (i : Nat), Grew w w' → i < n → ∃ b off, a = some ⟨b, off, none⟩ ∧ w'.cell? ⟨b, off + i, none⟩ = some (.int .u8 ((bs.getD i 0).toNat : Int)) := fun {w'} i hk hi => by
    obtain ⟨b, off, x, rfl, hx, -, hc⟩ := (hb.grew hk).at1 (i := i) hi
    refine ⟨b, off, rfl, ?_⟩
    rw [List.getD_eq_getElem?_getD, hx]; exact hc
  obtain ⟨b, off, rfl, c0⟩ := rd 0 k1 (by omega)
  obtain ⟨b', off', e', c1⟩ := rd 1 k1 (by omega)
  cases e'
  obtain ⟨b', off', e', c2⟩ := rd 2 k1 (by omega)
  cases e'
  obtain ⟨b', off', e', c3⟩ := rd 3 k1 (by omega)
  cases e'
  refine ⟨b, off, rfl, by omega, by omega, _, c0, PIf.eqI (fun h0 => stop 2 w1 (Keep.refl _) ?_) (fun h0 => ?_)⟩
  · unfold frGet
    rw [if_neg (by omega), if_pos (UInt8.toNat_inj.1 (by show _ = 0; omega))]
  have h0' : ¬ bs.getD 0 0 = 0 := fun e => h0 (by rw [e]; rfl)
  have l1 := (bs.getD 1 0).toNat_lt; have l2 := (bs.getD 2 0).toNat_lt; have l3 := (bs.getD 3 0).toNat_lt; have l0 := (bs.getD 0 0).toNat_lt
  have eN : IntKind.wrap .i64 ((IntKind.wrap .i64 ((IntKind.wrap .i64 (65536 * (IntKind.wrap .i64 (((bs.getD 1 0).toNat : Nat) : Int)))) + (IntKind.wrap .i64 (256 * (IntKind.wrap .i64 (((bs.getD 2 0).toNat : Nat) : Int)))))) + (IntKind.wrap .i64 (((bs.getD 3 0).toNat : Nat) : Int))) =
      (((bs.getD 1 0).toNat * 65536 + (bs.getD 2 0).toNat * 256 + (bs.getD 3 0).toNat : Nat) : Int) := by
    rw [wrap_i64u8, wrap_i64u8, wrap_i64u8, wrap_i64 (x := 65536 * _) (by unfold I64; omega), wrap_i64 (x := 256 * _) (by unfold I64; omega), wrap_i64 (x := 65536 * _ + _) (by unfold I64; omega), wrap_i64 (by unfold I64; omega)]
    omega
  refine ⟨b, off, rfl, by omega, by omega, _, c1, b, off, rfl, by omega, by omega, _, c2, b, off, rfl, by omega, by omega, _, c3, fun w2 d2 => ?_⟩
  have k2 : Grew w1 w2 := d2.keep
  have k02 := k1.then k2
  rw [eN]
  have hget : frGet bs = (fun n => if 65536 < n then ⟨0, [], 0, 5⟩ else if bs.length < n + 9 then ⟨0, [], 0, 4⟩ else
      if bs.take (n + 9) = frBytes (bs.getD 0 0).toNat ((bs.drop 4).take n) then ⟨(bs.getD 0 0).toNat, (bs.drop 4).take n, n + 9, 0⟩ else ⟨0, [], 0, 6⟩) ((bs.getD 1 0).toNat * 65536 + (bs.getD 2 0).toNat * 256 + (bs.getD 3 0).toNat) := by
    unfold frGet
    rw [if_neg (by omega), if_neg h0']
  generalize (bs.getD 1 0).toNat * 65536 + (bs.getD 2 0).toNat * 256 + (bs.getD 3 0).toNat = N at hget ⊢
  simp only at hget
  refine PIf.dec (fun hl => stop 5 w2 k2 (by rw [hget, if_pos (by omega)])) (fun hl => ?_)
  rw [wrap_i64 (x := (N : Int) + 9) (by unfold I64; omega), wrap_i64 (x := 4 + (N : Int)) (by unfold I64; omega)]
  refine PIf.dec (fun hs => stop 4 w2 k2 (by rw [hget, if_neg (by omega), if_pos (by omega)])) (fun hs => ?_)
  rw [if_neg (by omega), if_neg (by omega)] at hget
  have hpart := (hb.grew k02).part (lo := 4) (hi := 4 + N) (cap := c) (by omega) (by omega) hcap
  have hbody : (bs.take (4 + N)).drop 4 = (bs.drop 4).take N := by rw [List.drop_take]; congr 1; omega
  rw [hbody] at hpart
  have hbl : ((bs.drop 4).take N).length = N := by simp; omega
  refine ⟨by omega, by omega, by omega, ?_⟩
  rw [show Int.toNat (4 + (N : Int)) = 4 + N by omega, show Int.toNat 4 = 4 from rfl]
  refine appRow0 (Lst.nil w2) slU8 hpart (fun b h => ⟨by have := hD b h; have := k02.size; omega, by simp [blk]⟩) (by unfold Big; simp; omega) (by unfold maxLen; simp; omega) fun a3 c3' w3 F3 ho3 hk3 _ hs3 => ?_
  have k3 : Grew w2 w3 := hk3.mono fun b _ hb => by simp [blk] at hb
  replace ho3 := ho3.alone
  rw [List.nil_append] at ho3
  have hself : ∀ b, blk a3 = some b → w2.heap.size ≤ b := fun b hb => (hs3 b hb).elim (fun h => h.elim) id
  obtain ⟨b', off', e', c0'⟩ := rd 0 (k02.then k3) (by omega)
  cases e'
  refine ⟨_, _, _, rfl, b, off, rfl, by omega, by omega, _, c0', PA.mk fun w4 k4 s4 g4 => PS.mk g4 (by simp) fun w5 k5 s5 g5 => PS.mk g5 (by simp) fun w6 k6 s6 g6 => ?_⟩
  rw [wrap_i64u8] at g6
  have g6' : w6.heap[w3.heap.size]? = some (.cells #[.int .i64 (((bs.getD 0 0).toNat : Nat) : Int), .slice a3 (0 + (4 + N - 4)) c3'] 98 (0, 0)) := g6
  have k36 : Grew w3 w6 := (k4.new k5 fun b hb => .inr (by omega)).new k6 fun b hb => .inr (by omega)
  have ho6 := ho3.grew k36
  refine ⟨_, _, _, _, cell_at g6' rfl, cell_at g6' rfl, PC.ok (ref03_Put (ho6.row (bytes := 1) (by decide) (by rw [hbl]; unfold Big; omega))) ?_⟩
  rintro _ w7 ⟨_, rfl, a7, n7, c7, F7, rfl, ho7, k7, hF7⟩
  have hb1 : 1 ≤ (bs.getD 0 0).toNat := Nat.one_le_iff_ne_zero.2 fun e => h0' (UInt8.toNat_inj.1 e)
  rw [show frPut (((bs.getD 0 0).toNat : Nat) : Int) ((bs.drop 4).take N) = (frBytes (((bs.getD 0 0).toNat : Nat) : Int) ((bs.drop 4).take N), 0) by unfold frPut; rw [if_neg (by omega), if_neg (by rw [hbl]; omega)]] at ho7 ⊢
  have hwl : (frBytes (((bs.getD 0 0).toNat : Nat) : Int) ((bs.drop 4).take N)).length = N + 9 := by rw [frBytes_length, hbl]
  generalize hwant : frBytes (((bs.getD 0 0).toNat : Nat) : Int) ((bs.drop 4).take N) = want at ho7 hget hwl
  simp only at ho7
  have hn7 := ho7.len (by decide)
  have k07 : Grew w w7 := ((k02.then k3).then k36).then k7
  have k17 : Grew w1 w7 := ((k2.then k3).then k36).then k7
  refine ⟨_, _, _, _, rfl, fun m i w' => ∃ j : Nat, i = j ∧ j ≤ N + 9 ∧ m = N + 9 - j ∧ bs.take j = want.take j ∧ Grew w7 w', ⟨_, 0, rfl, Nat.zero_le _, rfl, rfl, Keep.refl _⟩, ?_⟩
  rintro m i _ w8 ⟨j, rfl, hj, rfl, hsame, k8⟩
  refine PIf.dec (fun hlt => ?_) (fun hge => ?_)
  · obtain ⟨b', off', x, e', hx, -, cx⟩ := (hb.grew (k07.then k8)).at1 (i := j) (by omega)
    cases e'
    obtain ⟨by', offy, y, rfl, hy, -, cy⟩ := ((ho7.grew k8).row (bytes := 1) (by decide) (by rw [hwl]; unfold Big; omega)).at1 (i := j) (by omega)
    refine ⟨b, off, rfl, by omega, by omega, _, by rw [Int.toNat_natCast]; exact cx, by', offy, rfl, by omega, by omega, _, by rw [Int.toNat_natCast]; exact cy, fun w9 d9 => PIf.neI (fun hne => stop 6 w9 ((k17.then k8).then d9.keep) ?_) (fun he => ?_)⟩
    · rw [hget, if_neg]
      intro hc
      have h1 : (bs.take (N + 9))[j]? = some x := by rw [List.getElem?_take, if_pos (by omega)]; exact hx
      rw [hc, hy] at h1
      cases h1
      exact hne rfl
    · have hxy : x = y := UInt8.toNat_inj.1 (by omega)
      subst hxy
      exact ⟨_, by omega, j + 1, wrap_succ (by omega), by omega, rfl, take_same hsame hx hy, k8.then d9.keep⟩
  · obtain rfl : j = N + 9 := by omega
    rw [List.take_of_length_le (l := want) (by omega)] at hsame
    rw [if_pos hsame] at hget
    rw [hget, show (N : Int) + 9 = ((N + 9 : Nat) : Int) by omega]
    have g8 := (k7.then k8).get g6' id
    refine ⟨_, _, _, _, cell_at g8 rfl, cell_at g8 rfl, PS.mk ((k17.then k8).get g1 id) (by simp) fun w9 k9 s9 g9 => PS.mk g9 (by simp) fun w10 k10 s10 g10 => ⟨_, _, _, _, cell_at g10 rfl, cell_at g10 rfl, Ok.mk ⟨a3, _, c3', (fun b => blk a3 = some b), rfl, ?_, ?_, fun b hb => ?_⟩⟩⟩
    · exact ((ho6.grew (k7.then k8)).keep k9 fun b hb e => by have := hself b hb; have := k2.size; omega).keep k10 fun b hb e => by have := hself b hb; have := k2.size; omega
    · exact ((k07.then k8).new k9 fun b hb => .inr (by omega)).new k10 fun b hb => .inr (by omega)
    · have := hself b hb; have := k02.size; omega
end Go.Proofs.YtpmakiecgphijaaGreatDoor
