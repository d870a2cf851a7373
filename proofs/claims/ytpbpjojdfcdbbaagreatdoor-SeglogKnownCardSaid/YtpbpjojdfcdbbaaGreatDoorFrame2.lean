/- frame: Put, wrong, Get -/
import Derived.Test.YtpbpjojdfcdbbaaGreatDoorFrame
import Derived.Test.YtpbpjojdfcdbbaaGreatDoorWire
namespace Go.Lift
open Go
theorem frGet_eq (b : List UInt8) (m : Nat) (hm : (b.getD 1 0).toNat * 65536 + (b.getD 2 0).toNat * 256 + (b.getD 3 0).toNat = m) :
    frGet b = if b.length < 4 then ⟨0, [], 0, 4⟩ else if b.getD 0 0 = 0 then ⟨0, [], 0, 2⟩ else if 65536 < m then ⟨0, [], 0, 5⟩ else if b.length < m + 9 then ⟨0, [], 0, 4⟩ else
      if b.take (m + 9) = frBytes (b.getD 0 0).toNat ((b.drop 4).take m) then ⟨(b.getD 0 0).toNat, (b.drop 4).take m, m + 9, 0⟩ else ⟨0, [], 0, 6⟩ := by
  unfold frGet; rw [hm]
theorem frGet_ok {b : List UInt8} (h : (frGet b).no = 0) : (frGet b).kind = ((b.getD 0 0).toNat : Int) ∧ (frGet b).body = (b.drop 4).take ((frGet b).n - 9) ∧ 4 ≤ b.length := by
  rw [frGet_eq b _ rfl] at h ⊢
  split at h
  · cases h
  rename_i h0
  rw [if_neg h0]
  split at h
  · cases h
  rename_i h1
  rw [if_neg h1]
  split at h
  · cases h
  rename_i h2
  rw [if_neg h2]
  split at h
  · cases h
  rename_i h3
  rw [if_neg h3]
  split at h
  · rename_i h4
    rw [if_pos h4]
    exact ⟨rfl, by simp, by omega⟩
  · cases h
end Go.Lift
namespace Go.Proofs.YtpbpjojdfcdbbaaGreatDoor
open Go.Lift
set_option linter.unusedVariables false
set_option maxRecDepth 20000

def bytesV (xs : List UInt8) : List Value := xs.map fun x => Value.int .u8 (x.toNat : Int)
theorem row_bytes {w : World} {g : Nat} {f : Nat × Nat} (xs : List UInt8) (hg : w.heap[g]? = some (.cells (bytesV xs).toArray 5 f)) (hl : xs.length ≤ 1000) : Row cU8 1 w (· = g) (some ⟨g, 0, none⟩) xs.length xs :=
  Row.lit (enc := fun x : UInt8 => Value.int .u8 (x.toNat : Int)) hg xs (by simp [bytesV]) (fun _ _ => trivial) (by unfold Big; omega)

theorem frame_Put {w : World} {D : Nat → Prop} {k : Int} {a : Option Addr} {n c : Nat} {body : List UInt8} (ht : Tabs w) (hb : Row cU8 1 w D a n body) (hD : ∀ b, D b → b < w.heap.size) :
    Calls Tryz.prog F_frame_Put #[.agg #[.int .i64 k, .slice a n c]] w (Ok fun v w' => ∃ u, v = .tuple #[u, .int .i64 (frPut k body).2] ∧ New cU8 5 w (frPut k body).1 u w') := by
  have hn := hb.len
  refine L_frame_Put (PA.mk fun w1 k1 s1 g1 => ⟨a, n, c, cell_at g1 rfl, _, cell_at g1 rfl, PIf.dec (fun h => ?_) (fun h1 => ⟨_, cell_at g1 rfl, PIf.dec (fun h => ?_) (fun h2 => PIf.dec (fun h => ?_) (fun h3 => ?_))⟩)⟩)
  · rw [show frPut k body = ([], 2) by unfold frPut; rw [if_pos (by omega)]]
    exact Ok.mk ⟨_, rfl, none, 0, 0, fun _ => False, rfl, Lst.nil w1, k1, fun _ h => h.elim⟩
  · rw [show frPut k body = ([], 2) by unfold frPut; rw [if_pos (by omega)]]
    exact Ok.mk ⟨_, rfl, none, 0, 0, fun _ => False, rfl, Lst.nil w1, k1, fun _ h => h.elim⟩
  · rw [show frPut k body = ([], 5) by unfold frPut; rw [if_neg (by omega), if_pos (by omega)]]
    exact Ok.mk ⟨_, rfl, none, 0, 0, fun _ => False, rfl, Lst.nil w1, k1, fun _ h => h.elim⟩
  rw [show frPut k body = (frBytes k body, 0) by unfold frPut; rw [if_neg (by omega), if_neg (by omega)]]
  refine ⟨_, cell_at g1 rfl, PA.mk fun w2 k2 s2 g2 => ⟨a, n, c, cell_at (k2.get g1 id) rfl, PA.mk fun w3 k3 s3 g3 => ?_⟩⟩
  have e16 : iShr .i64 ((n : Nat) : Int) 16 = ((n / 65536 : Nat) : Int) := shrN (k := .i64) (u := n) (m := 16) (by decide)
  have e8 : iShr .i64 ((n : Nat) : Int) 8 = ((n / 256 : Nat) : Int) := shrN (k := .i64) (u := n) (m := 8) (by decide)
  have ek : k = ((k.toNat : Nat) : Int) := by omega
  have hhd : w2.heap[w1.heap.size]? = some (.cells (bytesV [UInt8.ofNat k.toNat, UInt8.ofNat (body.length / 65536), UInt8.ofNat (body.length / 256), UInt8.ofNat body.length]).toArray 5 (0, 0)) := by
    rw [g2, e16, e8, ek, wrapByte, wrapByte, wrapByte, wrapByte, hn]; simp [bytesV]
  have r1 : Row cU8 1 w3 (fun b => D b ∨ b = w1.heap.size) (some ⟨w1.heap.size, 0, none⟩) 4 [UInt8.ofNat k.toNat, UInt8.ofNat (body.length / 65536), UInt8.ofNat (body.length / 256), UInt8.ofNat body.length] :=
    (row_bytes (f := (0, 0)) [UInt8.ofNat k.toNat, UInt8.ofNat (body.length / 65536), UInt8.ofNat (body.length / 256), UInt8.ofNat body.length] (k3.get hhd id) (by simp)).mono fun b hb => .inr hb
  have r2 : Row cU8 1 w3 (fun b => D b ∨ b = w1.heap.size) a n body := (hb.grew ((k1.then k2).then k3)).mono fun b hb => .inl hb
  refine PC.ok (slices_Concat2 g3 r1 r2 (fun b hb => hb.elim (fun h => by have := hD b h; omega) fun h => by omega) (by omega) (by unfold Big; omega)) ?_
  rintro _ w4 ⟨a4, n4, c4, F4, rfl, ho4, k4, hF4⟩
  have hhead : [UInt8.ofNat k.toNat, UInt8.ofNat (body.length / 65536), UInt8.ofNat (body.length / 256), UInt8.ofNat body.length] ++ body = frHead k body := rfl
  rw [hhead] at ho4
  have hl4 := ho4.len (by decide)
  have hhl : (frHead k body).length = 4 + body.length := by simp [frHead]; omega
  have kw4 : Grew w w4 := ((k1.then k2).then k3).then k4
  refine ⟨_, _, _, rfl, PC.ok (crc_Sum (ht.grew kw4) (ho4.row (bytes := 1) (by decide) (by rw [hhl]; unfold Big; omega))) ?_⟩
  rintro _ w5 ⟨rfl, hd5⟩
  have k5 : Grew w4 w5 := hd5.keep
  refine ⟨_, rfl, ?_⟩
  generalize hs : (crcV (frHead k body)).toNat = s
  have e24 : iShr .u32 (s : Int) 24 = ((s / 16777216 : Nat) : Int) := shrN (k := .u32) (u := s) (m := 24) (by decide)
  have e16' : iShr .u32 (s : Int) 16 = ((s / 65536 : Nat) : Int) := shrN (k := .u32) (u := s) (m := 16) (by decide)
  have e8' : iShr .u32 (s : Int) 8 = ((s / 256 : Nat) : Int) := shrN (k := .u32) (u := s) (m := 8) (by decide)
  rw [e24, e16', e8', wrapByte, wrapByte, wrapByte, wrapByte]
  refine PA.mk fun w6 k6 s6 g6 => ?_
  have htl : w6.heap[w5.heap.size]? = some (.cells (bytesV (be4 s ++ [10])).toArray 5 (0, 0)) := by rw [g6]; rfl
  have ho6 := (ho4.grew k5).grew k6
  have hlt : w4.heap.size ≤ w5.heap.size := k5.size
  refine appRow ho6 slU8 (row_bytes (be4 s ++ [10]) htl (by simp [be4])) (fun b e => ⟨by omega, fun e2 => by have := ho4.dom b (ho4.self b e2); omega⟩) (by rw [hhl]; unfold Big; simp [be4]; omega) (by rw [hhl]; unfold maxLen; simp [be4]; omega) fun a7 c7 w7 F7 ho7 hk7 _ hs7 => ?_
  refine ⟨_, _, _, rfl, Ok.mk ⟨_, rfl, a7, _, c7, fun b => blk a7 = some b, rfl, ?_, ?_, ?_⟩⟩
  · have h7 := ho7.alone
    have e : frBytes k body = frHead k body ++ (be4 s ++ [10]) := by unfold frBytes; rw [hs, List.append_assoc]
    rw [e]; exact h7
  · exact ((kw4.then k5).then k6).new hk7 fun b hb => .inr (by have := hF4 b (ho4.self b hb); have := k1.size; have := k2.size; have := k3.size; omega)
  · intro b hb
    have hsz : w.heap.size ≤ w3.heap.size := by omega
    rcases hs7 b hb with h | h
    · have := hF4 b h; omega
    · have := kw4.size; omega

theorem frame_wrong {w : World} {D : Nat → Prop} {a : Option Addr} {n c : Nat} {bs : List UInt8} (ht : Tabs w) (hb : Row cU8 1 w D a n bs) (hcap : n ≤ c) :
    Calls Tryz.prog F_frame_wrong #[.slice a n c] w (Ok fun v w' => v = .tuple #[.int .i64 (((frGet bs).n - 9 : Nat) : Int), .int .i64 (frGet bs).no] ∧ Drew w w') := by
  have hn := hb.len
  have hbig := hb.big
  unfold Big at hbig
  generalize hm : (bs.getD 1 0).toNat * 65536 + (bs.getD 2 0).toNat * 256 + (bs.getD 3 0).toNat = m
  have hf := frGet_eq bs m hm
  refine L_frame_wrong (PIf.dec (fun h => ?_) (fun h4 => ?_))
  · rw [hf, if_pos (by omega)]
    exact Ok.mk ⟨rfl, Drew.refl w⟩
  rw [if_neg (show ¬ bs.length < 4 by omega)] at hf
  refine ⟨by omega, by omega, by omega, PC.ok (frame_number (bs := (bs.take 4).drop 1) (hb.part (lo := 1) (hi := 4) (cap := c) (by omega) (by omega) hcap) (by decide)) ?_⟩
  rintro _ w1 ⟨rfl, rfl⟩
  have hval : valB ((bs.take 4).drop 1) = m := by
    rw [take4 (by omega)]
    show valB [bs.getD 1 0, bs.getD 2 0, bs.getD 3 0] = m
    simp only [valB, List.foldl]
    omega
  have hmlt : m < 16777216 := by
    have h1 := (bs.getD 1 0).toNat_lt; have h2 := (bs.getD 2 0).toNat_lt; have h3 := (bs.getD 3 0).toNat_lt
    omega
  rw [hval]
  obtain ⟨b5, o6, x, rfl, hx, _, hc⟩ := hb.at1 (i := 0) (by omega)
  have hx0 : bs.getD 0 0 = x := by rw [List.getD_eq_getElem?_getD, hx]; rfl
  have ew : IntKind.wrap .i64 (m : Int) = (m : Int) := wrap_i64 (by unfold I64; omega)
  have e4 : IntKind.wrap .i64 (4 + (m : Int)) = ((4 + m : Nat) : Int) := by rw [wrap_i64 (by unfold I64; omega)]; omega
  have e9 : IntKind.wrap .i64 (((4 + m : Nat) : Int) + 5) = ((4 + m + 5 : Nat) : Int) := by rw [wrap_i64 (by unfold I64; omega)]; omega
  refine ⟨_, rfl, b5, o6, rfl, by omega, by omega, _, hc, ?_⟩
  rw [ew, e4, e9]
  refine PIf.eqI (fun h => ?_) (fun h0 => PIf.dec (fun h => ?_) (fun hmb => PIf.dec (fun h => ?_) (fun hlen => ?_)))
  · rw [hf, hx0, if_pos (UInt8.toNat_inj.1 (by have : x.toNat = 0 := by omega
                                               rw [this]; rfl))]
    exact Ok.mk ⟨rfl, Drew.refl w⟩
  · rw [hf, hx0, if_neg (by rintro rfl; exact h0 rfl), if_pos (by omega)]
    exact Ok.mk ⟨rfl, Drew.refl w⟩
  · rw [hf, hx0, if_neg (by rintro rfl; exact h0 rfl), if_neg (by omega), if_pos (by omega)]
    exact Ok.mk ⟨rfl, Drew.refl w⟩
  rw [hx0, if_neg (by rintro rfl; exact h0 rfl), if_neg (show ¬ 65536 < m by omega), if_neg (show ¬ bs.length < m + 9 by omega)] at hf
  have hsum := fr_sum (b := bs) (n := m) (by omega) hm (by omega)
  rw [hx0] at hsum
  refine ⟨by omega, by omega, by omega, by omega, by omega, fun w8 hd8 w10 hd10 => ⟨by omega, by omega, ?_⟩⟩
  have k10 : Grew w w10 := (hd8.then hd10).keep
  have hb10 := hb.grew k10
  refine PC.ok (crc_Sum (ht.grew k10) (hb10.take (m := 4 + m) (by omega))) ?_
  rintro _ w12 ⟨rfl, hd12⟩
  have hb12 := hb10.grew hd12.keep
  have hpart := hb12.part (lo := 4 + m) (hi := 4 + m + 4) (cap := c) (by omega) (by omega) hcap
  rw [show 4 + m + 4 - (4 + m) = 4 by omega] at hpart
  refine ⟨_, rfl, PC.ok (frame_number hpart (by decide)) ?_⟩
  rintro _ w15 ⟨rfl, rfl⟩
  have hdr : (bs.take (4 + m + 4)).drop (4 + m) = (bs.drop (4 + m)).take 4 := by rw [List.drop_take]; congr 1; omega
  rw [hdr]
  have hdd : Drew w w12 := (hd8.then hd10).then hd12
  refine ⟨_, rfl, PIf.neI (fun hne => ?_) (fun heq => ?_)⟩
  · rw [hf, if_neg (fun hc => hne (by rw [(hsum.1 hc).1]))]
    exact Ok.mk ⟨rfl, hdd⟩
  obtain ⟨b7, o8, y, hy0, hy, _, hcy⟩ := hb12.at1 (i := 8 + m) (by omega)
  cases hy0
  have hy1 : bs.getD (8 + m) 0 = y := by rw [List.getD_eq_getElem?_getD, hy]; rfl
  have hsub : subA (some ⟨b5, o6, none⟩) (4 + m) c 1 = some ⟨b5, o6 + (4 + m), none⟩ := by
    unfold subA
    rw [if_neg (by omega)]
    simp [Addr.add_lit]
  refine ⟨b5, o6 + (4 + m), hsub, by omega, by omega, _, by rw [show o6 + (4 + m) + Int.toNat 4 = o6 + (8 + m) by show o6 + (4 + m) + 4 = _; omega]; exact hcy, PIf.neI (fun hne => ?_) (fun he => ?_)⟩
  · rw [hf, if_neg (fun hc => hne (by rw [← hy1, (hsum.1 hc).2]; rfl))]
    exact Ok.mk ⟨rfl, hdd⟩
  · have hy10 : y = 10 := UInt8.toNat_inj.1 (by show y.toNat = 10; omega)
    rw [hf, if_pos (hsum.2 ⟨by omega, hy1.trans hy10⟩)]
    exact Ok.mk ⟨by simp, hdd⟩

theorem frame_Get {w : World} {D : Nat → Prop} {a : Option Addr} {n c : Nat} {bs : List UInt8} (ht : Tabs w) (hb : Row cU8 1 w D a n bs) (hcap : n ≤ c) (hD : ∀ b, D b → b < w.heap.size) :
    Calls Tryz.prog F_frame_Get #[.slice a n c] w (Ok fun v w' => ∃ a' n' c' F, v = .tuple #[.agg #[.int .i64 (frGet bs).kind, .slice a' n' c'], .int .i64 ((frGet bs).n : Int), .int .i64 (frGet bs).no] ∧
      Lst cU8 5 F w' a' n' c' (frGet bs).body ∧ Grew w w' ∧ ∀ b, F b → w.heap.size ≤ b) := by
  have hn := hb.len
  have hbig := hb.big
  unfold Big at hbig
  refine L_frame_Get (PA.mk fun w1 k1 s1 g1 => PC.ok (frame_wrong (ht.grew k1) (hb.grew k1) hcap) ?_)
  rintro _ w2 ⟨rfl, hd2⟩
  have k2 : Grew w1 w2 := hd2.keep
  have g2 := k2.get g1 id
  refine ⟨_, _, rfl, PIf.neI (fun hne => ?_) (fun he => ?_)⟩
  · have hz : (frGet bs).kind = 0 ∧ (frGet bs).body = [] ∧ (frGet bs).n = 0 := by
      rw [frGet_eq bs _ rfl] at hne ⊢
      repeat' split
      all_goals first | exact ⟨rfl, rfl, rfl⟩ | skip
      rename_i h1 h2 h3 h4 h5
      rw [if_neg h1, if_neg h2, if_neg h3, if_neg h4, if_pos h5] at hne
      exact absurd rfl hne
    rw [hz.1, hz.2.1, hz.2.2]
    refine storeAll [.int .i64 0, .slice none 0 0] g2 rfl fun w3 k3 s3 g3 => ⟨0, none, 0, 0, cell_at g3 rfl, cell_at g3 rfl, Ok.mk ⟨none, 0, 0, fun _ => False, rfl, Lst.nil w3, ?_, fun _ h => h.elim⟩⟩
    exact (k1.then k2).new k3 fun b hb => .inr (by omega)
  obtain ⟨hle, h9, hbl⟩ := frGet_no he
  generalize hnn : (frGet bs).n = N at hle h9 hbl
  obtain ⟨hk0, hbd0, hl4⟩ := frGet_ok he
  rw [hnn] at hbd0
  have hkb : (frGet bs).kind = ((bs.getD 0 0).toNat : Int) ∧ (frGet bs).body = (bs.drop 4).take (N - 9) := ⟨hk0, hbd0⟩
  intro w3 hd3
  have k3 : Grew w2 w3 := hd3.keep
  have hk13 : Grew w w3 := (k1.then k2).then k3
  have hb3 := hb.grew hk13
  obtain ⟨b5, o6, x, rfl, hx, _, hc⟩ := hb3.at1 (i := 0) (by omega)
  obtain ⟨b5', o6', x', es, hxe, _, hDb, _⟩ := hb3.atN (i := 0) (by omega)
  cases hxe
  have hx0 : bs.getD 0 0 = x := by rw [List.getD_eq_getElem?_getD, hx]; rfl
  have e4 : IntKind.wrap .i64 (4 + ((N - 9 : Nat) : Int)) = ((4 + (N - 9) : Nat) : Int) := by rw [wrap_i64 (by unfold I64; omega)]; omega
  have e9 : IntKind.wrap .i64 (((4 + (N - 9) : Nat) : Int) + 5) = (N : Int) := by rw [wrap_i64 (by unfold I64; omega)]; omega
  refine ⟨fun b => w.heap.size ≤ b, b5, o6, rfl, by omega, by omega, by have := hD b5 hDb; omega, _, hc, ?_⟩
  rw [e4, e9]
  refine ⟨by omega, by omega, by omega, ?_⟩
  have hpart := hb3.part (lo := 4) (hi := 4 + (N - 9)) (cap := c) (by omega) (by omega) hcap
  refine PC.ok (slices_Clone_B hpart (fun b h => by have := hD b h; have := hk13.size; omega)) ?_
  rintro _ w4 ⟨a4, n4, c4, F4, rfl, ho4, k4, hF4⟩
  have hs3 : w1.heap.size ≤ w3.heap.size := (k2.then k3).size
  have g4 := k4.get (k3.get g2 id) id
  refine ⟨_, _, _, rfl, k4.keep, ?_⟩
  refine storeAll [.int .i64 (IntKind.wrap .i64 (x.toNat : Int)), .slice a4 n4 c4] g4 rfl fun w5 k5 s5 g5 => ⟨k5.mono fun b _ e => by omega, _, _, _, _, cell_at g5 rfl, cell_at g5 rfl, Ok.mk ⟨a4, n4, c4, F4, ?_, ?_, ?_, ?_⟩⟩
  · rw [wrap_i64u8, hkb.1, hx0, he]
  · rw [hkb.2, ← show (bs.take (4 + (N - 9))).drop 4 = (bs.drop 4).take (N - 9) by rw [List.drop_take]; congr 1; omega]
    exact ho4.keep k5 fun b hb e => by have := hF4 b hb; omega
  · exact (hk13.then k4).new k5 fun b hb => .inr (by omega)
  · intro b hb; have := hF4 b hb; omega
end Go.Proofs.YtpbpjojdfcdbbaaGreatDoor
