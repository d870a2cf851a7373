/- pack: a reader of numbers: where it stands, what is taken, what halts it -/
import Derived.Test.YtpbpjojdfcdbbaaGreatDoorPack
import Derived.Test.YtpbpjojdfcdbbaaGreatDoorOwn
namespace Go.Lift
open Go
set_option linter.unusedVariables false
theorem wrap_i64u8 (x : UInt8) : IntKind.wrap .i64 (x.toNat : Int) = x.toNat := wrap_i64 (by have := x.toNat_lt; unfold I64; omega)
/-- of a head: how many digits, below 0 or not -/
def kOf (h : UInt8) : Nat := if 16 < h.toNat then h.toNat - 16 else h.toNat
theorem head_facts (h : UInt8) : (IntKind.wrap .i64 (iAndNot .u8 (h.toNat : Int) 16) ≤ 8 ∧ ((h.toNat : Int) ≠ 16) ↔ kOf h ≤ 8) ∧ (kOf h ≤ 8 → IntKind.wrap .i64 (iAndNot .u8 (h.toNat : Int) 16) = (kOf h : Int) ∧ iAnd .u8 (h.toNat : Int) 16 = if 16 < h.toNat then 16 else 0) := by
  have hh : (List.range 256).all (fun n => decide ((IntKind.wrap .i64 (iAndNot .u8 (n : Int) 16) ≤ 8 ∧ ((n : Int) ≠ 16) ↔ (if 16 < n then n - 16 else n) ≤ 8) ∧ ((if 16 < n then n - 16 else n) ≤ 8 → IntKind.wrap .i64 (iAndNot .u8 (n : Int) 16) = ((if 16 < n then n - 16 else n : Nat) : Int) ∧ iAnd .u8 (n : Int) 16 = if 16 < n then 16 else 0))) = true := by decide +kernel
  have := List.all_eq_true.1 hh h.toNat (List.mem_range.2 h.toNat_lt)
  exact of_decide_eq_true this
theorem or_digit64 {u d : Nat} (hu : u < 72057594037927936) (hd : d < 256) : iOr .u64 (iShl .u64 (u : Int) 8) (IntKind.wrap .u64 (d : Int)) = ((u * 256 + d : Nat) : Int) := by
  have e1 : iShl .u64 (u : Int) 8 = ((u * 256 : Nat) : Int) := by
    unfold iShl
    have : min (Int.toNat 8) (IntKind.bits .u64) = 8 := by decide
    rw [this, wrap_u64]
    have : ((2 : Int) ^ 8) = 256 := by decide
    rw [this]; omega
  rw [e1, wrap_u64n (by omega)]
  unfold iOr
  show IntKind.wrap .u64 ((BitVec.ofInt 64 ((u * 256 : Nat) : Int) ||| BitVec.ofInt 64 (d : Int)).toNat : Int) = _
  have h2 : u * 256 ||| d = u * 256 + d := by
    have := (Nat.shiftLeft_add_eq_or_of_lt (a := u) (i := 8) (b := d) (by omega)).symm
    rwa [Nat.shiftLeft_eq] at this
  rw [BitVec.ofInt_natCast, BitVec.ofInt_natCast, BitVec.toNat_or, BitVec.toNat_ofNat, BitVec.toNat_ofNat, Nat.mod_eq_of_lt (by omega), Nat.mod_eq_of_lt (by omega), h2, wrap_u64n (by omega)]
theorem valB_take {l : List UInt8} {j : Nat} {d : UInt8} (h : l[j]? = some d) : valB (l.take (j + 1)) = valB (l.take j) * 256 + d.toNat := by
  rw [List.take_add_one, h]; exact valB_append _ _
theorem valB_take_lt (l : List UInt8) {j m : Nat} (h : j ≤ m) : valB (l.take j) < 256 ^ m := by
  have h1 := valB_lt (l.take j)
  have h2 : 256 ^ (l.take j).length ≤ 256 ^ m := Nat.pow_le_pow_right (by omega) (by simp; omega)
  omega

theorem rdNum_long {h : UInt8} {t : List UInt8} (hk : ¬ kOf h ≤ 8) : rdNum (h :: t) = (5, 0, 0) := by
  unfold rdNum kOf at *; simp only; rw [if_pos (by omega)]
theorem rdNum_short {h : UInt8} {t : List UInt8} (hk : kOf h ≤ 8) (hs : t.length < kOf h) : rdNum (h :: t) = (4, 0, 0) := by
  unfold rdNum kOf at *; simp only; rw [if_neg (by omega), if_pos hs]
theorem rdNum_bad {h : UInt8} {t : List UInt8} (hk : kOf h ≤ 8) (hs : ¬ t.length < kOf h) (hb : (0 < kOf h ∧ t.head? = some 0) ∨ (¬ 16 < h.toNat ∧ 2 ^ 63 ≤ valB (t.take (kOf h))) ∨ (16 < h.toNat ∧ 2 ^ 63 < valB (t.take (kOf h)))) : rdNum (h :: t) = (5, 0, 0) := by
  unfold rdNum kOf at *; simp only; rw [if_neg (by omega), if_neg hs, if_pos hb]
theorem rdNum_good {h : UInt8} {t : List UInt8} (hk : kOf h ≤ 8) (hs : ¬ t.length < kOf h) (hb : ¬ ((0 < kOf h ∧ t.head? = some 0) ∨ (¬ 16 < h.toNat ∧ 2 ^ 63 ≤ valB (t.take (kOf h))) ∨ (16 < h.toNat ∧ 2 ^ 63 < valB (t.take (kOf h))))) :
    rdNum (h :: t) = (0, if 16 < h.toNat then -(valB (t.take (kOf h)) : Int) else valB (t.take (kOf h)), kOf h + 1) := by
  unfold rdNum kOf at *; simp only; rw [if_neg (by omega), if_neg hs, if_neg hb]
end Go.Lift
namespace Go.Proofs.YtpbpjojdfcdbbaaGreatDoor
open Go.Lift
set_option linter.unusedVariables false
set_option maxRecDepth 20000

/-- block p is a reader, in the blocks of F -/
structure RdAt (w : World) (p : Nat) (F : Nat → Prop) (r : RdV) : Prop where
  body : ∃ a n cap G, w.heap[p]? = some (.cells #[.slice a n cap, .int .i64 (r.pos : Int), .int .i64 r.why] 137 (0, 0)) ∧ Lst cU8 5 G w a n cap r.bytes ∧ (∀ b, G b → F b ∧ b ≠ p)
  self : F p
  dom : ∀ b, F b → b < w.heap.size
  fit : r.Fit
  big : r.bytes.length ≤ Big

theorem RdAt.keep {S F : Nat → Prop} {w w' : World} {p : Nat} {r : RdV} (h : RdAt w p F r) (hk : Keep S w w') (hd : ∀ b, F b → ¬ S b) : RdAt w' p F r := by
  obtain ⟨a, n, cap, G, h1, h2, h3⟩ := h.body
  exact ⟨⟨a, n, cap, G, hk.get h1 (hd _ h.self), h2.keep hk (fun b hb => hd b (h3 b hb).1), h3⟩, h.self, fun b hb => Nat.lt_of_lt_of_le (h.dom b hb) hk.size, h.fit, h.big⟩
theorem RdAt.grew {F : Nat → Prop} {w w' : World} {p : Nat} {r : RdV} (h : RdAt w p F r) (hk : Grew w w') : RdAt w' p F r := h.keep hk fun _ _ h => h
/-- its two numbers are turned -/
theorem RdAt.turn {F : Nat → Prop} {w w' : World} {p : Nat} {r r' : RdV} (h : RdAt w p F r) {a : Option Addr} {n cap : Nat} {G : Nat → Prop} (hl : Lst cU8 5 G w a n cap r.bytes) (hG : ∀ b, G b → F b ∧ b ≠ p) (hk : Keep (· = p) w w')
    (hg : w'.heap[p]? = some (.cells #[.slice a n cap, .int .i64 (r'.pos : Int), .int .i64 r'.why] 137 (0, 0))) (hb : r'.bytes = r.bytes) (hf : r'.Fit) : RdAt w' p F r' :=
  ⟨⟨a, n, cap, G, hg, by rw [hb]; exact hl.keep hk fun b hb => (hG b hb).2, hG⟩, h.self, fun b hb => Nat.lt_of_lt_of_le (h.dom b hb) hk.size, hf, by rw [hb]; exact h.big⟩

theorem pack_From {a : Option Addr} {n c : Nat} {bs : List UInt8} {w : World} {D : Nat → Prop} (hb : Row cU8 1 w D a n bs) (hD : ∀ b, D b → b < w.heap.size) :
    Calls Tryz.prog F_pack_From #[.slice a n c] w (Ok fun v w' => ∃ p F, v = .pointer (some ⟨p, 0, none⟩) ∧ RdAt w' p F ⟨bs, 0, 0⟩ ∧ Grew w w' ∧ ∀ b, F b → w.heap.size ≤ b) := by
  have hl := hb.len
  have hbig := hb.big
  refine L_pack_From (appRow0 (Lst.nil w) slU8 hb (fun b h => ⟨hD b h, by simp [blk]⟩) (by simp; omega) (by unfold Big at hbig; unfold maxLen; simp; omega) fun a1 c1 w1 F1 ho1 hk1 _ hs1 => ?_)
  refine ⟨_, _, _, rfl, PA.mk fun w2 k2 s2 g2 => ?_⟩
  have hk : Grew w w1 := hk1.mono fun b _ hb => by simp [blk] at hb
  have ho := ho1.alone
  rw [List.nil_append] at ho
  have hself : ∀ b, blk a1 = some b → w.heap.size ≤ b := fun b hb => (hs1 b hb).elim (fun h => h.elim) id
  refine Ok.mk ⟨w1.heap.size, fun b => b = w1.heap.size ∨ blk a1 = some b, rfl, ⟨⟨a1, _, c1, fun b => blk a1 = some b, g2, ho.grew k2, fun b hb => ⟨.inr hb, ?_⟩⟩, .inl rfl, ?_, ⟨Nat.zero_le _, .inl rfl⟩, by rw [← hl]; omega⟩, hk.then k2, ?_⟩
  · have := ho.dom b hb; omega
  · rintro b (rfl | hb)
    · omega
    · have := ho.dom b hb; have := k2.size; omega
  · rintro b (rfl | hb)
    · exact hk.size
    · exact hself b hb

/-- what halts a reading -/
def Pan (x : Int) : List PanicEntry := [{ v := .iface 165 (.int .i64 x), recovered := false }]

theorem pack_must {b : Bool} {x : Int} {w : World} {κ : Value → World → Prop} {ε : List PanicEntry → World → Prop} (h1 : b = true → κ (.tuple #[]) w) (h2 : b = false → ε (Pan x) w) :
    PC Tryz.prog F_pack_must #[.bool b, .int .i64 x] w κ ε := by
  cases b
  · refine L_pack_must (PIf.tt rfl ?_)
    exact PRun.panics (v := .iface 165 (.int .i64 x)) rfl (h2 rfl)
  · exact L_pack_must (PIf.ff rfl (h1 rfl))

/-- a reading came to its end, or was halted -/
def Red (w : World) (p : Nat) (F : Nat → Prop) (r : RdV) (no : Int) (v : Value → World → Prop) (k : Nat) : Ending → World → Prop := fun e w' =>
  ((no = 0 ∧ RdAt w' p F ⟨r.bytes, r.pos + k, r.why⟩ ∧ ∃ u, e = .returned u ∧ v u w') ∨ (no ≠ 0 ∧ e = .panicked (Pan no) ∧ ∃ q, RdAt w' p F ⟨r.bytes, q, r.why⟩)) ∧ Keep (· = p) w w' ∧ w'.heap.size = w.heap.size

theorem PC.red {g : FuncId} {args : Array Value} {w : World} {p : Nat} {F : Nat → Prop} {r : RdV} {no : Int} {v : Value → World → Prop} {k : Nat} {κ : Value → World → Prop} {ε : List PanicEntry → World → Prop} (h : Calls Tryz.prog g args w (Red w p F r no v k))
    (h1 : no = 0 → ∀ u w', RdAt w' p F ⟨r.bytes, r.pos + k, r.why⟩ → v u w' → Keep (· = p) w w' → w'.heap.size = w.heap.size → κ u w')
    (h2 : no ≠ 0 → ∀ w', (∃ q, RdAt w' p F ⟨r.bytes, q, r.why⟩) → Keep (· = p) w w' → w'.heap.size = w.heap.size → ε (Pan no) w') : PC Tryz.prog g args w κ ε :=
  h.mono fun e w' ⟨h, hk, hs⟩ => by
    rcases h with ⟨h0, hr, u, rfl, hv⟩ | ⟨h0, rfl, hr⟩
    · exact h1 h0 u w' hr hv hk hs
    · exact h2 h0 w' hr hk hs

theorem rd_take {w : World} {p : Nat} {F : Nat → Prop} {r : RdV} {m : Nat} (h : RdAt w p F r) (hm : m ≤ 2147483647) :
    Calls Tryz.prog F_pack_Reader_take #[.pointer (some ⟨p, 0, none⟩), .int .i64 (m : Int)] w (Red w p F r (if m ≤ r.bytes.length - r.pos then 0 else 4) (fun v w' => ∃ a c, v = .slice a m c ∧ Row cU8 1 w' F a m ((r.bytes.drop r.pos).take m)) m) := by
  obtain ⟨a, n, cap, G, h1, h2, h3⟩ := h.body
  have hfit := h.fit.pos
  have hbig := h.big
  have hn := h2.len (by decide)
  have hcap := h2.cap_le
  unfold Big at hbig
  refine L_pack_Reader_take fun w4 hd4 => ?_
  have k4 : Grew w w4 := hd4.keep
  have g4 := k4.get h1 id
  have s4 : w4.heap.size = w.heap.size := by rw [hd4.heap]
  refine ⟨p, 0, rfl, a, n, cap, cell_at g4 rfl, p, 0, rfl, _, cell_at g4 rfl, pack_must (fun hb => ?_) (fun hb => ?_)⟩
  · have hb := of_decide_eq_true hb
    rw [wrap_i64 (by unfold I64; omega)] at hb
    refine ⟨rfl, p, 0, rfl, _, cell_at g4 rfl, p, 0, rfl, PS.mk g4 (by simp) fun w5 k5 s5 g5 => ?_⟩
    have hw1 : IntKind.wrap .i64 ((r.pos : Int) + (m : Int)) = ((r.pos + m : Nat) : Int) := by rw [wrap_i64 (by unfold I64; omega)]; omega
    rw [hw1] at g5
    have hw2 : IntKind.wrap .i64 (((r.pos + m : Nat) : Int) - (m : Int)) = (r.pos : Int) := by rw [wrap_i64 (by unfold I64; omega)]; omega
    refine ⟨p, 0, rfl, a, n, cap, cell_at g5 rfl, p, 0, rfl, _, cell_at g5 rfl, p, 0, rfl, _, cell_at g5 rfl, ?_⟩
    rw [hw2]
    refine ⟨by omega, by omega, by omega, fun w6 hd6 => ?_⟩
    have k6 : Grew w5 w6 := hd6.keep
    have hk : Keep (· = p) w w6 := ((k4.keep).then k5).grew k6
    have hre : RdAt w6 p F ⟨r.bytes, r.pos + m, r.why⟩ := h.turn (r' := ⟨r.bytes, r.pos + m, r.why⟩) h2 h3 hk (k6.get g5 id) rfl ⟨by show r.pos + m ≤ r.bytes.length; omega, h.fit.why⟩
    refine ⟨.inl ⟨if_pos (by omega), hre, _, rfl, subA a r.pos cap 1, cap - r.pos, ?_⟩, hk, by rw [hd6.heap, s5, s4]⟩
    simp only [Int.toNat_natCast]
    rw [show r.pos + m - r.pos = m by omega]
    refine ⟨rfl, ?_⟩
    have hrow := (h2.row (bytes := 1) (by decide) (by unfold Big; omega)).part (lo := r.pos) (hi := r.pos + m) (cap := cap) (by omega) (by omega) hcap
    rw [show r.pos + m - r.pos = m by omega] at hrow
    have he : (r.bytes.take (r.pos + m)).drop r.pos = (r.bytes.drop r.pos).take m := by rw [List.drop_take]; congr 1; omega
    rw [he] at hrow
    exact ((hrow.keep hk fun b hb => (h3 b hb).2)).mono fun b hb => (h3 b hb).1
  · intro _ _
    have hb := of_decide_eq_false hb
    rw [wrap_i64 (by unfold I64; omega)] at hb
    have hneg : ¬ m ≤ r.bytes.length - r.pos := by omega
    refine ⟨.inr ⟨by rw [if_neg hneg]; decide, by rw [if_neg hneg], r.pos, ?_⟩, k4.keep, s4⟩
    exact h.grew k4

theorem rd_number {w : World} {p : Nat} {F : Nat → Prop} {r : RdV} (h : RdAt w p F r) :
    Calls Tryz.prog F_pack_Reader_number #[.pointer (some ⟨p, 0, none⟩)] w (Red w p F r r.num.1 (fun v w' => v = .int .i64 r.num.2.1) r.num.2.2) := by
  have hpos := h.fit.pos
  have hrest : (r.bytes.drop r.pos).length = r.bytes.length - r.pos := List.length_drop ..
  generalize hl : r.bytes.drop r.pos = l at hrest
  have hnum : r.num = rdNum l := by unfold RdV.num; rw [hl]
  rw [hnum]
  refine L_pack_Reader_number (PC.red (rd_take (m := 1) h (by omega)) ?_ ?_)
  rotate_left
  · intro h0 w1 hr k1 s1
    have : ¬ 1 ≤ r.bytes.length - r.pos := fun e => h0 (if_pos e)
    rw [if_neg this] 
    have : l = [] := List.eq_nil_of_length_eq_zero (by omega)
    subst this
    exact ⟨.inr ⟨by decide, rfl, hr⟩, k1, s1⟩
  rintro h0 _ w1 hr1 ⟨a1, c1, rfl, hrow1⟩ k1 s1
  have h1le : 1 ≤ r.bytes.length - r.pos := by
    by_cases e : 1 ≤ r.bytes.length - r.pos
    · exact e
    · rw [if_neg e] at h0; cases h0
  rw [hl] at hrow1
  match l, hl, hrest with
  | [], hl, hrest => simp at hrest; omega
  | hd :: t, hl, hrest =>
  have htl : t.length = r.bytes.length - r.pos - 1 := by simp at hrest; omega
  have htd : r.bytes.drop (r.pos + 1) = t := by rw [← List.drop_drop, hl]; rfl
  obtain ⟨b5, o6, x, rfl, hx, _, hc⟩ := hrow1.at1 (i := 0) (by omega)
  obtain rfl : hd = x := by simpa using hx
  obtain ⟨hf1, hf2⟩ := head_facts hd
  refine ⟨_, _, _, rfl, b5, o6, rfl, by omega, by omega, _, hc, ?_⟩
  -- the head
  refine ⟨fun w' => kOf hd ≤ 8 ∧ w' = w1, ?_, ?_⟩
  · have bad : ¬ kOf hd ≤ 8 → ∀ w', w' = w1 → Red w p F r (rdNum (hd :: t)).1 (fun v w' => v = .int .i64 (rdNum (hd :: t)).2.1) (rdNum (hd :: t)).2.2 (.panicked (Pan 5)) w' := by
      rintro hk w' rfl
      rw [rdNum_long hk]
      exact ⟨.inr ⟨by decide, rfl, r.pos + 1, hr1⟩, k1, s1⟩
    refine PIf.dec (fun hle => pack_must (fun hb => ⟨rfl, ?_, rfl⟩) (fun hb => bad ?_ _ rfl)) (fun hle => pack_must (fun hb => (by cases hb)) fun _ => bad ?_ _ rfl)
    · exact hf1.1 ⟨hle, by simpa using hb⟩
    · intro hk
      have := (hf1.2 hk).2
      simp only [bne_eq_false_iff_eq] at hb
      exact this hb
    · intro hk
      exact hle (hf1.2 hk).1
  rintro _ w1 ⟨hk8, rfl⟩
  obtain ⟨hk, hsg⟩ := hf2 hk8
  rw [hk]
  refine PC.red (rd_take (m := kOf hd) hr1 (by omega)) ?_ ?_
  rotate_left
  · intro h0 w2 hr k2 s2
    have hn : ¬ kOf hd ≤ r.bytes.length - (r.pos + 1) := fun e => h0 (if_pos e)
    rw [if_neg hn, rdNum_short hk8 (by omega)]
    exact ⟨.inr ⟨by decide, rfl, hr⟩, k1.then k2, s2.trans s1⟩
  rintro h0 _ w2 hr2 ⟨a2, c2, rfl, hrow2⟩ k2 s2
  have hkl : kOf hd ≤ t.length := by
    by_cases e : kOf hd ≤ r.bytes.length - (r.pos + 1)
    · omega
    · simp only at h0; rw [if_neg e] at h0; cases h0
  change Row cU8 1 w2 F a2 (kOf hd) ((r.bytes.drop (r.pos + 1)).take (kOf hd)) at hrow2
  rw [htd] at hrow2
  have hr2' : RdAt w2 p F ⟨r.bytes, r.pos + (kOf hd + 1), r.why⟩ := by have := hr2; rwa [show r.pos + (kOf hd + 1) = r.pos + 1 + kOf hd by omega]
  have hk12 : Keep (· = p) w w2 := k1.then k2
  have hs12 := s2.trans s1
  have bad : ((0 < kOf hd ∧ t.head? = some 0) ∨ (¬ 16 < hd.toNat ∧ 2 ^ 63 ≤ valB (t.take (kOf hd))) ∨ (16 < hd.toNat ∧ 2 ^ 63 < valB (t.take (kOf hd)))) → ∀ w', w' = w2 → Red w p F r (rdNum (hd :: t)).1 (fun v w' => v = .int .i64 (rdNum (hd :: t)).2.1) (rdNum (hd :: t)).2.2 (.panicked (Pan 5)) w' := by
    rintro hb w' rfl
    rw [rdNum_bad hk8 (by omega) hb]
    exact ⟨.inr ⟨by decide, rfl, _, hr2⟩, hk12, hs12⟩
  refine ⟨_, _, _, rfl, fun w' => ¬ (0 < kOf hd ∧ t.head? = some 0) ∧ w' = w2, ?_, ?_⟩
  · refine PIf.eqI (fun e => pack_must (fun _ => ⟨rfl, fun hc => by omega, rfl⟩) (fun hb => by cases hb)) (fun e => ?_)
    have hpos : 0 < kOf hd := by omega
    obtain ⟨b, o, x, rfl, hx, _, hc⟩ := hrow2.at1 (i := 0) hpos
    have hh : t.head? = some x := by
      rw [List.getElem?_take, if_pos hpos] at hx
      rw [List.head?_eq_getElem?]; exact hx
    refine ⟨b, o, rfl, by omega, by omega, _, hc, pack_must (fun hb => ⟨rfl, fun hc => ?_, rfl⟩) (fun hb => bad (.inl ⟨hpos, ?_⟩) _ rfl)⟩
    · rw [hh] at hc
      have := hc.2
      simp only [Option.some.injEq] at this
      subst this
      simp at hb
    · rw [hh]
      have : (x.toNat : Int) = 0 := by simpa using hb
      exact congrArg some (UInt8.toNat_inj.1 (by have : x.toNat = 0 := by omega
                                                 rw [this]; rfl))
  rintro _ w2 ⟨hh0, rfl⟩
  refine ⟨fun q u i w' => ∃ j : Nat, j ≤ kOf hd ∧ i = j ∧ q = kOf hd - j ∧ w' = w2 ∧ u = (valB (t.take j) : Int), ⟨_, 0, Nat.zero_le _, rfl, rfl, rfl, rfl⟩, ?_⟩
  rintro q u i _ w2 ⟨j, hj, rfl, rfl, rfl, rfl⟩
  refine PIf.dec (fun h1 => ?_) (fun h1 => ?_)
  · have hjk : j < kOf hd := by omega
    obtain ⟨b, o, x, rfl, hx, _, hc⟩ := hrow2.at1 (i := j) hjk
    rw [List.getElem?_take, if_pos hjk] at hx
    refine ⟨b, o, rfl, by omega, by omega, _, hc, _, by omega, j + 1, by omega, wrap_succ (by omega), rfl, rfl, ?_⟩
    have hlt := valB_take_lt t (j := j) (m := 7) (by omega)
    rw [or_digit64 (by have : (256 : Nat) ^ 7 = 72057594037927936 := by decide
                       omega) x.toNat_lt, valB_take hx]
  · obtain rfl : j = kOf hd := by omega
    have hlt := valB_take_lt t (j := kOf hd) (m := 8) (by omega)
    have h64 : (256 : Nat) ^ 8 = 18446744073709551616 := by decide
    have h63 : (2 : Nat) ^ 63 = 9223372036854775808 := by decide
    rw [hsg]
    refine PIf.eqI (fun e => ?_) (fun e => ?_)
    · have hns : ¬ 16 < hd.toNat := by intro hc; rw [if_pos hc] at e; cases e
      refine pack_must (fun hb => ⟨rfl, ?_⟩) (fun hb => bad (.inr (.inl ⟨hns, ?_⟩)) _ rfl)
      · have hb := of_decide_eq_true hb
        rw [rdNum_good hk8 (by omega) (fun hc => hc.elim hh0 fun hc => hc.elim (fun hc => by omega) fun hc => hns hc.1), if_neg hns]
        exact ⟨.inl ⟨rfl, hr2', _, rfl, by rw [wrap_i64 (by unfold I64; omega)]⟩, hk12, hs12⟩
      · have hb := of_decide_eq_false hb
        omega
    · have hns : 16 < hd.toNat := by
        by_cases hc : 16 < hd.toNat
        · exact hc
        · rw [if_neg hc] at e; exact absurd rfl e
      refine pack_must (fun hb => ⟨rfl, ?_⟩) (fun hb => bad (.inr (.inr ⟨hns, ?_⟩)) _ rfl)
      · have hb := of_decide_eq_true hb
        rw [rdNum_good hk8 (by omega) (fun hc => hc.elim hh0 fun hc => hc.elim (fun hc => hc.1 hns) fun hc => by omega), if_pos hns]
        refine ⟨.inl ⟨rfl, hr2', _, rfl, ?_⟩, hk12, hs12⟩
        have e1 : IntKind.wrap .i64 (IntKind.wrap .u64 (0 - (valB (t.take (kOf hd)) : Int))) = -(valB (t.take (kOf hd)) : Int) := by
          unfold IntKind.wrap
          simp [IntKind.signed, IntKind.bits]
          omega
        rw [e1]
      · have hb := of_decide_eq_false hb
        omega
end Go.Proofs.YtpbpjojdfcdbbaaGreatDoor
