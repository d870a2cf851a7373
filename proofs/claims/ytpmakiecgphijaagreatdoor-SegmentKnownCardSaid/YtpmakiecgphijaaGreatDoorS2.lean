/- SegOther, KitRow, SegKnown -/
import Derived.Test.YtpmakiecgphijaaGreatDoorS1
import Derived.Test.YtpmakiecgphijaaGreatDoorBytes8
import Derived.Test.YtpmakiecgphijaaGreatDoorCrc
/- SegmentOther: the walk -/
namespace Go.Proofs.YtpmakiecgphijaaGreatDoor
open Go.Lift
set_option linter.unusedVariables false
set_option maxRecDepth 20000

def s0 : ByteArray := ⟨#[115, 101, 103, 46, 48]⟩
theorem s0_name : txt (segName 0) = s0 := by decide +kernel

/-- what is loaded, and how many bytes it has -/
def otherV (l : List EventV) (kind : Int) (body : List UInt8) : List EventV × Nat :=
  if kind = 1 ∧ (evGet body).2 = 0 then (l ++ [(evGet body).1, evSome 1], (evFrs l).length + (frBytes kind body).length + (evFr (evSome 1)).length) else (l, (evFrs l).length)
theorem other_load {l : List EventV} {kind : Int} {body : List UInt8} (hok : ∀ e ∈ l, e.Ok ∧ e.deps.length ≤ 64) (h1 : 1 ≤ kind) (h2 : kind ≤ 255) (h3 : body.length ≤ 65536) :
    segLoad (evFrs l ++ frBytes kind body ++ evFr (evSome 1)) = otherV l kind body := by
  have o1 := evSome_ok (n := 1) (by decide) (by decide)
  have e1 : segLoad (evFr (evSome 1)) = ([evSome 1], (evFr (evSome 1)).length) := by
    have := segLoad_ev o1.1 o1.2 []
    rwa [List.append_nil, segLoad_nil] at this
  rw [List.append_assoc, segLoad_evs hok]
  unfold otherV
  by_cases h : kind = 1 ∧ (evGet body).2 = 0
  · rw [if_pos h]
    obtain ⟨rfl, hb⟩ := h
    rw [segLoad_one h3 hb, e1, frBytes_length]
    simp [Nat.add_assoc]
  · rw [if_neg h, segLoad_other h1 h2 h3 h]
    simp

theorem SegmentOther {la ba : Option Addr} {ln lc bn bc : Nat} {l : List EventV} {body : List UInt8} {kind : Int} {w : World} {Dl Db : Nat → Prop} (ha : Row cEv 96 w Dl la ln l) (hDl : ∀ b, Dl b → b < w.heap.size) (hk : I64 kind) (hb : Row cU8 1 w Db ba bn body) (hDb : ∀ b, Db b → b < w.heap.size) (hw : Laid w) :
    Calls Tryz.prog F_law20_SegmentOther #[.slice la ln lc, .int .i64 kind, .slice ba bn bc] w (Ok fun v w' => v = .bool true ∧ Grew w w') := by
  have ha0 := ha.len
  have hb0 := hb.len
  refine L_law20_SegmentOther (PC.ok (law10_Long ha) ?_)
  rintro _ _ ⟨rfl, rfl⟩
  refine ⟨_, rfl, PIf.dec (fun h => fin hw (Keep.refl _)) (fun hlong => PIf.dec (fun h => fin hw (Keep.refl _)) (fun h30 => PIf.dec (fun h => fin hw (Keep.refl _)) (fun hbn => PC.ok (new_ok (Keep.refl w) (by omega) (by omega)) ?_)))⟩
  rintro _ w1 ⟨p, rfl, h1, -⟩
  replace h1 := h1.mono (Y := no) fun _ h => h.elim
  refine ⟨_, _, rfl, PIf.ff rfl (eq_nil_ptr uD ⟨_, rfl, PIf.ff rfl (PC.ok h1.create ?_)⟩)⟩
  rintro _ w3 ⟨rfl, h3, -⟩
  have hcr : (newD (Int.toNat 65536)).create s0 = (0, oneD 65536 s0 []) := create_one (by decide +kernel)
  change NDisk w w3 p ((newD (Int.toNat 65536)).create s0).2 no at h3
  rw [hcr] at h3
  rw [show (⟨#[115, 101, 103, 46, 48]⟩ : ByteArray) = s0 from rfl, hcr]
  refine ⟨_, rfl, PIf.ff rfl ⟨fun m n i w' => ∃ j : Nat, i = j ∧ j ≤ ln ∧ m = ln - j ∧ (∀ e ∈ l.take j, e.Ok ∧ e.deps.length ≤ 64) ∧ n = (((evFrs (l.take j)).length : Nat) : Int) ∧ (evFrs (l.take j)).length ≤ 32768 ∧ NDisk w w' p (oneD 65536 s0 (evFrs (l.take j))) no,
    ⟨_, 0, rfl, Nat.zero_le _, rfl, by simp, by simp [evFrs], by simp [evFrs], by simpa [evFrs] using h3⟩, ?_⟩⟩
  rintro m n i _ w4 ⟨j, rfl, hj, rfl, hok, rfl, h32, h4⟩
  have hgr := h4.gr
  refine PIf.dec (fun hlt => ?_) (fun hge => ?_)
  · obtain ⟨b, off, x, es, rfl, _, _, hx, hc, a1, n1, c1, rfl, hr, hxok⟩ := (ha.grew hgr).atN (i := j) (by omega)
    have e1 := fun i (hi : i < 10) => hc i hi
    refine ⟨b, off, rfl, by omega, by omega, _, _, _, _, _, _, _, _, _, _, _, _, e1 0 (by decide), e1 1 (by decide), e1 2 (by decide), e1 3 (by decide), e1 4 (by decide), e1 5 (by decide), e1 6 (by decide), e1 7 (by decide), e1 8 (by decide), e1 9 (by decide), ?_⟩
    refine PC.ok (seg_Frame (hw.grew hgr) hr hxok fun b hb => Nat.lt_of_lt_of_le (hDl b hb) hgr.size) ?_
    rintro _ w5 ⟨a5, n5, c5, F5, rfl, ho5, k5, hF5⟩
    have h5 := h4.add k5 fun b hb => ⟨hF5 b hb, ho5.dom b hb⟩
    by_cases hd : x.deps.length ≤ 64
    rotate_left
    · rw [segFrame_no hd]
      exact ⟨_, _, _, _, rfl, PIf.tt rfl (fin hw h5.gr)⟩
    rw [segFrame_ok hxok hd] at ho5 ⊢
    simp only at ho5 ⊢
    have hxl := evFr_length hxok hd
    have hn5 := ho5.len (by decide)
    have hwr : IntKind.wrap .i64 ((((evFrs (l.take j)).length : Nat) : Int) + ((n5 : Nat) : Int)) = (((evFrs (l.take (j + 1))).length : Nat) : Int) := by
      rw [evFrs_snoc l hx, List.length_append, wrap_i64 (by unfold I64; omega)]; omega
    refine ⟨_, _, _, _, rfl, PIf.ff rfl ?_⟩
    rw [hwr]
    refine (PIf.dec (fun h => fin hw h5.gr) (fun h32' => PC.ok (h5.appendL ho5 (by unfold Big; omega) fun b hb => .inr hb) ?_))
    rintro _ w6 ⟨rfl, h6, k6⟩
    rw [append_one (by omega), ← evFrs_snoc l hx] at h6
    refine ⟨_, rfl, ln - (j + 1), by omega, j + 1, wrap_succ (by omega), by omega, rfl, ?_, rfl, by omega, h6.mono fun _ h => h.elim⟩
    intro e hem
    rw [List.take_add_one, hx] at hem
    rcases List.mem_append.1 hem with h | h
    · exact hok e h
    · simp at h; subst h; exact ⟨hxok, hd⟩
  obtain rfl : j = ln := by omega
  rw [List.take_of_length_le (by omega)] at h4 hok h32 ⊢
  refine PC.ok (frame_Put (hw.grew hgr).tabs (hb.grew hgr) fun b hb => Nat.lt_of_lt_of_le (hDb b hb) hgr.size) ?_
  rintro _ w5 ⟨_, rfl, a5, n5, c5, F5, rfl, ho5, k5, hF5⟩
  have h5 := h4.add k5 fun b hb => ⟨hF5 b hb, ho5.dom b hb⟩
  refine ⟨_, _, _, _, rfl, PIf.neI (fun _ => fin hw h5.gr) (fun he => ?_)⟩
  have hput : 1 ≤ kind ∧ kind ≤ 255 ∧ frPut kind body = (frBytes kind body, 0) := by
    unfold frPut at he ⊢
    by_cases hA : kind < 1 ∨ 255 < kind
    · rw [if_pos hA] at he; cases he
    · rw [if_neg hA, if_neg (by omega)]
      exact ⟨by omega, by omega, rfl⟩
  obtain ⟨hk1, hk2, hput⟩ := hput
  rw [hput] at ho5
  simp only at ho5
  have hfb := frBytes_length kind body
  have hn5 := ho5.len (by decide)
  have hload := other_load (body := body) hok hk1 hk2 (by omega)
  refine PC.ok (h5.appendL ho5 (by unfold Big; omega) fun b hb => .inr hb) ?_
  rintro _ w6 ⟨rfl, h6, k6⟩
  rw [append_one (by omega)] at h6
  replace h6 := h6.mono (Y := no) fun _ h => h.elim
  refine ⟨_, rfl, PC.ok (law20_some (by decide) (by decide)) ?_⟩
  rintro _ w7 ⟨a7, n7, c7, F7, rfl, ho7, hF7, k7⟩
  have h7 := h6.grew k7
  have o1 := evSome_ok (n := 1) (by decide) (by decide)
  have hs1 := some_le o1.1
  refine ⟨_, _, _, _, _, _, _, _, _, _, _, _, rfl, PC.ok (seg_Frame (hw.grew h7.gr) (ho7.row (bytes := 8) (by decide) (by simp [evSome, Big])) o1.1 ho7.dom) ?_⟩
  rintro _ w8 ⟨a8, n8, c8, F8, rfl, ho8, k8, hF8⟩
  rw [segFrame_ok o1.1 o1.2] at ho8 ⊢
  simp only at ho8 ⊢
  have hn8 := ho8.len (by decide)
  have h8 := h7.add k8 fun b hb => ⟨hF8 b hb, ho8.dom b hb⟩
  refine ⟨_, _, _, _, rfl, PIf.ff rfl (PC.ok (h8.appendL ho8 (by unfold Big; omega) fun b hb => .inr hb) ?_)⟩
  rintro _ w9 ⟨rfl, h9, k9⟩
  rw [append_one (by rw [List.length_append]; omega)] at h9
  replace h9 := h9.mono (Y := no) fun _ h => h.elim
  refine ⟨_, rfl, PC.ok (event_Get (hb.grew h9.gr) fun b hb => Nat.lt_of_lt_of_le (hDb b hb) h9.gr.size) ?_⟩
  rintro _ w10 ⟨a10, n10, c10, F10, rfl, ho10, k10, hF10⟩
  obtain ⟨hxok, hxd⟩ := evGet_ok body
  refine ⟨_, _, _, _, _, _, _, _, _, _, _, _, _, rfl, PA.mk fun w11 k11 s11 g11 => ?_⟩
  refine storeAll (evCells (evGet body).1 a10 n10 c10) g11 rfl fun w12 k12 s12 g12 => ?_
  have k1012 : Grew w10 w12 := k11.new k12 fun b hb => .inr (by omega)
  have ho12 := ho10.grew k1012
  have h12 := (h9.grew k10).grew k1012
  refine PC.ok (h12.load hw (by unfold I64; omega)) ?_
  rintro _ w13 ⟨a13, n13, c13, F13, rfl, ho13, hF13, h13, k13, hl13⟩
  rw [s0_name, read_one, hload] at ho13 hl13 ⊢
  refine ⟨_, _, _, _, rfl, PC.ok (kit_CopyEvents (ha.grew h13.gr) fun e he => Nat.le_of_not_lt fun hlt => hlong (.inl ⟨e, he, hlt⟩)) ?_⟩
  rintro _ w14 ⟨a14, n14, c14, F14, rfl, ho14, k14, hF14⟩
  have h14 := h13.grew k14
  have hl14 := ho14.len (by decide)
  refine ⟨_, _, _, rfl, fun n a m c w' => n = (((otherV l kind body).2 : Nat) : Int) ∧ Grew w w' ∧ (∃ F, Lst cEvO 47 F w' a m c (otherV l kind body).1) ∧ ∃ F, Lst cEvO 47 F w' a13 n13 c13 (otherV l kind body).1, ?_, ?_⟩
  · have stay : ¬ (kind = 1 ∧ (evGet body).2 = 0) → (((evFrs l).length : Nat) : Int) = (((otherV l kind body).2 : Nat) : Int) ∧ Grew w w14 ∧ (∃ F, Lst cEvO 47 F w14 a14 n14 c14 (otherV l kind body).1) ∧ ∃ F, Lst cEvO 47 F w14 a13 n13 c13 (otherV l kind body).1 := by
      intro h
      have e : otherV l kind body = (l, (evFrs l).length) := by unfold otherV; rw [if_neg h]
      have ho13 := ho13.grew k14
      rw [e] at ho13 ⊢
      exact ⟨rfl, h14.gr, ⟨_, ho14⟩, ⟨_, ho13⟩⟩
    refine PIf.eqI (fun hk1' => PIf.eqI (fun he0 => ?_) (fun he0 => stay fun h => he0 h.2)) (fun hk1' => stay fun h => hk1' h.1)
    intro w15 d15
    have k1214 : Grew w12 w14 := k13.then k14
    have k15 : Grew w14 w15 := d15.keep
    have g15 := (k1214.then k15).get g12 id
    have hs := (k1214.then k15).size
    refine ⟨fun b => blk a14 = some b, fun hb => by have h1 := hF14 _ (ho14.self _ hb); have := k13.size; omega, ?_⟩
    refine ⟨_, _, _, _, _, _, _, _, _, _, _, _, cell_at g15 rfl, cell_at g15 rfl, cell_at g15 rfl, cell_at g15 rfl, cell_at g15 rfl, cell_at g15 rfl, cell_at g15 rfl, cell_at g15 rfl, cell_at g15 rfl, cell_at g15 rfl, ?_⟩
    refine PC.ok (law20_some (by decide) (by decide)) ?_
    rintro _ w16 ⟨a16, n16, c16, F16, rfl, ho16, hF16, k16⟩
    refine ⟨_, _, _, _, _, _, _, _, _, _, _, _, rfl, k16.keep, PA.mk fun w17 k17 s17 g17 => ⟨k17.keep, ?_⟩⟩
    have hx17 : Lst cI64 3 F10 w17 a10 n10 c10 (evGet body).1.deps := ho12.grew ((k1214.then k15).then (k16.then k17))
    have ho1417 := ho14.grew (k15.then (k16.then k17))
    have h1617 := ho16.grew k17
    have hrow : Row cEvO 96 w17 (fun b => F10 b ∨ F16 b ∨ b = w16.heap.size) (some ⟨w16.heap.size, 0, none⟩) 2 [(evGet body).1, evSome 1] :=
      Row.of_reps (xs := [(evGet body).1, evSome 1]) (cs := evCells (evGet body).1 a10 n10 c10 ++ evCells (evSome 1) a16 n16 c16) g17
        (Reps.append (Reps.one (c := cEvO) ⟨a10, n10, c10, F10, rfl, hx17, fun _ h => .inl h, hxok, by unfold Big; omega⟩)
          (Reps.one (c := cEvO) ⟨a16, n16, c16, F16, rfl, h1617, fun _ h => .inr (.inl h), o1.1, by simp [evSome, Big]⟩)) (.inr (.inr rfl)) (by unfold Big; simp)
    refine appRow ho1417 slEv hrow (fun b hb => ?_) (by unfold Big; simp; omega) (by unfold maxLen; simp; omega) fun a18 c18 w18 F18 ho18 hk18 _ _ => ?_
    · have hb14 : blk a14 = some b → w13.heap.size ≤ b ∧ b < w14.heap.size := fun h => ⟨hF14 b (ho14.self b h), ho14.dom b (ho14.self b h)⟩
      have z1 := (k13.size); have z2 := k14.size; have z3 := k15.size; have z4 := k16.size; have z5 := k1012.size
      rcases hb with hb | hb | rfl
      · have := ho10.dom b hb
        exact ⟨by omega, fun e => by have := hb14 e; omega⟩
      · have := hF16 b hb; have := h1617.dom b hb
        exact ⟨by omega, fun e => by have := hb14 e; omega⟩
      · exact ⟨by omega, fun e => by have := hb14 e; omega⟩
    have e : otherV l kind body = (l ++ [(evGet body).1, evSome 1], (evFrs l).length + (frBytes kind body).length + (evFr (evSome 1)).length) := by unfold otherV; rw [if_pos ⟨hk1', he0⟩]
    rw [e] at ho13 ⊢
    have k1317 : Grew w13 w17 := k14.then (k15.then (k16.then k17))
    refine ⟨_, _, _, rfl, hk18, ?_, ?_, ⟨_, ho18⟩, ⟨_, (ho13.grew k1317).keep hk18 fun b hb hc => ?_⟩⟩
    · rw [wrap_i64 (x := _ + ((n5 : Nat) : Int)) (by unfold I64; omega), wrap_i64 (by unfold I64; omega)]
      omega
    · exact (h13.gr.then k1317).new hk18 fun b hb => .inr (by have := hF14 b (ho14.self b hb); have := h13.gr.size; omega)
    · have h1 := ho13.dom b hb; have := hF14 b (ho14.self b hc); omega
  · rintro n a m c _ w15 ⟨rfl, k15, ⟨F15, ho15⟩, ⟨F16, ho16⟩⟩
    have hle : (otherV l kind body).1.length ≤ 1000000 := by omega
    refine PIf.tt (by simp) (PC.ok (kit_SameEvents (lst_evs ho16 hle) (lst_evs ho15 hle)) ?_)
    rintro _ w17 ⟨rfl, k17⟩
    exact ⟨_, rfl, PIf.tt (by simp) (fin hw (k15.then k17))⟩
end Go.Proofs.YtpmakiecgphijaaGreatDoor

/- what the statements share: a row of bytes, by how many -/
namespace Go.Proofs.YtpmakiecgphijaaGreatDoor
open Go.Lift
set_option linter.unusedVariables false
set_option maxRecDepth 20000
def rowV (n : Nat) : List UInt8 := (List.range n).map fun i => UInt8.ofNat (3 + 5 * i)
theorem rowV_length (n : Nat) : (rowV n).length = n := by simp [rowV]
theorem rowV_succ (n : Nat) : rowV (n + 1) = rowV n ++ [UInt8.ofNat (3 + 5 * n)] := by simp [rowV, List.range_succ]
theorem kit_Row {n : Nat} {w : World} (hn : n ≤ 100000) : Calls Tryz.prog F_kit_Row #[.int .i64 (n : Int)] w (Ok (New cU8 5 w (rowV n))) := by
  refine L_kit_Row ⟨fun m oa on oc i w' => ∃ j : Nat, i = j ∧ j ≤ n ∧ m = n - j ∧ ∃ F, Lst cU8 5 F w' oa on oc (rowV j) ∧ Grew w w' ∧ ∀ b, F b → w.heap.size ≤ b,
    ⟨_, 0, rfl, Nat.zero_le _, rfl, fun _ => False, by simpa [rowV] using Lst.nil w, Keep.refl w, fun _ h => h.elim⟩, ?_⟩
  rintro m oa on oc i _ w1 ⟨j, rfl, hj, rfl, F, ho, k1, hF⟩
  have hl := rowV_length j
  refine PIf.dec (fun hlt => ?_) (fun hge => ?_)
  · have ex : IntKind.wrap .u8 (IntKind.wrap .i64 (3 + (IntKind.wrap .i64 (5 * (j : Int))))) = (((UInt8.ofNat (3 + 5 * j)).toNat : Nat) : Int) := by
      rw [wrap_i64 (x := 5 * (j : Int)) (by unfold I64; omega), wrap_i64 (by unfold I64; omega), show (3 : Int) + 5 * (j : Int) = ((3 + 5 * j : Nat) : Int) by omega, wrap_u8, UInt8.toNat_ofNat']
    refine papp ho slU8 (x := UInt8.ofNat (3 + 5 * j)) (D := fun _ => False) ⟨by rw [ex], trivial⟩ (fun _ h => h.elim) (by rw [hl]; unfold Big; omega) (by rw [hl]; unfold maxLen; omega) fun a2 c2 w2 F2 ho2 hk2 hF2 _ => ?_
    rw [← rowV_succ] at ho2
    refine ⟨_, _, _, rfl, n - (j + 1), by omega, j + 1, wrap_succ (by omega), by omega, rfl, F2, ho2, k1.new hk2 fun b hb => .inr (hF b (ho.self b hb)), fun b hb => ?_⟩
    rcases hF2 b hb with h | h | h
    · exact hF b h
    · exact h.elim
    · have := k1.size; omega
  · obtain rfl : j = n := by omega
    exact Ok.mk ⟨_, _, _, F, rfl, ho, k1, hF⟩
end Go.Proofs.YtpmakiecgphijaaGreatDoor

/- SegmentKnown: the walk, by the walks of the other statements -/
namespace Go.Lift
open Go
theorem rem_run {P : Program} {t : TypeId} {x y : Operand} {k n : Int} (hn : n ≠ 0) (w : World) : (do eqGuard .rem t x y (.int .i64 k) (.int .i64 n); binOp .rem t (.int .i64 k) (.int .i64 n) : Sem Value).run P w = .ok (.int .i64 (k.tmod n)) w := by
  simp [eqGuard, binOp, Op.intDiv, hn]
theorem tmod_nat (a : Nat) (b : Nat) : Int.tmod (a : Int) (b : Int) = ((a % b : Nat) : Int) := by
  rw [Int.tmod_eq_emod_of_nonneg (by omega)]; rfl
end Go.Lift
namespace Go.Proofs.YtpmakiecgphijaaGreatDoor
open Go.Lift
set_option linter.unusedVariables false
set_option maxRecDepth 20000

def knN : List Int := [-9223372036854775808, -1, 0, 1, 7, 9, 10, 99, 100, 123456789012, 999999999999, 1000000000000, 9223372036854775807]
def knS : List ByteArray := [⟨#[]⟩, ⟨#[115, 101, 103, 46]⟩, ⟨#[115, 101, 103, 46, 48]⟩, ⟨#[115, 101, 103, 46, 48, 48]⟩, ⟨#[115, 101, 103, 46, 48, 49]⟩, ⟨#[115, 101, 103, 46, 45, 49]⟩, ⟨#[115, 101, 103, 46, 43, 49]⟩, ⟨#[115, 101, 103, 46, 49, 32]⟩, ⟨#[32, 115, 101, 103, 46, 49]⟩, ⟨#[115, 101, 103, 49]⟩, ⟨#[83, 101, 103, 46, 49]⟩, ⟨#[115, 101, 103, 46, 97]⟩, ⟨#[115, 101, 103, 46, 49, 50, 120]⟩,
  ⟨#[115, 101, 103, 46, 57, 57, 57, 57, 57, 57, 57, 57, 57, 57, 57, 57]⟩, ⟨#[115, 101, 103, 46, 49, 48, 48, 48, 48, 48, 48, 48, 48, 48, 48, 48, 48]⟩, ⟨#[115, 101, 103, 46, 57, 57, 57, 57, 57, 57, 57, 57, 57, 57, 57, 57, 57, 57, 57, 57, 57, 57, 57, 57]⟩, ⟨#[115, 101, 103, 46, 0]⟩, ⟨#[109, 97, 110, 105, 102, 101, 115, 116]⟩]
theorem knN_ok : ∀ x ∈ knN, I64 x := by
  intro x hx
  simp only [knN, List.mem_cons, List.not_mem_nil, or_false] at hx
  unfold I64; omega
theorem knS_ok : ∀ x ∈ knS, x.size ≤ maxLen := by
  have h : knS.all (fun x => decide (x.size ≤ 1000)) = true := by decide +kernel
  intro x hx
  have := of_decide_eq_true (List.all_eq_true.1 h x hx)
  unfold maxLen; omega

theorem SegmentKnown {w : World} (hw : Laid w) : Calls Tryz.prog F_law20_SegmentKnown #[] w (Ok fun v w' => v = .bool true ∧ Grew w w') := by
  refine L_law20_SegmentKnown (PA.mk fun w1 k1 s1 g1 => PA.mk fun w2 k2 s2 g2 => ?_)
  have k02 : Grew w w2 := k1.then k2
  have rN : Row cI64 8 w2 (· = w.heap.size) (some ⟨w.heap.size, 0, none⟩) 13 knN := Row.lit (k2.get g1 id) knN rfl knN_ok (by decide)
  have rS : Row cStr 16 w2 (· = w1.heap.size) (some ⟨w1.heap.size, 0, none⟩) 18 knS := Row.lit g2 knS rfl (fun _ _ => trivial) (by decide)
  refine ⟨fun m i w' => ∃ j : Nat, i = j ∧ j ≤ 13 ∧ m = 13 - j ∧ Grew w2 w', ⟨_, 0, rfl, by omega, rfl, Keep.refl _⟩, ?_⟩
  rintro m i _ w3 ⟨j, rfl, hj, rfl, k3⟩
  refine PIf.dec (fun hlt => ?_) (fun hge => ?_)
  · refine ⟨fun m k w' => ∃ q : Nat, k = q ∧ q ≤ 18 ∧ m = 18 - q ∧ Grew w2 w', ⟨_, 0, rfl, by omega, rfl, k3⟩, ?_⟩
    rintro m k _ w4 ⟨q, rfl, hq, rfl, k4⟩
    refine PIf.dec (fun hlt2 => ?_) (fun hge2 => ⟨_, by omega, j + 1, wrap_succ (by omega), by omega, rfl, k4⟩)
    intro w5 d5
    have k5 : Grew w2 w5 := k4.then d5.keep
    obtain ⟨b, o, x, hab, hx, hxr, hc⟩ := (rN.grew k5).at1 (i := j) (by omega)
    cases hab
    obtain ⟨b, o, s, hab, hs, -, hcs⟩ := (rS.grew k5).at1 (i := q) (by omega)
    cases hab
    refine ⟨_, 0, rfl, by omega, by omega, _, by rw [Int.toNat_natCast]; exact hc, _, 0, rfl, by omega, by omega, _, by rw [Int.toNat_natCast]; exact hcs, PC.ok (SegmentNames hxr (knS_ok s (List.mem_of_getElem? hs)) (hw.grew (k02.then k5))) ?_⟩
    rintro _ w6 ⟨rfl, k6⟩
    have k26 : Grew w2 w6 := k5.then k6
    obtain ⟨b, o, x', hab, hx', -, hc'⟩ := (rN.grew k26).at1 (i := j) (by omega)
    cases hab
    rw [hx] at hx'; cases hx'
    obtain ⟨b, o, y, hab, hy, hyr, hcy⟩ := (rN.grew k26).at1 (i := q % 13) (by omega)
    cases hab
    have et : Int.tmod (q : Int) ((13 : Nat) : Int) = ((q % 13 : Nat) : Int) := tmod_nat q 13
    refine ⟨_, rfl, PIf.ff rfl ⟨_, 0, rfl, by omega, by omega, _, by rw [Int.toNat_natCast]; exact hc', _, fun w' => rem_run (by decide) w', ?_⟩⟩
    rw [et]
    refine ⟨_, 0, rfl, by omega, by omega, _, by rw [Int.toNat_natCast]; exact hcy, PC.ok (SegmentBack hxr hyr (hw.grew (k02.then k26))) ?_⟩
    rintro _ w7 ⟨rfl, k7⟩
    exact ⟨_, rfl, PIf.ff rfl ⟨_, by omega, q + 1, wrap_succ (by omega), by omega, rfl, k26.then k7⟩⟩
  · have k03 : Grew w w3 := k02.then k3
    refine PC.ok (law20_some (by decide) (by decide)) ?_
    rintro _ w4 ⟨a4, n4, c4, F4, rfl, ho4, hF4, k4⟩
    refine ⟨_, _, _, _, _, _, _, _, _, _, _, _, rfl, PC.ok (law20_some (by decide) (by decide)) ?_⟩
    rintro _ w5 ⟨a5, n5, c5, F5, rfl, ho5, hF5, k5⟩
    refine ⟨_, _, _, _, _, _, _, _, _, _, _, _, rfl, PC.ok (law20_some (by decide) (by decide)) ?_⟩
    rintro _ w6 ⟨a6, n6, c6, F6, rfl, ho6, hF6, k6⟩
    refine ⟨_, _, _, _, _, _, _, _, _, _, _, _, rfl, PA.mk fun w7 k7 s7 g7 => ?_⟩
    have o1 := evSome_ok (n := 1) (by decide) (by decide)
    have o2 := evSome_ok (n := 2) (by decide) (by decide)
    have o3 := evSome_ok (n := 3) (by decide) (by decide)
    have r1 := (((ho4.grew k5).grew k6).grew k7)
    have r2 := (ho5.grew k6).grew k7
    have r3 := ho6.grew k7
    have dep : ∀ {F : Nat → Prop} {a : Option Addr} {n c : Nat} {m : Int}, Lst cI64 3 F w7 a n c (evSome m).deps → Row cI64 8 w7 (fun b => b < w7.heap.size) a n (evSome m).deps := fun h => (h.row (by decide) (by simp [evSome, Big])).mono fun b hb => h.dom b hb
    have rE : Row cEv 96 w7 (fun b => b < w7.heap.size) (some ⟨w6.heap.size, 0, none⟩) 3 [evSome 1, evSome 2, evSome 3] :=
      Row.of_reps (xs := [evSome 1, evSome 2, evSome 3]) (cs := evCells (evSome 1) a4 n4 c4 ++ (evCells (evSome 2) a5 n5 c5 ++ evCells (evSome 3) a6 n6 c6)) g7
        (Reps.append (Reps.one (c := cEv) ⟨a4, n4, c4, rfl, dep r1, o1.1⟩) (Reps.append (Reps.one (c := cEv) ⟨a5, n5, c5, rfl, dep r2, o2.1⟩) (Reps.one (c := cEv) ⟨a6, n6, c6, rfl, dep r3, o3.1⟩))) (by show _ < _; omega) (by unfold Big; simp)
    have k07 : Grew w w7 := (((k03.then k4).then k5).then k6).then k7
    refine ⟨fun m i w' => ∃ j : Nat, i = j ∧ j ≤ 70 ∧ m = 70 - j ∧ Grew w7 w', ⟨_, 0, rfl, by omega, rfl, Keep.refl _⟩, ?_⟩
    rintro m i _ w8 ⟨j, rfl, hj, rfl, k8⟩
    refine PIf.dec (fun hlt => ?_) (fun hge => fin hw (k07.then k8))
    intro w9 d9
    have k9 : Grew w7 w9 := k8.then d9.keep
    have lt : ∀ {w' : World}, Grew w7 w' → ∀ b, b < w7.heap.size → b < w'.heap.size := fun hk b hb => Nat.lt_of_lt_of_le hb hk.size
    refine PC.ok (SegmentTorn (rE.grew k9) (lt k9) (Nat.le_refl 3) (by unfold I64; omega) (by unfold I64; omega) (hw.grew (k07.then k9))) ?_
    rintro _ w10 ⟨rfl, k10⟩
    have k710 : Grew w7 w10 := k9.then k10
    have e4 : Int.tmod (j : Int) 4 = ((j % 4 : Nat) : Int) := tmod_nat j 4
    have e20 : Int.tmod (j : Int) 20 = ((j % 20 : Nat) : Int) := tmod_nat j 20
    refine ⟨_, rfl, PIf.ff rfl ?_⟩
    rw [e4, e20]
    refine ⟨by omega, by omega, PC.ok (kit_Row (by omega)) ?_⟩
    rintro _ w11 ⟨a11, n11, c11, F11, rfl, ho11, k11, hF11⟩
    have k711 : Grew w7 w11 := k710.then k11
    refine ⟨_, _, _, rfl, ?_⟩
    rw [Int.toNat_natCast]
    refine PC.ok (SegmentOther ((rE.grew k711).take (m := j % 4) (by omega)) (lt k711) (by unfold I64; omega) (ho11.row (by decide) (by rw [rowV_length]; unfold Big; omega)) ho11.dom (hw.grew (k07.then k711))) ?_
    rintro _ w12 ⟨rfl, k12⟩
    have k712 : Grew w7 w12 := k711.then k12
    refine ⟨_, rfl, PIf.ff rfl (PC.ok (kit_Row (by omega)) ?_)⟩
    rintro _ w13 ⟨a13, n13, c13, F13, rfl, ho13, k13, hF13⟩
    have k713 : Grew w7 w13 := k712.then k13
    refine ⟨_, _, _, rfl, PC.ok (SegmentLoads (ho13.row (by decide) (by rw [rowV_length]; unfold Big; omega)) (fun e => ho13.nil0 e) ho13.dom (by unfold I64; omega) (rE.grew k713) (lt k713) (hw.grew (k07.then k713))) ?_⟩
    rintro _ w14 ⟨rfl, k14⟩
    exact ⟨_, rfl, PIf.ff rfl ⟨_, by omega, j + 1, wrap_succ (by omega), by omega, rfl, k713.then k14⟩⟩
end Go.Proofs.YtpmakiecgphijaaGreatDoor
