/- segment: an event's frame, loading; events copied, and some -/
import Derived.Test.YtpbpjojdfcdbbaaGreatDoorSeg
import Derived.Test.YtpbpjojdfcdbbaaGreatDoorKitEv
import Derived.Test.YtpbpjojdfcdbbaaGreatDoorSegLaw2
import Derived.Test.YtpbpjojdfcdbbaaGreatDoorLawD
namespace Go.Lift
open Go
def evSome (n : Int) : EventV := ⟨0, n, n, [n - 1], 0, 0, 0, 1, 3, 0⟩
theorem evSome_ok {n : Int} (h1 : 1 ≤ n) (h2 : n ≤ 1000) : (evSome n).Ok ∧ (evSome n).deps.length ≤ 64 := by
  refine ⟨⟨?_, ?_, ?_, ?_, ?_, ?_, ?_, ?_, ?_, ?_⟩, by simp [evSome]⟩
  all_goals first | (unfold evSome I64; simp only; omega) | (intro x hx; simp [evSome] at hx; subst hx; unfold I64; omega)
end Go.Lift
namespace Go.Proofs.YtpbpjojdfcdbbaaGreatDoor
open Go.Lift
set_option linter.unusedVariables false
set_option maxRecDepth 20000

theorem seg_Frame {w : World} {D : Nat → Prop} {e : EventV} {a : Option Addr} {n c : Nat} (hw : Laid w) (hd : Row cI64 8 w D a n e.deps) (he : e.Ok) (hD : ∀ b, D b → b < w.heap.size) :
    Calls Tryz.prog F_segment_Frame #[.agg (evCells e a n c).toArray] w (Ok fun v w' => ∃ a' n' c' F, v = .tuple #[.slice a' n' c', .int .i64 (segFrame e).2] ∧ Lst cU8 5 F w' a' n' c' (segFrame e).1 ∧ Grew w w' ∧ ∀ b, F b → w.heap.size ≤ b) := by
  refine L_segment_Frame (PA.mk fun w1 k1 s1 g1 => ?_)
  refine ⟨_, _, _, _, _, _, _, _, _, _, _, _, cell_at g1 rfl, cell_at g1 rfl, cell_at g1 rfl, cell_at g1 rfl, cell_at g1 rfl, cell_at g1 rfl, cell_at g1 rfl, cell_at g1 rfl, cell_at g1 rfl, cell_at g1 rfl,
    PC.ok (event_Put (hd.grew k1) he fun b hb => Nat.lt_of_lt_of_le (hD b hb) k1.size) ?_⟩
  rintro _ w2 ⟨_, rfl, a2, n2, c2, F2, rfl, ho2, k2, hF2⟩
  refine ⟨_, _, _, _, rfl, PIf.neI (fun hne => ?_) (fun he0 => ?_)⟩
  · rw [show segFrame e = ([], (evPut e).2) by unfold segFrame; rw [if_pos hne]]
    exact Ok.mk ⟨none, 0, 0, fun _ => False, rfl, Lst.nil w2, k1.then k2, fun _ h => h.elim⟩
  rw [show segFrame e = frPut 1 (evPut e).1 by unfold segFrame; rw [if_neg (by simpa using he0)]]
  have hle : (evPut e).1.length ≤ 666 := by
    by_cases h : 64 < e.deps.length
    · simp [evPut, h]
    · have := ev_le he (by omega)
      simpa [evPut, h] using this
  refine PC.ok (frame_Put (hw.grew (k1.then k2)).tabs (ho2.row (bytes := 1) (by decide) (by unfold Big; omega)) ho2.dom) ?_
  rintro _ w3 ⟨_, rfl, a3, n3, c3, F3, rfl, ho3, k3, hF3⟩
  refine ⟨_, _, _, _, rfl, Ok.mk ⟨_, _, _, F3, rfl, ho3, (k1.then k2).then k3, fun b hb => ?_⟩⟩
  have := hF3 b hb; have := (k1.then k2).size; omega

theorem drop_sub {α : Type} {l : List α} {m : Nat} (h : l.length = m) (k : Nat) : (l.take m).drop k = l.drop k := by rw [List.take_of_length_le (by omega)]

theorem seg_Load {w : World} {p : Nat} {F : Nat → Prop} {D : DiskV} {no : Int} (hw : Laid w) (hD : DiskAt w p F D) (hn : I64 no) :
    Calls Tryz.prog F_segment_Load #[.pointer (some ⟨p, 0, none⟩), .int .i64 no] w (Ok fun v w' => ∃ a n c G, v = .tuple #[.slice a n c, .int .i64 ((segLoad (D.read (txt (segName no))).1).2 : Int)] ∧
      Lst cEvO 39 G w' a n c (segLoad (D.read (txt (segName no))).1).1 ∧ Grew w w' ∧ (∀ b, G b → w.heap.size ≤ b) ∧ (segLoad (D.read (txt (segName no))).1).1.length ≤ 262144) := by
  refine L_segment_Load (PC.ok (seg_Name hw hn) ?_)
  rintro _ w1 ⟨rfl, k1⟩
  refine ⟨_, rfl, PC.ok (Disk_Read (hD.grew k1)) ?_⟩
  rintro _ w2 ⟨_, rfl, a2, n2, c2, F2, rfl, ho2, k2, hF2⟩
  have hlen := read_len hD.ok (txt (segName no))
  have hnil : (D.read (txt (segName no))).2 ≠ 0 → (D.read (txt (segName no))).1 = [] := by
    unfold DiskV.read
    split
    · intro _; rfl
    · split
      · intro _; rfl
      · intro h; exact absurd rfl h
  generalize D.read (txt (segName no)) = rd at ho2 hlen hnil
  obtain ⟨bs, er⟩ := rd
  simp only at ho2 hlen hnil ⊢
  refine ⟨_, _, _, _, rfl, PIf.neI (fun hne => ?_) (fun he => ?_)⟩
  · rw [hnil hne, segLoad_nil]
    exact Ok.mk ⟨none, 0, 0, fun _ => False, rfl, Lst.nil w2, k1.then k2, fun _ h => h.elim, by simp⟩
  have hn2 := ho2.len (by decide)
  have hc2 := ho2.cap_le
  have hrow2 : Row cU8 1 w2 F2 a2 n2 bs := ho2.row (by decide) (by unfold Big; omega)
  refine ⟨fun m oa on oc at' w' => ∃ (pos : Nat) (out : List EventV) (G : Nat → Prop), at' = pos ∧ pos ≤ bs.length ∧ m = bs.length - pos ∧ segLoad bs = (out ++ (segLoad (bs.drop pos)).1, pos + (segLoad (bs.drop pos)).2) ∧ out.length ≤ pos ∧
    Lst cEvO 39 G w' oa on oc out ∧ Grew w2 w' ∧ ∀ b, G b → w2.heap.size ≤ b, ⟨_, 0, [], fun _ => False, rfl, Nat.zero_le _, rfl, by simp, by simp, Lst.nil w2, Keep.refl _, fun _ h => h.elim⟩, ?_⟩
  rintro m oa on oc _ _ w3 ⟨pos, out, G, rfl, hpos, rfl, hseg, hout, ho3, k3, hG⟩
  refine ⟨by omega, by omega, ?_⟩
  have kk : Grew w w3 := (k1.then k2).then k3
  have hpart := (hrow2.grew k3).part (lo := pos) (hi := n2) (cap := c2) (by omega) (Nat.le_refl _) hc2
  rw [drop_sub hn2.symm] at hpart
  rw [Int.toNat_natCast]
  refine PC.ok (frame_Get (hw.grew kk).tabs hpart (by omega) fun b hb => by have := ho2.dom b hb; have := k3.size; omega) ?_
  rintro _ w4 ⟨a4, n4, c4, F4, rfl, ho4, k4, hF4⟩
  have stop : ¬ ((frGet (bs.drop pos)).no = 0 ∧ (frGet (bs.drop pos)).kind = 1 ∧ (evGet (frGet (bs.drop pos)).body).2 = 0) → ∀ w', Grew w4 w' →
      Ok (fun v w' => ∃ a n c G, v = .tuple #[.slice a n c, .int .i64 ((segLoad bs).2 : Int)] ∧ Lst cEvO 39 G w' a n c (segLoad bs).1 ∧ Grew w w' ∧ (∀ b, G b → w.heap.size ≤ b) ∧ (segLoad bs).1.length ≤ 262144) (.returned (.tuple #[.slice oa on oc, .int .i64 (pos : Int)])) w' := by
    intro h w' hk
    rw [hseg, segLoad_no h]
    refine Ok.mk ⟨oa, on, oc, G, by simp, by simpa using (ho3.grew k4).grew hk, (kk.then k4).then hk, fun b hb => ?_, by simp; omega⟩
    have := hG b hb; have := (k1.then k2).size; omega
  refine ⟨_, _, _, _, _, _, rfl, PA.mk fun w5 k5 s5 g5 => ?_⟩
  refine storeAll [.int .i64 (frGet (bs.drop pos)).kind, .slice a4 n4 c4] g5 rfl fun w6 k6 s6 g6 => ?_
  have k46 : Grew w4 w6 := k5.new k6 fun b hb => .inr (by omega)
  refine PIf.neI (fun hne => stop (fun h => hne h.1) w6 k46) (fun hno => ?_)
  refine ⟨_, cell_at g6 rfl, PIf.neI (fun hne => stop (fun h => hne h.2.1) w6 k46) (fun hkind => ?_)⟩
  obtain ⟨hle, h9, hbl⟩ := frGet_no hno
  rw [List.length_drop] at hle
  have ho6 := ho4.grew k46
  refine ⟨_, _, _, cell_at g6 rfl, PC.ok (event_Get (ho6.row (bytes := 1) (by decide) (by unfold Big; omega)) ho6.dom) ?_⟩
  rintro _ w7 ⟨a7, n7, c7, F7, rfl, ho7, k7, hF7⟩
  obtain ⟨hok, hdl⟩ := evGet_ok (frGet (bs.drop pos)).body
  generalize hE : evGet (frGet (bs.drop pos)).body = E at ho7 hok hdl
  obtain ⟨x, xe⟩ := E
  simp only at ho7 hok hdl
  refine ⟨_, _, _, _, _, _, _, _, _, _, _, _, _, rfl, PA.mk fun w8 k8 s8 g8 => ?_⟩
  refine storeAll (evCells x a7 n7 c7) g8 rfl fun w9 k9 s9 g9 => ?_
  have k79 : Grew w7 w9 := k8.new k9 fun b hb => .inr (by omega)
  have k49 : Grew w4 w9 := (k46.then k7).then k79
  refine PIf.neI (fun hne => stop (fun h => hne (by have := h.2.2; rw [hE] at this; exact this)) w9 k49) (fun hxe => ?_)
  refine ⟨_, _, _, _, _, _, _, _, _, _, _, _, cell_at g9 rfl, cell_at g9 rfl, cell_at g9 rfl, cell_at g9 rfl, cell_at g9 rfl, cell_at g9 rfl, cell_at g9 rfl, cell_at g9 rfl, cell_at g9 rfl, cell_at g9 rfl, ?_⟩
  have k39 : Grew w3 w9 := k4.then k49
  have ho9 := ho3.grew k39
  have ho79 := ho7.grew k79
  have hs67 := (k4.then k46).size
  refine papp ho9 slEv (x := x) (D := F7) ⟨a7, n7, c7, F7, rfl, ho79, fun _ h => h, hok, by unfold Big; omega⟩ (fun b hb => ⟨ho79.dom b hb, fun hc => ?_⟩) (by unfold Big; omega) (by unfold maxLen; omega) fun a' c' w10 F' ho10 hk10 hF10 _ => ?_
  · have h1 := ho3.dom b (ho3.self b hc)
    have h2 := hF7 b hb
    omega
  refine ⟨_, _, _, rfl, _, ?_, pos + (frGet (bs.drop pos)).n, out ++ [x], F', ?_, by omega, rfl, ?_, by simp; omega, ho10, ?_, ?_⟩
  · omega
  · rw [wrap_i64 (by unfold I64; omega)]; omega
  · rw [hseg, segLoad_yes ⟨hno, hkind, by rw [hE]; exact hxe⟩, hE, List.drop_drop]
    simp only [List.append_assoc, List.cons_append, List.nil_append, Nat.add_assoc]
  · exact (k3.then k39).new hk10 fun b hb => .inr (hG b (ho3.self b hb))
  · intro b hb
    have hz := (k3.then k39).size
    have hz3 := k3.size
    rcases hF10 b hb with h | h | h
    · exact hG b h
    · have := hF7 b h; omega
    · omega

theorem kit_CopyEvent {e : EventV} {a : Option Addr} {n c : Nat} {w : World} {D : Nat → Prop} (hd : Row cI64 8 w D a n e.deps) :
    Calls Tryz.prog F_kit_CopyEvent #[.agg (evCells e a n c).toArray] w (Ok fun v w' => ∃ a' n' c' F, v = .agg (evCells e a' n' c').toArray ∧ Lst cI64 3 F w' a' n' c' e.deps ∧ Grew w w' ∧ ∀ b, F b → w.heap.size ≤ b) := by
  refine L_kit_CopyEvent (PA.mk fun w1 k1 s1 g1 => PA.mk fun w2 k2 s2 g2 => ?_)
  have k02 : Grew w w2 := k1.then k2
  refine ⟨_, _, _, cell_at (k2.get g1 id) rfl, PC.ok (kit_CopyIntsR (hd.grew k02)) ?_⟩
  rintro _ w3 ⟨a3, n3, c3, F3, rfl, ho3, k3, hF3⟩
  have gE := k3.get (k2.get g1 id) id
  have gR := k3.get g2 id
  refine ⟨_, _, _, rfl, PS.mk gE (by simp) fun w4 k4 s4 g4 => ?_⟩
  have g4' : w4.heap[w.heap.size]? = some (.cells (evCells e a3 n3 c3).toArray 39 (0, 0)) := by rw [g4]; rfl
  have gR4 := k4.get gR (by omega)
  refine ⟨_, _, _, _, _, _, _, _, _, _, _, _, cell_at g4' rfl, cell_at g4' rfl, cell_at g4' rfl, cell_at g4' rfl, cell_at g4' rfl, cell_at g4' rfl, cell_at g4' rfl, cell_at g4' rfl, cell_at g4' rfl, cell_at g4' rfl, ?_⟩
  refine storeAll (evCells e a3 n3 c3) gR4 rfl fun w5 k5 s5 g5 => ?_
  refine ⟨_, _, _, _, _, _, _, _, _, _, _, _, cell_at g5 rfl, cell_at g5 rfl, cell_at g5 rfl, cell_at g5 rfl, cell_at g5 rfl, cell_at g5 rfl, cell_at g5 rfl, cell_at g5 rfl, cell_at g5 rfl, cell_at g5 rfl,
    Ok.mk ⟨a3, n3, c3, F3, rfl, ?_, ?_, fun b hb => by have := hF3 b hb; omega⟩⟩
  · exact (ho3.keep k4 fun b hb e => by have := hF3 b hb; omega).keep k5 fun b hb e => by have := hF3 b hb; omega
  · exact ((k02.then k3).new k4 fun b hb => .inr (by omega)).new k5 fun b hb => .inr (by omega)

theorem kit_CopyEvents {l : List EventV} {a : Option Addr} {n c : Nat} {w : World} {D : Nat → Prop} (ha : Row cEv 96 w D a n l) (hsm : ∀ e ∈ l, e.deps.length ≤ 100) :
    Calls Tryz.prog F_kit_CopyEvents #[.slice a n c] w (Ok (New cEvO 39 w l)) := by
  have ha0 := ha.len; have ha1 := ha.big
  unfold Big at ha1
  refine L_kit_CopyEvents ⟨fun k oa on oc i w' => i = (on : Int) ∧ on ≤ n ∧ k = n - on ∧ ∃ F, Lst cEvO 39 F w' oa on oc (l.take on) ∧ Grew w w' ∧ ∀ b, F b → w.heap.size ≤ b,
    ⟨_, rfl, Nat.zero_le _, rfl, fun _ => False, by simpa using Lst.nil w, Keep.refl _, fun _ h => h.elim⟩, ?_⟩
  rintro k oa on oc i _ w1 ⟨rfl, hj, rfl, F, ho, hk, hF⟩
  refine PIf.dec (fun h1 => ?_) (fun h1 => ?_)
  · obtain ⟨b, off, x, es, rfl, _, _, hx, hc, a1, n1, c1, rfl, hr, hok⟩ := (ha.grew hk).atN (i := on) (by omega)
    have htl : (l.take on).length = on := by simp; omega
    have e1 := fun i (hi : i < 10) => hc i hi
    refine ⟨b, off, rfl, by omega, by omega, _, _, _, _, _, _, _, _, _, _, _, _, e1 0 (by decide), e1 1 (by decide), e1 2 (by decide), e1 3 (by decide), e1 4 (by decide), e1 5 (by decide), e1 6 (by decide), e1 7 (by decide), e1 8 (by decide), e1 9 (by decide), ?_⟩
    refine PC.ok (kit_CopyEvent hr) ?_
    rintro _ w2 ⟨a2, n2, c2, F2, rfl, ho2, k2, hF2⟩
    have hdl := hsm x (List.mem_of_getElem? hx)
    refine ⟨_, _, _, _, _, _, _, _, _, _, _, _, rfl, papp (ho.grew k2) slEv (x := x) (D := F2) ⟨a2, n2, c2, F2, rfl, ho2, fun _ h => h, hok, by unfold Big; omega⟩ (fun b hb => ⟨ho2.dom b hb, fun hc => ?_⟩) (by rw [htl]; unfold Big; omega) (by rw [htl]; unfold maxLen; omega) fun a' c' w3 F' ho3 hk3 hF3 _ => ?_⟩
    · have h1 := ho.dom b (ho.self b hc); have h2 := hF2 b hb; omega
    refine ⟨_, _, _, rfl, n - (on + 1), by omega, wrap_succ (by omega), by omega, rfl, F', ?_, (hk.then k2).new hk3 fun b hb => .inr (hF b (ho.self b hb)), ?_⟩
    · rw [List.take_add_one, hx]; exact ho3
    · intro b hb
      have := hk.size; have := (hk.then k2).size
      rcases hF3 b hb with h | h | h
      · exact hF b h
      · have := hF2 b h; omega
      · omega
  · obtain rfl : on = n := by omega
    rw [List.take_of_length_le (by omega)] at ho
    exact Ok.mk ⟨_, _, _, F, rfl, ho, hk, hF⟩
end Go.Proofs.YtpbpjojdfcdbbaaGreatDoor
