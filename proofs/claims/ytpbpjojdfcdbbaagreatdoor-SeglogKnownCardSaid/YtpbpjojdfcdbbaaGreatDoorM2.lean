/- Ref20, DOk, MfRef, Ref22, Ref22b, Ref22c, Papp2, Ref22d, Duo, LogDuo, DEff, LogPlain, LogPlain2, LogPlain3, L22, Works22, SlRefuses, SlPieces, SlSegments, SlLasts, SlLasts2, Spoil, ActIn, SlRuns -/
import Derived.Test.YtpbpjojdfcdbbaaGreatDoorM1
import Derived.Test.YtpbpjojdfcdbbaaGreatDoorDiskOps4
import Derived.Test.YtpbpjojdfcdbbaaGreatDoorEvent2
import Derived.Test.YtpbpjojdfcdbbaaGreatDoorRep
import Derived.Test.YtpbpjojdfcdbbaaGreatDoorPick
import Derived.Test.YtpbpjojdfcdbbaaGreatDoorEvent
import Derived.Test.YtpbpjojdfcdbbaaGreatDoorOwn
import Derived.Test.YtpbpjojdfcdbbaaGreatDoorEvIn
/- the document's segments: an event's frame, loading -/
namespace Go.Proofs.YtpbpjojdfcdbbaaGreatDoor
open Go.Lift
set_option linter.unusedVariables false
set_option maxRecDepth 20000

theorem ref20_Frame {w : World} {D : Nat → Prop} {e : EventV} {a : Option Addr} {n c : Nat} (hd : Row cI64 8 w D a n e.deps) (he : e.Ok) (hD : ∀ b, D b → b < w.heap.size) :
    Calls Tryz.prog F_ref20_Frame #[.agg (evCells e a n c).toArray] w (Ok fun v w' => ∃ a' n' c' F, v = .tuple #[.slice a' n' c', .int .i64 (segFrame e).2] ∧ Lst cU8 5 F w' a' n' c' (segFrame e).1 ∧ Grew w w' ∧ ∀ b, F b → w.heap.size ≤ b) := by
  refine L_ref20_Frame (PA.mk fun w1 k1 s1 g1 => ?_)
  refine ⟨_, _, _, _, _, _, _, _, _, _, _, _, cell_at g1 rfl, cell_at g1 rfl, cell_at g1 rfl, cell_at g1 rfl, cell_at g1 rfl, cell_at g1 rfl, cell_at g1 rfl, cell_at g1 rfl, cell_at g1 rfl, cell_at g1 rfl,
    PC.ok (ref05_Put (hd.grew k1) he fun b hb => Nat.lt_of_lt_of_le (hD b hb) k1.size) ?_⟩
  rintro _ w2 ⟨_, rfl, a2, n2, c2, F2, rfl, ho2, k2, hF2⟩
  refine ⟨_, _, _, _, rfl, PIf.neI (fun hne => ?_) (fun he0 => ?_)⟩
  · rw [show segFrame e = ([], (evPut e).2) by unfold segFrame; rw [if_pos hne]]
    exact Ok.mk ⟨none, 0, 0, fun _ => False, rfl, Lst.nil w2, k1.then k2, fun _ h => h.elim⟩
  rw [show segFrame e = frPut 1 (evPut e).1 by unfold segFrame; rw [if_neg (by simpa using he0)]]
  have hle : (evPut e).1.length ≤ 666 := by
    by_cases h : 64 < e.deps.length
    · simp [evPut, h]
    · have := ev_le he (by omega)
      simpa [evPut, h] using this
  refine PC.ok (ref03_Put (ho2.row (bytes := 1) (by decide) (by unfold Big; omega))) ?_
  rintro _ w3 ⟨_, rfl, a3, n3, c3, F3, rfl, ho3, k3, hF3⟩
  refine ⟨_, _, _, _, rfl, Ok.mk ⟨_, _, _, F3, rfl, ho3, (k1.then k2).then k3, fun b hb => ?_⟩⟩
  have := hF3 b hb; have := (k1.then k2).size; omega

theorem ref20_Load {w : World} {p : Nat} {F : Nat → Prop} {D : DiskV} {no : Int} (hD : RefAt w p F D) (hok : D.Ok) (hn : I64 no) :
    Calls Tryz.prog F_ref20_Load #[.pointer (some ⟨p, 0, none⟩), .int .i64 no] w (Ok fun v w' => ∃ a n c G, v = .tuple #[.slice a n c, .int .i64 ((segLoad (D.read (txt (segName no))).1).2 : Int)] ∧
      Lst cEvO 39 G w' a n c (segLoad (D.read (txt (segName no))).1).1 ∧ Grew w w' ∧ (∀ b, G b → w.heap.size ≤ b) ∧ (segLoad (D.read (txt (segName no))).1).1.length ≤ 262144) := by
  refine L_ref20_Load (PC.ok (ref20_Name hn) ?_)
  rintro _ w1 ⟨rfl, k1⟩
  refine ⟨_, rfl, PC.ok (ref_Read (hD.grew k1) hok.fit) ?_⟩
  rintro _ w2 ⟨_, rfl, a2, n2, c2, F2, rfl, ho2, k2, hF2⟩
  have hlen := read_len hok (txt (segName no))
  have hnil : (D.read (txt (segName no))).2 ≠ 0 → (D.read (txt (segName no))).1 = [] := by
    unfold DiskV.read
    split
    · intro _; rfl
    · split
      · intro _; rfl
      · intro h; exact absurd rfl h
  generalize D.read (txt (segName no)) = rd at ho2 hlen hnil
  obtain ⟨bs, er⟩ := rd
  simp only at ho2 hlen hnil ⊢
  refine ⟨_, _, _, _, rfl, PIf.neI (fun hne => ?_) (fun he => ?_)⟩
  · rw [hnil hne, segLoad_nil]
    exact Ok.mk ⟨none, 0, 0, fun _ => False, rfl, Lst.nil w2, k1.then k2, fun _ h => h.elim, by simp⟩
  have hn2 := ho2.len (by decide)
  have hc2 := ho2.cap_le
  have hrow2 : Row cU8 1 w2 F2 a2 n2 bs := ho2.row (by decide) (by unfold Big; omega)
  refine ⟨fun m oa on oc at' w' => ∃ (pos : Nat) (out : List EventV) (G : Nat → Prop), at' = pos ∧ pos ≤ bs.length ∧ m = bs.length - pos ∧ segLoad bs = (out ++ (segLoad (bs.drop pos)).1, pos + (segLoad (bs.drop pos)).2) ∧ out.length ≤ pos ∧
    Lst cEvO 39 G w' oa on oc out ∧ Grew w2 w' ∧ ∀ b, G b → w2.heap.size ≤ b, ⟨_, 0, [], fun _ => False, rfl, Nat.zero_le _, rfl, by simp, by simp, Lst.nil w2, Keep.refl _, fun _ h => h.elim⟩, ?_⟩
  rintro m oa on oc _ _ w3 ⟨pos, out, G, rfl, hpos, rfl, hseg, hout, ho3, k3, hG⟩
  have kk : Grew w w3 := (k1.then k2).then k3
  have stop : ¬ ((frGet (bs.drop pos)).no = 0 ∧ (frGet (bs.drop pos)).kind = 1 ∧ (evGet (frGet (bs.drop pos)).body).2 = 0) → ∀ w', Grew w3 w' →
      Ok (fun v w' => ∃ a n c G, v = .tuple #[.slice a n c, .int .i64 ((segLoad bs).2 : Int)] ∧ Lst cEvO 39 G w' a n c (segLoad bs).1 ∧ Grew w w' ∧ (∀ b, G b → w.heap.size ≤ b) ∧ (segLoad bs).1.length ≤ 262144) (.returned (.tuple #[.slice oa on oc, .int .i64 (pos : Int)])) w' := by
    intro h w' hk
    rw [hseg, segLoad_no h]
    refine Ok.mk ⟨oa, on, oc, G, by simp, by simpa using ho3.grew hk, kk.then hk, fun b hb => ?_, by simp; omega⟩
    have := hG b hb; have := (k1.then k2).size; omega
  refine PIf.dec (fun hlt => ?_) (fun hge => ?_)
  rotate_left
  · have h0 : bs.drop pos = [] := List.drop_of_length_le (by omega)
    exact stop (by rw [h0]; exact fun h => frGet_short (b := []) (by simp) h.1) w3 (Keep.refl _)
  refine ⟨by omega, by omega, ?_⟩
  have hpart := (hrow2.grew k3).part (lo := pos) (hi := n2) (cap := c2) (by omega) (Nat.le_refl _) hc2
  rw [drop_sub hn2.symm] at hpart
  rw [Int.toNat_natCast]
  refine PC.ok (ref03_Get hpart (by omega) fun b hb => by have := ho2.dom b hb; have := k3.size; omega) ?_
  rintro _ w4 ⟨a4, n4, c4, F4, rfl, ho4, k4, hF4⟩
  refine ⟨_, _, _, _, _, _, rfl, PA.mk fun w5 k5 s5 g5 => ?_⟩
  refine storeAll [.int .i64 (frGet (bs.drop pos)).kind, .slice a4 n4 c4] g5 rfl fun w6 k6 s6 g6 => ?_
  have k46 : Grew w4 w6 := k5.new k6 fun b hb => .inr (by omega)
  refine PIf.neI (fun hne => stop (fun h => hne h.1) w6 (k4.then k46)) (fun hno => ?_)
  refine ⟨_, cell_at g6 rfl, PIf.neI (fun hne => stop (fun h => hne h.2.1) w6 (k4.then k46)) (fun hkind => ?_)⟩
  obtain ⟨hle, h9, hbl⟩ := frGet_no hno
  rw [List.length_drop] at hle
  have ho6 := ho4.grew k46
  refine ⟨_, _, _, cell_at g6 rfl, PC.ok (ref05_Get (ho6.row (bytes := 1) (by decide) (by unfold Big; omega)) ho6.dom) ?_⟩
  rintro _ w7 ⟨a7, n7, c7, F7, rfl, ho7, k7, hF7⟩
  obtain ⟨hxok, hdl⟩ := evGet_ok (frGet (bs.drop pos)).body
  generalize hE : evGet (frGet (bs.drop pos)).body = E at ho7 hxok hdl
  obtain ⟨x, xe⟩ := E
  simp only at ho7 hxok hdl
  refine ⟨_, _, _, _, _, _, _, _, _, _, _, _, _, rfl, PA.mk fun w8 k8 s8 g8 => ?_⟩
  refine storeAll (evCells x a7 n7 c7) g8 rfl fun w9 k9 s9 g9 => ?_
  have k79 : Grew w7 w9 := k8.new k9 fun b hb => .inr (by omega)
  have k49 : Grew w4 w9 := (k46.then k7).then k79
  refine PIf.neI (fun hne => stop (fun h => hne (by have := h.2.2; rw [hE] at this; exact this)) w9 (k4.then k49)) (fun hxe => ?_)
  refine ⟨_, _, _, _, _, _, _, _, _, _, _, _, cell_at g9 rfl, cell_at g9 rfl, cell_at g9 rfl, cell_at g9 rfl, cell_at g9 rfl, cell_at g9 rfl, cell_at g9 rfl, cell_at g9 rfl, cell_at g9 rfl, cell_at g9 rfl, ?_⟩
  have k39 : Grew w3 w9 := k4.then k49
  have ho9 := ho3.grew k39
  have ho79 := ho7.grew k79
  have hs67 := (k4.then k46).size
  refine papp ho9 slEv (x := x) (D := F7) ⟨a7, n7, c7, F7, rfl, ho79, fun _ h => h, hxok, by unfold Big; omega⟩ (fun b hb => ⟨ho79.dom b hb, fun hc => ?_⟩) (by unfold Big; omega) (by unfold maxLen; omega) fun a' c' w10 F' ho10 hk10 hF10 _ => ?_
  · have h1 := ho3.dom b (ho3.self b hc)
    have h2 := hF7 b hb
    omega
  refine ⟨_, _, _, rfl, _, ?_, pos + (frGet (bs.drop pos)).n, out ++ [x], F', ?_, by omega, rfl, ?_, by simp; omega, ho10, ?_, ?_⟩
  · omega
  · rw [wrap_i64 (by unfold I64; omega)]; omega
  · rw [hseg, segLoad_yes ⟨hno, hkind, by rw [hE]; exact hxe⟩, hE, List.drop_drop]
    simp only [List.append_assoc, List.cons_append, List.nil_append, Nat.add_assoc]
  · exact (k3.then k39).new hk10 fun b hb => .inr (hG b (ho3.self b hb))
  · intro b hb
    have hz := (k3.then k39).size
    have hz3 := k3.size
    rcases hF10 b hb with h | h | h
    · exact hG b h
    · have := hF7 b h; omega
    · omega
end Go.Proofs.YtpbpjojdfcdbbaaGreatDoor

/- what is done to a disk that may be leaves one that may be. No program is run here. -/
namespace Go.Proofs.YtpbpjojdfcdbbaaGreatDoor
open Go.Lift
set_option linter.unusedVariables false
section
variable {D : DiskV}
theorem DiskV.Ok.gone (h : D.Ok) : D.gone.Ok := ⟨h.most, h.fits, h.many, h.tidy, h.names, h.syn, h.left0, h.leftR⟩
theorem DiskV.Ok.armed (h : D.Ok) (hd : D.dies = false) : D.armed.Ok := by
  unfold DiskV.armed
  split
  · rename_i hf
    have h0 := h.left0; have hR := h.leftR
    have hne : D.left ≠ 0 := by intro e; simp [DiskV.dies, hf, e] at hd
    exact ⟨h.most, h.fits, h.many, h.tidy, h.names, h.syn, by show 0 ≤ D.left - 1; omega, by show I64 (D.left - 1); unfold I64 at *; omega⟩
  · exact h
theorem DiskV.Ok.op (h : D.Ok) {body : DiskV → Int × DiskV} (hb : ∀ E : DiskV, E.Ok → (body E).2.Ok) : (D.op body).2.Ok := by
  unfold DiskV.op
  cases hd : D.dies with
  | true => exact h.gone
  | false => exact hb _ (h.armed hd)
theorem DiskV.Ok.onF (h : D.Ok) {k : ByteArray} {body : DiskV → FileV → Int × DiskV} (hb : ∀ f, aget D.files k = some f → (body D f).2.Ok) : (DiskV.onF k body D).2.Ok := by
  unfold DiskV.onF
  split
  · exact h
  · rename_i f hf; exact hb f hf
theorem DiskV.Ok.create (h : D.Ok) (k : ByteArray) : (D.create k).2.Ok := h.op fun E hE => by
  cases hn : isNameV k with
  | false => rw [if_neg (by simp)]; exact hE
  | true =>
    rw [if_pos rfl]
    split
    · exact hE
    · split
      · exact hE
      · exact hE.put hn (by have := hE.fits; simpa using this) (by omega) (Nat.le_refl _)
theorem DiskV.Ok.append (h : D.Ok) (k : ByteArray) (b : List UInt8) : (D.append k b).2.Ok := h.op fun E hE => hE.onF fun f hf => by
  split
  · exact hE
  · rename_i hr
    have hfit := hE.fits
    have hs := hE.syn _ (aget_mem hf)
    unfold DiskV.room at hr
    exact hE.set hf (by show (f.bytes ++ b).length + _ ≤ _; rw [List.length_append]; omega) (by show f.synced ≤ (f.bytes ++ b).length; rw [List.length_append]; simp only at hs; omega)
theorem DiskV.Ok.sync (h : D.Ok) (k : ByteArray) : (D.sync k).2.Ok := h.op fun E hE => hE.onF fun f hf => hE.cut hf _
theorem DiskV.Ok.cutF (h : D.Ok) (k : ByteArray) (n : Int) : (D.cutF k n).2.Ok := h.op fun E hE => hE.onF fun f hf => hE.cut hf _
theorem DiskV.Ok.delete (h : D.Ok) (k : ByteArray) : (D.delete k).2.Ok := h.op fun E hE => hE.onF fun f hf => hE.del k
theorem DiskV.Ok.rename (h : D.Ok) (k t : ByteArray) : (D.rename k t).2.Ok := h.op fun E hE => hE.onF fun f hf => by
  cases hn : isNameV t with
  | false => rw [if_neg (by simp)]; exact hE
  | true =>
    rw [if_pos rfl]
    have hfk := hE.fits
    have hsm := sumLen_adel (l := E.files) (k := k)
    rw [hf] at hsm
    simp only [Option.map_some, Option.getD_some] at hsm
    have hcnt := length_adel_some (l := E.files) (k := k) (by rw [hf]; rfl)
    have hmany := hE.many
    have hsyn := hE.syn _ (aget_mem hf)
    exact (hE.del k).put hn (by
      show f.bytes.length + sumLen (adel E.files k) ≤ E.most
      unfold DiskV.used at hfk
      omega) (by show (adel E.files k).length < 64; omega) hsyn
end
end Go.Proofs.YtpbpjojdfcdbbaaGreatDoor

/- the document's manifests: written, and read -/
namespace Go.Proofs.YtpbpjojdfcdbbaaGreatDoor
open Go.Lift
set_option linter.unusedVariables false
set_option maxRecDepth 20000

theorem rdid_int {w w0 : World} {p : Nat} {F : Nat → Prop} {r : Int × DiskV} (v : Value) (w' : World) (hk : Grew w0 w) (h : RDid w p F r v w') : ∃ n : Int, v = .int .i64 n ∧ Ok (RDid w0 p F r) (.returned (.int .i64 n)) w' := by
  obtain ⟨F', rfl, hD, hev⟩ := h
  exact ⟨_, rfl, Ok.mk ⟨F', rfl, hD, (Evo.mk hk.keep fun _ h => .inl h : Evo F w0 F w).trans hev⟩⟩


theorem Ok.clean {D : DiskV} (h : D.Ok) : (cleanV D).2.Ok := by
  unfold cleanV
  split
  · exact h.delete _
  · exact h
theorem Ok.mstep {D : DiskV} (h : D.Ok) (l : List Int) : ∀ i, (mStep l i D).2.Ok
  | 0 => Ok.clean h
  | 1 => h.create _
  | 2 => h.append _ _
  | 3 => h.sync _
  | _ + 4 => h.rename _ _

theorem ref21_Bytes {w : World} {Dl : Nat → Prop} {a : Option Addr} {n c : Nat} {l : List Int} (hl : Row cI64 8 w Dl a n l) (hok : ∀ x ∈ l, I64 x) (hD : ∀ b, Dl b → b < w.heap.size) (h64 : l.length ≤ 64) :
    Calls Tryz.prog F_ref21_Bytes #[.agg #[.slice a n c]] w (Ok (New cU8 5 w (mfBytes l))) := by
  have hn := hl.len
  refine L_ref21_Bytes (PA.mk fun w1 k1 s1 g1 => ⟨_, _, _, cell_at g1 rfl, PC.ok (ref01_Int (m := (n : Int)) (by unfold I64; omega) (Row.nil w1 fun _ => False) (by unfold Big; omega) fun _ h => h.elim) ?_⟩)
  rintro _ w2 ⟨a2, n2, c2, F2, rfl, ho2, k2, hF2⟩
  have k12 := k2
  have e0 : encInt (n : Int) = encInts ((n : Int) :: l.take 0) := by simp [encInts]
  rw [List.nil_append, e0] at ho2
  refine ⟨_, _, _, rfl, fun m ba bn bc i w' => ∃ j : Nat, i = j ∧ j ≤ n ∧ m = n - j ∧ ∃ F, Lst cU8 5 F w' ba bn bc (encInts ((n : Int) :: l.take j)) ∧ Grew w1 w' ∧ ∀ b, F b → w1.heap.size ≤ b,
    ⟨_, 0, rfl, Nat.zero_le _, rfl, F2, ho2, k2, hF2⟩, ?_⟩
  rintro m ba bn bc i _ w3 ⟨j, rfl, hj, rfl, F3, ho3, k3, hF3⟩
  have hle : (encInts ((n : Int) :: l.take j)).length ≤ 9 * (j + 1) := by
    have h1 := encInts_le (l := (n : Int) :: l.take j) (by
      intro x hx
      rcases List.mem_cons.1 hx with rfl | hx
      · unfold I64; omega
      · exact hok x (List.mem_of_mem_take hx))
    have h2 : ((n : Int) :: l.take j).length = j + 1 := by simp; omega
    omega
  have hbn := ho3.len (by decide)
  have g3 := k3.get g1 id
  refine ⟨_, _, _, cell_at g3 rfl, PIf.dec (fun hlt => ?_) (fun hge => ?_)⟩
  · obtain ⟨b, off, x, rfl, hx, hxr, hc⟩ := (hl.grew (k1.then k3)).at1 (i := j) (by omega)
    refine ⟨_, _, _, cell_at g3 rfl, b, off, rfl, by omega, by omega, _, by rw [Int.toNat_natCast]; exact hc, PC.ok (ref01_Int hxr (ho3.row (bytes := 1) (by decide) (by unfold Big; omega)) (by unfold Big; omega) ho3.dom) ?_⟩
    rintro _ w4 ⟨a4, n4, c4, F4, rfl, ho4, k4, hF4⟩
    refine ⟨_, _, _, rfl, n - (j + 1), by omega, j + 1, wrap_succ (by omega), by omega, rfl, F4, ?_, k3.then k4, fun b hb => by have := hF4 b hb; have := k3.size; omega⟩
    have e : encInts ((n : Int) :: l.take (j + 1)) = encInts ((n : Int) :: l.take j) ++ encInt x := by
      rw [List.take_add_one, hx, ← List.cons_append, encInts_append]
      congr 1
      simp [encInts]
    rw [e]; exact ho4
  · obtain rfl : j = n := by omega
    rw [List.take_of_length_le (by omega), hn] at ho3
    change Lst cU8 5 F3 w3 ba bn bc (mfBody l) at ho3
    have hmb := mfBody_le hok h64
    refine PC.ok (ref03_Put (ho3.row (bytes := 1) (by decide) (by unfold Big; omega))) ?_
    rintro _ w4 ⟨_, rfl, a4, n4, c4, F4, rfl, ho4, k4, hF4⟩
    rw [show frPut 2 (mfBody l) = (mfBytes l, 0) by unfold frPut mfBytes; rw [if_neg (by decide), if_neg (by omega)]] at ho4 ⊢
    exact ⟨_, _, _, _, rfl, Ok.mk ⟨_, _, _, F4, rfl, ho4, k1.then (k3.then k4), fun b hb => by have := hF4 b hb; have := (k1.then k3).size; omega⟩⟩

theorem ref21_has {w : World} {p : Nat} {F : Nat → Prop} {D : DiskV} {s : ByteArray} (h : RefAt w p F D) (hok : D.Ok) : Calls Tryz.prog F_ref21_has #[.pointer (some ⟨p, 0, none⟩), .string s] w (Ok fun v w' => v = .bool (decide (s ∈ D.list)) ∧ Grew w w') := by
  refine L_ref21_has (PC.ok (ref_List h hok.fit) ?_)
  rintro _ w1 ⟨a, n, c, G, rfl, ho, k1, hG⟩
  have hl : D.list.length ≤ 64 := by rw [list_length']; exact hok.many
  have hr : Row cStr 16 w1 G a n D.list := ho.row (by decide) (by unfold Big; omega)
  have hn := hr.len
  generalize D.list = l at hl hr hn ⊢
  refine ⟨_, _, _, rfl, fun m i w' => ∃ j : Nat, i = j ∧ j ≤ n ∧ m = n - j ∧ s ∉ l.take j ∧ w1 = w', ⟨_, 0, rfl, Nat.zero_le _, rfl, by simp, rfl⟩, ?_⟩
  rintro m i _ _ ⟨j, rfl, hj, rfl, hno, rfl⟩
  refine PIf.dec (fun h1 => ?_) (fun h1 => ?_)
  · obtain ⟨b, off, x, rfl, hx, _, hc⟩ := hr.at1 (i := j) (by omega)
    refine ⟨b, off, rfl, by omega, by omega, _, by rw [Int.toNat_natCast]; exact hc, PIf.eqS (fun he => ?_) (fun he => ?_)⟩
    · exact Ok.mk ⟨by rw [decide_eq_true (he ▸ List.mem_of_getElem? hx)], k1⟩
    · refine ⟨_, by omega, j + 1, wrap_succ (by omega), by omega, rfl, ?_, rfl⟩
      rw [List.take_add_one, hx]
      intro hm
      rcases List.mem_append.1 hm with h | h
      · exact hno h
      · simp at h; exact he h.symm
  · rw [List.take_of_length_le (by omega)] at hno
    exact Ok.mk ⟨by rw [decide_eq_false hno], k1⟩

theorem ref21_step {w : World} {p : Nat} {F Dl : Nat → Prop} {D : DiskV} {a : Option Addr} {n c : Nat} {l : List Int} {i : Nat} (hi : i < 5) (h : RefAt w p F D) (hok : D.Ok) (hl : Row cI64 8 w Dl a n l) (hlok : ∀ x ∈ l, I64 x) (hDl : ∀ b, Dl b → b < w.heap.size ∧ ¬ F b) (h64 : l.length ≤ 64) :
    Calls Tryz.prog F_ref21_step #[.pointer (some ⟨p, 0, none⟩), .agg #[.slice a n c], .int .i64 (i : Int)] w (Ok (RDid w p F (mStep l i D))) := by
  have ht : mTemp.size ≤ 1000000 := by decide +kernel
  have hnm : mName.size ≤ 1000000 := by decide +kernel
  refine L_ref21_step (PA.mk fun w1 k1 s1 g1 => ?_)
  have h1 := h.grew k1
  have fin : ∀ {r : Int × DiskV} {v w'}, RDid w1 p F r v w' → ∃ t : Int, v = .int .i64 t ∧ Ok (RDid w p F r) (.returned (.int .i64 t)) w' := fun hd => rdid_int _ _ k1 hd
  match i, hi with
  | 0, _ =>
    refine PIf.tt rfl (PC.ok (ref21_has h1 hok) ?_)
    rintro _ w2 ⟨rfl, k2⟩
    have hm : (mTemp ∈ D.list) ↔ (aget D.files mTemp).isSome = true := mem_list'
    refine ⟨_, rfl, PIf.not (PIf.dec (fun hin => PC.ok (ref_Delete (h1.grew k2) hok.fit hok.left0 hok.leftR) fun v w' hd => rdid_int _ _ (k1.then k2) ?_) (fun hin => ?_))⟩
    · have e : mStep l 0 D = D.delete mTemp := by show cleanV D = _; unfold cleanV; rw [if_pos (hm.1 hin)]
      rw [e]; exact hd
    · have e : mStep l 0 D = (0, D) := by show cleanV D = _; unfold cleanV; rw [if_neg fun hc => hin (hm.2 hc)]
      rw [e]; exact Ok.mk ⟨F, rfl, h1.grew k2, Grew.keep (k1.then k2), fun _ h => .inl h⟩
  | 1, _ => exact PIf.ff rfl (PIf.tt rfl (PC.ok (ref_Create ht h1 hok.fit hok.left0 hok.leftR) fun v w' hd => fin hd))
  | 2, _ =>
    refine PIf.ff rfl (PIf.ff rfl (PIf.tt rfl ⟨_, _, _, cell_at g1 rfl, PC.ok (ref21_Bytes (hl.grew k1) hlok (fun b hb => by have := (hDl b hb).1; omega) h64) ?_⟩))
    rintro _ w2 ⟨a2, n2, c2, F2, rfl, ho2, k2, hF2⟩
    have hml := mfBytes_length l
    have hmb := mfBody_le hlok h64
    exact ⟨_, _, _, rfl, PC.ok (ref_Append (h1.grew k2) hok.fit hok.left0 hok.leftR (ho2.row (by decide) (by unfold Big; omega)) fun b hb => ⟨ho2.dom b hb, fun hf => by have := h1.dom b hf; have := hF2 b hb; omega⟩) fun v w' hd => rdid_int _ _ (k1.then k2) hd⟩
  | 3, _ => exact PIf.ff rfl (PIf.ff rfl (PIf.ff rfl (PIf.tt rfl (PC.ok (ref_Sync h1 hok.fit hok.left0 hok.leftR) fun v w' hd => fin hd))))
  | 4, _ => exact PIf.ff rfl (PIf.ff rfl (PIf.ff rfl (PIf.ff rfl (PC.ok (ref_Rename hnm h1 hok.fit hok.left0 hok.leftR) fun v w' hd => fin hd))))

theorem ref21_Write {w : World} {p : Nat} {F Dl : Nat → Prop} {D : DiskV} {a : Option Addr} {n c : Nat} {l : List Int} (h : RefAt w p F D) (hok : D.Ok) (hl : Row cI64 8 w Dl a n l) (hlok : ∀ x ∈ l, I64 x) (hDl : ∀ b, Dl b → b < w.heap.size ∧ ¬ F b) :
    Calls Tryz.prog F_ref21_Write #[.pointer (some ⟨p, 0, none⟩), .agg #[.slice a n c]] w (Ok (RDid w p F (mfWrite D l))) := by
  have hn := hl.len
  have hFlt := h.dom
  refine L_ref21_Write (PA.mk fun w1 k1 s1 g1 => ⟨_, _, _, cell_at g1 rfl, PIf.dec (fun hg => ?_) (fun hg => ?_)⟩)
  · rw [show mfWrite D l = (3, D) by unfold mfWrite; rw [if_pos (by omega)]]
    exact Ok.mk ⟨F, rfl, h.grew k1, k1.keep, fun _ h => .inl h⟩
  rw [show mfWrite D l = mRun l 0 5 D by unfold mfWrite; rw [if_neg (by omega)]]
  refine ⟨fun m t w' => ∃ (i : Nat) (Di : DiskV) (Fi : Nat → Prop), t = i ∧ i ≤ 5 ∧ m = 5 - i ∧ mRun l 0 5 D = mRun l i (5 - i) Di ∧ RefAt w' p Fi Di ∧ Di.Ok ∧ Evo F w1 Fi w', ⟨_, 0, D, F, rfl, by omega, rfl, rfl, h.grew k1, hok, Evo.refl _ _⟩, ?_⟩
  rintro m t _ w2 ⟨i, Di, Fi, rfl, hi, rfl, hrun, h2, hok2, hev⟩
  have kF : Keep F w w2 := Keep.then k1.keep hev.keep
  have eF : Evo F w Fi w2 := ⟨kF, fun b hb => (hev.new b hb).imp id fun h => by omega⟩
  refine PIf.dec (fun hlt => ?_) (fun hge => ?_)
  · have g2 := hev.keep.get g1 (fun hf => by have := hFlt _ hf; omega)
    have hs2 := hev.keep.size
    have hl2 : Row cI64 8 w2 Dl a n l := hl.keep kF fun b hb => (hDl b hb).2
    refine ⟨_, _, _, cell_at g2 rfl, PC.ok (ref21_step (l := l) (i := i) (by omega) h2 hok2 hl2 hlok (fun b hb => ⟨by have := (hDl b hb).1; omega, fun hf => (hev.new b hf).elim (hDl b hb).2 fun h => by have := (hDl b hb).1; omega⟩) (by omega)) ?_⟩
    rintro _ w3 ⟨F3, rfl, h3, hev3⟩
    have hok3 := Ok.mstep hok2 l i
    have e3 : Evo F w F3 w3 := eF.trans hev3
    rw [mRun_succ l (i := i) (by omega)] at hrun
    refine ⟨_, rfl, PIf.neI (fun hne => ?_) (fun h0 => ?_)⟩
    · rw [if_pos hne] at hrun
      rw [hrun]
      refine PC.ok (ref21_has h3 hok3) ?_
      rintro _ w4 ⟨rfl, k4⟩
      have hm : (mTemp ∈ (mStep l i Di).2.list) ↔ (aget (mStep l i Di).2.files mTemp).isSome = true := mem_list'
      refine ⟨_, rfl, PIf.dec (fun hin => PC.ok (ref_Delete (h3.grew k4) hok3.fit hok3.left0 hok3.leftR) ?_) (fun hin => ?_)⟩
      · rintro _ w5 ⟨F5, rfl, h5, hev5⟩
        have e : (cleanV (mStep l i Di).2).2 = ((mStep l i Di).2.delete mTemp).2 := by unfold cleanV; rw [if_pos (hm.1 hin)]
        refine ⟨_, rfl, Ok.mk ⟨F5, rfl, by rw [e]; exact h5, (e3.trans (Evo.mk k4.keep fun _ h => .inl h : Evo F3 w3 F3 w4)).trans hev5⟩⟩
      · have e : (cleanV (mStep l i Di).2).2 = (mStep l i Di).2 := by unfold cleanV; rw [if_neg fun hc => hin (hm.2 hc)]
        exact Ok.mk ⟨F3, rfl, by rw [e]; exact h3.grew k4, e3.trans (Evo.mk k4.keep fun _ h => .inl h : Evo F3 w3 F3 w4)⟩
    · rw [if_neg fun hc => hc h0] at hrun
      exact ⟨_, by omega, i + 1, _, F3, wrap_succ (by omega), by omega, rfl, hrun, h3, hok3, hev.trans hev3⟩
  · obtain rfl : i = 5 := by omega
    rw [hrun]
    exact Ok.mk ⟨Fi, rfl, h2, eF⟩

theorem ref21_Read {w : World} {p : Nat} {F : Nat → Prop} {D : DiskV} (hD : RefAt w p F D) (hok : D.Ok) :
    Calls Tryz.prog F_ref21_Read #[.pointer (some ⟨p, 0, none⟩)] w (Ok fun v w' => ∃ a n c G, v = .tuple #[.agg #[.slice a n c], .bool (mfTell D).isSome] ∧ Lst cI64 3 G w' a n c ((mfTell D).getD []) ∧ Grew w w' ∧ ∀ b, G b → w.heap.size ≤ b) := by
  refine L_ref21_Read (PA.mk fun w1 k1 s1 g1 => PC.ok (ref_Read (hD.grew k1) hok.fit) ?_)
  rintro _ w2 ⟨_, rfl, a2, n2, c2, F2, rfl, ho2, k2, hF2⟩
  change Lst cU8 5 F2 w2 a2 n2 c2 (D.read mName).1 at ho2
  have hlen : (D.read mName).1.length ≤ 262144 := read_len hok mName
  have hcell : ∀ {w'}, Grew w1 w' → w'.heap[w.heap.size]? = some (.cells #[.slice none 0 0] 56 (0, 0)) := fun hk => hk.get g1 id
  have stop : mfTell D = none → ∀ w3, Grew w1 w3 → PS w3 ⟨w.heap.size, 0, none⟩ (.slice none 0 0) fun w7 => ∃ (r8a : Option Addr) (r8n : Nat) (r8c : Nat), w7.cell? ⟨w.heap.size, 0, none⟩ = some (.slice r8a r8n r8c) ∧
      Ok (fun v w' => ∃ a n c G, v = .tuple #[.agg #[.slice a n c], .bool (mfTell D).isSome] ∧ Lst cI64 3 G w' a n c ((mfTell D).getD []) ∧ Grew w w' ∧ ∀ b, G b → w.heap.size ≤ b) (.returned (.tuple #[.agg #[.slice r8a r8n r8c], .bool false])) w7 := by
    intro he w3 k3
    refine PS.mk (hcell k3) (by simp) fun w4 k4 s4 g4 => ⟨_, _, _, cell_at g4 rfl, ?_⟩
    rw [he]
    exact Ok.mk ⟨none, 0, 0, fun _ => False, rfl, Lst.nil w4, (k1.then k3).new k4 fun b hb => .inr (by omega), fun _ h => h.elim⟩
  have hT0 : (D.read mName).2 ≠ 0 → mfTell D = none := fun hne => by unfold mfTell; exact if_pos hne
  have hT1 : (D.read mName).2 = 0 → mfTell D = mfRead (D.read mName).1 := fun he => by unfold mfTell; exact if_neg fun h => h he
  have hn2 := ho2.len (by decide)
  generalize (D.read mName).1 = bs at ho2 hlen hT1 hn2
  refine ⟨_, _, _, _, rfl, PC.ok (ref03_Get (ho2.row (bytes := 1) (by decide) (by unfold Big; omega)) ho2.cap_le ho2.dom) ?_⟩
  rintro _ w3 ⟨a3, n3, c3, F3, rfl, ho3, k3, hF3⟩
  refine ⟨_, _, _, _, _, _, rfl, PA.mk fun w4 k4 s4 g4 => PS.mk g4 (by simp) fun w5 k5 s5 g5 => PS.mk g5 (by simp) fun w6 k6 s6 g6 => ?_⟩
  have g6' : w6.heap[w3.heap.size]? = some (.cells #[.int .i64 (frGet bs).kind, .slice a3 n3 c3] 99 (0, 0)) := g6
  have k36 : Grew w3 w6 := (k4.new k5 fun b hb => .inr (by omega)).new k6 fun b hb => .inr (by omega)
  have k16 : Grew w1 w6 := (k2.then k3).then k36
  have h36 := k36.size
  refine PIf.neI (fun hne => stop (hT0 hne) w6 k16) (fun he => ?_)
  have hT : mfTell D = mfRead bs := hT1 he
  refine PIf.neI (fun hne => stop (by rw [hT]; unfold mfRead; exact if_pos (.inl hne)) w6 k16) (fun hno => ?_)
  refine PIf.neI (fun hne => stop (by rw [hT]; unfold mfRead; exact if_pos (.inr (.inl fun e => hne (by rw [e, hn2])))) w6 k16) (fun hnn => ?_)
  refine ⟨_, cell_at g6' rfl, PIf.neI (fun hne => stop (by rw [hT]; unfold mfRead; exact if_pos (.inr (.inr hne))) w6 k16) (fun hk2 => ?_)⟩
  have hR : mfTell D = if rdDone (mfNums (frGet bs).body).2 ≠ 0 then none else some (mfNums (frGet bs).body).1 := by
    rw [hT]; unfold mfRead
    refine if_neg ?_
    rintro (h | h | h)
    · exact h hno
    · exact h (by omega)
    · exact h hk2
  have ho6 := ho3.grew k36
  obtain ⟨hle, h9, hbl⟩ := frGet_no hno
  generalize (frGet bs).body = body at ho6 hR hbl g6' ho3
  refine ⟨_, _, _, cell_at g6' rfl, PC.ok (ref01_From (ho6.row (bytes := 1) (by decide) (by unfold Big; omega)) ho6.dom) ?_⟩
  rintro _ w7 ⟨q, P, rfl, hr7, k7, hP⟩
  refine ⟨_, rfl, PC.ok (ref01_rdCount (m := 64) hr7 (by omega)) ?_⟩
  rintro _ w9 ⟨rfl, hr9, k9⟩
  have hP7 := hr7.dom
  have hq7 := hP7 q hr7.self
  have hq6 := hP q hr7.self
  obtain ⟨c1, c2', c3', c4⟩ := RdV.Fit.count (r := ⟨body, 0, 0⟩) ⟨Nat.zero_le _, .inl rfl⟩ (m := 64) (by omega)
  have hN : mfNums body = rdInts (rdCount 64 ⟨body, 0, 0⟩).1.toNat (rdCount 64 ⟨body, 0, 0⟩).2 := rfl
  have k19 : Grew w1 w9 := (k16.then k7).new k9 fun b hb => .inr (by have := k16.size; omega)
  generalize hct : rdCount 64 ⟨body, 0, 0⟩ = ct at hr9 c1 c2' c3' c4 hN
  obtain ⟨cn, r0⟩ := ct
  simp only at hr9 c1 c2' c3' c4 hN
  have k79 := k9.size
  refine ⟨_, rfl, fun m la ln lc t w' => ∃ j : Nat, t = j ∧ (j : Int) ≤ cn ∧ m = cn.toNat - j ∧ RdR w' q P (rdInts j r0).2 ∧ Grew w1 w' ∧ ∃ G, Lst cI64 3 G w' la ln lc (rdInts j r0).1 ∧ (∀ b, G b → w9.heap.size ≤ b) ∧ w9.heap.size ≤ w'.heap.size,
    ⟨_, 0, rfl, c2', rfl, hr9, k19, fun _ => False, Lst.nil w9, fun _ h => h.elim, Nat.le_refl _⟩, ?_⟩
  rintro m la ln lc t _ w10 ⟨j, rfl, hj, rfl, hr10, k10, G10, ho10, hG10, h910⟩
  have hP9 : ∀ b, P b → b < w9.heap.size := fun b hb => by have := hP7 b hb; omega
  have h19 := k19.size
  refine PIf.dec (fun hlt => ?_) (fun hge => ?_)
  · refine PC.ok (ref01_rdInt hr10) ?_
    rintro _ w12 ⟨rfl, hr12, k12⟩
    obtain ⟨f1, f2, f3, f4⟩ := c1.ints j
    obtain ⟨f5, f6, f7⟩ := f1.int
    have ho12 := ho10.keep k12 fun b hb e => by have := hG10 b hb; omega
    have hlj : (rdInts j r0).1.length = j := f3
    have z2 := k12.size
    refine ⟨_, rfl, papp ho12 slI64 (x := (rdInt (rdInts j r0).2).1) (D := fun _ => False) ⟨rfl, f6⟩ (fun _ h => h.elim) (by rw [hlj]; unfold Big; omega) (by rw [hlj]; unfold maxLen; omega) fun a14 c14 w14 F14 ho14 hk14 hF14 _ => ?_⟩
    have z4 := hk14.size
    refine ⟨_, _, _, rfl, cn.toNat - (j + 1), by omega, j + 1, wrap_succ (by omega), by omega, rfl, ?_, ?_, F14, ho14, fun b hb => ?_, by omega⟩
    · rw [rdInts_succ]
      exact hr12.keep hk14 fun b hb e => by have := hP9 b hb; have := hG10 b (ho10.self b e); omega
    · exact (k10.new k12 fun b hb => .inr (by have := k16.size; omega)).new hk14 fun b hb => .inr (by have := hG10 b (ho10.self b hb); omega)
    · rcases hF14 b hb with h | h | h
      · exact hG10 b h
      · exact h.elim
      · omega
  · obtain rfl : cn = (j : Int) := by omega
    rw [Int.toNat_natCast] at hN
    rw [← hN] at hr10 ho10
    refine PC.ok (ref01_rdDone hr10) ?_
    rintro _ w11 ⟨rfl, d11⟩
    have k11 : Grew w10 w11 := d11.keep
    refine ⟨_, rfl, PIf.neI (fun hne => stop (by rw [hR]; exact if_pos hne) w11 (k10.then k11)) (fun h0 => ?_)⟩
    have hS : mfTell D = some (mfNums body).1 := by rw [hR]; exact if_neg fun h => h h0
    rw [hS]
    refine PS.mk (hcell (k10.then k11)) (by simp) fun w12 k12 s12 g12 => ⟨_, _, _, cell_at g12 rfl, Ok.mk ⟨la, ln, lc, G10, rfl, ?_, ?_, ?_⟩⟩
    · exact (ho10.grew k11).keep k12 fun b hb e => by have := hG10 b hb; omega
    · exact (k1.then (k10.then k11)).new k12 fun b hb => .inr (by omega)
    · intro b hb; have := hG10 b hb; omega
end Go.Proofs.YtpbpjojdfcdbbaaGreatDoor

/- the document's log: a disk of the document's, nested; a log on it -/
namespace Go.Proofs.YtpbpjojdfcdbbaaGreatDoor
open Go.Lift
set_option linter.unusedVariables false
set_option maxRecDepth 20000

/-- the document's disk, made behind w0, apart from blocks X -/
def NRef (w0 w : World) (p : Nat) (D : DiskV) (X : Nat → Prop) : Prop := ∃ F, RefAt w p F D ∧ D.Ok ∧ Grew w0 w ∧ (∀ b, F b → w0.heap.size ≤ b ∧ ¬ X b) ∧ ∀ b, X b → b < w.heap.size

theorem DiskV.Ok.mfw {D : DiskV} (h : D.Ok) (l : List Int) : (mfWrite D l).2.Ok := by
  have run : ∀ (k i : Nat) {E : DiskV}, E.Ok → (mRun l i k E).2.Ok := by
    intro k
    induction k with
    | zero => intro i E h; exact h
    | succ k ih =>
      intro i E h
      rw [mRun]
      split
      · exact Ok.clean (Ok.mstep h l i)
      · exact ih (i + 1) (Ok.mstep h l i)
  unfold Go.Proofs.YtpbpjojdfcdbbaaGreatDoor.mfWrite
  split
  · exact h
  · exact run 5 0 h

section
variable {w0 w w1 w' : World} {p q : Nat} {D D' : DiskV} {V V' : LogV} {X Y Z G S : Nat → Prop} {k : ByteArray}
theorem NRef.gr (h : NRef w0 w p D X) : Grew w0 w := by obtain ⟨F, h1, h0, h2, h3, h4⟩ := h; exact h2
theorem NRef.ok (h : NRef w0 w p D X) : D.Ok := by obtain ⟨F, h1, h0, h2, h3, h4⟩ := h; exact h0
theorem NRef.dom (h : NRef w0 w p D X) : ∀ b, X b → b < w.heap.size := by obtain ⟨F, h1, h0, h2, h3, h4⟩ := h; exact h4
theorem NRef.grew (h : NRef w0 w p D X) (hk : Grew w w') : NRef w0 w' p D X := by
  obtain ⟨F, h1, h0, h2, h3, h4⟩ := h; exact ⟨F, h1.grew hk, h0, h2.grew hk, h3, fun b hb => Nat.lt_of_lt_of_le (h4 b hb) hk.size⟩
theorem NRef.mono (h : NRef w0 w p D X) (hx : ∀ b, Y b → X b) : NRef w0 w p D Y := by
  obtain ⟨F, h1, h0, h2, h3, h4⟩ := h; exact ⟨F, h1, h0, h2, fun b hb => ⟨(h3 b hb).1, fun hy => (h3 b hb).2 (hx b hy)⟩, fun b hb => h4 b (hx b hb)⟩
/-- what others do in blocks of X, and what they make -/
theorem NRef.turn (h : NRef w0 w p D X) (hk : Keep Y w w') (hY : ∀ b, Y b → X b ∧ w0.heap.size ≤ b) (hZ : ∀ b, Z b → (X b ∨ b < w0.heap.size ∨ w.heap.size ≤ b) ∧ b < w'.heap.size) : NRef w0 w' p D Z := by
  obtain ⟨F, h1, h0, h2, h3, h4⟩ := h
  exact ⟨F, h1.keep hk fun b hb hy => (h3 b hb).2 (hY b hy).1, h0, h2.new hk fun b hb => .inr (hY b hb).2, fun b hb => ⟨(h3 b hb).1, fun hz => by
    rcases (hZ b hz).1 with h | h | h
    · exact (h3 b hb).2 h
    · have := (h3 b hb).1; omega
    · have := h1.dom b hb; omega⟩, fun b hb => (hZ b hb).2⟩
theorem NRef.add (h : NRef w0 w p D X) (hk : Grew w w') (hY : ∀ b, Y b → w.heap.size ≤ b ∧ b < w'.heap.size) : NRef w0 w' p D (fun b => X b ∨ Y b) :=
  h.turn (Y := fun _ => False) hk (fun b hb => hb.elim) fun b hb => hb.elim (fun hb => ⟨.inl hb, by have := h.dom b hb; have := hk.size; omega⟩) fun hb => ⟨.inr (.inr (hY b hb).1), (hY b hb).2⟩

/-- a call on such a disk -/
theorem NRef.call {g : FuncId} {args : Array Value} {r : Int × DiskV} (h : NRef w0 w p D X) (hok : r.2.Ok)
    (hc : ∀ F, RefAt w p F D → (∀ b, F b → w0.heap.size ≤ b ∧ b < w.heap.size ∧ ¬ X b) → Calls Tryz.prog g args w (Ok (RDid w p F r))) : Calls Tryz.prog g args w (Ok fun v w' => v = .int .i64 r.1 ∧ NRef w0 w' p r.2 X ∧ Keep (Not' X) w w') := by
  obtain ⟨F, h1, h0, h2, h3, h4⟩ := h
  refine Calls.ok (hc F h1 fun b hb => ⟨(h3 b hb).1, h1.dom b hb, (h3 b hb).2⟩) ?_
  rintro v w' ⟨F', hv, hD, hev⟩
  have := h2.size; have := hev.keep.size
  exact ⟨hv, ⟨F', hD, hok, h2.new hev.keep fun b hb => .inr (h3 b hb).1, fun b hb => (hev.new b hb).elim (h3 b) fun h => ⟨by omega, fun hx => by have := h4 b hx; omega⟩, fun b hb => by have := h4 b hb; omega⟩, hev.keep.mono fun b _ hb => (h3 b hb).2⟩
theorem NRef.create (h : NRef w0 w p D X) (hk : k.size ≤ 1000000) : Calls Tryz.prog F_ref19_Disk_Create #[.pointer (some ⟨p, 0, none⟩), .string k] w (Ok fun v w' => v = .int .i64 (D.create k).1 ∧ NRef w0 w' p (D.create k).2 X ∧ Keep (Not' X) w w') :=
  h.call (h.ok.create k) fun F hD _ => ref_Create hk hD h.ok.fit h.ok.left0 h.ok.leftR
theorem NRef.sync (h : NRef w0 w p D X) : Calls Tryz.prog F_ref19_Disk_Sync #[.pointer (some ⟨p, 0, none⟩), .string k] w (Ok fun v w' => v = .int .i64 (D.sync k).1 ∧ NRef w0 w' p (D.sync k).2 X ∧ Keep (Not' X) w w') :=
  h.call (h.ok.sync k) fun F hD _ => ref_Sync hD h.ok.fit h.ok.left0 h.ok.leftR
theorem NRef.cutF {n : Int} (h : NRef w0 w p D X) : Calls Tryz.prog F_ref19_Disk_Cut #[.pointer (some ⟨p, 0, none⟩), .string k, .int .i64 n] w (Ok fun v w' => v = .int .i64 (D.cutF k n).1 ∧ NRef w0 w' p (D.cutF k n).2 X ∧ Keep (Not' X) w w') :=
  h.call (h.ok.cutF k n) fun F hD _ => ref_Cut hD h.ok.fit h.ok.left0 h.ok.leftR
theorem NRef.delete (h : NRef w0 w p D X) : Calls Tryz.prog F_ref19_Disk_Delete #[.pointer (some ⟨p, 0, none⟩), .string k] w (Ok fun v w' => v = .int .i64 (D.delete k).1 ∧ NRef w0 w' p (D.delete k).2 X ∧ Keep (Not' X) w w') :=
  h.call (h.ok.delete k) fun F hD _ => ref_Delete hD h.ok.fit h.ok.left0 h.ok.leftR
theorem NRef.append {a : Option Addr} {n c : Nat} {bs : List UInt8} {Db : Nat → Prop} (h : NRef w0 w p D X) (hb : Row cU8 1 w Db a n bs) (hDb : ∀ b, Db b → b < w0.heap.size ∨ X b) :
    Calls Tryz.prog F_ref19_Disk_Append #[.pointer (some ⟨p, 0, none⟩), .string k, .slice a n c] w (Ok fun v w' => v = .int .i64 (D.append k bs).1 ∧ NRef w0 w' p (D.append k bs).2 X ∧ Keep (Not' X) w w') := by
  have hg := h.gr.size
  have hx := h.dom
  exact h.call (h.ok.append k bs) fun F hD hF => ref_Append hD h.ok.fit h.ok.left0 h.ok.leftR hb fun b hb => ⟨(hDb b hb).elim (fun h => by omega) (hx b), fun hf => (hDb b hb).elim (fun h => by have := (hF b hf).1; omega) (hF b hf).2.2⟩
theorem NRef.mfWrite {a : Option Addr} {n c : Nat} {l : List Int} {Dl : Nat → Prop} (h : NRef w0 w p D X) (hl : Row cI64 8 w Dl a n l) (hok : ∀ x ∈ l, I64 x) (hDl : ∀ b, Dl b → b < w0.heap.size ∨ X b) :
    Calls Tryz.prog F_ref21_Write #[.pointer (some ⟨p, 0, none⟩), .agg #[.slice a n c]] w (Ok fun v w' => v = .int .i64 (Go.Proofs.YtpbpjojdfcdbbaaGreatDoor.mfWrite D l).1 ∧ NRef w0 w' p (Go.Proofs.YtpbpjojdfcdbbaaGreatDoor.mfWrite D l).2 X ∧ Keep (Not' X) w w') := by
  have hg := h.gr.size
  have hx := h.dom
  exact h.call (h.ok.mfw l) fun F hD hF => ref21_Write hD h.ok hl hok fun b hb => ⟨(hDl b hb).elim (fun h => by omega) (hx b), fun hf => (hDl b hb).elim (fun h => by have := (hF b hf).1; omega) (hF b hf).2.2⟩
theorem NRef.mfRead (h : NRef w0 w p D X) : Calls Tryz.prog F_ref21_Read #[.pointer (some ⟨p, 0, none⟩)] w (Ok fun v w' => ∃ a n c G, v = .tuple #[.agg #[.slice a n c], .bool (mfTell D).isSome] ∧ Lst cI64 3 G w' a n c ((mfTell D).getD []) ∧ (∀ b, G b → w.heap.size ≤ b) ∧ Grew w w') := by
  obtain ⟨F, h1, h0, -⟩ := h
  refine Calls.ok (ref21_Read h1 h0) ?_
  rintro v w' ⟨a, n, c, G, rfl, ho, hk, hG⟩
  exact ⟨a, n, c, G, rfl, ho, hG, hk⟩
theorem NRef.read (h : NRef w0 w p D X) : Calls Tryz.prog F_ref19_Disk_Read #[.pointer (some ⟨p, 0, none⟩), .string k] w (Ok fun v w' => ∃ a n c F, v = .tuple #[.slice a n c, .int .i64 (D.read k).2] ∧ Lst cU8 5 F w' a n c (D.read k).1 ∧ (∀ b, F b → w.heap.size ≤ b) ∧ Grew w w') := by
  obtain ⟨F, h1, h0, -⟩ := h
  refine Calls.ok (ref_Read h1 h0.fit) ?_
  rintro v w' ⟨u, rfl, a, n, c, G, rfl, ho, hk, hG⟩
  exact ⟨a, n, c, G, rfl, ho, hG, hk⟩
theorem NRef.load {n : Int} (h : NRef w0 w p D X) (hn : I64 n) : Calls Tryz.prog F_ref20_Load #[.pointer (some ⟨p, 0, none⟩), .int .i64 n] w (Ok fun v w' =>
    ∃ a m c G, v = .tuple #[.slice a m c, .int .i64 ((segLoad (D.read (txt (segName n))).1).2 : Int)] ∧ Lst cEvO 39 G w' a m c (segLoad (D.read (txt (segName n))).1).1 ∧
      (∀ b, G b → w.heap.size ≤ b) ∧ Grew w w' ∧ (segLoad (D.read (txt (segName n))).1).1.length ≤ 262144) := by
  obtain ⟨F, h1, h0, -⟩ := h
  refine Calls.ok (ref20_Load h1 h0 hn) ?_
  rintro v w' ⟨a, m, c, G, rfl, ho, hk, hG, hl⟩
  exact ⟨a, m, c, G, rfl, ho, hG, hk, hl⟩
theorem NRef.list (h : NRef w0 w p D X) : Calls Tryz.prog F_ref19_Disk_List #[.pointer (some ⟨p, 0, none⟩)] w (Ok (New cStr 9 w D.list)) := by
  obtain ⟨F, h1, h0, -⟩ := h; exact ref_List h1 h0.fit
theorem NRef.room (h : NRef w0 w p D X) : Calls Tryz.prog F_ref19_Disk_Room #[.pointer (some ⟨p, 0, none⟩)] w (Ok fun v w' => v = .int .i64 D.room ∧ w = w') := by
  obtain ⟨F, h1, h0, -⟩ := h; exact ref_Room h1 h0.fit

/-- block q is the document's log on the disk at p; its blocks: G -/
structure RLogAt (w : World) (p q : Nat) (G : Nat → Prop) (V : LogV) : Prop where
  body : ∃ a n c E, w.heap[q]? = some (.cells #[.pointer (some ⟨p, 0, none⟩), .int .i64 V.size, .slice a n c, .int .i64 V.bytes, .int .i64 V.next] 149 (0, 0)) ∧ Lst cI64 3 E w a n c V.segs ∧ ∀ b, E b → G b ∧ b ≠ q
  self : G q
  dom : ∀ b, G b → b < w.heap.size
  many : V.segs.length ≤ 64
  nextR : I64 V.next
theorem RLogAt.keep (h : RLogAt w p q G V) (hk : Keep S w w') (hd : ∀ b, G b → ¬ S b) : RLogAt w' p q G V := by
  obtain ⟨a, n, c, E, g, ho, hE⟩ := h.body
  exact ⟨⟨a, n, c, E, hk.get g (hd q h.self), ho.keep hk fun b hb => hd b (hE b hb).1, hE⟩, h.self, fun b hb => Nat.lt_of_lt_of_le (h.dom b hb) hk.size, h.many, h.nextR⟩
theorem RLogAt.grew (h : RLogAt w p q G V) (hk : Grew w w') : RLogAt w' p q G V := h.keep hk fun _ _ h => h
theorem RLogAt.row (h : RLogAt w p q G V) : ∃ a n c E, w.heap[q]? = some (.cells #[.pointer (some ⟨p, 0, none⟩), .int .i64 V.size, .slice a n c, .int .i64 V.bytes, .int .i64 V.next] 149 (0, 0)) ∧ Row cI64 8 w E a n V.segs ∧ (∀ b, E b → G b ∧ b ≠ q) ∧ n = V.segs.length := by
  obtain ⟨a, n, c, E, g, ho, hE⟩ := h.body
  have := h.many
  exact ⟨a, n, c, E, g, ho.row (by decide) (by unfold Big; omega), hE, ho.len (by decide)⟩

/-- the document's log, made behind w0, apart from blocks X, on a disk apart from both -/
def NRLog (w0 w : World) (p q : Nat) (V : LogV) (D : DiskV) (X : Nat → Prop) : Prop := ∃ G, NRef w0 w p D (fun b => X b ∨ G b) ∧ RLogAt w p q G V ∧ ∀ b, G b → w0.heap.size ≤ b ∧ ¬ X b
theorem NRLog.gr (h : NRLog w0 w p q V D X) : Grew w0 w := by obtain ⟨G, h1, h2, h3⟩ := h; exact h1.gr
theorem NRLog.ok (h : NRLog w0 w p q V D X) : D.Ok := by obtain ⟨G, h1, h2, h3⟩ := h; exact h1.ok
theorem NRLog.many (h : NRLog w0 w p q V D X) : V.segs.length ≤ 64 := by obtain ⟨G, h1, h2, h3⟩ := h; exact h2.many
theorem NRLog.nextR (h : NRLog w0 w p q V D X) : I64 V.next := by obtain ⟨G, h1, h2, h3⟩ := h; exact h2.nextR
theorem NRLog.dom (h : NRLog w0 w p q V D X) : ∀ b, X b → b < w.heap.size := by obtain ⟨G, h1, h5, h6⟩ := h; exact fun b hb => h1.dom b (.inl hb)
theorem NRLog.q_lt (h : NRLog w0 w p q V D X) : q < w.heap.size ∧ w0.heap.size ≤ q ∧ ¬ X q := by obtain ⟨G, h1, h2, h3⟩ := h; exact ⟨h2.dom q h2.self, h3 q h2.self⟩
theorem NRLog.disk (h : NRLog w0 w p q V D X) : NRef w0 w p D X := by obtain ⟨G, h1, h2, h3⟩ := h; exact h1.mono fun b hb => .inl hb
theorem NRLog.grew (h : NRLog w0 w p q V D X) (hk : Grew w w') : NRLog w0 w' p q V D X := by
  obtain ⟨G, h1, h2, h3⟩ := h; exact ⟨G, h1.grew hk, h2.grew hk, h3⟩
theorem NRLog.mono (h : NRLog w0 w p q V D X) (hx : ∀ b, Y b → X b) : NRLog w0 w p q V D Y := by
  obtain ⟨G, h1, h2, h3⟩ := h; exact ⟨G, h1.mono fun b hb => hb.imp (hx b) id, h2, fun b hb => ⟨(h3 b hb).1, fun hy => (h3 b hb).2 (hx b hy)⟩⟩
theorem NRLog.turn (h : NRLog w0 w p q V D X) (hk : Keep Y w w') (hY : ∀ b, Y b → X b ∧ w0.heap.size ≤ b) (hZ : ∀ b, Z b → (X b ∨ b < w0.heap.size ∨ w.heap.size ≤ b) ∧ b < w'.heap.size) : NRLog w0 w' p q V D Z := by
  obtain ⟨G, h1, h2, h3⟩ := h
  refine ⟨G, h1.turn hk (fun b hb => ⟨.inl (hY b hb).1, (hY b hb).2⟩) fun b hb => ?_, h2.keep hk fun b hb hy => (h3 b hb).2 (hY b hy).1, fun b hb => ⟨(h3 b hb).1, fun hz => by
    rcases (hZ b hz).1 with h | h | h
    · exact (h3 b hb).2 h
    · have := (h3 b hb).1; omega
    · have := h2.dom b hb; omega⟩⟩
  rcases hb with hb | hb
  · exact ⟨(hZ b hb).1.imp .inl id, (hZ b hb).2⟩
  · exact ⟨.inl (.inr hb), Nat.lt_of_lt_of_le (h2.dom b hb) hk.size⟩
theorem NRLog.add (h : NRLog w0 w p q V D X) (hk : Grew w w') (hY : ∀ b, Y b → w.heap.size ≤ b ∧ b < w'.heap.size) : NRLog w0 w' p q V D (fun b => X b ∨ Y b) :=
  h.turn (Y := fun _ => False) hk (fun b hb => hb.elim) fun b hb => hb.elim (fun hb => ⟨.inl hb, by have := h.dom b hb; have := hk.size; omega⟩) fun hb => ⟨.inr (.inr (hY b hb).1), (hY b hb).2⟩
/-- a call on the disk alone -/
theorem NRLog.on {g : FuncId} {args : Array Value} {r : Int × DiskV} (h : NRLog w0 w p q V D X)
    (hc : ∀ Z, (∀ b, X b → Z b) → NRef w0 w p D Z → Calls Tryz.prog g args w (Ok fun v w' => v = .int .i64 r.1 ∧ NRef w0 w' p r.2 Z ∧ Keep (Not' Z) w w')) : Calls Tryz.prog g args w (Ok fun v w' => v = .int .i64 r.1 ∧ NRLog w0 w' p q V r.2 X ∧ Keep (Not' X) w w') := by
  obtain ⟨G, h1, h2, h3⟩ := h
  refine Calls.ok (hc _ (fun b hb => .inl hb) h1) ?_
  rintro v w' ⟨hv, hD, hk⟩
  exact ⟨hv, ⟨G, hD, h2.keep hk fun b hb hn => hn (.inr hb), h3⟩, hk.mono fun b _ hb hx => hb (.inl hx)⟩

def DoesR (w0 w : World) (p q : Nat) (X : Nat → Prop) (r : Int × LogV × DiskV) (v : Value) (w' : World) : Prop := v = .int .i64 r.1 ∧ NRLog w0 w' p q r.2.1 r.2.2 X ∧ Keep (Not' X) w w'

theorem segNm_size (n : Int) : (txt (segName n)).size ≤ 1000000 := by rw [txt_size]; have := segName_length n; omega

theorem rlog_Next (h : RLogAt w p q G V) : Calls Tryz.prog F_ref22_Log_Next #[.pointer (some ⟨q, 0, none⟩)] w (Ok fun v w' => v = .int .i64 V.next ∧ w = w') := by
  obtain ⟨a, n, c, E, g, hr, hE, hn⟩ := h.row
  exact L_ref22_Log_Next ⟨q, 0, rfl, _, cell_at g rfl, Ok.mk ⟨rfl, rfl⟩⟩
theorem rlog_Segments (h : RLogAt w p q G V) : Calls Tryz.prog F_ref22_Log_Segments #[.pointer (some ⟨q, 0, none⟩)] w (Ok (New cI64 3 w V.segs)) := by
  obtain ⟨a, n, c, E, g, hr, hE, hn⟩ := h.row
  have hm := h.many
  refine L_ref22_Log_Segments ⟨fun m oa on oc i w' => ∃ (j : Nat) (F : Nat → Prop), i = j ∧ j ≤ n ∧ m = n - j ∧ Lst cI64 3 F w' oa on oc (V.segs.take j) ∧ (∀ b, F b → w.heap.size ≤ b) ∧ Grew w w',
    ⟨_, 0, fun _ => False, rfl, Nat.zero_le _, rfl, Lst.nil w, (fun _ h => h.elim), Keep.refl _⟩, ?_⟩
  rintro m oa on oc i _ w1 ⟨j, F, rfl, hj, rfl, ho, hF, k1⟩
  have g1 := k1.get g id
  refine ⟨q, 0, rfl, _, _, _, cell_at g1 rfl, PIf.dec (fun hlt => ?_) (fun hge => ?_)⟩
  · obtain ⟨b, off, x, rfl, hx, hxr, hc⟩ := (hr.grew k1).at1 (i := j) (by omega)
    refine ⟨q, 0, rfl, _, _, _, cell_at g1 rfl, b, off, rfl, by omega, by omega, x, hc, ?_⟩
    have htl : (V.segs.take j).length = j := by simp; omega
    refine papp ho slI64 (x := x) (D := fun _ => False) ⟨rfl, hxr⟩ (fun _ h => h.elim) (by rw [htl]; unfold Big; omega) (by rw [htl]; unfold maxLen; omega) fun a2 c2 w2 F2 ho2 hk2 hF2 _ => ?_
    refine ⟨_, _, _, rfl, n - (j + 1), by omega, j + 1, F2, wrap_succ (by omega), by omega, rfl, by rw [List.take_add_one, hx]; exact ho2, fun b hb => ?_, k1.new hk2 fun b hb => .inr (hF b (ho.self b hb))⟩
    have := k1.size
    rcases hF2 b hb with h' | h' | h'
    · exact hF b h'
    · exact h'.elim
    · omega
  · obtain rfl : j = n := by omega
    rw [List.take_of_length_le (by omega)] at ho
    exact Ok.mk ⟨_, _, _, F, rfl, ho, k1, hF⟩

theorem rlog_Sync (h : NRLog w0 w p q V D X) (hne : V.segs ≠ []) : Calls Tryz.prog F_ref22_Log_Sync #[.pointer (some ⟨q, 0, none⟩)] w (Ok fun v w' => v = .int .i64 (D.sync V.last).1 ∧ NRLog w0 w' p q V (D.sync V.last).2 X ∧ Keep (Not' X) w w') := by
  refine L_ref22_Log_Sync fun w1 d1 => ?_
  have k1 : Grew w w1 := d1.keep
  obtain ⟨G, hD, hl, hG⟩ := h.grew k1
  obtain ⟨a, n, c, E, g, hr, hE, hn⟩ := hl.row
  have hm := hl.many
  have hpos : 0 < V.segs.length := List.length_pos_iff.2 hne
  have hi : IntKind.wrap .i64 ((n : Int) - 1) = ((n - 1 : Nat) : Int) := by rw [wrap_i64 (by unfold I64; omega)]; omega
  obtain ⟨b, off, x, rfl, hx, hxr, hc⟩ := hr.at1 (i := n - 1) (by omega)
  have hlast : V.last = txt (segName x) := by unfold LogV.last; rw [List.getLast?_eq_getElem?, ← hn, hx]; rfl
  refine ⟨fun b => b ≠ q ∧ ¬ X b, q, 0, rfl, fun hs => hs.1 rfl, _, cell_at g rfl, q, 0, rfl, _, _, _, cell_at g rfl, q, 0, rfl, _, _, _, cell_at g rfl, b, off, rfl, ?_⟩
  rw [hi]
  refine ⟨by omega, by omega, x, hc, PC.ok (ref20_Name hxr) ?_⟩
  rintro _ w2 ⟨rfl, k2⟩
  rw [hlast]
  refine ⟨_, rfl, Grew.keep k2, PC.ok ((hD.grew k2).sync) ?_⟩
  rintro _ w3 ⟨rfl, hD3, k3⟩
  refine ⟨_, rfl, k3.mono fun b _ hb => ⟨fun e => hb (.inr (e ▸ hl.self)), fun hx => hb (.inl hx)⟩, Ok.mk ⟨rfl, ⟨G, hD3, (hl.grew k2).keep k3 fun b hb hn => hn (.inr hb), hG⟩, ?_⟩⟩
  exact (Grew.keep (k1.then k2)).then (k3.mono fun b _ hb hx => hb (.inl hx))
end
end Go.Proofs.YtpbpjojdfcdbbaaGreatDoor

/- the document's log: a segment begun; events laid -/
namespace Go.Proofs.YtpbpjojdfcdbbaaGreatDoor
open Go.Lift
set_option linter.unusedVariables false
set_option maxRecDepth 20000

theorem rlog_begin {w0 w : World} {p q : Nat} {V : LogV} {D : DiskV} {X : Nat → Prop} (h : NRLog w0 w p q V D X) :
    Calls Tryz.prog F_ref22_Log_begin #[.pointer (some ⟨q, 0, none⟩)] w (Ok (DoesR w0 w p q X (logBegin V D))) := by
  have hXd := h.dom
  obtain ⟨hq1, hq2, hq3⟩ := h.q_lt
  have hg0 := h.gr.size
  have hnR := h.nextR
  have hmany := h.many
  refine L_ref22_Log_begin ⟨fun w' => ∃ D1, NRLog w0 w' p q V D1 X ∧ Keep (Not' X) w w' ∧ logBegin V D = begin2 V D1, ?_, ?_⟩
  · obtain ⟨G, hD, hl, hG⟩ := id h
    obtain ⟨a, n, c, E, g, hr, hE, hn⟩ := hl.row
    refine ⟨q, 0, rfl, _, _, _, cell_at g rfl, PIf.dec (fun hpos => ?_) (fun hz => ?_)⟩
    · have hne : V.segs ≠ [] := fun e => by rw [e] at hn; simp at hn; omega
      refine PC.ok (rlog_Sync h hne) ?_
      rintro _ w1 ⟨rfl, hN1, k1⟩
      have hB : logBegin V D = if (D.sync V.last).1 ≠ 0 then ((D.sync V.last).1, V, (D.sync V.last).2) else begin2 V (D.sync V.last).2 := by unfold logBegin; rw [if_neg hne]
      refine ⟨_, rfl, PIf.neI (fun hne2 => ?_) (fun h0 => ⟨_, hN1, k1, by rw [hB, if_neg (by simpa using h0)]⟩)⟩
      rw [hB, if_pos hne2]
      exact Ok.mk ⟨rfl, hN1, k1⟩
    · have he : V.segs = [] := List.eq_nil_of_length_eq_zero (by omega)
      exact ⟨D, h, Keep.refl _, by unfold logBegin; rw [if_pos he]⟩
  rintro _ w1 ⟨D1, hN1, kX1, hB⟩
  rw [hB]
  obtain ⟨G1, hD1, hl1, hG1⟩ := id hN1
  obtain ⟨a1, n1, c1, E1, gq1, -, -, -⟩ := hl1.row
  refine ⟨q, 0, rfl, _, cell_at gq1 rfl, PC.ok (ref20_Name hnR) ?_⟩
  rintro _ w2 ⟨rfl, k2⟩
  have hN2 := hN1.grew k2
  have gq2 := Keep.get (S := fun _ => False) k2 gq1 id
  refine ⟨_, rfl, q, 0, rfl, _, cell_at gq2 rfl, PC.ok (hN2.on fun Z hZ hd => hd.create (segNm_size _)) ?_⟩
  rintro _ w3 ⟨rfl, hN3, k3⟩
  have kX3 : Keep (Not' X) w w3 := (kX1.grew k2).then k3
  have hB2 : begin2 V D1 = if (D1.create (txt (segName V.next))).1 ≠ 0 then ((D1.create (txt (segName V.next))).1, V, (D1.create (txt (segName V.next))).2) else begin3 V (D1.create (txt (segName V.next))).2 := rfl
  rw [hB2]
  generalize D1.create (txt (segName V.next)) = cr at hN3 ⊢
  refine ⟨_, rfl, PIf.neI (fun hne => ?_) (fun h0 => ?_)⟩
  · rw [if_pos hne]; exact Ok.mk ⟨rfl, hN3, kX3⟩
  rw [if_neg (by simpa using h0)]
  obtain ⟨G3, hD3, hl3, hG3⟩ := id hN3
  obtain ⟨a3, n3, c3, E3, gq3, -, -, -⟩ := hl3.row
  refine ⟨q, 0, rfl, _, cell_at gq3 rfl, PC.ok (hN3.on fun Z hZ hd => hd.sync) ?_⟩
  rintro _ w4 ⟨rfl, hN4, k4⟩
  have kX4 := kX3.then k4
  have hB3 : begin3 V cr.2 = if (cr.2.sync (txt (segName V.next))).1 ≠ 0 then ((cr.2.sync (txt (segName V.next))).1, V, ((cr.2.sync (txt (segName V.next))).2.delete (txt (segName V.next))).2) else
      if (mfWrite (cr.2.sync (txt (segName V.next))).2 (V.segs ++ [V.next])).1 ≠ 0 then ((mfWrite (cr.2.sync (txt (segName V.next))).2 (V.segs ++ [V.next])).1, V, ((mfWrite (cr.2.sync (txt (segName V.next))).2 (V.segs ++ [V.next])).2.delete (txt (segName V.next))).2) else
      (0, ⟨V.size, V.segs ++ [V.next], 0, IntKind.wrap .i64 (V.next + 1)⟩, (mfWrite (cr.2.sync (txt (segName V.next))).2 (V.segs ++ [V.next])).2) := rfl
  rw [hB3]
  generalize cr.2.sync (txt (segName V.next)) = sy at hN4 ⊢
  have hz4 := hN4.gr.size
  refine ⟨_, rfl, fun a n c w' => ∃ E, Lst cI64 3 E w' a n c (V.segs ++ [V.next]) ∧ (∀ b, E b → w4.heap.size ≤ b) ∧ Grew w4 w', ?_, ?_⟩
  · intro w5 d5
    have k5 : Grew w4 w5 := d5.keep
    have hN5 := hN4.grew k5
    obtain ⟨G5, hD5, hl5, hG5⟩ := id hN5
    obtain ⟨a5, n5, c5, E5, gq5, hr5, hE5, hn5⟩ := hl5.row
    have hq5 := hl5.dom q hl5.self
    have fin : ∀ {wb : World} {g : Nat} {a n c : _} {F : Nat → Prop}, Lst cI64 3 F wb a n c V.segs → (∀ b, F b → w5.heap.size ≤ b ∧ b ≠ g) → wb.heap[g]? = some (.cells #[.int .i64 V.next] 3 (0, 0)) → Grew w5 wb →
        ∀ κ ε, (∀ a' n' c' w', (∃ E, Lst cI64 3 E w' a' n' c' (V.segs ++ [V.next]) ∧ (∀ b, E b → w4.heap.size ≤ b) ∧ Grew w4 w') → Keep (fun b => w5.heap.size ≤ b) wb w' → κ (.slice a' n' c') w') →
        PRun Tryz.prog (Builtin.append_ #[37, 37] 37 #[.slice a n c, .slice (some ⟨g, 0, none⟩) 1 1]) wb κ ε := by
      intro wb g a n c F ho hF hg hk κ ε hκ
      refine appRow ho slI64 (D := (· = g)) (Row.lit hg [V.next] rfl (fun x hx => by simp at hx; subst hx; exact hnR) (by unfold Big; simp)) (fun b e => ⟨e ▸ lt_of_get hg, fun e2 => (hF b (ho.self b e2)).2 e⟩) (by unfold Big; simp; omega) (by unfold maxLen; simp; omega) fun a' c' w' F' ho' hk' _ hs' => ?_
      refine hκ a' _ c' w' ⟨fun b => blk a' = some b, ho'.alone, fun b hb => ?_, ?_⟩ (hk'.mono fun b _ hb => (hF b (ho.self b hb)).1)
      · have := k5.size; have := hk.size
        rcases hs' b hb with h | h
        · have := (hF b h).1; omega
        · omega
      · exact (k5.then hk).new hk' fun b hb => .inr (by have := (hF b (ho.self b hb)).1; have := k5.size; omega)
    refine ⟨fun b => w5.heap.size ≤ b, q, 0, rfl, by omega, _, cell_at gq5 rfl, ?_, ?_⟩
    · refine PC.ok (rlog_Segments hl5) ?_
      rintro _ w6 ⟨a6, n6, c6, F6, rfl, ho6, k6, hF6⟩
      refine ⟨_, _, _, rfl, k6.keep, PA.mk fun w7 k7 s7 g7 => ⟨k7.keep, fin (ho6.grew k7) (fun b hb => ⟨hF6 b hb, by have := ho6.dom b hb; omega⟩) g7 (k6.then k7) _ _ fun a' n' c' w' hJ hk => ⟨_, _, _, rfl, hk, hJ⟩⟩⟩
    · refine PA.mk fun w6 k6 s6 g6 => ⟨k6.keep, PC.ok (rlog_Segments (hl5.grew k6)) ?_⟩
      rintro _ w7 ⟨a7, n7, c7, F7, rfl, ho7, k7, hF7⟩
      exact ⟨_, _, _, rfl, k7.keep, fin ho7 (fun b hb => ⟨by have := hF7 b hb; omega, by have := hF7 b hb; omega⟩) (k7.get g6 id) (k6.then k7) _ _ fun a' n' c' w' hJ hk => ⟨_, _, _, rfl, hk, hJ⟩⟩
  rintro a n c _ w5 ⟨E, ho, hE, k5⟩
  have hN5 : NRLog w0 w5 p q V sy.2 (fun b => X b ∨ E b) := hN4.add k5 fun b hb => ⟨hE b hb, ho.dom b hb⟩
  have hrow : Row cI64 8 w5 E a n (V.segs ++ [V.next]) := ho.row (by decide) (by simp; unfold Big; omega)
  have hsegR : ∀ x ∈ V.segs ++ [V.next], I64 x := row_i64 hrow
  have kX5 : Keep (Not' X) w w5 := kX4.grew k5
  obtain ⟨G5, hD5, hl5, hG5⟩ := id hN5
  obtain ⟨a5, n5, c5, E5, gq5, -, -, -⟩ := hl5.row
  refine ⟨fun e w' => ∃ D', NRLog w0 w' p q V D' (fun b => X b ∨ E b) ∧ Keep (Not' X) w w' ∧ Lst cI64 3 E w' a n c (V.segs ++ [V.next]) ∧ (e = 0 → (V.segs ++ [V.next]).length ≤ 64) ∧
    (if sy.1 ≠ 0 then (sy.1, V, (sy.2.delete (txt (segName V.next))).2) else if (mfWrite sy.2 (V.segs ++ [V.next])).1 ≠ 0 then ((mfWrite sy.2 (V.segs ++ [V.next])).1, V, ((mfWrite sy.2 (V.segs ++ [V.next])).2.delete (txt (segName V.next))).2) else
      (0, ⟨V.size, V.segs ++ [V.next], 0, IntKind.wrap .i64 (V.next + 1)⟩, (mfWrite sy.2 (V.segs ++ [V.next])).2) : Int × LogV × DiskV) = (if e ≠ 0 then (e, V, (D'.delete (txt (segName V.next))).2) else (0, ⟨V.size, V.segs ++ [V.next], 0, IntKind.wrap .i64 (V.next + 1)⟩, D')), ?_, ?_⟩
  · refine PIf.eqI (fun h0 => ⟨q, 0, rfl, _, cell_at gq5 rfl, PC.ok (hN5.on fun Z hZ hd => hd.mfWrite hrow hsegR fun b hb => .inr (hZ b (.inr hb))) ?_⟩) (fun hne => ⟨sy.2, hN5, kX5, ho, fun h => absurd h hne, by rw [if_pos hne, if_pos hne]⟩)
    rintro _ w6 ⟨rfl, hN6, k6⟩
    refine ⟨_, rfl, _, hN6, kX5.then (k6.mono fun b _ hb hx => hb (.inl hx)), ho.keep k6 fun b hb hn => hn (.inr hb), fun h => mfWrite_long h, ?_⟩
    rw [if_neg (by simpa using h0)]
  rintro e _ w6 ⟨D', hN6, kX6, ho6, hlen, hres⟩
  rw [hres]
  obtain ⟨G6, hD6, hl6, hG6⟩ := id hN6
  obtain ⟨a6, n6, c6, E6, gq6, -, -, -⟩ := hl6.row
  refine PIf.neI (fun hne => ⟨q, 0, rfl, _, cell_at gq6 rfl, PC.ok (hN6.on fun Z hZ hd => hd.delete) ?_⟩) (fun h0 => ?_)
  · rintro _ w7 ⟨rfl, hN7, k7⟩
    rw [if_pos hne]
    exact ⟨_, rfl, Ok.mk ⟨rfl, hN7.mono fun b hb => .inl hb, kX6.then (k7.mono fun b _ hb hx => hb (.inl hx))⟩⟩
  · rw [if_neg (by simpa using h0)]
    have hEq : ∀ b, E b → b ≠ q := fun b hb e => (hG6 q hl6.self).2 (.inr (e ▸ hb))
    refine ⟨q, 0, rfl, PS.mk gq6 (by simp) fun w7 k7 s7 g7 => ⟨q, 0, rfl, PS.mk g7 (by simp) fun w8 k8 s8 g8 => ⟨q, 0, rfl, _, cell_at g8 rfl, q, 0, rfl, PS.mk g8 (by simp) fun w9 k9 s9 g9 => Ok.mk ⟨rfl, ?_, ?_⟩⟩⟩⟩
    · have k69 : Keep (· = q) w6 w9 := (k7.then k8).then k9
      have g9' : w9.heap[q]? = some (.cells #[.pointer (some ⟨p, 0, none⟩), .int .i64 V.size, .slice a n c, .int .i64 0, .int .i64 (IntKind.wrap .i64 (V.next + 1))] 149 (0, 0)) := g9
      refine ⟨fun b => b = q ∨ E b, ?_, ⟨⟨a, n, c, E, g9', ho6.keep k69 fun b hb e => hEq b hb e, fun b hb => ⟨.inr hb, hEq b hb⟩⟩, .inl rfl, ?_, hlen h0, i64_wrap _⟩, ?_⟩
      · refine hD6.turn k69 (fun b hb => ⟨.inr (hb ▸ hl6.self), by omega⟩) fun b hb => ?_
        rcases hb with hb | rfl | hb
        · exact ⟨.inl (.inl (.inl hb)), by have := hN6.dom b (.inl hb); have := k69.size; omega⟩
        · exact ⟨.inl (.inr hl6.self), lt_of_get g9⟩
        · exact ⟨.inl (.inl (.inr hb)), by have := ho6.dom b hb; have := k69.size; omega⟩
      · rintro b (rfl | hb)
        · exact lt_of_get g9
        · have := ho6.dom b hb; have := k69.size; omega
      · rintro b (rfl | hb)
        · exact ⟨hq2, hq3⟩
        · have := hE b hb
          exact ⟨by omega, fun hx => by have := hN4.dom b hx; omega⟩
    · exact ((kX6.then (k7.mono fun b _ hb hx => hq3 (hb ▸ hx))).then (k8.mono fun b _ hb hx => hq3 (hb ▸ hx))).then (k9.mono fun b _ hb hx => hq3 (hb ▸ hx))
end Go.Proofs.YtpbpjojdfcdbbaaGreatDoor

/- the document's log: events laid -/
namespace Go.Proofs.YtpbpjojdfcdbbaaGreatDoor
open Go.Lift
set_option linter.unusedVariables false
set_option maxRecDepth 20000

theorem rlog_Append {w0 w : World} {p q : Nat} {V : LogV} {D : DiskV} {X De : Nat → Prop} {a : Option Addr} {n c : Nat} {l : List EventV} (h : NRLog w0 w p q V D X) (hne : V.segs ≠ []) (hr : Row cEv 96 w De a n l) (hDe : ∀ b, De b → b < w.heap.size) (hl : l.length ≤ 1000) :
    Calls Tryz.prog F_ref22_Log_Append #[.pointer (some ⟨q, 0, none⟩), .slice a n c] w (Ok (DoesR w0 w p q X (logAppend V D l))) := by
  have hn := hr.len
  have hXd := h.dom
  refine L_ref22_Log_Append (PIf.eqI (fun hz => ?_) (fun hnz => ?_))
  · have he : l = [] := List.eq_nil_of_length_eq_zero (by omega)
    rw [show logAppend V D l = (0, V, D) by unfold logAppend; rw [he]; simp]
    exact Ok.mk ⟨rfl, h, Keep.refl _⟩
  have hle : l ≠ [] := fun e => hnz (by rw [hn, e]; rfl)
  refine ⟨fun m ba bn bc t w' => ∃ (j : Nat) (F : Nat → Prop), t = j ∧ j ≤ n ∧ m = n - j ∧ (∀ e ∈ l.take j, e.Ok ∧ e.deps.length ≤ 64) ∧ (evFrs (l.take j)).length ≤ 675 * j ∧ Lst cU8 5 F w' ba bn bc (evFrs (l.take j)) ∧ Grew w w' ∧ ∀ b, F b → w.heap.size ≤ b,
    ⟨_, 0, fun _ => False, rfl, Nat.zero_le _, rfl, by simp, by simp [evFrs], Lst.nil w, Keep.refl _, fun _ h => h.elim⟩, ?_⟩
  rintro m ba bn bc t _ w1 ⟨j, F, rfl, hj, rfl, hok, hfl, ho, k1, hF⟩
  have hbn := ho.len (by decide)
  refine PIf.dec (fun hlt => ?_) (fun hge => ?_)
  · obtain ⟨b, off, e, es, rfl, _, _, hx, hc, a1, n1, c1, rfl, hd, heok⟩ := (hr.grew k1).atN (i := j) (by omega)
    have e1 := fun i (hi : i < 10) => hc i hi
    refine ⟨b, off, rfl, by omega, by omega, _, _, _, _, _, _, _, _, _, _, _, _, e1 0 (by decide), e1 1 (by decide), e1 2 (by decide), e1 3 (by decide), e1 4 (by decide), e1 5 (by decide), e1 6 (by decide), e1 7 (by decide), e1 8 (by decide), e1 9 (by decide), ?_⟩
    refine PC.ok (ref20_Frame hd heok fun b hb => by have := hDe b hb; have := k1.size; omega) ?_
    rintro _ w4 ⟨a4, n4, c4, F4, rfl, ho4, k4, hF4⟩
    by_cases hd64 : e.deps.length ≤ 64
    · have hsf := segFrame_ok heok hd64
      rw [hsf] at ho4 ⊢
      have hel := evFr_le heok hd64
      replace ho4 : Lst cU8 5 F4 w4 a4 n4 c4 (evFr e) := ho4
      have hn4 := ho4.len (by decide)
      have z1 := k1.size; have z4 := k4.size
      refine ⟨_, _, _, _, rfl, PIf.neI (fun hc => absurd rfl hc) (fun _ => ?_)⟩
      refine ⟨fun m xa xn xc kk w' => ∃ (u : Nat) (F' : Nat → Prop), kk = u ∧ u ≤ n4 ∧ m = n4 - u ∧ Lst cU8 5 F' w' xa xn xc (evFrs (l.take j) ++ (evFr e).take u) ∧ (∀ b, F' b → F b ∨ w4.heap.size ≤ b) ∧ Keep (fun b => F b ∨ w4.heap.size ≤ b) w4 w',
        ⟨_, 0, F, rfl, Nat.zero_le _, rfl, by simpa using ho.grew k4, fun b hb => .inl hb, Keep.refl _⟩, ?_⟩
      rintro m xa xn xc kk _ w5 ⟨u, F', rfl, hu, rfl, ho5, hF5, k5⟩
      have hnotF : ∀ b, F4 b → ¬ (F b ∨ w4.heap.size ≤ b) := fun b hb hc => by
        have := hF4 b hb; have := ho4.dom b hb
        rcases hc with hc | hc
        · have := ho.dom b hc; omega
        · omega
      have ho45 := ho4.keep k5 hnotF
      have z5 := k5.size
      refine PIf.dec (fun hlt2 => ?_) (fun hge2 => ?_)
      · have hr45 : Row cU8 1 w5 F4 a4 n4 (evFr e) := ho45.row (bytes := 1) (by decide) (by unfold Big; omega)
        obtain ⟨b', off', x, rfl, hx', hxr, hc'⟩ := hr45.at1 (i := u) (by omega)
        refine ⟨b', off', rfl, by omega, by omega, _, hc', ?_⟩
        have hlen5 : (evFrs (l.take j) ++ (evFr e).take u).length = (evFrs (l.take j)).length + u := by simp; omega
        refine papp ho5 slU8 (x := x) (D := fun _ => False) ⟨rfl, trivial⟩ (fun _ h => h.elim) (by rw [hlen5]; unfold Big; omega) (by rw [hlen5]; unfold maxLen; omega) fun a6 c6 w6 F6 ho6 hk6 hF6 hs6 => ?_
        refine ⟨_, _, _, rfl, n4 - (u + 1), by omega, u + 1, (fun b => blk a6 = some b), wrap_succ (by omega), by omega, rfl, ?_, fun b hb => ?_, k5.then (hk6.mono fun b _ hb => hF5 b (ho5.self b hb))⟩
        · have := ho6.alone
          rw [List.take_add_one, hx', ← List.append_assoc]; exact this
        · rcases hs6 b hb with h' | h'
          · exact hF5 b h'
          · exact .inr (by omega)
      · obtain rfl : u = n4 := by omega
        rw [show (evFr e).take u = evFr e from List.take_of_length_le (by omega)] at ho5
        have htk : l.take (j + 1) = l.take j ++ [e] := by rw [List.take_add_one, hx]; rfl
        refine ⟨n - (j + 1), by omega, j + 1, F', wrap_succ (by omega), by omega, rfl, ?_, ?_, ?_, (k1.then k4).new k5 fun b hb => .inr (hb.elim (hF b) fun h => by omega), fun b hb => (hF5 b hb).elim (hF b) fun h => by omega⟩
        · rw [htk]
          intro x hx'
          rcases List.mem_append.1 hx' with h' | h'
          · exact hok x h'
          · simp at h'; subst h'; exact ⟨heok, hd64⟩
        · rw [htk, evFrs_snoc]; simp; omega
        · rw [htk, evFrs_snoc]; exact ho5
    · have hsf := segFrame_no hd64
      rw [hsf] at ho4 ⊢
      refine ⟨_, _, _, _, rfl, PIf.neI (fun _ => ?_) (fun hc => absurd hc (by decide))⟩
      have hany : l.any tooLong = true := List.any_eq_true.2 ⟨e, List.mem_of_getElem? hx, by unfold tooLong; simp; omega⟩
      refine Ok.mk ?_
      rw [show logAppend V D l = (3, V, D) by unfold logAppend; rw [if_pos hany]]
      exact ⟨rfl, h.grew (k1.then k4), Grew.keep (k1.then k4)⟩
  · obtain rfl : j = n := by omega
    rw [List.take_of_length_le (by omega)] at hok hfl ho hbn
    have hno : l.any tooLong = false := by
      rw [← Bool.not_eq_true]
      intro hc
      obtain ⟨e, he, h2⟩ := List.any_eq_true.1 hc
      have := (hok e he).2
      unfold tooLong at h2
      simp at h2
      omega
    let X1 : Nat → Prop := fun b => X b ∨ F b
    have hN1 : NRLog w0 w1 p q V D X1 := h.add k1 fun b hb => ⟨hF b hb, ho.dom b hb⟩
    have hApp : logAppend V D l = if (if V.size ≤ V.bytes then logBegin V D else (0, V, D)).1 ≠ 0 then (if V.size ≤ V.bytes then logBegin V D else (0, V, D)) else
        if ((if V.size ≤ V.bytes then logBegin V D else (0, V, D)).2.2.append (if V.size ≤ V.bytes then logBegin V D else (0, V, D)).2.1.last (evFrs l)).1 ≠ 0 then (((if V.size ≤ V.bytes then logBegin V D else (0, V, D)).2.2.append (if V.size ≤ V.bytes then logBegin V D else (0, V, D)).2.1.last (evFrs l)).1, (if V.size ≤ V.bytes then logBegin V D else (0, V, D)).2.1, ((if V.size ≤ V.bytes then logBegin V D else (0, V, D)).2.2.append (if V.size ≤ V.bytes then logBegin V D else (0, V, D)).2.1.last (evFrs l)).2)
        else (0, ⟨(if V.size ≤ V.bytes then logBegin V D else (0, V, D)).2.1.size, (if V.size ≤ V.bytes then logBegin V D else (0, V, D)).2.1.segs, IntKind.wrap .i64 ((if V.size ≤ V.bytes then logBegin V D else (0, V, D)).2.1.bytes + ((evFrs l).length : Nat)), (if V.size ≤ V.bytes then logBegin V D else (0, V, D)).2.1.next⟩, ((if V.size ≤ V.bytes then logBegin V D else (0, V, D)).2.2.append (if V.size ≤ V.bytes then logBegin V D else (0, V, D)).2.1.last (evFrs l)).2) := by
      unfold logAppend; rw [if_neg (by simp [hno]), if_neg hle]
    obtain ⟨GL, hDL, hlL, hGL⟩ := id hN1
    obtain ⟨aL, nL, cL, EL, gL, hrL, hEL, hnL⟩ := hlL.row
    rw [hApp]
    refine ⟨fun w' => ∃ V' D', (if V.size ≤ V.bytes then logBegin V D else (0, V, D)) = (0, V', D') ∧ V'.segs ≠ [] ∧ NRLog w0 w' p q V' D' X1 ∧ Keep (Not' X) w w' ∧ Lst cU8 5 F w' ba bn bc (evFrs l), ?_, ?_⟩
    · refine ⟨q, 0, rfl, _, cell_at gL rfl, q, 0, rfl, _, cell_at gL rfl, fun w2 d2 => ?_⟩
      have k2 : Grew w1 w2 := d2.keep
      have hN2 := hN1.grew k2
      have ho2 := ho.grew k2
      have kX2 : Keep (Not' X) w w2 := Grew.keep (k1.then k2)
      refine PIf.dec (fun hge => ?_) (fun hlt => ⟨V, D, by rw [if_neg (by omega)], hne, hN2, kX2, ho2⟩)
      refine PC.ok (rlog_begin hN2) ?_
      rintro _ w3 ⟨rfl, hN3, k3⟩
      have kX3 : Keep (Not' X) w w3 := kX2.then (k3.mono fun b _ hb hx => hb (.inl hx))
      have hcond : (if V.size ≤ V.bytes then logBegin V D else (0, V, D)) = logBegin V D := if_pos (by omega)
      rw [hcond]
      refine ⟨_, rfl, PIf.neI (fun hne2 => ?_) (fun h0 => ⟨_, _, by rw [← h0], logBegin_segs h0, hN3, kX3, ho2.keep k3 fun b hb hn => hn (.inr hb)⟩)⟩
      rw [if_pos hne2]
      exact Ok.mk ⟨rfl, hN3.mono fun b hb => .inl hb, kX3⟩
    · rintro _ w2 ⟨V', D', hcond, hne', hN2, kX2, ho2⟩ w3 d3
      rw [hcond]
      have k3 : Grew w2 w3 := d3.keep
      have hN3 := hN2.grew k3
      have ho3 := ho2.grew k3
      obtain ⟨G3, hD3, hl3, hG3⟩ := id hN3
      obtain ⟨a3, n3, c3, E3, gq3, hr3, hE3, hn3⟩ := hl3.row
      have hpos : 0 < V'.segs.length := List.length_pos_iff.2 hne'
      have hm3 := hl3.many
      have hi : IntKind.wrap .i64 ((n3 : Int) - 1) = ((n3 - 1 : Nat) : Int) := by rw [wrap_i64 (by unfold I64; omega)]; omega
      obtain ⟨b, off, x, rfl, hx, hxr, hc⟩ := hr3.at1 (i := n3 - 1) (by omega)
      have hlast : V'.last = txt (segName x) := by unfold LogV.last; rw [List.getLast?_eq_getElem?, ← hn3, hx]; rfl
      refine ⟨fun b => b ≠ q, q, 0, rfl, fun hs => hs rfl, _, cell_at gq3 rfl, q, 0, rfl, _, _, _, cell_at gq3 rfl, q, 0, rfl, _, _, _, cell_at gq3 rfl, b, off, rfl, ?_⟩
      rw [hi]
      refine ⟨by omega, by omega, x, hc, PC.ok (ref20_Name hxr) ?_⟩
      rintro _ w4 ⟨rfl, k4⟩
      rw [hlast]
      have ho4 := ho3.grew k4
      have hr4 : Row cU8 1 w4 F ba bn (evFrs l) := ho4.row (bytes := 1) (by decide) (by unfold Big; omega)
      refine ⟨_, rfl, Grew.keep k4, PC.ok ((hD3.grew k4).append hr4 fun b hb => .inr (.inl (.inr hb))) ?_⟩
      rintro _ w5 ⟨rfl, hD5, k5⟩
      have hl5 := (hl3.grew k4).keep k5 fun b hb hn => hn (.inr hb)
      have kX5 : Keep (Not' X) w w5 := ((kX2.grew k3).grew k4).then (k5.mono fun b _ hb hx => hb (.inl (.inl hx)))
      refine ⟨_, rfl, k5.mono fun b _ hb e => hb (.inr (e ▸ hl3.self)), ?_⟩
      rw [if_neg (fun hc : ((0, V', D') : Int × LogV × DiskV).1 ≠ 0 => hc rfl)]
      refine PIf.neI (fun hne2 => ?_) (fun h0 => ?_)
      · rw [if_pos hne2]
        exact Ok.mk ⟨rfl, NRLog.mono (X := X1) ⟨G3, hD5, hl5, hG3⟩ fun b hb => .inl hb, kX5⟩
      · rw [if_neg (by simpa using h0)]
        obtain ⟨a5, n5, c5, E5, gq5, ho5, hE5⟩ := hl5.body
        refine ⟨q, 0, rfl, _, cell_at gq5 rfl, q, 0, rfl, PS.mk gq5 (by simp) fun w6 k6 s6 g6 => Ok.mk ⟨rfl, ?_, kX5.then (k6.mono fun b _ hb hx => (hG3 b (hb ▸ hl5.self)).2 (.inl hx))⟩⟩
        rw [hbn] at g6
        exact NRLog.mono (X := X1) ⟨G3, hD5.turn k6 (fun b hb => ⟨.inr (hb ▸ hl5.self), (hG3 b (hb ▸ hl5.self)).1⟩) (fun b hb => ⟨.inl hb, by have := hD5.dom b hb; omega⟩), ⟨⟨a5, n5, c5, E5, g6, ho5.keep k6 fun b hb e => (hE5 b hb).2 e, hE5⟩, hl5.self, fun b hb => by have := hl5.dom b hb; omega, hl5.many, hl5.nextR⟩, hG3⟩ fun b hb => .inl hb
end Go.Proofs.YtpbpjojdfcdbbaaGreatDoor

/- one more in a list, and whose block it is then -/
namespace Go.Proofs.YtpbpjojdfcdbbaaGreatDoor
open Go.Lift
set_option linter.unusedVariables false
set_option maxRecDepth 20000

/-- one more, that was laid in a block of its own just now -/
theorem papp2 {α : Type} {c : Cod α} {e : TypeId} {w : World} {F : Nat → Prop} {a : Option Addr} {n cap : Nat} {xs : List α} {P : Program} {t ty : TypeId} {bytes : Nat} {arr : Array Value} {x : α} {κ ε : Value → World → Prop} (h : Lst c e F w a n cap xs) (hT : SlT P t e c.k bytes)
    {D : Nat → Prop} (hx : c.rep w D x arr.toList) (hD : ∀ b, D b → b < w.heap.size ∧ blk a ≠ some b) (hb : (xs.length + 1) * bytes ≤ Big) (hm : xs.length + 1 ≤ maxLen)
    (hκ : ∀ a' cap' w' F', Lst c e F' w' a' (n + 1) cap' (xs ++ [x]) → Keep (fun j => blk a = some j) w w' → (∀ b, F' b → F b ∨ D b ∨ w.heap.size ≤ b) → (∀ b, blk a' = some b → blk a = some b ∨ w.heap.size ≤ b) → κ (.slice a' (n + 1) cap') w') :
    PA w (.cells arr e) fun w1 => PRun P (Builtin.append_ #[t, t] ty #[.slice a n cap, .slice (some ⟨w.heap.size, 0, none⟩) 1 1]) w1 κ ε := by
  have hl := h.len hT.pos
  obtain ⟨cs, D0, ho, hr, hD0⟩ := h.body
  refine PA.mk fun w1 k1 s1 g1 => ?_
  have hxl := c.len hx
  have hown1 := ho.grew k1
  refine app_own hT (news := arr.toList) hown1 g1 (by rw [List.take_of_length_le (by omega)]) (by omega) (c.one hx) (by rw [hl]; exact hb) (by rw [hl]; exact hm) fun a' c' w3 ho3 hk3 hl3 => ?_
  have hk : Keep (fun j => blk a = some j) w w3 := (Grew.keep k1).then (hk3.mono fun _ _ h => h.symm)
  let F' : Nat → Prop := fun b => F b ∨ D b ∨ (w.heap.size ≤ b ∧ b < w3.heap.size)
  have hsz : w1.heap.size ≤ w3.heap.size := hk3.size
  refine hκ a' c' w3 F' ⟨⟨_, fun b => D0 b ∨ D b, ho3, Reps.append ((hr.keep hk fun b hb => (hD0 b hb).2).mono fun b hb => .inl hb) (Reps.one (c.mono (c.keep hx hk fun b hb => (hD b hb).2) fun b hb => .inr hb)), ?_⟩, ?_, ?_⟩ hk ?_ ?_
  · intro b hb
    have hlt : b < w.heap.size := hb.elim (fun h1 => h.dom b (hD0 b h1).1) fun h1 => (hD b h1).1
    refine ⟨hb.elim (fun h1 => .inl (hD0 b h1).1) fun h1 => .inr (.inl h1), ?_⟩
    rcases hl3 with hl3 | hl3
    · rw [hl3]; exact hb.elim (fun h1 => (hD0 b h1).2) fun h1 => (hD b h1).2
    · rw [hl3]; intro he; cases he; omega
  · intro b hb
    rcases hl3 with hl3 | hl3
    · exact .inl (h.self b (hl3 ▸ hb))
    · have := ho3.lt hb
      rw [hl3] at hb; cases hb; exact .inr (.inr ⟨by omega, this⟩)
  · rintro b (hb | hb | hb)
    · have := h.dom b hb; omega
    · have := (hD b hb).1; omega
    · exact hb.2
  · rintro b (hb | hb | hb)
    · exact .inl hb
    · exact .inr (.inl hb)
    · exact .inr (.inr hb.1)
  · intro b hb
    rcases hl3 with hl3 | hl3
    · exact .inl (hl3 ▸ hb)
    · rw [hl3] at hb; cases hb; exact .inr (by omega)

end Go.Proofs.YtpbpjojdfcdbbaaGreatDoor

/- the document's log: opened -/
namespace Go.Proofs.YtpbpjojdfcdbbaaGreatDoor
open Go.Lift
set_option linter.unusedVariables false
set_option maxRecDepth 20000

/-- a number behind the segments, and how many bytes there are -/
theorem rlog_push {w0 w : World} {p q : Nat} {D : DiskV} {V : LogV} {X GL E : Nat → Prop} {a : Option Addr} {n c : Nat} {no nb : Int} (hX : ∀ b, X b → b < w.heap.size) (hg : Grew w0 w) (hD : NRef w0 w p D (fun b => X b ∨ GL b)) (hl : RLogAt w p q GL V) (hG : ∀ b, GL b → w0.heap.size ≤ b ∧ ¬ X b)
    (g : w.heap[q]? = some (.cells #[.pointer (some ⟨p, 0, none⟩), .int .i64 V.size, .slice a n c, .int .i64 V.bytes, .int .i64 V.next] 149 (0, 0))) (ho : Lst cI64 3 E w a n c V.segs) (hE : ∀ b, E b → GL b ∧ b ≠ q)
    (hno : I64 no) (hlen : V.segs.length + 1 ≤ 64) {κ : World → Prop} {ε : Value → World → Prop}
    (hκ : ∀ w', NRLog w0 w' p q ⟨V.size, V.segs ++ [no], nb, V.next⟩ D X → Keep (Not' X) w w' → κ w') :
    PA w (.cells #[.int .i64 no] 3) fun w42 => (Keep (fun _ => False) w w42 ∧ PRun Tryz.prog (Builtin.append_ #[37, 37] 37 #[.slice a n c, .slice (some ⟨w.heap.size, 0, none⟩) 1 1]) w42 (fun v43 w44 =>
        ∃ (a' : Option Addr) (n' c' : Nat), v43 = .slice a' n' c' ∧ ∃ b46 o47, (some ⟨q, 0, none⟩ : Option Addr) = some ⟨b46, o47, none⟩ ∧ PS w44 ⟨b46, o47 + 2, none⟩ (.slice a' n' c') fun w48 =>
          ∃ b49 o50, (some ⟨q, 0, none⟩ : Option Addr) = some ⟨b49, o50, none⟩ ∧ PS w48 ⟨b49, o50 + 3, none⟩ (.int .i64 nb) κ) ε) := by
  have hqlt := hl.dom q hl.self
  refine PA.mk fun w1 k1 s1 g1 => ⟨k1, ?_⟩
  refine appRow (ho.grew k1) slI64 (D := (· = w.heap.size)) (Row.lit g1 [no] rfl (fun x hx => by simp at hx; subst hx; exact hno) (by unfold Big; simp)) (fun b e => ⟨by omega, fun e2 => by have := ho.dom b (ho.self b e2); omega⟩) (by unfold Big; simp; omega) (by unfold maxLen; simp; omega) fun a' c' w2 F' ho2 hk2 _ hs2 => ?_
  replace ho2 := ho2.alone
  have hbq : ¬ blk a = some q := fun e => (hE q (ho.self q e)).2 rfl
  have g2 := hk2.get (k1.get g id) hbq
  have z2 := hk2.size
  have hnq : ¬ blk a' = some q := fun e => by
    rcases hs2 q e with h | h
    · exact (hE q h).2 rfl
    · omega
  refine ⟨_, _, _, rfl, q, 0, rfl, PS.mk g2 (by simp) fun w3 k3 s3 g3 => ⟨q, 0, rfl, PS.mk g3 (by simp) fun w4 k4 s4 g4 => hκ w4 ?_ ?_⟩⟩
  · have k14 : Keep (fun b => blk a = some b ∨ b = q) w1 w4 := ((hk2.mono fun b _ hb => .inl hb).then (k3.mono fun b _ hb => .inr hb)).then (k4.mono fun b _ hb => .inr hb)
    have kG : Keep GL w w4 := (Grew.keep k1).then (k14.mono fun b _ hb => hb.elim (fun h => (hE b (ho.self b h)).1) fun h => h ▸ hl.self)
    have hdom : ∀ b, blk a' = some b → b < w4.heap.size := fun b hb => by have := ho2.dom b hb; omega
    refine ⟨fun b => b = q ∨ blk a' = some b, hD.turn kG (fun b hb => ⟨.inr hb, (hG b hb).1⟩) fun b hb => ?_, ⟨⟨a', _, c', (fun b => blk a' = some b), g4, ?_, fun b hb => ⟨.inr hb, fun e => hnq (e ▸ hb)⟩⟩, .inl rfl, ?_, by simpa using hlen, hl.nextR⟩, ?_⟩
    · rcases hb with hb | rfl | hb
      · exact ⟨.inl (.inl hb), by have := hX b hb; omega⟩
      · exact ⟨.inl (.inr hl.self), by omega⟩
      · refine ⟨?_, hdom b hb⟩
        rcases hs2 b hb with h | h
        · exact .inl (.inr (hE b h).1)
        · exact .inr (.inr (by omega))
    · exact (ho2.keep k3 fun b hb e => hnq (e ▸ hb)).keep k4 fun b hb e => hnq (e ▸ hb)
    · rintro b (rfl | hb)
      · omega
      · exact hdom b hb
    · rintro b (rfl | hb)
      · exact hG _ hl.self
      · rcases hs2 b hb with h' | h'
        · exact hG b (hE b h').1
        · exact ⟨by have := hg.size; omega, fun hx => by have := hX b hx; omega⟩
  · refine (((Grew.keep k1).then (hk2.mono fun b _ hb => ?_)).then (k3.mono fun b _ hb => ?_)).then (k4.mono fun b _ hb => ?_)
    · exact (hG b (hE b (ho.self b hb)).1).2
    · exact (hG b (hb ▸ hl.self)).2
    · exact (hG b (hb ▸ hl.self)).2

/-- what the document's Open hands back -/
def ROpenDid (w0 w : World) (p : Nat) (X : Nat → Prop) (r : Loaded) (v : Value) (w' : World) : Prop :=
  (r.no ≠ 0 ∧ v = .tuple #[.pointer none, .slice none 0 0, .int .i64 r.no] ∧ NRef w0 w' p r.D X ∧ Keep (Not' X) w w') ∨
  (r.no = 0 ∧ ∃ q a n c G, v = .tuple #[.pointer (some ⟨q, 0, none⟩), .slice a n c, .int .i64 0] ∧ Lst cEvO 39 G w' a n c r.out ∧ NRLog w0 w' p q r.V r.D (fun b => X b ∨ G b) ∧ Keep (Not' X) w w' ∧ (∀ b, G b → w.heap.size ≤ b) ∧ w.heap.size ≤ q ∧ r.out.length ≤ 16777216)

theorem rlog_Open {w0 w : World} {p : Nat} {D : DiskV} {X : Nat → Prop} {size : Int} (h : NRef w0 w p D X) :
    Calls Tryz.prog F_ref22_Open #[.pointer (some ⟨p, 0, none⟩), .int .i64 size] w (Ok (ROpenDid w0 w p X (logOpen D size))) := by
  have hXd := h.dom
  have hg0 := h.gr.size
  refine L_ref22_Open (PA.mk fun w1 k1 s1 g1 => PC.ok (h.grew k1).list ?_)
  rintro _ w2 ⟨a2, n2, c2, F2, rfl, ho2, k2, hF2⟩
  have hl : D.list.length ≤ 64 := by rw [list_length']; exact h.ok.many
  have hn2 := ho2.len (by decide)
  have z2 := k2.size
  have hr2 : Row cStr 16 w2 F2 a2 n2 D.list := ho2.row (by decide) (by unfold Big; omega)
  refine ⟨_, _, _, rfl, fun m i w' => ∃ j : Nat, i = j ∧ j ≤ n2 ∧ m = n2 - j ∧ w'.heap[w.heap.size]? = some (.cells #[.pointer (some ⟨p, 0, none⟩), .int .i64 size, .slice none 0 0, .int .i64 0, .int .i64 (nextL (D.list.take j))] 149 (0, 0)) ∧ Keep (· = w.heap.size) w2 w',
    ⟨_, 0, rfl, Nat.zero_le _, rfl, k2.get g1 id, Keep.refl _⟩, ?_⟩
  rintro m i _ w3 ⟨j, rfl, hj, rfl, g3, k3⟩
  refine PIf.dec (fun hlt => ?_) (fun hge => ?_)
  · obtain ⟨b, off, s, rfl, hx, _, hc⟩ := (hr2.keep k3 fun b hb e => by have := hF2 b hb; omega).at1 (i := j) (by omega)
    refine ⟨b, off, rfl, by omega, by omega, _, hc, PC.ok ref20_Number ?_⟩
    rintro _ _ ⟨rfl, rfl⟩
    have e : nextL (D.list.take (j + 1)) = nextStep (nextL (D.list.take j)) s := by
      unfold nextL
      rw [List.take_add_one, hx, List.foldl_append]; rfl
    have h1 := segNoV_lt s
    have h2 := nextL_rng (D.list.take j)
    refine ⟨_, _, rfl, PIf.mk (fun hb => ⟨_, _, rfl, _, cell_at g3 rfl, PIf.dec (fun hge => ⟨_, _, rfl, PS.mk g3 (by simp) fun w4 k4 s4 g4 => ⟨n2 - (j + 1), by omega, j + 1, wrap_succ (by omega), by omega, rfl, ?_, k3.then k4⟩⟩) (fun hlt2 => ⟨n2 - (j + 1), by omega, j + 1, wrap_succ (by omega), by omega, rfl, ?_, k3⟩)⟩) (fun hb => ⟨n2 - (j + 1), by omega, j + 1, wrap_succ (by omega), by omega, rfl, ?_, k3⟩)⟩
    · rw [g4, e, wrap_i64 (by unfold I64; omega)]
      unfold nextStep
      rw [if_pos hb, show max (nextL (D.list.take j)) ((segNoV s).1 + 1) = (segNoV s).1 + 1 by omega]; rfl
    · rw [g3, e]; unfold nextStep
      rw [if_pos hb, show max (nextL (D.list.take j)) ((segNoV s).1 + 1) = nextL (D.list.take j) by omega]
    · rw [g3, e]; unfold nextStep; rw [if_neg (by simp [hb])]
  obtain rfl : j = n2 := by omega
  rw [List.take_of_length_le (by omega)] at g3
  have z3 := k3.size
  let X3 : Nat → Prop := fun b => X b ∨ b = w.heap.size
  have hR1 : NRef w0 w1 p D X3 := h.add k1 fun b hb => by omega
  have hR3 : NRef w0 w3 p D X3 := (hR1.grew k2).turn k3 (fun b hb => ⟨.inr hb, by omega⟩) fun b hb => ⟨.inl hb, by have := hR1.dom b hb; omega⟩
  have kX3 : Keep (Not' X) w w3 := (Grew.keep (k1.then k2)).then (k3.mono fun b _ hb hx => by have := hXd b hx; omega)
  refine PC.ok hR3.mfRead ?_
  rintro _ w4 ⟨a4, n4, c4, F4, rfl, ho4, hF4, k4⟩
  change Lst cI64 3 F4 w4 a4 n4 c4 (told D) at ho4
  have hml : (told D).length ≤ 64 := mfTell_le
  have hn4 := ho4.len (by decide)
  have z4 := k4.size
  refine ⟨_, _, _, _, rfl, PA.mk fun w5 k5 s5 g5 => PS.mk g5 (by simp) fun w6 k6 s6 g6 => ?_⟩
  have k46 : Grew w4 w6 := k5.new k6 fun b hb => .inr (by omega)
  have k36 : Grew w3 w6 := k4.then k46
  have gq6 := k36.get g3 id
  have ho6 := ho4.grew k46
  have kX6 : Keep (Not' X) w w6 := kX3.grew k36
  let X6 : Nat → Prop := fun b => X b ∨ (F4 b ∨ b = w4.heap.size)
  have hN6 : NRLog w0 w6 p w.heap.size (logStart D size) D X6 := by
    refine ⟨(· = w.heap.size), (hR3.add k36 (Y := fun b => F4 b ∨ b = w4.heap.size) fun b hb => ?_).mono fun b hb => ?_, ⟨⟨none, 0, 0, fun _ => False, gq6, Lst.nil w6, fun _ h => h.elim⟩, rfl, fun b hb => by omega, Nat.zero_le _, ?_⟩, fun b hb => ⟨by omega, fun hx => ?_⟩⟩
    · rcases hb with hb | hb
      · exact ⟨by have := hF4 b hb; omega, ho6.dom b hb⟩
      · omega
    · rcases hb with (hb | hb) | hb
      · exact .inl (.inl hb)
      · exact .inr hb
      · exact .inl (.inr hb)
    · show I64 (nextL D.list); have := nextL_rng D.list; unfold I64; omega
    · subst hb
      rcases hx with hx | hx | hx
      · have := hXd _ hx; omega
      · have := hF4 _ hx; omega
      · omega
  have hrow6 : Row cI64 8 w6 F4 a4 n4 (told D) := ho6.row (by decide) (by unfold Big; omega)
  have z6 := k46.size
  refine ⟨fun a n c w' => ∃ (V' : LogV) (D' : DiskV) (out : List EventV) (G : Nat → Prop), loadGo (told D) [] (logStart D size) D = ⟨0, out, V', D'⟩ ∧ Lst cEvO 39 G w' a n c out ∧ NRLog w0 w' p w.heap.size V' D' (fun b => X6 b ∨ G b) ∧ Keep (Not' X6) w6 w' ∧ (∀ b, G b → w6.heap.size ≤ b) ∧ out.length ≤ 16777216, ?_, ?_⟩
  · refine ⟨fun m oa on oc i w' => ∃ (j : Nat) (Vj : LogV) (out : List EventV) (G : Nat → Prop), i = j ∧ j ≤ (told D).length ∧ m = (told D).length - j ∧ loadGo (told D) [] (logStart D size) D = loadGo ((told D).drop j) out Vj D ∧ Vj.segs.length = j ∧ out.length ≤ j * 262144 ∧
      Lst cEvO 39 G w' oa on oc out ∧ NRLog w0 w' p w.heap.size Vj D (fun b => X6 b ∨ G b) ∧ Keep (Not' X6) w6 w' ∧ ∀ b, G b → w6.heap.size ≤ b,
      ⟨_, 0, logStart D size, [], fun _ => False, rfl, Nat.zero_le _, rfl, rfl, rfl, Nat.zero_le _, Lst.nil w6, hN6.mono fun b hb => hb.elim id fun h => h.elim, Keep.refl _, fun _ h => h.elim⟩, ?_⟩
    rintro m oa on oc i _ w7 ⟨j, Vj, out, G, rfl, hj, rfl, hgo, hVj, hout, ho, hN, k7, hG⟩
    have g7 := k7.get g6 fun hn => hn (.inr (.inr rfl))
    have hrow7 : Row cI64 8 w7 F4 a4 n4 (told D) := hrow6.keep k7 fun b hb hn => hn (.inr (.inl hb))
    refine ⟨_, _, _, cell_at g7 rfl, PIf.dec (fun hlt => ?_) (fun hge => ?_)⟩
    rotate_left
    · obtain rfl : j = (told D).length := by omega
      rw [List.drop_of_length_le (Nat.le_refl _)] at hgo
      exact ⟨Vj, D, out, G, hgo, ho, hN, k7, hG, le64 (by omega) hout⟩
    obtain ⟨b, off, no, rfl, hx, hnoR, hc⟩ := hrow7.at1 (i := j) (by omega)
    have hdrop : (told D).drop j = no :: (told D).drop (j + 1) := by
      obtain ⟨hj2, rfl⟩ := List.getElem?_eq_some_iff.1 hx
      exact List.drop_eq_getElem_cons hj2
    rw [hdrop] at hgo
    refine ⟨_, _, _, cell_at g7 rfl, b, off, rfl, by omega, by omega, no, hc, PC.ok (ref20_Name hnoR) ?_⟩
    rintro _ w8 ⟨rfl, k8⟩
    refine ⟨_, rfl, PC.ok ((hN.grew k8).disk.read (k := segNm no)) ?_⟩
    rintro _ w9 ⟨a9, n9, c9, F9, rfl, ho9, hF9, k9⟩
    have hn9 := ho9.len (by decide)
    have hrl := read_len hN.ok (segNm no)
    have k79 := k8.then k9
    have hN9 := hN.grew k79
    have ho79 := ho.grew k79
    refine ⟨_, _, _, _, rfl, PIf.neI (fun hne => ?_) (fun he => ?_)⟩
    · exact ⟨Vj, D, out, G, by rw [hgo]; unfold loadGo; rw [if_pos hne], ho79, hN9, k7.grew k79, hG, le64 (by omega) hout⟩
    have g9 := k79.get g7 id
    obtain ⟨b', off', no', hb', hx', hnoR', hc'⟩ := (hrow7.grew k79).at1 (i := j) (by omega)
    cases hb'
    rw [hx] at hx'; cases hx'
    refine ⟨_, _, _, cell_at g9 rfl, b, off, rfl, by omega, by omega, no, hc', PC.ok (hN9.disk.load hnoR) ?_⟩
    rintro _ w10 ⟨a10, n10, c10, F10, rfl, ho10, hF10, k10, hl10⟩
    generalize hsl : segLoad (D.read (txt (segName no))).1 = sl at ho10 hl10
    obtain ⟨evs, nb⟩ := sl
    dsimp only at ho10 hl10
    have hsl' : segLoad (D.read (segNm no)).1 = (evs, nb) := hsl
    have hN10 : NRLog w0 w10 p w.heap.size Vj D (fun b => (X6 b ∨ G b) ∨ F10 b) := hN9.add k10 fun b hb => ⟨hF10 b hb, ho10.dom b hb⟩
    have ho710 := ho79.grew k10
    have r10 : Row cEvO 96 w10 F10 a10 n10 evs := ho10.row (by decide) (by unfold Big; omega)
    have hn10 := r10.len
    have hG9 := ho79.dom
    have z79 := k79.size; have z10 := k10.size; have z7 := k7.size
    refine ⟨_, _, _, _, rfl, fun m oa on oc k w' => ∃ (jj : Nat) (F7 : Nat → Prop), k = jj ∧ jj ≤ n10 ∧ m = n10 - jj ∧ Lst cEvO 39 F7 w' oa on oc (out ++ evs.take jj) ∧ (∀ b, F7 b → G b ∨ F10 b ∨ w10.heap.size ≤ b) ∧ (∀ b, blk oa = some b → G b ∨ w10.heap.size ≤ b) ∧ Keep G w10 w',
      ⟨_, 0, G, rfl, Nat.zero_le _, rfl, by simpa using ho710, fun b hb => .inl hb, fun b hb => .inl (ho710.self b hb), Keep.refl _⟩, ?_⟩
    rintro m2 oa on oc k _ w11 ⟨jj, F7, rfl, hjj, rfl, ho11, hF7, hoa, k11⟩
    have z11 := k11.size
    refine PIf.dec (fun hlt2 => ?_) (fun hge2 => ?_)
    · obtain ⟨b2, off2, e, es, rfl, hb2, _, hx2, hc2, a12, n12, c12, FF, rfl, hd, hFF, heok, hbig⟩ := (r10.keep k11 fun b hb hg => by have := hF10 b hb; have := hG9 b hg; omega).atN (i := jj) (by omega)
      have e2 := fun i (hi : i < 10) => hc2 i hi
      have hol : (out ++ evs.take jj).length ≤ 17000000 := by simp; omega
      refine ⟨b2, off2, rfl, by omega, by omega, _, _, _, _, _, _, _, _, _, _, _, _, e2 0 (by decide), e2 1 (by decide), e2 2 (by decide), e2 3 (by decide), e2 4 (by decide), e2 5 (by decide), e2 6 (by decide), e2 7 (by decide), e2 8 (by decide), e2 9 (by decide), ?_⟩
      refine papp2 ho11 slEv (x := e) (D := F10) ⟨a12, n12, c12, FF, rfl, hd, hFF, heok, hbig⟩ (fun b hb => ⟨by have := ho10.dom b hb; omega, fun hc => ?_⟩) (by unfold Big; omega) (by unfold maxLen; omega) fun a8 c8 w12 F8 ho12 hk12 hF8 hs8 => ?_
      · have := hF10 b hb
        have := ho10.dom b hb
        rcases hoa b hc with h | h
        · have := hG9 b h; omega
        · omega
      have htk : evs.take (jj + 1) = evs.take jj ++ [e] := by rw [List.take_add_one, hx2]; rfl
      refine ⟨_, _, _, rfl, n10 - (jj + 1), by omega, jj + 1, F8, wrap_succ (by omega), by omega, rfl, by rw [htk, ← List.append_assoc]; exact ho12, ?_, ?_, k11.new hk12 hoa⟩
      · intro b hb
        rcases hF8 b hb with h | h | h
        · exact hF7 b h
        · exact .inr (.inl h)
        · exact .inr (.inr (by omega))
      · intro b hb
        rcases hs8 b hb with h | h
        · exact hoa b h
        · exact .inr (by omega)
    obtain rfl : jj = n10 := by omega
    rw [List.take_of_length_le (by omega)] at ho11
    have hF7d := ho11.dom
    have hN11 : NRLog w0 w11 p w.heap.size Vj D (fun b => X6 b ∨ F7 b) := hN10.turn k11 (fun b hb => ⟨.inl (.inr hb), by have := hG b hb; have := k36.size; omega⟩) fun b hb => by
      rcases hb with hb | hb
      · exact ⟨.inl (.inl (.inl hb)), by have := hN6.dom b hb; omega⟩
      · refine ⟨?_, hF7d b hb⟩
        rcases hF7 b hb with h | h | h
        · exact .inl (.inl (.inr h))
        · exact .inl (.inr h)
        · exact .inr (.inr h)
    intro w12 d12
    have k12 : Grew w11 w12 := d12.keep
    have hN12 := hN11.grew k12
    have hF7w : ∀ b, F7 b → w6.heap.size ≤ b := fun b hb => by
      rcases hF7 b hb with h | h | h
      · exact hG b h
      · have := hF10 b h; omega
      · omega
    have k612 : Keep (Not' X6) w6 w12 := ((k7.grew (k79.then k10)).then (k11.mono fun b _ hb hx => by have := hG b hb; have := hN6.dom b hx; omega)).grew k12
    have g12 := k612.get g6 fun hn => hn (.inr (.inr rfl))
    have hrow12 : Row cI64 8 w12 F4 _ n4 (told D) := hrow6.keep k612 fun b hb hn => hn (.inr (.inl hb))
    obtain ⟨b', off', no', hb', hx', hnoR', hc12⟩ := hrow12.at1 (i := j) (by omega)
    cases hb'
    rw [hx] at hx'; cases hx'
    obtain ⟨GL, hDL, hlL, hGL⟩ := id hN12
    obtain ⟨aL, nL, cL, EL, gL, hoL, hEL⟩ := hlL.body
    have ho12 := ho11.grew k12
    have houtl : (out ++ evs).length ≤ (j + 1) * 262144 := by rw [List.length_append]; omega
    have hn9' : (D.read (segNm no)).1.length = n9 := hn9.symm
    refine ⟨fun _ => False, w.heap.size, 0, rfl, id, _, _, _, cell_at gL rfl, _, _, _, cell_at g12 rfl, b, off, rfl, by omega, by omega, no, hc12, ?_⟩
    refine rlog_push hN12.dom hN12.gr hDL hlL hGL gL hoL hEL hnoR (by omega) fun w13 hN13 k13 => ?_
    have k613 : Keep (Not' X6) w6 w13 := k612.then (k13.mono fun b _ hb hx => hb (.inl hx))
    have ho13 := ho12.keep k13 fun b hb hn => hn (.inr hb)
    refine PIf.dec (fun hcut => ?_) (fun hnc => ?_)
    · have g13 := k613.get g6 fun hn => hn (.inr (.inr rfl))
      have hrow13 : Row cI64 8 w13 F4 _ n4 (told D) := hrow6.keep k613 fun b hb hn => hn (.inr (.inl hb))
      obtain ⟨b', off', no', hb', hx', hnoR', hc13⟩ := hrow13.at1 (i := j) (by omega)
      cases hb'
      rw [hx] at hx'; cases hx'
      refine ⟨_, _, _, cell_at g13 rfl, b, off, rfl, by omega, by omega, no, hc13, PC.ok (ref20_Name hnoR) ?_⟩
      rintro _ w14 ⟨rfl, k14⟩
      have hgo2 : loadGo (told D) [] (logStart D size) D = ⟨(D.cutF (segNm no) nb).1, out ++ evs, ⟨Vj.size, Vj.segs ++ [no], nb, Vj.next⟩, (D.cutF (segNm no) nb).2⟩ := by
        rw [hgo]; unfold loadGo; rw [if_neg (by simpa using he), hsl', if_pos (by dsimp only; omega)]
      refine ⟨_, rfl, PC.ok ((hN13.grew k14).on fun Z _ hZ => hZ.cutF (k := segNm no) (n := nb)) ?_⟩
      rintro _ w15 ⟨rfl, hN15, k15⟩
      have k615 : Keep (Not' X6) w6 w15 := (k613.grew k14).then (k15.mono fun b _ hb hx => hb (.inl hx))
      refine ⟨_, rfl, PIf.neI (fun hne => Ok.mk (.inl ?_)) (fun h0 => ?_)⟩
      · have hlo : logOpen D size = ⟨(D.cutF (segNm no) nb).1, out ++ evs, ⟨Vj.size, Vj.segs ++ [no], nb, Vj.next⟩, (D.cutF (segNm no) nb).2⟩ := by
          unfold logOpen; rw [hgo2]; unfold openEnd; rw [if_pos hne]
        rw [hlo]
        exact ⟨hne, rfl, hN15.disk.mono fun b hb => .inl (.inl hb), kX6.then (k615.mono fun b _ hb hx => hb (.inl hx))⟩
      · rw [h0] at hgo2
        exact ⟨_, _, _, F7, hgo2, (ho13.grew k14).keep k15 fun b hb hn => hn (.inr hb), hN15, k615, hF7w, by have := houtl; omega⟩
    · have hgo2 : loadGo (told D) [] (logStart D size) D = loadGo ((told D).drop (j + 1)) (out ++ evs) ⟨Vj.size, Vj.segs ++ [no], nb, Vj.next⟩ D := by
        rw [hgo]; conv => lhs; unfold loadGo
        rw [if_neg (by simpa using he), hsl', if_neg (by dsimp only; omega)]
      exact ⟨(told D).length - (j + 1), by omega, j + 1, _, _, F7, wrap_succ (by omega), by omega, rfl, hgo2, by simp [hVj], houtl, ho13, hN13, k613, hF7w⟩
  · rintro a n c _ w7 ⟨V', D', out, G, hlo, ho7, hN7, k7, hG7, hol⟩
    have g7 := k7.get g6 fun hn => hn (.inr (.inr rfl))
    have kX7 : Keep (Not' X) w w7 := kX6.then (k7.mono fun b _ hb hx => hb (.inl hx))
    have z7 := k7.size
    have toXG : ∀ {w' V D}, NRLog w0 w' p w.heap.size V D (fun b => X6 b ∨ G b) → NRLog w0 w' p w.heap.size V D (fun b => X b ∨ G b) := fun h => h.mono fun b hb => hb.imp .inl id
    unfold logOpen
    rw [hlo]
    refine ⟨fun no w' => ∃ V2 D2, openEnd (told D).length ⟨0, out, V', D'⟩ = ⟨no, out, V2, D2⟩ ∧ Lst cEvO 39 G w' a n c out ∧ NRLog w0 w' p w.heap.size V2 D2 (fun b => X b ∨ G b) ∧ Keep (Not' X) w w', ?_, ?_⟩
    · obtain ⟨GL, hDL, hlL, hGL⟩ := id hN7
      obtain ⟨aL, nL, cL, EL, gL, hrL, hEL, hnL⟩ := hlL.row
      refine ⟨_, _, rfl, _, _, _, cell_at gL rfl, PIf.eqI (fun hz => ?_) (fun hnz => ?_)⟩
      · have he : V'.segs = [] := List.eq_nil_of_length_eq_zero (by omega)
        refine PC.ok (rlog_begin hN7) ?_
        rintro _ w8 ⟨rfl, hN8, k8⟩
        exact ⟨_, rfl, _, _, by unfold openEnd; rw [if_neg (by simp), if_pos he], ho7.keep k8 fun b hb hn => hn (.inr hb), toXG hN8, kX7.then (k8.mono fun b _ hb hx => hb (.inl (.inl hx)))⟩
      · have hne : ¬ V'.segs = [] := fun e => hnz (by rw [hnL, e]; rfl)
        refine ⟨_, _, rfl, _, _, _, cell_at gL rfl, _, _, _, cell_at g7 rfl, fun w8 d8 => ?_⟩
        have k8 : Grew w7 w8 := d8.keep
        refine PIf.dec (fun hlt => ?_) (fun hge => ⟨_, _, by unfold openEnd; rw [if_neg (by simp), if_neg hne, if_neg (by show ¬ V'.segs.length < _; omega)], ho7.grew k8, toXG (hN7.grew k8), kX7.grew k8⟩)
        have gL8 := k8.get gL id
        refine ⟨_, _, rfl, _, _, _, cell_at gL8 rfl, PC.ok ((hDL.grew k8).mfWrite (hrL.grew k8) (row_i64 hrL) fun b hb => .inr (.inr (hEL b hb).1)) ?_⟩
        rintro _ w9 ⟨rfl, hD9, k9⟩
        have hN9 : NRLog w0 w9 p w.heap.size V' (mfWrite D' V'.segs).2 (fun b => X6 b ∨ G b) := ⟨GL, hD9, (hlL.grew k8).keep k9 fun b hb hn => hn (.inr hb), hGL⟩
        exact ⟨_, rfl, _, _, by unfold openEnd; rw [if_neg (by simp), if_neg hne, if_pos (by show V'.segs.length < _; omega)], (ho7.grew k8).keep k9 fun b hb hn => hn (.inl (.inr hb)), toXG hN9, (kX7.grew k8).then (k9.mono fun b _ hb hx => hb (.inl (.inl (.inl hx))))⟩
    · rintro no _ w8 ⟨V2, D2, he, ho8, hN8, kX8⟩
      rw [he]
      refine PIf.neI (fun hne => Ok.mk (.inl ⟨hne, rfl, hN8.disk.mono fun b hb => .inl hb, kX8⟩)) (fun h0 => Ok.mk (.inr ⟨h0, w.heap.size, a, n, c, G, by rfl, ho8, hN8, kX8, fun b hb => by have := hG7 b hb; omega, Nat.le_refl _, hol⟩))
end Go.Proofs.YtpbpjojdfcdbbaaGreatDoor

/- two things beside each other, each in its own blocks -/
namespace Go.Lift
open Go
set_option linter.unusedVariables false

structure Thing where
  at' : World → (Nat → Prop) → Prop
  keep : ∀ {S F : Nat → Prop} {w w' : World}, at' w F → Keep S w w' → (∀ b, F b → ¬ S b) → at' w' F
  dom : ∀ {F : Nat → Prop} {w : World}, at' w F → ∀ b, F b → b < w.heap.size

/-- two things that were made behind w0, apart from one another and from X -/
def Duo (w0 w : World) (A B : Thing) (X : Nat → Prop) : Prop := ∃ F G, A.at' w F ∧ B.at' w G ∧ Grew w0 w ∧ (∀ b, F b → w0.heap.size ≤ b ∧ ¬ X b ∧ ¬ G b) ∧ (∀ b, G b → w0.heap.size ≤ b ∧ ¬ X b) ∧ ∀ b, X b → b < w.heap.size

section
variable {P : Program} {w0 w w1 w' : World} {A A' B : Thing} {X Y : Nat → Prop}
theorem Duo.gr (h : Duo w0 w A B X) : Grew w0 w := by obtain ⟨F, G, h1, h2, h3, _⟩ := h; exact h3
theorem Duo.swap (h : Duo w0 w A B X) : Duo w0 w B A X := by
  obtain ⟨F, G, h1, h2, h3, h4, h5, h6⟩ := h
  exact ⟨G, F, h2, h1, h3, fun b hb => ⟨(h5 b hb).1, (h5 b hb).2, fun hf => (h4 b hf).2.2 hb⟩, fun b hb => ⟨(h4 b hb).1, (h4 b hb).2.1⟩, h6⟩
theorem Duo.grew (h : Duo w0 w A B X) (hk : Grew w w') : Duo w0 w' A B X := by
  obtain ⟨F, G, h1, h2, h3, h4, h5, h6⟩ := h
  exact ⟨F, G, A.keep h1 hk fun _ _ h => h, B.keep h2 hk fun _ _ h => h, h3.grew hk, h4, h5, fun b hb => Nat.lt_of_lt_of_le (h6 b hb) hk.size⟩
theorem Duo.mono (h : Duo w0 w A B X) (hx : ∀ b, Y b → X b) : Duo w0 w A B Y := by
  obtain ⟨F, G, h1, h2, h3, h4, h5, h6⟩ := h
  exact ⟨F, G, h1, h2, h3, fun b hb => ⟨(h4 b hb).1, fun hy => (h4 b hb).2.1 (hx b hy), (h4 b hb).2.2⟩, fun b hb => ⟨(h5 b hb).1, fun hy => (h5 b hb).2 (hx b hy)⟩, fun b hb => h6 b (hx b hb)⟩
theorem Duo.add (h : Duo w0 w A B X) (hk : Grew w w') (hY : ∀ b, Y b → w.heap.size ≤ b ∧ b < w'.heap.size) : Duo w0 w' A B (fun b => X b ∨ Y b) := by
  obtain ⟨F, G, h1, h2, h3, h4, h5, h6⟩ := h
  exact ⟨F, G, A.keep h1 hk fun _ _ h => h, B.keep h2 hk fun _ _ h => h, h3.grew hk, fun b hb => ⟨(h4 b hb).1, fun hx => hx.elim (h4 b hb).2.1 fun hy => by have := A.dom h1 b hb; have := (hY b hy).1; omega, (h4 b hb).2.2⟩,
    fun b hb => ⟨(h5 b hb).1, fun hx => hx.elim (h5 b hb).2 fun hy => by have := B.dom h2 b hb; have := (hY b hy).1; omega⟩, fun b hb => hb.elim (fun h => Nat.lt_of_lt_of_le (h6 b h) hk.size) fun h => (hY b h).2⟩
/-- what others do, in blocks of X -/
theorem Duo.other (h : Duo w0 w A B X) (hk : Keep Y w w') (hY : ∀ b, Y b → X b) (hX : ∀ b, Y b → w0.heap.size ≤ b) : Duo w0 w' A B X := by
  obtain ⟨F, G, h1, h2, h3, h4, h5, h6⟩ := h
  exact ⟨F, G, A.keep h1 hk fun b hb hy => (h4 b hb).2.1 (hY b hy), B.keep h2 hk fun b hb hy => (h5 b hb).2 (hY b hy), h3.new hk fun b hb => .inr (hX b hb), h4, h5, fun b hb => Nat.lt_of_lt_of_le (h6 b hb) hk.size⟩

/-- two made one behind the other -/
theorem Duo.of {F G : Nat → Prop} (hg : Grew w0 w) (hA : A.at' w1 F) (hF : ∀ b, F b → w.heap.size ≤ b) (hk : Grew w w1) (hB : B.at' w' G) (hG : ∀ b, G b → w1.heap.size ≤ b) (hk2 : Grew w1 w') : Duo w0 w' A B (fun b => b < w.heap.size) := by
  have s0 := hg.size; have s1 := hk.size; have s2 := hk2.size
  refine ⟨F, G, A.keep hA hk2 fun _ _ h => h, hB, (hg.grew hk).grew hk2, fun b hb => ⟨by have := hF b hb; omega, fun h => by have := hF b hb; omega, fun h => by have := A.dom hA b hb; have := hG b h; omega⟩, fun b hb => ⟨by have := hG b hb; omega, fun h => by have := hG b hb; omega⟩, fun b hb => by omega⟩

/-- a call that turns the first one -/
theorem Duo.call {g : FuncId} {args : Array Value} {Q : Value → World → Prop} (h : Duo w0 w A B X)
    (hc : ∀ F, A.at' w F → (∀ b, F b → w0.heap.size ≤ b ∧ ¬ X b) → Calls P g args w (Ok fun v w' => ∃ F', Q v w' ∧ A'.at' w' F' ∧ Evo F w F' w')) : Calls P g args w (Ok fun v w' => Q v w' ∧ Duo w0 w' A' B X ∧ Keep (fun b => ¬ X b) w w') := by
  obtain ⟨F, G, h1, h2, h3, h4, h5, h6⟩ := h
  refine Calls.ok (hc F h1 fun b hb => ⟨(h4 b hb).1, (h4 b hb).2.1⟩) ?_
  rintro v w' ⟨F', hq, hA, hev⟩
  have := h3.size; have := hev.keep.size
  exact ⟨hq, ⟨F', G, hA, B.keep h2 hev.keep fun b hb hf => (h4 b hf).2.2 hb, h3.new hev.keep fun b hb => .inr (h4 b hb).1,
    fun b hb => (hev.new b hb).elim (h4 b) fun h => ⟨by omega, fun hx => by have := h6 b hx; omega, fun hg => by have := B.dom h2 b hg; omega⟩, h5, fun b hb => by have := h6 b hb; omega⟩, hev.keep.mono fun b _ hb => (h4 b hb).2.1⟩
/-- one that reads it -/
theorem Duo.look {g : FuncId} {args : Array Value} {Q : Value → World → Prop} (h : Duo w0 w A B X) (hc : ∀ F, A.at' w F → Calls P g args w (Ok fun v w' => Q v w' ∧ Grew w w')) : Calls P g args w (Ok fun v w' => Q v w' ∧ Duo w0 w' A B X ∧ Grew w w') := by
  have h0 := h
  obtain ⟨F, G, h1, h2, h3⟩ := h
  refine Calls.ok (hc F h1) ?_
  rintro v w' ⟨hq, hk⟩
  exact ⟨hq, h0.grew hk, hk⟩
end
end Go.Lift

/- a disk with a log, and the document's, beside each other -/
namespace Go.Proofs.YtpbpjojdfcdbbaaGreatDoor
open Go.Lift
set_option linter.unusedVariables false
set_option maxRecDepth 20000

/-- a disk at p, with a log at q (or none) -/
def plT (p : Nat) (q : Option Nat) (V : LogV) (D : DiskV) : Thing := ⟨fun w F => (∀ b, F b → b < w.heap.size) ∧ ∃ Fd, DiskAt w p Fd D ∧ (∀ b, Fd b → F b) ∧ ∀ x, q = some x → ∃ G, LogAt w p x G V ∧ ∀ b, G b → F b ∧ ¬ Fd b,
  fun ⟨h0, Fd, h1, h2, h3⟩ hk hd => ⟨fun b hb => Nat.lt_of_lt_of_le (h0 b hb) hk.size, Fd, h1.keep hk fun b hb => hd b (h2 b hb), h2, fun x hx => by
    obtain ⟨G, h4, h5⟩ := h3 x hx
    exact ⟨G, h4.keep hk fun b hb => hd b (h5 b hb).1, h5⟩⟩,
  fun h => h.1⟩
/-- the document's -/
def rlT (p : Nat) (q : Option Nat) (V : LogV) (D : DiskV) : Thing := ⟨fun w F => (∀ b, F b → b < w.heap.size) ∧ D.Ok ∧ ∃ Fd, RefAt w p Fd D ∧ (∀ b, Fd b → F b) ∧ ∀ x, q = some x → ∃ G, RLogAt w p x G V ∧ ∀ b, G b → F b ∧ ¬ Fd b,
  fun ⟨h0, hok, Fd, h1, h2, h3⟩ hk hd => ⟨fun b hb => Nat.lt_of_lt_of_le (h0 b hb) hk.size, hok, Fd, h1.keep hk fun b hb => hd b (h2 b hb), h2, fun x hx => by
    obtain ⟨G, h4, h5⟩ := h3 x hx
    exact ⟨G, h4.keep hk fun b hb => hd b (h5 b hb).1, h5⟩⟩,
  fun h => h.1⟩

section
variable {w0 w w1 w' : World} {p q : Nat} {o : Option Nat} {D D' : DiskV} {V V' : LogV} {B : Thing} {X Y : Nat → Prop} {g : FuncId} {args : Array Value} {Q : Value → World → Prop}
/-- all other blocks -/
def RstF (w : World) (F : Nat → Prop) : Nat → Prop := fun b => b < w.heap.size ∧ ¬ F b
theorem RstF.keep {F : Nat → Prop} (h : Keep (Not' (RstF w F)) w w') : Keep F w w' :=
  ⟨h.os, h.tape, h.output, h.size, fun k hk hF => h.block k hk fun hn => hn ⟨hk, hF⟩⟩
end
end Go.Proofs.YtpbpjojdfcdbbaaGreatDoor
namespace Go.Lift
open Go.Proofs Go.Proofs.YtpbpjojdfcdbbaaGreatDoor
set_option linter.unusedVariables false
set_option maxRecDepth 20000
section
variable {w0 w w1 w' : World} {p q : Nat} {o : Option Nat} {D D' : DiskV} {V V' : LogV} {B : Thing} {X Y : Nat → Prop} {g : FuncId} {args : Array Value} {Q : Value → World → Prop}
theorem Duo.pdisk (h : Duo w0 w (plT p o V D) B X) (hc : ∀ Z, (∀ b, X b → Z b) → NDisk w0 w p D Z → Calls Tryz.prog g args w (Ok fun v w' => Q v w' ∧ NDisk w0 w' p D' Z ∧ Keep (Not' Z) w w')) :
    Calls Tryz.prog g args w (Ok fun v w' => Q v w' ∧ Duo w0 w' (plT p o V D') B X ∧ Keep (fun b => ¬ X b) w w') := by
  have hg := h.gr
  have hX : ∀ b, X b → b < w.heap.size := by obtain ⟨F, G, _, _, _, _, _, h⟩ := h; exact h
  refine h.call (A' := plT p o V D') fun F ⟨h0, Fd, h1, h2, h3⟩ hF => ?_
  refine Calls.ok (hc (RstF w Fd) (fun b hb => ⟨hX b hb, fun hf => (hF b (h2 b hf)).2 hb⟩) ⟨Fd, h1, hg, fun b hb => ⟨(hF b (h2 b hb)).1, fun hr => hr.2 hb⟩, fun b hb => hb.1⟩) ?_
  rintro v w' ⟨hq, ⟨Fd', d1, d2, d3, d4⟩, hk⟩
  have kF := RstF.keep hk
  have hnew : ∀ b, Fd' b → Fd b ∨ w.heap.size ≤ b := fun b hb => by
    by_cases hl : b < w.heap.size
    · exact .inl (Classical.byContradiction fun hn => (d3 b hb).2 ⟨hl, hn⟩)
    · exact .inr (by omega)
  refine ⟨fun b => F b ∨ Fd' b, hq, ⟨fun b hb => hb.elim (fun hb => Nat.lt_of_lt_of_le (h0 b hb) kF.size) (d1.dom b), Fd', d1, fun b hb => .inr hb, fun x hx => ?_⟩, kF.mono fun b _ hb => h2 b hb, fun b hb => hb.elim .inl fun hb => (hnew b hb).imp (h2 b) id⟩
  obtain ⟨G, h4, h5⟩ := h3 x hx
  exact ⟨G, h4.keep kF fun b hb => (h5 b hb).2, fun b hb => ⟨.inl (h5 b hb).1, fun hf => (hnew b hf).elim (h5 b hb).2 fun hl => by have := h4.dom b hb; omega⟩⟩
theorem Duo.plog (h : Duo w0 w (plT p (some q) V D) B X) (hc : ∀ Z, (∀ b, X b → Z b) → NLog w0 w p q V D Z → Calls Tryz.prog g args w (Ok fun v w' => Q v w' ∧ NLog w0 w' p q V' D' Z ∧ Keep (Not' Z) w w')) :
    Calls Tryz.prog g args w (Ok fun v w' => Q v w' ∧ Duo w0 w' (plT p (some q) V' D') B X ∧ Keep (fun b => ¬ X b) w w') := by
  have hg := h.gr
  have hX : ∀ b, X b → b < w.heap.size := by obtain ⟨F, G, _, _, _, _, _, h⟩ := h; exact h
  refine h.call (A' := plT p (some q) V' D') fun F ⟨h0, Fd, h1, h2, h3⟩ hF => ?_
  obtain ⟨G, h4, h5⟩ := h3 q rfl
  refine Calls.ok (hc (RstF w F) (fun b hb => ⟨hX b hb, fun hf => (hF b hf).2 hb⟩) ⟨G, ⟨Fd, h1, hg, fun b hb => ⟨(hF b (h2 b hb)).1, fun hr => hr.elim (fun hr => hr.2 (h2 b hb)) fun hg => (h5 b hg).2 hb⟩, fun b hb => hb.elim (fun h => h.1) (h4.dom b)⟩, h4, fun b hb => ⟨(hF b (h5 b hb).1).1, fun hr => hr.2 (h5 b hb).1⟩⟩) ?_
  rintro v w' ⟨hq, ⟨G', ⟨Fd', d1, d2, d3, d4⟩, l1, l2⟩, hk⟩
  have kF := RstF.keep hk
  have nR : ∀ b, ¬ RstF w F b → F b ∨ w.heap.size ≤ b := fun b hn => by
    by_cases hl : b < w.heap.size
    · exact .inl (Classical.byContradiction fun hf => hn ⟨hl, hf⟩)
    · exact .inr (by omega)
  refine ⟨fun b => Fd' b ∨ G' b, hq, ⟨fun b hb => hb.elim (d1.dom b) (l1.dom b), Fd', d1, fun b hb => .inl hb, fun x hx => ?_⟩, kF, fun b hb => nR b (hb.elim (fun hb hr => (d3 b hb).2 (.inl hr)) fun hb => (l2 b hb).2)⟩
  cases hx
  exact ⟨G', l1, fun b hb => ⟨.inr hb, fun hf => (d3 b hf).2 (.inr hb)⟩⟩
theorem Duo.plook (h : Duo w0 w (plT p (some q) V D) B X) (hc : ∀ G, LogAt w p q G V → Calls Tryz.prog g args w (Ok fun v w' => Q v w' ∧ Grew w w')) : Calls Tryz.prog g args w (Ok fun v w' => Q v w' ∧ Duo w0 w' (plT p (some q) V D) B X ∧ Grew w w') := by
  refine h.look fun F ⟨h0, Fd, h1, h2, h3⟩ => ?_
  obtain ⟨G, h4, h5⟩ := h3 q rfl
  exact hc G h4
theorem Duo.popen {size : Int} (hL : Laid w0) (h : Duo w0 w (plT p o V D) B X) : Calls Tryz.prog F_seglog_Open #[.pointer (some ⟨p, 0, none⟩), .int .i64 size] w (Ok fun v w' =>
    ((logOpen D size).no ≠ 0 ∧ v = .tuple #[.pointer none, .slice none 0 0, .int .i64 (logOpen D size).no] ∧ Duo w0 w' (plT p none (logOpen D size).V (logOpen D size).D) B X ∧ Keep (fun b => ¬ X b) w w') ∨
    ((logOpen D size).no = 0 ∧ ∃ q2 a n c G, v = .tuple #[.pointer (some ⟨q2, 0, none⟩), .slice a n c, .int .i64 0] ∧ Lst cEvO 39 G w' a n c (logOpen D size).out ∧ Duo w0 w' (plT p (some q2) (logOpen D size).V (logOpen D size).D) B (fun b => X b ∨ G b) ∧ Keep (fun b => ¬ X b) w w' ∧ (∀ b, G b → w.heap.size ≤ b) ∧ (logOpen D size).out.length ≤ 16777216)) := by
  have hg := h.gr
  obtain ⟨F, GB, ⟨h0, Fd, h1, h2, h3⟩, hB, hg, hF, hGB, hX⟩ := h
  have hsz := hg.size
  refine Calls.ok (log_Open (size := size) hL (X := RstF w F) ⟨Fd, h1, hg, fun b hb => ⟨(hF b (h2 b hb)).1, fun hr => hr.2 (h2 b hb)⟩, fun b hb => hb.1⟩) ?_
  have nR : ∀ b, ¬ RstF w F b → F b ∨ w.heap.size ≤ b := fun b hn => by
    by_cases hl : b < w.heap.size
    · exact .inl (Classical.byContradiction fun hf => hn ⟨hl, hf⟩)
    · exact .inr (by omega)
  have ap : ∀ b, (F b ∨ w.heap.size ≤ b) → w0.heap.size ≤ b ∧ ¬ X b ∧ ¬ GB b := fun b hb => hb.elim (hF b) fun hl => ⟨by omega, fun hx => by have := hX b hx; omega, fun hg => by have := B.dom hB b hg; omega⟩
  rintro v w' (⟨hne, hv, ⟨Fd', d1, d2, d3, d4⟩, hk⟩ | ⟨h0', q2, a, n, c, G, hv, ho, ⟨Gl, ⟨Fd', d1, d2, d3, d4⟩, l1, l2⟩, hk, hG, hq, hlen⟩)
  · have kF := RstF.keep hk
    have kX : Keep (fun b => ¬ X b) w w' := kF.mono fun b _ hb => (hF b hb).2.1
    refine .inl ⟨hne, hv, ⟨Fd', GB, ⟨d1.dom, Fd', d1, fun _ h => h, fun x hx => by cases hx⟩, B.keep hB kF fun b hb hf => (hF b hf).2.2 hb, hg.new kF fun b hb => .inr (hF b hb).1, fun b hb => ap b (nR b (d3 b hb).2), hGB, fun b hb => Nat.lt_of_lt_of_le (hX b hb) kF.size⟩, kX⟩
  · have kF := RstF.keep hk
    have kX : Keep (fun b => ¬ X b) w w' := kF.mono fun b _ hb => (hF b hb).2.1
    refine .inr ⟨h0', q2, a, n, c, G, hv, ho, ⟨fun b => Fd' b ∨ Gl b, GB, ⟨fun b hb => hb.elim (d1.dom b) (l1.dom b), Fd', d1, fun _ h => .inl h, fun x hx => ?_⟩, B.keep hB kF fun b hb hf => (hF b hf).2.2 hb, hg.new kF fun b hb => .inr (hF b hb).1, fun b hb => ?_, fun b hb => ⟨(hGB b hb).1, fun hx => hx.elim (hGB b hb).2 fun hg => by have := hG b hg; have := B.dom hB b hb; omega⟩, fun b hb => hb.elim (fun hb => Nat.lt_of_lt_of_le (hX b hb) kF.size) (ho.dom b)⟩, kX, hG, hlen⟩
    · cases hx
      exact ⟨Gl, l1, fun b hb => ⟨.inr hb, fun hf => (d3 b hf).2 (.inr hb)⟩⟩
    · have hn : ¬ RstF w F b ∧ ¬ G b := hb.elim (fun hb => ⟨fun h => (d3 b hb).2 (.inl (.inl h)), fun h => (d3 b hb).2 (.inl (.inr h))⟩) fun hb => ⟨fun h => (l2 b hb).2 (.inl h), fun h => (l2 b hb).2 (.inr h)⟩
      obtain ⟨a1, a2, a3⟩ := ap b (nR b hn.1)
      exact ⟨a1, fun hx => hx.elim a2 hn.2, a3⟩

/-! the same of the document's -/
theorem Duo.rdisk (h : Duo w0 w (rlT p o V D) B X) (hc : ∀ Z, (∀ b, X b → Z b) → NRef w0 w p D Z → Calls Tryz.prog g args w (Ok fun v w' => Q v w' ∧ NRef w0 w' p D' Z ∧ Keep (Not' Z) w w')) :
    Calls Tryz.prog g args w (Ok fun v w' => Q v w' ∧ Duo w0 w' (rlT p o V D') B X ∧ Keep (fun b => ¬ X b) w w') := by
  have hg := h.gr
  have hX : ∀ b, X b → b < w.heap.size := by obtain ⟨F, G, _, _, _, _, _, h⟩ := h; exact h
  refine h.call (A' := rlT p o V D') fun F ⟨h0, hok, Fd, h1, h2, h3⟩ hF => ?_
  refine Calls.ok (hc (RstF w Fd) (fun b hb => ⟨hX b hb, fun hf => (hF b (h2 b hf)).2 hb⟩) ⟨Fd, h1, hok, hg, fun b hb => ⟨(hF b (h2 b hb)).1, fun hr => hr.2 hb⟩, fun b hb => hb.1⟩) ?_
  rintro v w' ⟨hq, ⟨Fd', d1, d0, d2, d3, d4⟩, hk⟩
  have kF := RstF.keep hk
  have hnew : ∀ b, Fd' b → Fd b ∨ w.heap.size ≤ b := fun b hb => by
    by_cases hl : b < w.heap.size
    · exact .inl (Classical.byContradiction fun hn => (d3 b hb).2 ⟨hl, hn⟩)
    · exact .inr (by omega)
  refine ⟨fun b => F b ∨ Fd' b, hq, ⟨fun b hb => hb.elim (fun hb => Nat.lt_of_lt_of_le (h0 b hb) kF.size) (d1.dom b), d0, Fd', d1, fun b hb => .inr hb, fun x hx => ?_⟩, kF.mono fun b _ hb => h2 b hb, fun b hb => hb.elim .inl fun hb => (hnew b hb).imp (h2 b) id⟩
  obtain ⟨G, h4, h5⟩ := h3 x hx
  exact ⟨G, h4.keep kF fun b hb => (h5 b hb).2, fun b hb => ⟨.inl (h5 b hb).1, fun hf => (hnew b hf).elim (h5 b hb).2 fun hl => by have := h4.dom b hb; omega⟩⟩
theorem Duo.rlog (h : Duo w0 w (rlT p (some q) V D) B X) (hc : ∀ Z, (∀ b, X b → Z b) → NRLog w0 w p q V D Z → Calls Tryz.prog g args w (Ok fun v w' => Q v w' ∧ NRLog w0 w' p q V' D' Z ∧ Keep (Not' Z) w w')) :
    Calls Tryz.prog g args w (Ok fun v w' => Q v w' ∧ Duo w0 w' (rlT p (some q) V' D') B X ∧ Keep (fun b => ¬ X b) w w') := by
  have hg := h.gr
  have hX : ∀ b, X b → b < w.heap.size := by obtain ⟨F, G, _, _, _, _, _, h⟩ := h; exact h
  refine h.call (A' := rlT p (some q) V' D') fun F ⟨h0, hok, Fd, h1, h2, h3⟩ hF => ?_
  obtain ⟨G, h4, h5⟩ := h3 q rfl
  refine Calls.ok (hc (RstF w F) (fun b hb => ⟨hX b hb, fun hf => (hF b hf).2 hb⟩) ⟨G, ⟨Fd, h1, hok, hg, fun b hb => ⟨(hF b (h2 b hb)).1, fun hr => hr.elim (fun hr => hr.2 (h2 b hb)) fun hg => (h5 b hg).2 hb⟩, fun b hb => hb.elim (fun h => h.1) (h4.dom b)⟩, h4, fun b hb => ⟨(hF b (h5 b hb).1).1, fun hr => hr.2 (h5 b hb).1⟩⟩) ?_
  rintro v w' ⟨hq, ⟨G', ⟨Fd', d1, d0, d2, d3, d4⟩, l1, l2⟩, hk⟩
  have kF := RstF.keep hk
  have nR : ∀ b, ¬ RstF w F b → F b ∨ w.heap.size ≤ b := fun b hn => by
    by_cases hl : b < w.heap.size
    · exact .inl (Classical.byContradiction fun hf => hn ⟨hl, hf⟩)
    · exact .inr (by omega)
  refine ⟨fun b => Fd' b ∨ G' b, hq, ⟨fun b hb => hb.elim (d1.dom b) (l1.dom b), d0, Fd', d1, fun b hb => .inl hb, fun x hx => ?_⟩, kF, fun b hb => nR b (hb.elim (fun hb hr => (d3 b hb).2 (.inl hr)) fun hb => (l2 b hb).2)⟩
  cases hx
  exact ⟨G', l1, fun b hb => ⟨.inr hb, fun hf => (d3 b hf).2 (.inr hb)⟩⟩
theorem Duo.rlook (h : Duo w0 w (rlT p (some q) V D) B X) (hc : ∀ G, RLogAt w p q G V → Calls Tryz.prog g args w (Ok fun v w' => Q v w' ∧ Grew w w')) : Calls Tryz.prog g args w (Ok fun v w' => Q v w' ∧ Duo w0 w' (rlT p (some q) V D) B X ∧ Grew w w') := by
  refine h.look fun F ⟨h0, hok, Fd, h1, h2, h3⟩ => ?_
  obtain ⟨G, h4, h5⟩ := h3 q rfl
  exact hc G h4
theorem Duo.ropen {size : Int} (h : Duo w0 w (rlT p o V D) B X) : Calls Tryz.prog F_ref22_Open #[.pointer (some ⟨p, 0, none⟩), .int .i64 size] w (Ok fun v w' =>
    ((logOpen D size).no ≠ 0 ∧ v = .tuple #[.pointer none, .slice none 0 0, .int .i64 (logOpen D size).no] ∧ Duo w0 w' (rlT p none (logOpen D size).V (logOpen D size).D) B X ∧ Keep (fun b => ¬ X b) w w') ∨
    ((logOpen D size).no = 0 ∧ ∃ q2 a n c G, v = .tuple #[.pointer (some ⟨q2, 0, none⟩), .slice a n c, .int .i64 0] ∧ Lst cEvO 39 G w' a n c (logOpen D size).out ∧ Duo w0 w' (rlT p (some q2) (logOpen D size).V (logOpen D size).D) B (fun b => X b ∨ G b) ∧ Keep (fun b => ¬ X b) w w' ∧ (∀ b, G b → w.heap.size ≤ b) ∧ (logOpen D size).out.length ≤ 16777216)) := by
  have hg := h.gr
  obtain ⟨F, GB, ⟨h0, hok, Fd, h1, h2, h3⟩, hB, hg, hF, hGB, hX⟩ := h
  have hsz := hg.size
  refine Calls.ok (rlog_Open (size := size) (X := RstF w F) ⟨Fd, h1, hok, hg, fun b hb => ⟨(hF b (h2 b hb)).1, fun hr => hr.2 (h2 b hb)⟩, fun b hb => hb.1⟩) ?_
  have nR : ∀ b, ¬ RstF w F b → F b ∨ w.heap.size ≤ b := fun b hn => by
    by_cases hl : b < w.heap.size
    · exact .inl (Classical.byContradiction fun hf => hn ⟨hl, hf⟩)
    · exact .inr (by omega)
  have ap : ∀ b, (F b ∨ w.heap.size ≤ b) → w0.heap.size ≤ b ∧ ¬ X b ∧ ¬ GB b := fun b hb => hb.elim (hF b) fun hl => ⟨by omega, fun hx => by have := hX b hx; omega, fun hg => by have := B.dom hB b hg; omega⟩
  rintro v w' (⟨hne, hv, ⟨Fd', d1, d0, d2, d3, d4⟩, hk⟩ | ⟨h0', q2, a, n, c, G, hv, ho, ⟨Gl, ⟨Fd', d1, d0, d2, d3, d4⟩, l1, l2⟩, hk, hG, hq, hlen⟩)
  · have kF := RstF.keep hk
    have kX : Keep (fun b => ¬ X b) w w' := kF.mono fun b _ hb => (hF b hb).2.1
    refine .inl ⟨hne, hv, ⟨Fd', GB, ⟨d1.dom, d0, Fd', d1, fun _ h => h, fun x hx => by cases hx⟩, B.keep hB kF fun b hb hf => (hF b hf).2.2 hb, hg.new kF fun b hb => .inr (hF b hb).1, fun b hb => ap b (nR b (d3 b hb).2), hGB, fun b hb => Nat.lt_of_lt_of_le (hX b hb) kF.size⟩, kX⟩
  · have kF := RstF.keep hk
    have kX : Keep (fun b => ¬ X b) w w' := kF.mono fun b _ hb => (hF b hb).2.1
    refine .inr ⟨h0', q2, a, n, c, G, hv, ho, ⟨fun b => Fd' b ∨ Gl b, GB, ⟨fun b hb => hb.elim (d1.dom b) (l1.dom b), d0, Fd', d1, fun _ h => .inl h, fun x hx => ?_⟩, B.keep hB kF fun b hb hf => (hF b hf).2.2 hb, hg.new kF fun b hb => .inr (hF b hb).1, fun b hb => ?_, fun b hb => ⟨(hGB b hb).1, fun hx => hx.elim (hGB b hb).2 fun hg => by have := hG b hg; have := B.dom hB b hb; omega⟩, fun b hb => hb.elim (fun hb => Nat.lt_of_lt_of_le (hX b hb) kF.size) (ho.dom b)⟩, kX, hG, hlen⟩
    · cases hx
      exact ⟨Gl, l1, fun b hb => ⟨.inr hb, fun hf => (d3 b hf).2 (.inr hb)⟩⟩
    · have hn : ¬ RstF w F b ∧ ¬ G b := hb.elim (fun hb => ⟨fun h => (d3 b hb).2 (.inl (.inl h)), fun h => (d3 b hb).2 (.inl (.inr h))⟩) fun hb => ⟨fun h => (l2 b hb).2 (.inl h), fun h => (l2 b hb).2 (.inr h)⟩
      obtain ⟨a1, a2, a3⟩ := ap b (nR b hn.1)
      exact ⟨a1, fun hx => hx.elim a2 hn.2, a3⟩
end
end Go.Lift
namespace Go.Proofs.YtpbpjojdfcdbbaaGreatDoor
open Go.Lift
set_option linter.unusedVariables false
set_option maxRecDepth 20000
section
variable {w0 w w1 w' : World} {p q : Nat} {o : Option Nat} {D D' : DiskV} {V V' : LogV} {B : Thing} {X Y : Nat → Prop} {g : FuncId} {args : Array Value} {Q : Value → World → Prop}
end
end Go.Proofs.YtpbpjojdfcdbbaaGreatDoor

/- disks, in plain Lean: what each call does to the files; without a fuse, what it answers -/
namespace Go.Proofs.YtpbpjojdfcdbbaaGreatDoor
open Go.Lift
set_option linter.unusedVariables false
set_option maxRecDepth 20000

def fullF (b : List UInt8) : FileV := ⟨b, b.length, true⟩

/-- no fuse burns -/
structure Alive (D : DiskV) : Prop where
  dead : D.dead = false
  fused : D.fused = false

section
variable {D E : DiskV} {k : ByteArray} {l : List Int}
theorem op_cases (D : DiskV) (body : DiskV → Int × DiskV) : D.op body = (15, D.gone) ∨ D.op body = body D.armed := by
  unfold DiskV.op
  split
  · exact .inl rfl
  · exact .inr rfl
theorem Alive.op (h : Alive D) (body : DiskV → Int × DiskV) : D.op body = body D := by
  unfold DiskV.op DiskV.dies DiskV.armed
  rw [h.dead, h.fused]
  rfl
theorem Alive.same (h : Alive D) (h1 : E.dead = D.dead) (h2 : E.fused = D.fused) : Alive E := ⟨h1.trans h.dead, h2.trans h.fused⟩
theorem cut_full (f : FileV) : f.cut f.bytes.length = fullF f.bytes := by
  have hcl : clampN (f.bytes.length : Int) f.bytes.length = f.bytes.length := by unfold clampN; omega
  simp [FileV.cut, hcl, fullF]

theorem create_eff (D : DiskV) (k : ByteArray) : ((D.create k).1 ≠ 0 ∧ (D.create k).2.files = D.files) ∨ ((D.create k).1 = 0 ∧ isNameV k = true ∧ aget D.files k = none ∧ (D.create k).2.files = aput D.files k ⟨[], 0, false⟩) := by
  unfold DiskV.create
  rcases op_cases D fun D => if isNameV k then (if (aget D.files k).isSome then (16, D) else if 64 ≤ D.files.length then (12, D) else (0, D.setF k ⟨[], 0, false⟩)) else (1, D) with h | h
  · rw [h]; exact .inl ⟨by simp, rfl⟩
  · rw [h]
    have hf := armed_files D
    split
    · rename_i hn
      split
      · exact .inl ⟨by simp, hf⟩
      · split
        · exact .inl ⟨by simp, hf⟩
        · rename_i hs _
          refine .inr ⟨rfl, hn, ?_, ?_⟩
          · rw [← hf]; simpa using hs
          · show aput D.armed.files k _ = _; rw [hf]
    · exact .inl ⟨by simp, hf⟩
theorem Alive.create (h : Alive D) (k : ByteArray) : Alive (D.create k).2 ∧ (isNameV k = true → aget D.files k = none → (D.create k).1 = 0 ∨ (D.create k).1 = 12) := by
  unfold DiskV.create
  rw [h.op]
  split
  · split
    · rename_i h1 h2; exact ⟨h, fun _ hn => by rw [hn] at h2; cases h2⟩
    · split
      · exact ⟨h, fun _ _ => .inr rfl⟩
      · exact ⟨h.same rfl rfl, fun _ _ => .inl rfl⟩
  · rename_i hn; exact ⟨h, fun hc => absurd hc hn⟩

theorem on_cases (D : DiskV) (k : ByteArray) (body : DiskV → FileV → Int × DiskV) : ((D.op (DiskV.onF k body)).1 ≠ 0 ∧ (D.op (DiskV.onF k body)).2.files = D.files) ∨ ∃ f, aget D.files k = some f ∧ D.op (DiskV.onF k body) = body D.armed f := by
  rcases op_cases D (DiskV.onF k body) with h | h
  · rw [h]; exact .inl ⟨by simp, rfl⟩
  · rw [h]
    unfold DiskV.onF
    rw [armed_files]
    split
    · exact .inl ⟨by simp, armed_files D⟩
    · rename_i f hf; exact .inr ⟨f, hf, rfl⟩
theorem Alive.on (h : Alive D) {f : FileV} (hf : aget D.files k = some f) (body : DiskV → FileV → Int × DiskV) : D.op (DiskV.onF k body) = body D f := by
  rw [h.op]; unfold DiskV.onF; rw [hf]
theorem Alive.onA (h : Alive D) {body : DiskV → FileV → Int × DiskV} (hb : ∀ f, Alive (body D f).2) : Alive (D.op (DiskV.onF k body)).2 := by
  rw [h.op]
  unfold DiskV.onF
  split
  · exact h
  · exact hb _

theorem append_eff (D : DiskV) (k : ByteArray) (b : List UInt8) : ((D.append k b).1 ≠ 0 ∧ (D.append k b).2.files = D.files) ∨ ((D.append k b).1 = 0 ∧ ∃ f, aget D.files k = some f ∧ (D.append k b).2.files = aput D.files k { f with bytes := f.bytes ++ b }) := by
  unfold DiskV.append
  rcases on_cases D k fun D f => if (b.length : Int) > D.room then (12, D) else (0, D.setF k { f with bytes := f.bytes ++ b }) with h | ⟨f, hf, h⟩
  · exact .inl h
  · rw [h]
    split
    · exact .inl ⟨by simp, armed_files D⟩
    · exact .inr ⟨rfl, f, hf, by show aput D.armed.files k _ = _; rw [armed_files]⟩
theorem Alive.append (h : Alive D) (k : ByteArray) (b : List UInt8) : Alive (D.append k b).2 ∧ ∀ f, aget D.files k = some f → (D.append k b).1 = 0 ∨ (D.append k b).1 = 12 := by
  refine ⟨?_, fun f hf => ?_⟩
  · unfold DiskV.append
    refine h.onA fun f => ?_
    split
    · exact h
    · exact h.same rfl rfl
  · unfold DiskV.append
    rw [h.on hf]
    split
    · exact .inr rfl
    · exact .inl rfl
theorem sync_eff (D : DiskV) (k : ByteArray) : ((D.sync k).1 ≠ 0 ∧ (D.sync k).2.files = D.files) ∨ ((D.sync k).1 = 0 ∧ ∃ f, aget D.files k = some f ∧ (D.sync k).2.files = aput D.files k (fullF f.bytes)) := by
  unfold DiskV.sync
  rcases on_cases D k fun D f => (0, D.setF k (f.cut f.bytes.length)) with h | ⟨f, hf, h⟩
  · exact .inl h
  · rw [h, cut_full]; exact .inr ⟨rfl, f, hf, by show aput D.armed.files k _ = _; rw [armed_files]⟩
theorem Alive.sync (h : Alive D) (k : ByteArray) : Alive (D.sync k).2 ∧ ∀ f, aget D.files k = some f → (D.sync k).1 = 0 := by
  refine ⟨?_, fun f hf => ?_⟩
  · unfold DiskV.sync; exact h.onA fun f => h.same rfl rfl
  · unfold DiskV.sync; rw [h.on hf]
theorem Alive.cutF (h : Alive D) {f : FileV} (hf : aget D.files k = some f) (n : Int) : (D.cutF k n).1 = 0 ∧ (D.cutF k n).2 = D.setF k (f.cut n) ∧ Alive (D.cutF k n).2 := by
  unfold DiskV.cutF; rw [h.on hf]; exact ⟨rfl, rfl, h.same rfl rfl⟩
theorem delete_eff (D : DiskV) (k : ByteArray) : (D.delete k).2.files = D.files ∨ (D.delete k).2.files = adel D.files k := by
  unfold DiskV.delete
  rcases on_cases D k fun D f => (0, D.delF k) with h | ⟨f, hf, h⟩
  · exact .inl h.2
  · rw [h]; exact .inr (by show adel D.armed.files k = _; rw [armed_files])
theorem Alive.delete (h : Alive D) (k : ByteArray) : Alive (D.delete k).2 ∧ ((D.delete k).2.files = adel D.files k ∨ (aget D.files k = none ∧ (D.delete k).2.files = D.files)) := by
  unfold DiskV.delete
  refine ⟨h.onA fun f => h.same rfl rfl, ?_⟩
  rw [h.op]
  unfold DiskV.onF
  split
  · rename_i hn; exact .inr ⟨hn, rfl⟩
  · exact .inl rfl

/-- two disks' files, but for one's -/
def But (k : ByteArray) (D E : DiskV) : Prop := Tidy E.files ∧ ∀ x, x ≠ k → aget E.files x = aget D.files x
theorem But.refl (ht : Tidy D.files) : But k D D := ⟨ht, fun _ _ => rfl⟩
theorem But.of (h : But k D E) {F : DiskV} (hf : F.files = E.files) : But k D F := ⟨by rw [hf]; exact h.1, fun x hx => by rw [hf]; exact h.2 x hx⟩
theorem But.put (h : But k D E) {F : DiskV} {f : FileV} (hf : F.files = aput E.files k f) : But k D F := ⟨by rw [hf]; exact h.1.aput _ _, fun x hx => by rw [hf, aget_aput, if_neg (by simpa using hx)]; exact h.2 x hx⟩
theorem But.del (h : But k D E) {F : DiskV} (hf : F.files = adel E.files k) : But k D F := ⟨by rw [hf]; exact h.1.adel _, fun x hx => by rw [hf, aget_adel h.1, if_neg (by simpa using hx)]; exact h.2 x hx⟩
theorem But.clean (h : But mTemp D E) : But mTemp D (cleanV E).2 := by
  unfold cleanV
  split
  · rcases delete_eff E mTemp with e | e
    · exact h.of e
    · exact h.del e
  · exact h
theorem tn' : mTemp ≠ mName := fun h => by have := tn; rw [h] at this; simp at this

/-- what a writing of a manifest leaves: nothing of it, or all -/
def MfQ (D : DiskV) (l : List Int) (r : Int × DiskV) : Prop := (r.1 ≠ 0 ∧ But mTemp D r.2) ∨
    (r.1 = 0 ∧ l.length ≤ 64 ∧ Tidy r.2.files ∧ aget r.2.files mName = some (fullF (mfBytes l)) ∧ ∀ x, x ≠ mTemp → x ≠ mName → aget r.2.files x = aget D.files x)
theorem MfQ.step {i k : Nat} {r : Int × DiskV} (hr : mStep l i E = r) (h1 : r.1 ≠ 0 → But mTemp D r.2) (h2 : r.1 = 0 → MfQ D l (mRun l (i + 1) k r.2)) : MfQ D l (mRun l i (k + 1) E) := by
  rw [mRun, hr]
  split
  · rename_i e; exact .inl ⟨e, (h1 e).clean⟩
  · rename_i e; exact h2 (by simpa using e)
/-- ALL OR NOTHING -/
theorem mf_eff (ht : Tidy D.files) (l : List Int) : MfQ D l (mfWrite D l) := by
  unfold mfWrite
  split
  · exact .inl ⟨by simp, But.refl ht⟩
  rename_i hlen
  have h1 : But mTemp D (cleanV D).2 := (But.refl ht).clean
  refine MfQ.step (r := cleanV D) rfl (fun _ => h1) fun _ => ?_
  generalize (cleanV D).2 = D1 at h1
  have c2 := create_eff D1 mTemp
  refine MfQ.step (r := D1.create mTemp) rfl (fun e => ?_) fun e2 => ?_
  · rcases c2 with c2 | c2
    · exact h1.of c2.2
    · exact absurd c2.1 e
  rcases c2 with c2 | ⟨_, _, _, c2⟩
  · exact absurd e2 c2.1
  have h2 : But mTemp D (D1.create mTemp).2 := h1.put c2
  have t2 : aget (D1.create mTemp).2.files mTemp = some ⟨[], 0, false⟩ := by rw [c2, aget_aput]; simp
  generalize (D1.create mTemp).2 = D2 at h2 t2
  have c3 := append_eff D2 mTemp (mfBytes l)
  refine MfQ.step (r := D2.append mTemp (mfBytes l)) rfl (fun e => ?_) fun e3 => ?_
  · rcases c3 with c3 | c3
    · exact h2.of c3.2
    · exact absurd c3.1 e
  rcases c3 with c3 | ⟨_, f, hf, c3⟩
  · exact absurd e3 c3.1
  rw [t2] at hf; cases hf
  have h3 : But mTemp D (D2.append mTemp (mfBytes l)).2 := h2.put c3
  have t3 : aget (D2.append mTemp (mfBytes l)).2.files mTemp = some ⟨mfBytes l, 0, false⟩ := by rw [c3, aget_aput]; simp
  generalize (D2.append mTemp (mfBytes l)).2 = D3 at h3 t3
  have c4 := sync_eff D3 mTemp
  refine MfQ.step (r := D3.sync mTemp) rfl (fun e => ?_) fun e4 => ?_
  · rcases c4 with c4 | c4
    · exact h3.of c4.2
    · exact absurd c4.1 e
  rcases c4 with c4 | ⟨_, f, hf, c4⟩
  · exact absurd e4 c4.1
  rw [t3] at hf; cases hf
  have h4 : But mTemp D (D3.sync mTemp).2 := h3.put c4
  have t4 : aget (D3.sync mTemp).2.files mTemp = some (fullF (mfBytes l)) := by rw [c4, aget_aput]; simp
  generalize (D3.sync mTemp).2 = D4 at h4 t4
  have c5 : ((D4.rename mTemp mName).1 ≠ 0 ∧ (D4.rename mTemp mName).2.files = D4.files) ∨ ((D4.rename mTemp mName).1 = 0 ∧ (D4.rename mTemp mName).2.files = aput (adel D4.files mTemp) mName (fullF (mfBytes l))) := by
    unfold DiskV.rename
    rcases on_cases D4 mTemp fun D f => if isNameV mName then (0, (D.delF mTemp).setF mName { f with good := true }) else (1, D) with h | ⟨f, hf, h⟩
    · exact .inl h
    · rw [h, if_pos name_ok']
      rw [t4] at hf; cases hf
      exact .inr ⟨rfl, by show aput (adel D4.armed.files mTemp) mName _ = _; rw [armed_files]; rfl⟩
  refine MfQ.step (r := D4.rename mTemp mName) rfl (fun e => ?_) fun e5 => ?_
  · rcases c5 with c5 | c5
    · exact h4.of c5.2
    · exact absurd c5.1 e
  rcases c5 with c5 | ⟨_, c5⟩
  · exact absurd e5 c5.1
  refine .inr ⟨rfl, by omega, ?_, ?_, fun x hx1 hx2 => ?_⟩
  · show Tidy (D4.rename mTemp mName).2.files; rw [c5]; exact (h4.1.adel _).aput _ _
  · show aget (D4.rename mTemp mName).2.files mName = _; rw [c5, aget_aput]; simp
  · show aget (D4.rename mTemp mName).2.files x = _
    rw [c5, aget_aput, if_neg (by simpa using hx2), aget_adel h4.1, if_neg (by simpa using hx1)]
    exact h4.2 x hx1

/-! without a fuse -/
def MfA (r : Int × DiskV) : Prop := Alive r.2 ∧ (r.1 = 0 ∨ r.1 = 3 ∨ r.1 = 12)
theorem Alive.clean (h : Alive D) : Alive (cleanV D).2 := by
  unfold cleanV
  split
  · exact (h.delete _).1
  · exact h
theorem clean_gone (h : Alive D) (ht : Tidy D.files) : (cleanV D).1 = 0 ∧ aget (cleanV D).2.files mTemp = none ∧ Tidy (cleanV D).2.files := by
  unfold cleanV
  split
  · rename_i hs
    obtain ⟨f, hf⟩ := Option.isSome_iff_exists.1 hs
    have e : D.delete mTemp = (0, D.delF mTemp) := by unfold DiskV.delete; rw [h.on hf]
    rw [e]
    exact ⟨rfl, by show aget (adel _ _) _ = _; rw [aget_adel ht]; simp, ht.adel _⟩
  · rename_i hs; exact ⟨rfl, by simpa using hs, ht⟩
theorem MfA.step {i k : Nat} {r : Int × DiskV} (hr : mStep l i E = r) (h1 : Alive r.2) (h3 : r.1 = 0 ∨ r.1 = 3 ∨ r.1 = 12) (h2 : r.1 = 0 → MfA (mRun l (i + 1) k r.2)) : MfA (mRun l i (k + 1) E) := by
  rw [mRun, hr]
  split
  · exact ⟨h1.clean, h3⟩
  · rename_i e; exact h2 (by simpa using e)
theorem Alive.mfWrite (h : Alive D) (ht : Tidy D.files) (l : List Int) : MfA (mfWrite D l) := by
  unfold Go.Proofs.YtpbpjojdfcdbbaaGreatDoor.mfWrite
  split
  · exact ⟨h, .inr (.inl rfl)⟩
  obtain ⟨z1, n1, ht1⟩ := clean_gone h ht
  have h1 := h.clean
  refine MfA.step (r := cleanV D) rfl h1 (.inl z1) fun _ => ?_
  generalize (cleanV D).2 = D1 at h1 n1 ht1
  have c2 := create_eff D1 mTemp
  obtain ⟨h2, a2⟩ := h1.create mTemp
  refine MfA.step (r := D1.create mTemp) rfl h2 ((a2 temp_ok n1).imp id .inr) fun e2 => ?_
  rcases c2 with c2 | ⟨_, _, _, c2⟩
  · exact absurd e2 c2.1
  have t2 : aget (D1.create mTemp).2.files mTemp = some ⟨[], 0, false⟩ := by rw [c2, aget_aput]; simp
  generalize (D1.create mTemp).2 = D2 at h2 t2
  have c3 := append_eff D2 mTemp (mfBytes l)
  obtain ⟨h3, a3⟩ := h2.append mTemp (mfBytes l)
  refine MfA.step (r := D2.append mTemp (mfBytes l)) rfl h3 ((a3 _ t2).imp id .inr) fun e3 => ?_
  rcases c3 with c3 | ⟨_, f, hf, c3⟩
  · exact absurd e3 c3.1
  have t3 : ∃ f, aget (D2.append mTemp (mfBytes l)).2.files mTemp = some f := by rw [c3, aget_aput]; simp
  generalize (D2.append mTemp (mfBytes l)).2 = D3 at h3 t3
  obtain ⟨f3, t3⟩ := t3
  have c4 := sync_eff D3 mTemp
  obtain ⟨h4, a4⟩ := h3.sync mTemp
  refine MfA.step (r := D3.sync mTemp) rfl h4 (.inl (a4 _ t3)) fun e4 => ?_
  rcases c4 with c4 | ⟨_, f, hf4, c4⟩
  · exact absurd e4 c4.1
  have t4 : aget (D3.sync mTemp).2.files mTemp = some (fullF f.bytes) := by rw [c4, aget_aput]; simp
  generalize (D3.sync mTemp).2 = D4 at h4 t4
  have e5 : D4.rename mTemp mName = (0, (D4.delF mTemp).setF mName { fullF f.bytes with good := true }) := by
    unfold DiskV.rename; rw [h4.on t4, if_pos name_ok']
  refine MfA.step (r := D4.rename mTemp mName) rfl (by rw [e5]; exact h4.same rfl rfl) (.inl (by rw [e5])) fun e5' => ?_
  rw [e5]
  exact ⟨h4.same rfl rfl, .inl rfl⟩

/-! crashes -/
theorem aget_good {l : List (ByteArray × FileV)} (ht : Tidy l) (q : FileV → Bool) (g : FileV → FileV) (k : ByteArray) :
    aget ((l.filter fun x => q x.2).map fun x => (x.1, g x.2)) k = (aget l k).bind fun f => if q f then some (g f) else none := by
  induction l with
  | nil => rfl
  | cons p l ih =>
    obtain ⟨x, u⟩ := p
    unfold Tidy at ht ih
    simp only [List.map_cons, List.nodup_cons] at ht
    rw [List.filter_cons]
    by_cases hx : (k == x) = true
    · have hkx : k = x := eq_of_beq hx
      subst hkx
      have hn : aget ((l.filter fun x => q x.2).map fun x => (x.1, g x.2)) k = none := by
        rw [aget_none]
        intro hm
        apply ht.1
        simp only [List.map_map, List.mem_map, List.mem_filter] at hm ⊢
        obtain ⟨y, ⟨hy, _⟩, he⟩ := hm
        exact ⟨y, hy, he⟩
      by_cases hq : q u = true
      · simp [hq, aget]
      · rw [if_neg (by simpa using hq), hn]; simp [hq, aget]
    · have hx' : (k == x) = false := by simpa using hx
      by_cases hq : q u = true
      · simp only [hq, if_true, List.map_cons, aget, hx', Bool.false_eq_true, if_false]
        exact ih ht.2
      · rw [if_neg (by simpa using hq)]
        simp only [aget, hx', Bool.false_eq_true, if_false]
        exact ih ht.2
theorem crash_get (ht : Tidy D.files) (n : Int) (k : ByteArray) : aget (D.crash n).files k = (aget D.files k).bind fun f => if f.good then some (cutK n f) else none :=
  aget_good ht (fun f => f.good) (cutK n) k
theorem crash_tidy (h : Tidy D.files) (n : Int) : Tidy (D.crash n).files := by
  show (((D.files.filter fun x => x.2.good).map fun x => (x.1, cutK n x.2)).map (·.1)).Nodup
  rw [List.map_map]
  exact (tidy_filter h fun x => x.2.good)
theorem crash_alive (D : DiskV) (n : Int) : Alive (D.crash n) := ⟨rfl, rfl⟩
/-- what a crash leaves of a file that lasts -/
theorem cutK_some (n : Int) (b : List UInt8) {s : Nat} (hs : s ≤ b.length) : ∃ m, s ≤ m ∧ m ≤ b.length ∧ cutK n ⟨b, s, true⟩ = fullF (b.take m) := by
  refine ⟨clampN (keepTo n ⟨b, s, true⟩) b.length, ?_, clampN_le _ _, ?_⟩
  · unfold clampN keepTo; simp only; omega
  · have := clampN_le (keepTo n ⟨b, s, true⟩) b.length
    unfold cutK FileV.cut fullF
    simp only [List.length_take, Nat.min_eq_left this]
theorem crash_full (ht : Tidy D.files) (n : Int) {k : ByteArray} {b : List UInt8} (h : aget D.files k = some (fullF b)) : aget (D.crash n).files k = some (fullF b) := by
  rw [crash_get ht, h]
  obtain ⟨m, h1, h2, h3⟩ := cutK_some n b (Nat.le_refl _)
  show (if true then some (cutK n ⟨b, b.length, true⟩) else none) = _
  rw [h3, List.take_of_length_le (by omega)]; rfl
end
end Go.Proofs.YtpbpjojdfcdbbaaGreatDoor

/- seglog, in plain Lean: what lasts -/
namespace Go.Proofs.YtpbpjojdfcdbbaaGreatDoor
open Go.Lift
set_option linter.unusedVariables false
set_option maxRecDepth 20000

abbrev Segs := List (Int × List EventV)
def nums (A : Segs) : List Int := A.map (·.1)
def evsOf (A : Segs) (l : List EventV) : List EventV := (A.map (·.2)).flatten ++ l

/-- full segments A, a last one with events l, of which k last; the manifest says just them -/
structure Held (D : DiskV) (A : Segs) (no : Int) (l : List EventV) (k : Nat) : Prop where
  tidy : Tidy D.files
  full : ∀ x ∈ A, aget D.files (segNm x.1) = some (fullF (evFrs x.2))
  last : ∃ s, aget D.files (segNm no) = some ⟨evFrs l, s, true⟩ ∧ (evFrs (l.take k)).length ≤ s ∧ s ≤ (evFrs l).length
  kl : k ≤ l.length
  man : aget D.files mName = some (fullF (mfBytes (nums A ++ [no])))
  rng : ∀ n ∈ nums A ++ [no], 1 ≤ n ∧ n < 1000000000000
  rise : (nums A ++ [no]).Pairwise (· < ·)
  evs : ∀ e ∈ evsOf A l, e.Ok ∧ e.deps.length ≤ 64
  many : A.length + 1 ≤ 64

/-- the log in memory -/
structure VOk (V : LogV) (A : Segs) (no : Int) (l : List EventV) : Prop where
  segs : V.segs = nums A ++ [no]
  bytes : V.bytes = ((evFrs l).length : Nat)
  next : no < V.next ∧ V.next ≤ 1000000000000

theorem segNm_ne {n : Int} (h : isNameV (segNm n) = true ∨ 0 ≤ n ∧ n < 1000000000000) : segNm n ≠ mName ∧ segNm n ≠ mTemp := by
  have hm : mName.data.toList.take 4 ≠ segPre := by decide +kernel
  have ht : mTemp.data.toList.take 4 ≠ segPre := by decide +kernel
  have h4 : (segNm n).data.toList.take 4 = segPre ∨ (segNm n).data.toList = [] := by
    unfold segNm
    rw [txt_list]
    unfold segName
    split
    · exact .inr rfl
    · exact .inl (by simp [segPre])
  refine ⟨fun e => ?_, fun e => ?_⟩
  · rw [e] at h4
    rcases h4 with h4 | h4
    · exact hm h4
    · revert h4; decide +kernel
  · rw [e] at h4
    rcases h4 with h4 | h4
    · exact ht h4
    · revert h4; decide +kernel
theorem segNm_inj {a b : Int} (ha : 0 ≤ a ∧ a < 1000000000000) (h : segNm b = segNm a) : b = a := segName_inj ha.1 ha.2 (txt_inj h)
theorem segNm_name {n : Int} (hn : 0 ≤ n) : isNameV (segNm n) = true ↔ n < 1000000000000 := by
  constructor
  · intro h
    by_cases hc : n < 1000000000000
    · exact hc
    · have : segNm n = txt [] := by unfold segNm segName; rw [if_pos (.inr (by omega))]
      have hx : isNameV (txt []) = false := by decide +kernel
      rw [this, hx] at h; cases h
  · intro h; exact seg_name_ok hn h

theorem evFrs_take_le (l : List EventV) (k : Nat) : (evFrs (l.take k)).length ≤ (evFrs l).length := by
  have h := List.take_append_drop k l
  conv => rhs; rw [← h, evFrs_append, List.length_append]
  omega
theorem evsOf_snoc (A : Segs) (no : Int) (l m : List EventV) : evsOf (A ++ [(no, l)]) m = evsOf A l ++ m := by simp [evsOf]

section
variable {D E : DiskV} {A : Segs} {no : Int} {l x : List EventV} {k j : Nat} {V : LogV}

/-- files that matter, the same -/
theorem Held.same (h : Held D A no l k) (ht : Tidy E.files) (hs : ∀ n ∈ nums A ++ [no], aget E.files (segNm n) = aget D.files (segNm n)) (hm : aget E.files mName = aget D.files mName) : Held E A no l k :=
  ⟨ht, fun x hx => (hs x.1 (List.mem_append_left _ (List.mem_map.2 ⟨x, hx, rfl⟩))).trans (h.full x hx), by
    obtain ⟨s, h1, h2⟩ := h.last
    exact ⟨s, (hs no (List.mem_append_right _ (List.mem_singleton.2 rfl))).trans h1, h2⟩, h.kl, hm.trans h.man, h.rng, h.rise, h.evs, h.many⟩
theorem Held.files (h : Held D A no l k) (he : E.files = D.files) : Held E A no l k := h.same (by rw [he]; exact h.tidy) (fun _ _ => by rw [he]) (by rw [he])
theorem Held.no_rng (h : Held D A no l k) : 1 ≤ no ∧ no < 1000000000000 := h.rng no (List.mem_append_right _ (List.mem_singleton.2 rfl))
theorem Held.no_ne (h : Held D A no l k) : ∀ y ∈ A, segNm y.1 ≠ segNm no := fun y hy e => by
  have h1 := h.no_rng
  have := segNm_inj ⟨by omega, h1.2⟩ e
  have h2 := h.rise
  rw [List.pairwise_append] at h2
  have := h2.2.2 y.1 (List.mem_map.2 ⟨y, hy, rfl⟩) no (List.mem_singleton.2 rfl)
  omega
/-- the last segment's file turned -/
theorem Held.put (h : Held D A no l k) {l' : List EventV} {s k' : Nat} (he : E.files = aput D.files (segNm no) ⟨evFrs l', s, true⟩) (hk : k' ≤ l'.length) (h1 : (evFrs (l'.take k')).length ≤ s) (h2 : s ≤ (evFrs l').length) (hev : ∀ e ∈ l', e.Ok ∧ e.deps.length ≤ 64) : Held E A no l' k' :=
  ⟨by rw [he]; exact h.tidy.aput _ _, fun y hy => by rw [he, aget_aput, if_neg (by simpa using h.no_ne y hy)]; exact h.full y hy, ⟨s, by rw [he, aget_aput]; simp, h1, h2⟩, hk, by
    have := (segNm_ne (n := no) (.inr (by have := h.no_rng; omega))).1
    rw [he, aget_aput, if_neg (by simpa using this.symm)]; exact h.man, h.rng, h.rise, fun e he => by
    rcases List.mem_append.1 he with h' | h'
    · exact h.evs e (List.mem_append_left _ h')
    · exact hev e h', h.many⟩
theorem Held.evl (h : Held D A no l k) : ∀ e ∈ l, e.Ok ∧ e.deps.length ≤ 64 := fun e he => h.evs e (List.mem_append_right _ he)
theorem Held.lastNm (hv : VOk V A no l) : V.last = segNm no := by unfold LogV.last; rw [hv.segs]; simp [segNm]

theorem Held.mono (h : Held D A no l k) (hj : j ≤ k) : Held D A no l j := by
  obtain ⟨s, h1, h2, h3⟩ := h.last
  exact ⟨h.tidy, h.full, ⟨s, h1, Nat.le_trans (evFrs_take hj) h2, h3⟩, Nat.le_trans hj h.kl, h.man, h.rng, h.rise, h.evs, h.many⟩

/-- SYNC -/
theorem held_sync (h : Held D A no l k) : ((D.sync (segNm no)).1 = 0 ∧ Held (D.sync (segNm no)).2 A no l l.length) ∨ ((D.sync (segNm no)).1 ≠ 0 ∧ Held (D.sync (segNm no)).2 A no l k) := by
  rcases sync_eff D (segNm no) with ⟨h1, h2⟩ | ⟨h1, f, hf, h2⟩
  · exact .inr ⟨h1, h.files h2⟩
  · obtain ⟨s, g1, g2, g3⟩ := h.last
    rw [g1] at hf; cases hf
    exact .inl ⟨h1, h.put h2 (Nat.le_refl _) (by rw [List.take_length]; exact Nat.le_refl _) (Nat.le_refl _) h.evl⟩

/-- what the beginning of a segment does to any disk -/
theorem begin2_eff (ht : Tidy D.files) (hn : 0 ≤ V.next) : ((begin2 V D).1 ≠ 0 ∧ (begin2 V D).2.1 = V ∧ Tidy (begin2 V D).2.2.files ∧ ∀ x, x ≠ segNm V.next → x ≠ mTemp → aget (begin2 V D).2.2.files x = aget D.files x) ∨
    ((begin2 V D).1 = 0 ∧ V.next < 1000000000000 ∧ V.segs.length + 1 ≤ 64 ∧ aget D.files (segNm V.next) = none ∧ (begin2 V D).2.1 = ⟨V.size, V.segs ++ [V.next], 0, V.next + 1⟩ ∧ Tidy (begin2 V D).2.2.files ∧ aget (begin2 V D).2.2.files (segNm V.next) = some (fullF []) ∧
      aget (begin2 V D).2.2.files mName = some (fullF (mfBytes (V.segs ++ [V.next]))) ∧ ∀ x, x ≠ segNm V.next → x ≠ mTemp → x ≠ mName → aget (begin2 V D).2.2.files x = aget D.files x) := by
  unfold begin2
  dsimp only
  rw [show txt (segName V.next) = segNm V.next from rfl]
  rcases create_eff D (segNm V.next) with ⟨c1, c2⟩ | ⟨c1, c2, c3, c4⟩
  · rw [if_pos c1]
    exact .inl ⟨c1, rfl, by show Tidy (D.create _).2.files; rw [c2]; exact ht, fun x _ _ => by show aget (D.create (segNm V.next)).2.files x = _; rw [c2]⟩
  have hlt := (segNm_name hn).1 c2
  obtain ⟨nm, nt⟩ := segNm_ne (n := V.next) (.inr ⟨hn, hlt⟩)
  rw [if_neg (show ¬ (D.create (segNm V.next)).1 ≠ 0 by simpa using c1)]
  have t1 : But (segNm V.next) D (D.create (segNm V.next)).2 := (But.refl ht).put c4
  have g1 : aget (D.create (segNm V.next)).2.files (segNm V.next) = some ⟨[], 0, false⟩ := by rw [c4, aget_aput]; simp
  generalize (D.create (segNm V.next)).2 = D1 at t1 g1
  unfold begin3
  dsimp only
  rw [show txt (segName V.next) = segNm V.next from rfl]
  have del : ∀ {F : DiskV}, Tidy F.files → (∀ x, x ≠ segNm V.next → x ≠ mTemp → aget F.files x = aget D.files x) → Tidy (F.delete (segNm V.next)).2.files ∧ ∀ x, x ≠ segNm V.next → x ≠ mTemp → aget (F.delete (segNm V.next)).2.files x = aget D.files x := by
    intro F hF hs
    rcases delete_eff F (segNm V.next) with e | e
    · rw [e]; exact ⟨hF, hs⟩
    · rw [e]; exact ⟨hF.adel _, fun x h1 h2 => by rw [aget_adel hF, if_neg (by simpa using h1)]; exact hs x h1 h2⟩
  rcases sync_eff D1 (segNm V.next) with ⟨d1, d2⟩ | ⟨d1, f, hf, d2⟩
  · rw [if_pos d1]
    have := del (F := (D1.sync (segNm V.next)).2) (by rw [d2]; exact t1.1) fun x h1 _ => by rw [d2]; exact t1.2 x h1
    exact .inl ⟨d1, rfl, this⟩
  rw [g1] at hf; cases hf
  have t2 : But (segNm V.next) D (D1.sync (segNm V.next)).2 := t1.put d2
  have g2 : aget (D1.sync (segNm V.next)).2.files (segNm V.next) = some (fullF []) := by rw [d2, aget_aput]; simp
  rw [if_neg (show ¬ (D1.sync (segNm V.next)).1 ≠ 0 by simpa using d1)]
  generalize (D1.sync (segNm V.next)).2 = D2 at t2 g2
  rcases mf_eff t2.1 (V.segs ++ [V.next]) with ⟨m1, m2⟩ | ⟨m1, m2, m3, m4, m5⟩
  · rw [if_pos m1]
    have := del (F := (mfWrite D2 (V.segs ++ [V.next])).2) m2.1 fun x h1 h2 => (m2.2 x h2).trans (t2.2 x h1)
    exact .inl ⟨m1, rfl, this⟩
  · rw [if_neg (by simpa using m1)]
    refine .inr ⟨rfl, hlt, by simpa using m2, c3, ?_, m3, (m5 _ nt nm).trans g2, m4, fun x h1 h2 h3 => (m5 x h2 h3).trans (t2.2 x h1)⟩
    rw [wrap_i64 (by unfold I64; omega)]

theorem Held.begin2 (h : Held D A no l l.length) (hv : VOk V A no l) : ((begin2 V D).1 ≠ 0 ∧ (begin2 V D).2.1 = V ∧ Held (begin2 V D).2.2 A no l l.length) ∨
    ((begin2 V D).1 = 0 ∧ (begin2 V D).2.1.size = V.size ∧ Held (begin2 V D).2.2 (A ++ [(no, l)]) V.next [] 0 ∧ VOk (begin2 V D).2.1 (A ++ [(no, l)]) V.next [] ∧ (begin2 V D).2.1.next = V.next + 1) := by
  have hnr := h.no_rng
  have hvn := hv.next
  have hlt : ∀ n ∈ nums A ++ [no], n < V.next := fun n hn => by
    rcases List.mem_append.1 hn with h1 | h1
    · have h2 := h.rise
      rw [List.pairwise_append] at h2
      have := h2.2.2 n h1 no (List.mem_singleton.2 rfl)
      omega
    · have := List.mem_singleton.1 h1; omega
  have hne : ∀ n ∈ nums A ++ [no], segNm n ≠ segNm V.next := fun n hn e => by
    have h1 := h.rng n hn
    have h2 := hlt n hn
    have := segNm_inj (a := n) ⟨by omega, h1.2⟩ e.symm
    omega
  have hnm : ∀ n ∈ nums A ++ [no], segNm n ≠ mName ∧ segNm n ≠ mTemp := fun n hn => segNm_ne (.inr (by have := h.rng n hn; omega))
  have hmn : mName ≠ segNm V.next := fun e => by
    by_cases hc : V.next < 1000000000000
    · exact (segNm_ne (n := V.next) (.inr (by omega))).1 e.symm
    · have h0 : segNm V.next = txt [] := by unfold segNm segName; rw [if_pos (.inr (by omega))]
      rw [h0] at e
      revert e; decide +kernel
  rcases begin2_eff (V := V) h.tidy (by omega) with ⟨b1, b2, b3, b4⟩ | ⟨b1, b2, b3, b4, b5, b6, b7, b8, b9⟩
  · exact .inl ⟨b1, b2, h.same b3 (fun n hn => b4 _ (hne n hn) (hnm n hn).2) (b4 _ hmn fun e => tn' e.symm)⟩
  · rw [hv.segs] at b3 b8
    have hA : A.length + 1 + 1 ≤ 64 := by simpa [nums] using b3
    have hnums : nums (A ++ [(no, l)]) = nums A ++ [no] := by simp [nums]
    refine .inr ⟨b1, by rw [b5], ⟨b6, fun y hy => ?_, ⟨0, b7, by simp [evFrs], Nat.zero_le _⟩, Nat.le_refl _, by rw [hnums]; exact b8, ?_, ?_, by rw [evsOf_snoc, List.append_nil]; exact h.evs, by simpa using hA⟩, ⟨by rw [b5, hnums, hv.segs], by rw [b5]; simp [evFrs], by rw [b5]; simp only; omega⟩, by rw [b5]⟩
    · rcases List.mem_append.1 hy with h1 | h1
      · have hm : y.1 ∈ nums A ++ [no] := List.mem_append_left _ (List.mem_map.2 ⟨y, h1, rfl⟩)
        rw [b9 _ (hne _ hm) (hnm _ hm).2 (hnm _ hm).1]; exact h.full y h1
      · rw [List.mem_singleton] at h1
        subst h1
        have hm : no ∈ nums A ++ [no] := List.mem_append_right _ (List.mem_singleton.2 rfl)
        obtain ⟨s, g1, g2, g3⟩ := h.last
        rw [List.take_length] at g2
        have hs : s = (evFrs l).length := by omega
        show aget _ (segNm no) = _
        rw [b9 _ (hne _ hm) (hnm _ hm).2 (hnm _ hm).1, g1, hs]; rfl
    · rw [hnums]
      intro n hn
      rcases List.mem_append.1 hn with h1 | h1
      · exact h.rng n h1
      · have := List.mem_singleton.1 h1; omega
    · rw [hnums, List.pairwise_append]
      exact ⟨h.rise, List.pairwise_singleton _ _, fun n hn m hm => by have := List.mem_singleton.1 hm; have := hlt n hn; omega⟩

/-- A SEGMENT BEGUN -/
theorem Held.begin (h : Held D A no l k) (hv : VOk V A no l) : ((logBegin V D).1 ≠ 0 ∧ (logBegin V D).2.1 = V ∧ Held (logBegin V D).2.2 A no l k) ∨
    ((logBegin V D).1 = 0 ∧ (logBegin V D).2.1.size = V.size ∧ Held (logBegin V D).2.2 (A ++ [(no, l)]) V.next [] 0 ∧ VOk (logBegin V D).2.1 (A ++ [(no, l)]) V.next [] ∧ (logBegin V D).2.1.next = V.next + 1) := by
  have hne : ¬ V.segs = [] := by rw [hv.segs]; simp
  have e : logBegin V D = if (D.sync (segNm no)).1 ≠ 0 then ((D.sync (segNm no)).1, V, (D.sync (segNm no)).2) else Go.Proofs.YtpbpjojdfcdbbaaGreatDoor.begin2 V (D.sync (segNm no)).2 := by
    unfold logBegin; rw [if_neg hne, Held.lastNm hv]
  rw [e]
  rcases held_sync h with ⟨s1, s2⟩ | ⟨s1, s2⟩
  · rw [if_neg (by simpa using s1)]
    rcases s2.begin2 hv with ⟨b1, b2, b3⟩ | b
    · exact .inl ⟨b1, b2, b3.mono h.kl⟩
    · exact .inr b
  · rw [if_pos s1]; exact .inl ⟨s1, rfl, s2⟩
end
end Go.Proofs.YtpbpjojdfcdbbaaGreatDoor

/- seglog, in plain Lean: events laid, a log opened -/
namespace Go.Proofs.YtpbpjojdfcdbbaaGreatDoor
open Go.Lift
set_option linter.unusedVariables false
set_option maxRecDepth 20000

theorem segLoad_all {l : List EventV} (h : ∀ e ∈ l, e.Ok ∧ e.deps.length ≤ 64) : segLoad (evFrs l) = (l, (evFrs l).length) := by
  have := segLoad_evs h []
  rw [List.append_nil, segLoad_nil] at this
  simpa using this
theorem evFrs_pre (l : List EventV) (q : Nat) : (evFrs l).take (evFrs (l.take q)).length = evFrs (l.take q) := by
  conv => lhs; rw [← List.take_append_drop q l, evFrs_append]
  rw [show (List.take q (List.take q l ++ List.drop q l)) = l.take q by rw [List.take_append_drop]]
  exact List.take_left

/-! the next number -/
theorem segNoV_nm {n : Int} (h : 0 ≤ n ∧ n < 1000000000000) : segNoV (segNm n) = (n, true) := by
  unfold segNoV segNm
  rw [txt_list, segNo_name h.1 h.2]
  simp; omega
theorem step_ge (n : Int) (s : ByteArray) : n ≤ nextStep n s := by unfold nextStep; split <;> omega
theorem fold_ge : ∀ (l : List ByteArray) (n : Int), n ≤ l.foldl nextStep n
  | [], n => Int.le_refl n
  | s :: l, n => Int.le_trans (step_ge n s) (fold_ge l _)
theorem fold_mem : ∀ (l : List ByteArray) (n : Int) {s : ByteArray}, s ∈ l → (segNoV s).2 = true → (segNoV s).1 + 1 ≤ l.foldl nextStep n
  | t :: l, n, s, hs, h2 => by
    rcases List.mem_cons.1 hs with rfl | hs
    · refine Int.le_trans ?_ (fold_ge l _)
      unfold nextStep; rw [if_pos h2]; omega
    · exact fold_mem l _ hs h2
theorem nextV_gt {D : DiskV} {n : Int} (h : 0 ≤ n ∧ n < 1000000000000) (hs : (aget D.files (segNm n)).isSome = true) : n < nextV D := by
  have h1 := fold_mem D.list 1 (mem_list'.2 hs) (by rw [segNoV_nm h])
  rw [segNoV_nm h] at h1
  unfold nextV nextL
  simp only at h1
  omega

section
variable {D E : DiskV} {A : Segs} {no : Int} {l x : List EventV} {k j n s : Nat} {V : LogV}
def dur (A : Segs) (k : Nat) : Nat := ((A.map (·.2)).flatten).length + k
/-- all but the last are full -/
def Fat (size : Int) (A : Segs) : Prop := ∀ y ∈ A, size ≤ ((evFrs y.2).length : Nat)

/-- EVENTS LAID -/
theorem held_append (h : Held D A no l k) (hv : VOk V A no l) (hx : ∀ e ∈ x, e.Ok) (hl : x.length ≤ 1000) (hok : D.Ok) (hfat : Fat V.size A) :
    ∃ A' no' l' k', Held (logAppend V D x).2.2 A' no' l' k' ∧ VOk (logAppend V D x).2.1 A' no' l' ∧ dur A k ≤ dur A' k' ∧ evsOf A' l' = (if (logAppend V D x).1 = 0 then evsOf A l ++ x else evsOf A l) ∧ (logAppend V D x).2.1.size = V.size ∧ Fat V.size A' ∧
      ((A' = A ∧ no' = no ∧ (logAppend V D x).2.1.next = V.next) ∨ (A' = A ++ [(no, l)] ∧ no' = V.next ∧ (logAppend V D x).2.1.next = V.next + 1)) := by
  unfold logAppend
  by_cases h3 : x.any tooLong = true
  · rw [if_pos h3]
    exact ⟨A, no, l, k, h, hv, Nat.le_refl _, rfl, rfl, hfat, .inl ⟨rfl, rfl, rfl⟩⟩
  rw [if_neg h3]
  by_cases h4 : x = []
  · rw [if_pos h4]
    exact ⟨A, no, l, k, h, hv, Nat.le_refl _, by rw [if_pos rfl, h4, List.append_nil], rfl, hfat, .inl ⟨rfl, rfl, rfl⟩⟩
  rw [if_neg h4]
  have hxe : ∀ e ∈ x, e.Ok ∧ e.deps.length ≤ 64 := fun e he => ⟨hx e he, by
    have : ¬ tooLong e = true := fun hc => h3 (List.any_eq_true.2 ⟨e, he, hc⟩)
    unfold tooLong at this
    simp at this; omega⟩
  have hxl := evFrs_le hxe
  have hll : (evFrs l).length ≤ 262144 := by
    obtain ⟨s, g1, _⟩ := h.last
    exact hok.len (aget_mem g1)
  /- behind the beginning of a segment -/
  have main : ∀ (r : Int × LogV × DiskV) (A' : Segs) (no' : Int) (l' : List EventV) (k' : Nat), r.1 = 0 → Held r.2.2 A' no' l' k' → VOk r.2.1 A' no' l' → (evFrs l').length ≤ 262144 → dur A k ≤ dur A' k' → evsOf A' l' = evsOf A l → r.2.1.size = V.size → Fat V.size A' →
      ((A' = A ∧ no' = no ∧ r.2.1.next = V.next) ∨ (A' = A ++ [(no, l)] ∧ no' = V.next ∧ r.2.1.next = V.next + 1)) →
      ∃ A' no' l' k', Held (if r.1 ≠ 0 then r else if (r.2.2.append r.2.1.last (evFrs x)).1 ≠ 0 then ((r.2.2.append r.2.1.last (evFrs x)).1, r.2.1, (r.2.2.append r.2.1.last (evFrs x)).2) else (0, ⟨r.2.1.size, r.2.1.segs, IntKind.wrap .i64 (r.2.1.bytes + ((evFrs x).length : Nat)), r.2.1.next⟩, (r.2.2.append r.2.1.last (evFrs x)).2)).2.2 A' no' l' k' ∧
        VOk (if r.1 ≠ 0 then r else if (r.2.2.append r.2.1.last (evFrs x)).1 ≠ 0 then ((r.2.2.append r.2.1.last (evFrs x)).1, r.2.1, (r.2.2.append r.2.1.last (evFrs x)).2) else (0, ⟨r.2.1.size, r.2.1.segs, IntKind.wrap .i64 (r.2.1.bytes + ((evFrs x).length : Nat)), r.2.1.next⟩, (r.2.2.append r.2.1.last (evFrs x)).2)).2.1 A' no' l' ∧ dur A k ≤ dur A' k' ∧
        evsOf A' l' = (if (if r.1 ≠ 0 then r else if (r.2.2.append r.2.1.last (evFrs x)).1 ≠ 0 then ((r.2.2.append r.2.1.last (evFrs x)).1, r.2.1, (r.2.2.append r.2.1.last (evFrs x)).2) else (0, ⟨r.2.1.size, r.2.1.segs, IntKind.wrap .i64 (r.2.1.bytes + ((evFrs x).length : Nat)), r.2.1.next⟩, (r.2.2.append r.2.1.last (evFrs x)).2)).1 = 0 then evsOf A l ++ x else evsOf A l) ∧
        (if r.1 ≠ 0 then r else if (r.2.2.append r.2.1.last (evFrs x)).1 ≠ 0 then ((r.2.2.append r.2.1.last (evFrs x)).1, r.2.1, (r.2.2.append r.2.1.last (evFrs x)).2) else (0, ⟨r.2.1.size, r.2.1.segs, IntKind.wrap .i64 (r.2.1.bytes + ((evFrs x).length : Nat)), r.2.1.next⟩, (r.2.2.append r.2.1.last (evFrs x)).2)).2.1.size = V.size ∧ Fat V.size A' ∧
        ((A' = A ∧ no' = no ∧ (if r.1 ≠ 0 then r else if (r.2.2.append r.2.1.last (evFrs x)).1 ≠ 0 then ((r.2.2.append r.2.1.last (evFrs x)).1, r.2.1, (r.2.2.append r.2.1.last (evFrs x)).2) else (0, ⟨r.2.1.size, r.2.1.segs, IntKind.wrap .i64 (r.2.1.bytes + ((evFrs x).length : Nat)), r.2.1.next⟩, (r.2.2.append r.2.1.last (evFrs x)).2)).2.1.next = V.next) ∨
          (A' = A ++ [(no, l)] ∧ no' = V.next ∧ (if r.1 ≠ 0 then r else if (r.2.2.append r.2.1.last (evFrs x)).1 ≠ 0 then ((r.2.2.append r.2.1.last (evFrs x)).1, r.2.1, (r.2.2.append r.2.1.last (evFrs x)).2) else (0, ⟨r.2.1.size, r.2.1.segs, IntKind.wrap .i64 (r.2.1.bytes + ((evFrs x).length : Nat)), r.2.1.next⟩, (r.2.2.append r.2.1.last (evFrs x)).2)).2.1.next = V.next + 1)) := by
    intro r A' no' l' k' r0 hh hv' hb hd he hs hf hc
    rw [if_neg (by simpa using r0)]
    rw [Held.lastNm hv']
    rcases append_eff r.2.2 (segNm no') (evFrs x) with ⟨a1, a2⟩ | ⟨a1, f, hf', a2⟩
    · rw [if_pos a1]
      exact ⟨A', no', l', k', hh.files a2, hv', hd, by rw [if_neg a1]; exact he, hs, hf, hc⟩
    · rw [if_neg (by simpa using a1)]
      obtain ⟨s, g1, g2, g3⟩ := hh.last
      rw [g1] at hf'; cases hf'
      refine ⟨A', no', l' ++ x, k', hh.put (s := s) (by rw [a2, evFrs_append]) (by have := hh.kl; simp; omega) ?_ (by rw [evFrs_append]; simp; omega) ?_, ⟨hv'.segs, ?_, hv'.next⟩, hd, ?_, hs, hf, hc⟩
      · rw [List.take_append_of_le_length hh.kl]; exact g2
      · intro e hee
        rcases List.mem_append.1 hee with h' | h'
        · exact hh.evl e h'
        · exact hxe e h'
      · show IntKind.wrap .i64 _ = _
        rw [hv'.bytes, wrap_i64 (by unfold I64; omega), evFrs_append]; simp
      · rw [if_pos rfl, ← he]; simp [evsOf]
  dsimp only
  by_cases hc : V.size ≤ V.bytes
  · rw [if_pos hc]
    rcases h.begin hv with ⟨b1, b2, b3⟩ | ⟨b1, b2, b3, b4, b5⟩
    · rw [if_pos b1]
      exact ⟨A, no, l, k, b3, by rw [b2]; exact hv, Nat.le_refl _, by rw [if_neg b1], by rw [b2], hfat, .inl ⟨rfl, rfl, by rw [b2]⟩⟩
    · refine main _ (A ++ [(no, l)]) V.next [] 0 b1 b3 b4 (by simp [evFrs]) ?_ (by rw [evsOf_snoc, List.append_nil]) b2 ?_ (.inr ⟨rfl, rfl, b5⟩)
      · have := h.kl; unfold dur; simp; omega
      · intro y hy
        rcases List.mem_append.1 hy with h' | h'
        · exact hfat y h'
        · rw [List.mem_singleton] at h'; subst h'
          rw [hv.bytes] at hc; exact hc
  · rw [if_neg hc]
    exact main (0, V, D) A no l k rfl h hv hll (Nat.le_refl _) rfl rfl hfat (.inl ⟨rfl, rfl, rfl⟩)

/-! without a fuse -/
theorem begin2_alive (ha : Alive D) (ht : Tidy D.files) (hn : 0 ≤ V.next ∧ V.next < 1000000000000) (hf : aget D.files (segNm V.next) = none) :
    Alive (begin2 V D).2.2 ∧ ((begin2 V D).1 = 0 ∨ (begin2 V D).1 = 3 ∨ (begin2 V D).1 = 12) ∧ ((begin2 V D).1 ≠ 0 → aget (begin2 V D).2.2.files (segNm V.next) = none) := by
  obtain ⟨nm, nt⟩ := segNm_ne (n := V.next) (.inr hn)
  unfold begin2
  dsimp only
  rw [show txt (segName V.next) = segNm V.next from rfl]
  obtain ⟨a1, a2⟩ := ha.create (segNm V.next)
  have a2 := a2 ((segNm_name hn.1).2 hn.2) hf
  rcases create_eff D (segNm V.next) with ⟨c1, c2⟩ | ⟨c1, c2, c3, c4⟩
  · rw [if_pos c1]
    exact ⟨a1, a2.imp id .inr, fun _ => by show aget (D.create _).2.files _ = none; rw [c2]; exact hf⟩
  rw [if_neg (show ¬ (D.create (segNm V.next)).1 ≠ 0 by simpa using c1)]
  have t1 : But (segNm V.next) D (D.create (segNm V.next)).2 := (But.refl ht).put c4
  have g1 : aget (D.create (segNm V.next)).2.files (segNm V.next) = some ⟨[], 0, false⟩ := by rw [c4, aget_aput]; simp
  generalize (D.create (segNm V.next)).2 = D1 at t1 g1 a1
  unfold begin3
  dsimp only
  rw [show txt (segName V.next) = segNm V.next from rfl]
  obtain ⟨s1, s2⟩ := a1.sync (segNm V.next)
  have s2 := s2 _ g1
  rw [if_neg (show ¬ (D1.sync (segNm V.next)).1 ≠ 0 by simpa using s2)]
  have t2 : Tidy (D1.sync (segNm V.next)).2.files := by
    rcases sync_eff D1 (segNm V.next) with ⟨d1, d2⟩ | ⟨d1, f, hf, d2⟩
    · rw [d2]; exact t1.1
    · rw [d2]; exact t1.1.aput _ _
  generalize (D1.sync (segNm V.next)).2 = D2 at t2 s1
  obtain ⟨m1, m2⟩ := s1.mfWrite t2 (V.segs ++ [V.next])
  have mt : Tidy (mfWrite D2 (V.segs ++ [V.next])).2.files := by
    rcases mf_eff t2 (V.segs ++ [V.next]) with ⟨-, e, -⟩ | ⟨-, -, e, -⟩ <;> exact e
  by_cases h0 : (mfWrite D2 (V.segs ++ [V.next])).1 = 0
  · rw [if_neg (by simpa using h0)]
    exact ⟨m1, .inl rfl, fun h => absurd rfl h⟩
  · rw [if_pos h0]
    obtain ⟨d1, d2⟩ := m1.delete (segNm V.next)
    refine ⟨d1, m2, fun _ => ?_⟩
    show aget ((mfWrite D2 (V.segs ++ [V.next])).2.delete (segNm V.next)).2.files _ = none
    rcases d2 with d2 | ⟨d2, d3⟩
    · rw [d2, aget_adel mt]; simp
    · rw [d3]; exact d2

/-- no file of a number from the next one on -/
def Fresh (V : LogV) (D : DiskV) : Prop := ∀ m, V.next ≤ m → m < 1000000000000 → aget D.files (segNm m) = none

theorem Held.begin_alive (h : Held D A no l k) (hv : VOk V A no l) (ha : Alive D) (hf : Fresh V D) (hn : V.next < 1000000000000) :
    Alive (logBegin V D).2.2 ∧ ((logBegin V D).1 = 0 ∨ (logBegin V D).1 = 3 ∨ (logBegin V D).1 = 12) ∧ Fresh (logBegin V D).2.1 (logBegin V D).2.2 := by
  have hne : ¬ V.segs = [] := by rw [hv.segs]; simp
  have hnr := h.no_rng
  have hvn := hv.next
  have e : logBegin V D = if (D.sync (segNm no)).1 ≠ 0 then ((D.sync (segNm no)).1, V, (D.sync (segNm no)).2) else Go.Proofs.YtpbpjojdfcdbbaaGreatDoor.begin2 V (D.sync (segNm no)).2 := by
    unfold logBegin; rw [if_neg hne, Held.lastNm hv]
  obtain ⟨s, g1, _⟩ := h.last
  obtain ⟨s1, s2⟩ := ha.sync (segNm no)
  have s2 := s2 _ g1
  rw [e, if_neg (by simpa using s2)]
  have hnen : ∀ m, V.next ≤ m → m < 1000000000000 → segNm m ≠ segNm no := fun m h1 h2 e => by
    have := segNm_inj (a := no) (by omega) e; omega
  have f1 : ∀ m, V.next ≤ m → m < 1000000000000 → aget (D.sync (segNm no)).2.files (segNm m) = none := fun m h1 h2 => by
    rcases sync_eff D (segNm no) with ⟨d1, d2⟩ | ⟨d1, f, hf', d2⟩
    · rw [d2]; exact hf m h1 h2
    · rw [d2, aget_aput, if_neg (by simpa using hnen m h1 h2)]; exact hf m h1 h2
  have t1 : Tidy (D.sync (segNm no)).2.files := by
    rcases sync_eff D (segNm no) with ⟨d1, d2⟩ | ⟨d1, f, hf', d2⟩
    · rw [d2]; exact h.tidy
    · rw [d2]; exact h.tidy.aput _ _
  generalize (D.sync (segNm no)).2 = D1 at s1 f1 t1
  obtain ⟨b1, b2, b3⟩ := begin2_alive s1 t1 ⟨by omega, hn⟩ (f1 _ (Int.le_refl _) hn)
  refine ⟨b1, b2, ?_⟩
  have hnm : ∀ m, V.next ≤ m → m < 1000000000000 → segNm m ≠ mName ∧ segNm m ≠ mTemp := fun m h1 h2 => segNm_ne (.inr (by omega))
  rcases begin2_eff (V := V) t1 (by omega) with ⟨c1, c2, c3, c4⟩ | ⟨c1, c2, c3, c4, c5, c6, c7, c8, c9⟩
  · rw [c2]
    intro m h1 h2
    by_cases hm : m = V.next
    · subst hm; exact b3 c1
    · rw [c4 _ (fun e => hm (segNm_inj (a := V.next) (by omega) e)) (hnm m h1 h2).2]; exact f1 m h1 h2
  · rw [c5]
    intro m h1 h2
    simp only at h1
    rw [c9 _ (fun e => by have := segNm_inj (a := V.next) (by omega) e; omega) (hnm m (by omega) h2).2 (hnm m (by omega) h2).1]; exact f1 m (by omega) h2

theorem append_alive (h : Held D A no l k) (hv : VOk V A no l) (ha : Alive D) (hf : Fresh V D) (hn : V.next < 1000000000000) (x : List EventV) :
    Alive (logAppend V D x).2.2 ∧ ((logAppend V D x).1 = 0 ∨ (logAppend V D x).1 = 3 ∨ (logAppend V D x).1 = 12) ∧ Fresh (logAppend V D x).2.1 (logAppend V D x).2.2 := by
  unfold logAppend
  split
  · exact ⟨ha, .inr (.inl rfl), hf⟩
  split
  · exact ⟨ha, .inl rfl, hf⟩
  dsimp only
  have main : ∀ (r : Int × LogV × DiskV) (A' : Segs) (no' : Int) (l' : List EventV) (k' : Nat), r.1 = 0 → Held r.2.2 A' no' l' k' → VOk r.2.1 A' no' l' → Alive r.2.2 → Fresh r.2.1 r.2.2 →
      Alive (if (r.2.2.append r.2.1.last (evFrs x)).1 ≠ 0 then ((r.2.2.append r.2.1.last (evFrs x)).1, r.2.1, (r.2.2.append r.2.1.last (evFrs x)).2) else (0, ⟨r.2.1.size, r.2.1.segs, IntKind.wrap .i64 (r.2.1.bytes + ((evFrs x).length : Nat)), r.2.1.next⟩, (r.2.2.append r.2.1.last (evFrs x)).2) : Int × LogV × DiskV).2.2 ∧
      ((if (r.2.2.append r.2.1.last (evFrs x)).1 ≠ 0 then ((r.2.2.append r.2.1.last (evFrs x)).1, r.2.1, (r.2.2.append r.2.1.last (evFrs x)).2) else (0, ⟨r.2.1.size, r.2.1.segs, IntKind.wrap .i64 (r.2.1.bytes + ((evFrs x).length : Nat)), r.2.1.next⟩, (r.2.2.append r.2.1.last (evFrs x)).2) : Int × LogV × DiskV).1 = 0 ∨
        (if (r.2.2.append r.2.1.last (evFrs x)).1 ≠ 0 then ((r.2.2.append r.2.1.last (evFrs x)).1, r.2.1, (r.2.2.append r.2.1.last (evFrs x)).2) else (0, ⟨r.2.1.size, r.2.1.segs, IntKind.wrap .i64 (r.2.1.bytes + ((evFrs x).length : Nat)), r.2.1.next⟩, (r.2.2.append r.2.1.last (evFrs x)).2) : Int × LogV × DiskV).1 = 3 ∨
        (if (r.2.2.append r.2.1.last (evFrs x)).1 ≠ 0 then ((r.2.2.append r.2.1.last (evFrs x)).1, r.2.1, (r.2.2.append r.2.1.last (evFrs x)).2) else (0, ⟨r.2.1.size, r.2.1.segs, IntKind.wrap .i64 (r.2.1.bytes + ((evFrs x).length : Nat)), r.2.1.next⟩, (r.2.2.append r.2.1.last (evFrs x)).2) : Int × LogV × DiskV).1 = 12) ∧
      Fresh (if (r.2.2.append r.2.1.last (evFrs x)).1 ≠ 0 then ((r.2.2.append r.2.1.last (evFrs x)).1, r.2.1, (r.2.2.append r.2.1.last (evFrs x)).2) else (0, ⟨r.2.1.size, r.2.1.segs, IntKind.wrap .i64 (r.2.1.bytes + ((evFrs x).length : Nat)), r.2.1.next⟩, (r.2.2.append r.2.1.last (evFrs x)).2) : Int × LogV × DiskV).2.1 (if (r.2.2.append r.2.1.last (evFrs x)).1 ≠ 0 then ((r.2.2.append r.2.1.last (evFrs x)).1, r.2.1, (r.2.2.append r.2.1.last (evFrs x)).2) else (0, ⟨r.2.1.size, r.2.1.segs, IntKind.wrap .i64 (r.2.1.bytes + ((evFrs x).length : Nat)), r.2.1.next⟩, (r.2.2.append r.2.1.last (evFrs x)).2) : Int × LogV × DiskV).2.2 := by
    intro r A' no' l' k' r0 hh hv' ha' hf'
    rw [Held.lastNm hv']
    obtain ⟨s, g1, _⟩ := hh.last
    obtain ⟨p1, p2⟩ := ha'.append (segNm no') (evFrs x)
    have p2 := p2 _ g1
    have hfr : ∀ m, r.2.1.next ≤ m → m < 1000000000000 → aget (r.2.2.append (segNm no') (evFrs x)).2.files (segNm m) = none := fun m h1 h2 => by
      rcases append_eff r.2.2 (segNm no') (evFrs x) with ⟨a1, a2⟩ | ⟨a1, f, hff, a2⟩
      · rw [a2]; exact hf' m h1 h2
      · have := hh.no_rng; have := hv'.next
        rw [a2, aget_aput, if_neg (by simpa using fun e => by have := segNm_inj (a := no') (by omega) e; omega)]; exact hf' m h1 h2
    split
    · exact ⟨p1, p2.imp id .inr, hfr⟩
    · exact ⟨p1, .inl rfl, hfr⟩
  by_cases hc : V.size ≤ V.bytes
  · rw [if_pos hc]
    obtain ⟨b1, b2, b3⟩ := h.begin_alive hv ha hf hn
    by_cases h0 : (logBegin V D).1 = 0
    · rw [if_neg (by simpa using h0)]
      rcases h.begin hv with ⟨c1, -⟩ | ⟨c1, c2, c3, c4, c5⟩
      · exact absurd h0 c1
      · exact main _ _ _ _ _ h0 c3 c4 b1 b3
    · rw [if_pos h0]; exact ⟨b1, b2, b3⟩
  · rw [if_neg hc, if_neg (fun hc : ((0, V, D) : Int × LogV × DiskV).1 ≠ 0 => hc rfl)]
    exact main (0, V, D) _ _ _ _ rfl h hv ha hf
end
end Go.Proofs.YtpbpjojdfcdbbaaGreatDoor

/- seglog, in plain Lean: a log opened -/
namespace Go.Proofs.YtpbpjojdfcdbbaaGreatDoor
open Go.Lift
set_option linter.unusedVariables false
set_option maxRecDepth 20000

section
variable {D E : DiskV} {A : Segs} {no : Int} {l x : List EventV} {k j n s : Nat} {V : LogV}
theorem Alive.read (ha : Alive D) {nm : ByteArray} {f : FileV} (hf : aget D.files nm = some f) : D.read nm = (f.bytes, 0) := by
  unfold DiskV.read; rw [ha.dead, hf]; rfl
theorem Alive.told (ha : Alive D) {L : List Int} (hm : aget D.files mName = some (fullF (mfBytes L))) (hr : ∀ x ∈ L, I64 x) (hl : L.length ≤ 64) : told D = L := by
  unfold Go.Proofs.YtpbpjojdfcdbbaaGreatDoor.told mfTell
  rw [ha.read hm, if_neg (by simp), show (fullF (mfBytes L)).bytes = mfBytes L from rfl, mfRead_bytes hr hl]; rfl

theorem loadGo_full (ha : Alive D) : ∀ (A : Segs) (rest : List Int) (out : List EventV) (V : LogV), (∀ x ∈ A, aget D.files (segNm x.1) = some (fullF (evFrs x.2))) → (∀ e ∈ (A.map (·.2)).flatten, e.Ok ∧ e.deps.length ≤ 64) →
    ∃ b, loadGo (nums A ++ rest) out V D = loadGo rest (out ++ (A.map (·.2)).flatten) ⟨V.size, V.segs ++ nums A, b, V.next⟩ D
  | [], rest, out, V, _, _ => ⟨V.bytes, by simp [nums]⟩
  | y :: A, rest, out, V, hf, he => by
    have hr := ha.read (hf y (List.mem_cons_self ..))
    have hs := segLoad_all (l := y.2) fun e hh => he e (by simp only [List.map_cons, List.flatten_cons]; exact List.mem_append_left _ hh)
    obtain ⟨b, hb⟩ := loadGo_full ha A rest (out ++ y.2) ⟨V.size, V.segs ++ [y.1], ((evFrs y.2).length : Nat), V.next⟩ (fun x hx => hf x (List.mem_cons_of_mem _ hx)) fun e hh => he e (by simp only [List.map_cons, List.flatten_cons]; exact List.mem_append_right _ hh)
    refine ⟨b, ?_⟩
    have e1 : nums (y :: A) ++ rest = y.1 :: (nums A ++ rest) := rfl
    rw [e1]
    conv => lhs; unfold loadGo
    have e2 : (fullF (evFrs y.2)).bytes = evFrs y.2 := rfl
    rw [hr, if_neg (by simp), e2]
    dsimp only
    rw [hs, if_neg (by simp)]
    dsimp only
    rw [hb]
    simp [nums, List.append_assoc]

/-- OPENED -/
theorem open_held {size : Int} (ha : Alive D) (ht : Tidy D.files) (h : Held E A no l k) (hfull : ∀ x ∈ A, aget D.files (segNm x.1) = some (fullF (evFrs x.2))) (hman : aget D.files mName = some (fullF (mfBytes (nums A ++ [no]))))
    (hlast : aget D.files (segNm no) = some ⟨(evFrs l).take n, s, true⟩) (hs : s ≤ min n (evFrs l).length) (hk : (evFrs (l.take k)).length ≤ s) :
    ∃ q, k ≤ q ∧ q ≤ l.length ∧ ((evFrs l).length ≤ n → q = l.length) ∧ (logOpen D size).no = 0 ∧ (logOpen D size).out = evsOf A (l.take q) ∧ VOk (logOpen D size).V A no (l.take q) ∧ (logOpen D size).V.size = size ∧ (logOpen D size).V.next = nextV D ∧
      Held (logOpen D size).D A no (l.take q) k ∧ Alive (logOpen D size).D ∧ (s = min n (evFrs l).length → Held (logOpen D size).D A no (l.take q) q) ∧ ∀ x, x ≠ segNm no → aget (logOpen D size).D.files x = aget D.files x := by
  have hel := h.evl
  obtain ⟨q, q1, q2, q3, q4⟩ := segLoad_torn hel n
  have hqt := evFrs_take_le l q
  have hkq : k ≤ q := by
    refine Nat.le_of_not_lt fun hlt => ?_
    have h1 := q4 (by have := h.kl; omega)
    have h2 := evFrs_take (l := l) (i := q + 1) (j := k) hlt
    omega
  have hqa : (evFrs l).length ≤ n → q = l.length := fun hn => by
    refine Nat.le_antisymm q1 (Nat.le_of_not_lt fun hlt => ?_)
    have h1 := q4 hlt
    have h2 := evFrs_take_le l (q + 1)
    omega
  have hnI : ∀ x ∈ nums A ++ [no], I64 x := fun x hx => by have := h.rng x hx; unfold I64; omega
  have hnl : (nums A ++ [no]).length ≤ 64 := by have := h.many; simpa [nums] using this
  have htold := ha.told hman hnI hnl
  obtain ⟨b, hb⟩ := loadGo_full ha A [no] [] (logStart D size) hfull fun e he => h.evs e (List.mem_append_left _ he)
  have hr := ha.read hlast
  simp only at hr
  have hrl : ((evFrs l).take n).length = min n (evFrs l).length := List.length_take
  have hnx : no < nextV D := nextV_gt (by have := h.no_rng; omega) (by rw [hlast]; rfl)
  have hnx2 := nextL_rng D.list
  have hev : ∀ e ∈ l.take q, e.Ok ∧ e.deps.length ≤ 64 := fun e he => hel e (List.mem_of_mem_take he)
  have hH : Held ⟨D.most, aput D.files (segNm no) ⟨evFrs l, (evFrs l).length, true⟩, D.fused, D.left, D.dead⟩ A no l k := by
    have hne := h.no_ne
    have hm := (segNm_ne (n := no) (.inr (by have := h.no_rng; omega))).1
    exact ⟨ht.aput _ _, fun x hx => by show aget (aput _ _ _) _ = _; rw [aget_aput, if_neg (by simpa using hne x hx)]; exact hfull x hx, ⟨_, by show aget (aput _ _ _) _ = _; rw [aget_aput]; simp, by exact evFrs_take_le l k, Nat.le_refl _⟩, h.kl, by show aget (aput _ _ _) _ = _; rw [aget_aput, if_neg (by simpa using hm.symm)]; exact hman, h.rng, h.rise, h.evs, h.many⟩
  have hlo : loadGo (told D) [] (logStart D size) D = loadGo [no] ((A.map (·.2)).flatten) ⟨size, nums A, b, nextV D⟩ D := by
    rw [htold, hb]; simp [logStart]
  have hone : loadGo [no] ((A.map (·.2)).flatten) ⟨size, nums A, b, nextV D⟩ D =
      if (evFrs (l.take q)).length < ((evFrs l).take n).length then ⟨(D.cutF (segNm no) (evFrs (l.take q)).length).1, evsOf A (l.take q), ⟨size, nums A ++ [no], ((evFrs (l.take q)).length : Nat), nextV D⟩, (D.cutF (segNm no) (evFrs (l.take q)).length).2⟩
      else ⟨0, evsOf A (l.take q), ⟨size, nums A ++ [no], ((evFrs (l.take q)).length : Nat), nextV D⟩, D⟩ := by
    unfold loadGo
    rw [hr, if_neg (by simp)]
    dsimp only
    rw [q2]
    dsimp only
    split
    · rfl
    · unfold loadGo; rfl
  have hend : ∀ (r : Loaded), r.no = 0 → r.V.segs = nums A ++ [no] → openEnd (told D).length r = r := fun r r0 r1 => by
    unfold openEnd
    rw [if_neg (by simpa using r0), if_neg (by rw [r1]; simp), if_neg (by rw [r1, htold]; omega)]
  have hfin : logOpen D size = loadGo (told D) [] (logStart D size) D := by
    unfold logOpen
    rw [hlo, hone]
    split
    · exact hend _ (ha.cutF hlast _).1 rfl
    · exact hend _ rfl rfl
  rw [hfin, hlo, hone]
  refine ⟨q, hkq, q1, hqa, ?_⟩
  split
  · rename_i hcut
    obtain ⟨c1, c2, c3⟩ := ha.cutF hlast ((evFrs (l.take q)).length : Nat)
    have hcl : clampN ((evFrs (l.take q)).length : Nat) ((evFrs l).take n).length = (evFrs (l.take q)).length := by unfold clampN; omega
    have hcf : (⟨(evFrs l).take n, s, true⟩ : FileV).cut ((evFrs (l.take q)).length : Nat) = ⟨evFrs (l.take q), (evFrs (l.take q)).length, true⟩ := by
      unfold FileV.cut
      simp only [hcl]
      rw [List.take_take, Nat.min_eq_left q3, evFrs_pre]
    have hfs : (D.cutF (segNm no) ((evFrs (l.take q)).length : Nat)).2.files = aput D.files (segNm no) ⟨evFrs (l.take q), (evFrs (l.take q)).length, true⟩ := by
      rw [c2, hcf]; rfl
    have hh : ∀ k', k' ≤ q → Held (D.cutF (segNm no) ((evFrs (l.take q)).length : Nat)).2 A no (l.take q) k' := fun k' hk' =>
      hH.put (s := (evFrs (l.take q)).length) (by rw [hfs]; show _ = aput (aput _ _ _) _ _; rw [aput_aput]) (by simp; omega) (evFrs_take_le _ _) (Nat.le_refl _) hev
    refine ⟨c1, rfl, ⟨rfl, rfl, hnx, hnx2.2⟩, rfl, rfl, hh k hkq, c3, fun _ => hh q (Nat.le_refl _), fun x hx => ?_⟩
    show aget (D.cutF (segNm no) ((evFrs (l.take q)).length : Nat)).2.files x = _
    rw [hfs, aget_aput, if_neg (by simpa using hx)]
  · rename_i hall
    have heq : (evFrs (l.take q)).length = min n (evFrs l).length := by omega
    have hbs : (evFrs l).take n = evFrs (l.take q) := by
      rw [← evFrs_pre l q, heq, List.take_eq_take_iff]; omega
    have hh : ∀ k', k' ≤ q → (evFrs (l.take k')).length ≤ s → Held D A no (l.take q) k' := fun k' hk' hks =>
      ⟨ht, hfull, ⟨s, by rw [hlast, hbs], by rw [List.take_take, Nat.min_eq_left hk']; exact hks, by omega⟩, by simp; omega, hman, h.rng, h.rise, fun e he => (List.mem_append.1 he).elim (fun h' => h.evs e (List.mem_append_left _ h')) (hev e), h.many⟩
    exact ⟨rfl, rfl, ⟨rfl, rfl, hnx, hnx2.2⟩, rfl, rfl, hh k hkq hk, ha, fun he => hh q (Nat.le_refl _) (by omega), fun _ _ => rfl⟩

/-- opened anew, of a disk that lives -/
theorem open_anew {size : Int} (h : Held D A no l k) (ha : Alive D) : (logOpen D size).no = 0 ∧ (logOpen D size).out = evsOf A l ∧ VOk (logOpen D size).V A no l ∧ (logOpen D size).V.size = size ∧ (logOpen D size).V.next = nextV D ∧ Held (logOpen D size).D A no l k ∧ Alive (logOpen D size).D ∧
    ∀ x, x ≠ segNm no → aget (logOpen D size).D.files x = aget D.files x := by
  obtain ⟨s, g1, g2, g3⟩ := h.last
  obtain ⟨q, h1, h2, h3, h4, h5, h6, h7, h8, h9, h10, h11, h12⟩ := open_held (size := size) (n := (evFrs l).length) ha h.tidy h h.full h.man (by rw [List.take_length]; exact g1) (by omega) g2
  obtain rfl := h3 (Nat.le_refl _)
  rw [List.take_length] at h5 h6 h9
  exact ⟨h4, h5, h6, h7, h8, h9, h10, h12⟩
/-- opened behind a crash -/
theorem open_crash {size keep : Int} (h : Held D A no l k) : ∃ q, k ≤ q ∧ q ≤ l.length ∧ (logOpen (D.crash keep) size).no = 0 ∧ (logOpen (D.crash keep) size).out = evsOf A (l.take q) ∧ VOk (logOpen (D.crash keep) size).V A no (l.take q) ∧ (logOpen (D.crash keep) size).V.size = size ∧
    Held (logOpen (D.crash keep) size).D A no (l.take q) q ∧ Alive (logOpen (D.crash keep) size).D := by
  obtain ⟨s, g1, g2, g3⟩ := h.last
  obtain ⟨m, m1, m2, m3⟩ := cutK_some keep (evFrs l) g3
  have hl : aget (D.crash keep).files (segNm no) = some ⟨(evFrs l).take m, ((evFrs l).take m).length, true⟩ := by
    rw [crash_get h.tidy, g1]
    show (if true then some (cutK keep ⟨evFrs l, s, true⟩) else none) = _
    rw [m3]; rfl
  have hml : ((evFrs l).take m).length = m := by simp; omega
  rw [hml] at hl
  obtain ⟨q, h1, h2, h3, h4, h5, h6, h7, h8, h9, h10, h11, h12⟩ := open_held (size := size) (n := m) (crash_alive D keep) (crash_tidy h.tidy keep) h (fun x hx => crash_full h.tidy keep (h.full x hx)) (crash_full h.tidy keep h.man) hl (by omega) (by omega)
  exact ⟨q, h1, h2, h4, h5, h6, h7, h11 (by omega), h10⟩

theorem open_new_eq (N : Nat) (size : Int) : logOpen (newD N) size = ⟨(begin2 ⟨size, [], 0, 1⟩ (newD N)).1, [], (begin2 ⟨size, [], 0, 1⟩ (newD N)).2.1, (begin2 ⟨size, [], 0, 1⟩ (newD N)).2.2⟩ := by
  have hn : nextV (newD N) = 1 := by simp [nextV, nextL, DiskV.list, newD, sortS]
  have e1 : told (newD N) = [] := by
    have : (newD N).read mName = ([], 14) := by simp [DiskV.read, newD, aget]
    unfold told mfTell; rw [this]; rfl
  have hV : (logStart (newD N) size) = ⟨size, [], 0, 1⟩ := by unfold logStart; rw [hn]
  unfold logOpen
  rw [e1, hV]
  unfold loadGo openEnd
  rw [if_neg (by simp), if_pos rfl]
  unfold logBegin
  rw [if_pos rfl]
/-- the first opening, of an empty disk -/
theorem open_new (N : Nat) (size : Int) : ((logOpen (newD N) size).no = 3 ∨ (logOpen (newD N) size).no = 12) ∨
    ((logOpen (newD N) size).no = 0 ∧ (logOpen (newD N) size).out = [] ∧ Held (logOpen (newD N) size).D [] 1 [] 0 ∧ VOk (logOpen (newD N) size).V [] 1 [] ∧ (logOpen (newD N) size).V.size = size ∧ (logOpen (newD N) size).V.next = 2 ∧ Alive (logOpen (newD N) size).D ∧ Fresh (logOpen (newD N) size).V (logOpen (newD N) size).D) := by
  have ha : Alive (newD N) := ⟨rfl, rfl⟩
  have ht : Tidy (newD N).files := by simp [Tidy, newD]
  rw [open_new_eq]
  obtain ⟨b1, b2, b3⟩ := begin2_alive (V := ⟨size, [], 0, 1⟩) ha ht ⟨by simp, by simp⟩ (by simp [newD, aget])
  rcases begin2_eff (D := newD N) (V := ⟨size, [], 0, 1⟩) ht (by simp) with ⟨c1, c2, c3, c4⟩ | ⟨c1, c2, c3, c4, c5, c6, c7, c8, c9⟩
  · exact .inl (b2.resolve_left c1)
  · refine .inr ⟨c1, rfl, ⟨c6, by simp, ⟨0, c7, by simp [evFrs], Nat.zero_le _⟩, Nat.le_refl _, c8, by simp [nums], by simp [nums], by simp [evsOf], by simp⟩, ⟨by rw [c5]; rfl, by rw [c5]; rfl, by rw [c5]; simp⟩, by rw [c5], by rw [c5]; rfl, b1, ?_⟩
    show Fresh (begin2 ⟨size, [], 0, 1⟩ (newD N)).2.1 (begin2 ⟨size, [], 0, 1⟩ (newD N)).2.2
    rw [c5]
    intro m h1 h2
    simp only at h1
    have hnm := segNm_ne (n := m) (.inr (by omega))
    rw [c9 _ (fun e => by have := segNm_inj (a := 1) (by omega) e; omega) hnm.2 hnm.1]
    simp [newD, aget]
end
end Go.Proofs.YtpbpjojdfcdbbaaGreatDoor

/- what the statements of chapter 22 share -/
namespace Go.Proofs.YtpbpjojdfcdbbaaGreatDoor
open Go.Lift
set_option linter.unusedVariables false
set_option maxRecDepth 20000

theorem law22_some {n : Int} {w : World} (h1 : 1 ≤ n) (h2 : n ≤ 1000) : Calls Tryz.prog F_law22_some #[.int .i64 n] w (Ok fun v w' => ∃ a m c F, v = .agg (evCells (evSome n) a m c).toArray ∧
    Lst cI64 3 F w' a m c (evSome n).deps ∧ (∀ b, F b → w.heap.size ≤ b) ∧ Grew w w') := by
  have e1 : IntKind.wrap .i64 (n - 1) = n - 1 := wrap_i64 (by unfold I64; omega)
  refine L_law22_some (PA.mk fun w1 k1 s1 g1 => PA.mk fun w2 k2 s2 g2 => ?_)
  have gq := k2.get g1 id
  rw [e1] at g2
  refine storeAll (evCells (evSome n) (some ⟨w1.heap.size, 0, none⟩) 1 1) gq rfl fun w3 k3 s3 g3 => ?_
  have gd := k3.get g2 (by omega)
  refine ⟨_, _, _, _, _, _, _, _, _, _, _, _, cell_at g3 rfl, cell_at g3 rfl, cell_at g3 rfl, cell_at g3 rfl, cell_at g3 rfl, cell_at g3 rfl, cell_at g3 rfl, cell_at g3 rfl, cell_at g3 rfl, cell_at g3 rfl,
    Ok.mk ⟨_, _, _, (· = w1.heap.size), rfl, ?_, ?_, ?_⟩⟩
  · refine ⟨⟨[.int .i64 (n - 1)], fun _ => False, Own.of_new (n := 1) (k := 1) gd rfl (by decide), ⟨[.int .i64 (n - 1)], [], rfl, ⟨rfl, by unfold I64; omega⟩, rfl⟩, fun _ h => h.elim⟩, fun b h => by cases h; rfl, fun b h => ?_⟩
    subst h; exact lt_of_get gd
  · rintro b rfl; omega
  · exact (k1.then k2).new k3 fun b hb => .inr (by omega)

theorem uL : Tryz.prog.underlying 30 = some (.pointer 83) := by kernel_rfl

theorem law22_Size {n : Int} {w : World} (hn : I64 n) : Calls Tryz.prog F_law22_Size #[.int .i64 n] w (Ok fun v w' => v = .int .i64 (64 + pick n 16384) ∧ w = w') := by
  refine L_law22_Size (PC.ok (kit_Pick (by unfold I64; omega)) ?_)
  rintro _ _ ⟨rfl, rfl⟩
  have hp := pick_range (k := n) (n := 16384) (by omega)
  refine ⟨_, rfl, Ok.mk ⟨?_, rfl⟩⟩
  rw [wrap_i64 (by unfold I64; omega)]

section
variable {w0 w w1 w' : World} {p q : Nat} {D D' : DiskV} {V V' : LogV} {X Y G S : Nat → Prop}
theorem NLog.at (h : NLog w0 w p q V D X) : ∃ G, LogAt w p q G V ∧ ∀ b, G b → w0.heap.size ≤ b ∧ ¬ X b := by obtain ⟨G, h1, h2, h3⟩ := h; exact ⟨G, h2, h3⟩
theorem NLog.segments (h : NLog w0 w p q V D X) : Calls Tryz.prog F_seglog_Log_Segments #[.pointer (some ⟨q, 0, none⟩)] w (Ok (New cI64 3 w V.segs)) := by
  obtain ⟨G, h1, -⟩ := h.at; exact log_Segments h1
/-- one event, laid -/
theorem row_one {e : EventV} {g : Nat} {f : Nat × Nat} {a : Option Addr} {n c : Nat} {F : Nat → Prop} (hg : w.heap[g]? = some (.cells (evCells e a n c).toArray 39 f)) (ho : Lst cI64 3 F w a n c e.deps) (he : e.Ok) (hd : e.deps.length ≤ 1000) :
    Row cEv 96 w (fun b => b < w.heap.size) (some ⟨g, 0, none⟩) 1 [e] :=
  Row.of_reps (xs := [e]) (cs := evCells e a n c) hg (Reps.one (c := cEv) ⟨a, n, c, rfl, (ho.row (by decide) (by unfold Big; omega)).mono fun b hb => ho.dom b hb, he⟩) (lt_of_get hg) (by unfold Big; simp)
end

def wkO : Int × LogV × DiskV := begin2 ⟨1, [], 0, 1⟩ (newD 1000)
def wkA : Int × LogV × DiskV := logAppend wkO.2.1 wkO.2.2 [evSome 1, evSome 2]
def wkS : Int × DiskV := wkA.2.2.sync wkA.2.1.last
def wkB : Int × LogV × DiskV := logAppend wkA.2.1 wkS.2 [evSome 3]
def wkC : DiskV := wkB.2.2.crash 0
theorem wk_facts : wkO.1 = 0 ∧ wkO.2.1.segs = [1] ∧ wkA.1 = 0 ∧ wkA.2.1.segs = [1] ∧ wkS.1 = 0 ∧ wkB.1 = 0 ∧ wkB.2.1.segs = [1, 2] := by decide +kernel
theorem wk_files : aget wkC.files (segNm 1) = some (fullF (evFrs [evSome 1, evSome 2])) ∧ aget wkC.files (segNm 2) = some ⟨evFrs [], 0, true⟩ ∧ aget wkC.files mName = some (fullF (mfBytes [1, 2])) ∧ (wkC.files.map (·.1)).Nodup := by decide +kernel
theorem wk_held : Held wkC [(1, [evSome 1, evSome 2])] 2 [] 0 := by
  obtain ⟨h1, h2, h3, h4⟩ := wk_files
  refine ⟨h4, ?_, ⟨0, h2, by simp [evFrs], Nat.zero_le _⟩, Nat.le_refl _, h3, ?_, ?_, ?_, by decide⟩
  · intro x hx; rw [List.mem_singleton] at hx; subst hx; exact h1
  · intro n hn
    simp [nums] at hn
    omega
  · simp [nums]
  · intro e he
    simp [evsOf] at he
    rcases he with rfl | rfl
    · exact evSome_ok (by decide) (by decide)
    · exact evSome_ok (by decide) (by decide)
theorem wk_open : (logOpen wkC 1).no = 0 ∧ (logOpen wkC 1).out = [evSome 1, evSome 2] := by
  obtain ⟨h1, h2, -⟩ := open_anew (size := 1) wk_held (crash_alive _ _)
  exact ⟨h1, h2⟩
end Go.Proofs.YtpbpjojdfcdbbaaGreatDoor

/- what each statement of chapter 22 asks -/
namespace Go.Proofs.YtpbpjojdfcdbbaaGreatDoor
open Go.Lift
set_option linter.unusedVariables false
set_option maxRecDepth 20000

theorem works22 {w : World} (hw : Laid w) : Calls Tryz.prog F_law22_works #[] w (Ok fun v w' => v = .bool true ∧ Grew w w') := by
  have o1 := evSome_ok (n := 1) (by decide) (by decide)
  have o2 := evSome_ok (n := 2) (by decide) (by decide)
  have o3 := evSome_ok (n := 3) (by decide) (by decide)
  obtain ⟨f1, f2, f3, f4, f5, f6, f7⟩ := wk_facts
  refine L_law22_works (PC.ok (new_ok (Keep.refl w) (by omega) (by omega)) ?_)
  rintro _ w1 ⟨p, rfl, h1, -⟩
  replace h1 := h1.mono (Y := no) fun _ h => h.elim
  refine ⟨_, _, rfl, PIf.ff rfl (eq_nil_ptr uD ⟨_, rfl, PIf.ff rfl (PC.ok (log_Open (size := 1) hw h1) ?_)⟩)⟩
  rintro _ w2 hod
  have hO := open_new_eq 1000 1
  change logOpen (newD 1000) 1 = ⟨wkO.1, [], wkO.2.1, wkO.2.2⟩ at hO
  rw [show Int.toNat 1000 = 1000 from rfl, hO] at hod
  rcases hod with ⟨hne, -⟩ | ⟨-, q, a2, n2, c2, G2, rfl, ho2, h2, -, -⟩
  · exact absurd f1 hne
  have hn2 := ho2.len (by decide)
  simp at hn2
  subst hn2
  refine ⟨_, _, _, _, _, rfl, PIf.ff rfl (eq_nil_ptr uL ⟨_, rfl, PIf.ff rfl (PIf.ff rfl (PC.ok h2.segments ?_))⟩)⟩
  rintro _ w3 ⟨a3, n3, c3, F3, rfl, ho3, k3, -⟩
  have hn3 := ho3.len (by decide)
  dsimp only at hn3
  rw [f2] at hn3
  simp at hn3
  subst hn3
  have h3 := h2.grew k3
  refine ⟨_, _, _, rfl, PIf.ff rfl (PC.ok (law22_some (by decide) (by decide)) ?_)⟩
  rintro _ w4 ⟨a4, n4, c4, F4, rfl, ho4, -, k4⟩
  refine ⟨_, _, _, _, _, _, _, _, _, _, _, _, rfl, PC.ok (law22_some (by decide) (by decide)) ?_⟩
  rintro _ w5 ⟨a5, n5, c5, F5, rfl, ho5, -, k5⟩
  refine ⟨_, _, _, _, _, _, _, _, _, _, _, _, rfl, PA.mk fun w6 k6 s6 g6 => ?_⟩
  have h6 := ((h3.grew k4).grew k5).grew k6
  have r1 := ((ho4.grew k5).grew k6).row (bytes := 8) (by decide) (by simp [evSome, Big])
  have r2 := (ho5.grew k6).row (bytes := 8) (by decide) (by simp [evSome, Big])
  have hrow : Row cEv 96 w6 (fun b => b < w6.heap.size) (some ⟨w5.heap.size, 0, none⟩) 2 [evSome 1, evSome 2] :=
    Row.of_reps (xs := [evSome 1, evSome 2]) (cs := evCells (evSome 1) a4 n4 c4 ++ evCells (evSome 2) a5 n5 c5) g6
      (Reps.append (Reps.one (c := cEv) ⟨a4, n4, c4, rfl, r1.mono fun b hb => ((ho4.grew k5).grew k6).dom b hb, o1.1⟩) (Reps.one (c := cEv) ⟨a5, n5, c5, rfl, r2.mono fun b hb => (ho5.grew k6).dom b hb, o2.1⟩)) (lt_of_get g6) (by unfold Big; simp)
  refine PC.ok (log_Append hw h6 (by rw [f2]; simp) hrow (fun b hb => hb) (by simp)) ?_
  rintro _ w7 ⟨rfl, h7, k7⟩
  change NLog w w7 p q wkA.2.1 wkA.2.2 _ at h7
  refine ⟨_, rfl, PC.ok (log_Sync hw h7 (by rw [f4]; simp)) ?_⟩
  rintro _ w8 ⟨rfl, h8, k8⟩
  change NLog w w8 p q wkA.2.1 wkS.2 _ at h8
  refine ⟨_, rfl, PC.ok (law22_some (by decide) (by decide)) ?_⟩
  rintro _ w9 ⟨a9, n9, c9, F9, rfl, ho9, -, k9⟩
  refine ⟨_, _, _, _, _, _, _, _, _, _, _, _, rfl, PA.mk fun w10 k10 s10 g10 => ?_⟩
  have h10 := (h8.grew k9).grew k10
  have hrow2 := row_one (e := evSome 3) g10 (ho9.grew k10) o3.1 (by simp [evSome])
  refine PC.ok (log_Append hw h10 (by rw [f4]; simp) hrow2 (fun b hb => hb) (by simp)) ?_
  rintro _ w11 ⟨rfl, h11, k11⟩
  change NLog w w11 p q wkB.2.1 wkB.2.2 _ at h11
  refine ⟨_, rfl, PC.ok h11.segments ?_⟩
  rintro _ w12 ⟨a12, n12, c12, F12, rfl, ho12, k12, -⟩
  have hn12 := ho12.len (by decide)
  rw [f7] at hn12
  simp at hn12
  subst hn12
  have h12 := (h11.grew k12).disk
  refine ⟨_, _, _, rfl, PC.ok (h12.crash (keep := 0) (by unfold I64; omega)) ?_⟩
  rintro _ w13 ⟨rfl, h13, k13⟩
  change NDisk w w13 p wkC _ at h13
  refine ⟨rfl, PC.ok (log_Open (size := 1) hw h13) ?_⟩
  rintro _ w14 hod
  obtain ⟨e1, e2⟩ := wk_open
  rcases hod with ⟨hne, -⟩ | ⟨-, q', a14, n14, c14, G14, rfl, ho14, h14, -, -⟩
  · exact absurd e1 hne
  rw [e2] at ho14
  refine ⟨_, _, _, _, _, rfl, PIf.tt ?_ (PIf.tt ?_ (PIf.tt ?_ (PIf.tt rfl (PIf.tt rfl (ne_nil_ptr uL ⟨_, rfl, PIf.tt rfl (PC.ok (law22_some (by decide) (by decide)) ?_)⟩)))))⟩
  · show ((wkA.1 : Int) == 0) = true; rw [f3]; rfl
  · show ((wkS.1 : Int) == 0) = true; rw [f5]; rfl
  · show ((wkB.1 : Int) == 0) = true; rw [f6]; rfl
  rintro _ w15 ⟨a15, n15, c15, F15, rfl, ho15, -, k15⟩
  refine ⟨_, _, _, _, _, _, _, _, _, _, _, _, rfl, PC.ok (law22_some (by decide) (by decide)) ?_⟩
  rintro _ w16 ⟨a16, n16, c16, F16, rfl, ho16, -, k16⟩
  refine ⟨_, _, _, _, _, _, _, _, _, _, _, _, rfl, PA.mk fun w17 k17 s17 g17 => ?_⟩
  have r3 := ((ho15.grew k16).grew k17).row (bytes := 8) (by decide) (by simp [evSome, Big])
  have r4 := (ho16.grew k17).row (bytes := 8) (by decide) (by simp [evSome, Big])
  have hrow3 : Row cEv 96 w17 (fun _ => True) (some ⟨w16.heap.size, 0, none⟩) 2 [evSome 1, evSome 2] :=
    Row.of_reps (xs := [evSome 1, evSome 2]) (cs := evCells (evSome 1) a15 n15 c15 ++ evCells (evSome 2) a16 n16 c16) g17
      (Reps.append (Reps.one (c := cEv) ⟨a15, n15, c15, rfl, r3.mono fun _ _ => trivial, o1.1⟩) (Reps.one (c := cEv) ⟨a16, n16, c16, rfl, r4.mono fun _ _ => trivial, o2.1⟩)) trivial (by unfold Big; simp)
  refine PC.ok (kit_SameEvents (lst_evs (((ho14.grew k15).grew k16).grew k17) (by simp)) hrow3) ?_
  rintro _ w18 ⟨rfl, k18⟩
  exact ⟨_, rfl, Ok.mk ⟨by simp, (((h14.gr.then k15).then k16).then k17).then k18⟩⟩

theorem fin22 {w w1 : World} {ε : List PanicEntry → World → Prop} (hw : Laid w) (hg : Grew w w1) : PC Tryz.prog F_law22_works #[] w1 (fun v w2 => ∃ t : Bool, v = .bool t ∧ Ok (fun v w' => v = .bool true ∧ Grew w w') (.returned (.bool t)) w2) ε :=
  PC.ok (works22 (hw.grew hg)) (by rintro _ w2 ⟨rfl, k2⟩; exact ⟨_, rfl, Ok.mk ⟨rfl, hg.then k2⟩⟩)
end Go.Proofs.YtpbpjojdfcdbbaaGreatDoor

/- SeglogRefuses: the walk -/
namespace Go.Proofs.YtpbpjojdfcdbbaaGreatDoor
open Go.Lift
set_option linter.unusedVariables false
set_option maxRecDepth 20000

section
variable {w0 w w1 w' : World} {p q : Nat} {D D' : DiskV} {V V' : LogV} {X Y Z G S : Nat → Prop}
theorem NDisk.turn0 (h : NDisk w0 w p D X) (hk : Keep Y w w') (hY : ∀ b, Y b → X b ∧ w0.heap.size ≤ b) (hZ : ∀ b, Z b → (X b ∨ b < w0.heap.size ∨ w.heap.size ≤ b) ∧ b < w'.heap.size) : NDisk w0 w' p D Z := by
  obtain ⟨F, h1, h2, h3, h4⟩ := h
  exact ⟨F, h1.keep hk fun b hb hy => (h3 b hb).2 (hY b hy).1, h2.new hk fun b hb => .inr (hY b hb).2, fun b hb => ⟨(h3 b hb).1, fun hz => by
    rcases (hZ b hz).1 with h | h | h
    · exact (h3 b hb).2 h
    · have := (h3 b hb).1; omega
    · have := h1.dom b hb; omega⟩, fun b hb => (hZ b hb).2⟩
theorem NLog.turn0 (h : NLog w0 w p q V D X) (hk : Keep Y w w') (hY : ∀ b, Y b → X b ∧ w0.heap.size ≤ b) (hZ : ∀ b, Z b → (X b ∨ b < w0.heap.size ∨ w.heap.size ≤ b) ∧ b < w'.heap.size) : NLog w0 w' p q V D Z := by
  obtain ⟨G, h1, h2, h3⟩ := h
  refine ⟨G, h1.turn0 hk (fun b hb => ⟨.inl (hY b hb).1, (hY b hb).2⟩) fun b hb => ?_, h2.keep hk fun b hb hy => (h3 b hb).2 (hY b hy).1, fun b hb => ⟨(h3 b hb).1, fun hz => by
    rcases (hZ b hz).1 with h | h | h
    · exact (h3 b hb).2 h
    · have := (h3 b hb).1; omega
    · have := h2.dom b hb; omega⟩⟩
  rcases hb with hb | hb
  · exact ⟨(hZ b hb).1.imp .inl id, (hZ b hb).2⟩
  · exact ⟨.inl (.inr hb), Nat.lt_of_lt_of_le (h2.dom b hb) hk.size⟩
end
theorem row_evOk {bytes : Nat} {w : World} {D : Nat → Prop} {a : Option Addr} {n : Nat} {l : List EventV} (h : Row cEv bytes w D a n l) : ∀ e ∈ l, e.Ok := fun e he => by
  obtain ⟨i, hi⟩ := List.mem_iff_getElem?.1 he
  obtain ⟨b, off, es, -, -, -, -, a1, n1, c1, -, -, hok⟩ := h.el i e hi
  exact hok

/-- a log that stands on a disk that lives, its numbers in a row from 1 -/
structure Well (V : LogV) (D : DiskV) (A : Segs) (no : Int) (l : List EventV) (k : Nat) : Prop where
  held : Held D A no l k
  v : VOk V A no l
  alive : Alive D
  fresh : Fresh V D
  next : V.next = A.length + 2
  fat : Fat V.size A
theorem Well.lt {V : LogV} {D : DiskV} {A : Segs} {no : Int} {l : List EventV} {k : Nat} (h : Well V D A no l k) : V.next < 1000000000000 := by
  have := h.held.many; have := h.next; omega
theorem Well.append {V : LogV} {D : DiskV} {A : Segs} {no : Int} {l x : List EventV} {k : Nat} (h : Well V D A no l k) (hx : ∀ e ∈ x, e.Ok) (hl : x.length ≤ 1000) (hok : D.Ok) :
    ((logAppend V D x).1 = 0 ∨ (logAppend V D x).1 = 3 ∨ (logAppend V D x).1 = 12) ∧ (logAppend V D x).2.1.size = V.size ∧ ∃ A' no' l' k', Well (logAppend V D x).2.1 (logAppend V D x).2.2 A' no' l' k' ∧ dur A k ≤ dur A' k' ∧ evsOf A' l' = (if (logAppend V D x).1 = 0 then evsOf A l ++ x else evsOf A l) := by
  obtain ⟨a1, a2, a3⟩ := append_alive h.held h.v h.alive h.fresh h.lt x
  obtain ⟨A', no', l', k', b1, b2, b3, b4, b5, b6, b7⟩ := held_append h.held h.v hx hl hok h.fat
  refine ⟨a2, b5, A', no', l', k', ⟨b1, b2, a1, a3, ?_, by rw [b5]; exact b6⟩, b3, b4⟩
  have := h.next
  rcases b7 with ⟨rfl, -, e⟩ | ⟨rfl, -, e⟩
  · rw [e]; exact this
  · rw [e]; simp; omega
theorem well_new {N : Nat} {size : Int} (h0 : (logOpen (newD N) size).no = 0) : Well (logOpen (newD N) size).V (logOpen (newD N) size).D [] 1 [] 0 ∧ (logOpen (newD N) size).out = [] := by
  rcases open_new N size with h | ⟨-, h1, h2, h3, h4, h5, h6, h7⟩
  · exact absurd h0 (by omega)
  · exact ⟨⟨h2, h3, h6, h7, by rw [h5]; rfl, fun y hy => by cases hy⟩, h1⟩

theorem SeglogRefuses {n size ahead : Int} {la : Option Addr} {ln lc : Nat} {l : List EventV} {w : World} {Dl : Nat → Prop} (hn : I64 n) (hah : I64 ahead) (ha : Row cEv 96 w Dl la ln l) (hDl : ∀ b, Dl b → b < w.heap.size) (hnil : la = none → ln = 0 ∧ lc = 0) (hw : Laid w) :
    Calls Tryz.prog F_law22_SeglogRefuses #[.int .i64 n, .int .i64 size, .int .i64 ahead, .slice la ln lc] w (Ok fun v w' => v = .bool true ∧ Grew w w') := by
  have ha0 := ha.len
  refine L_law22_SeglogRefuses (PC.ok (law10_Long ha) ?_)
  rintro _ _ ⟨rfl, rfl⟩
  refine ⟨_, rfl, PIf.dec (fun h => fin22 hw (Keep.refl _)) (fun hlong => PC.ok (law22_Size hn) ?_)⟩
  have hl200 : l.length ≤ 200 := by omega
  rintro _ _ ⟨rfl, rfl⟩
  have hp := pick_range (k := n) (n := 16384) (by omega)
  generalize pick n 16384 = nn at hp
  refine ⟨_, rfl, PC.ok (new_ok (Keep.refl w) (by omega) (by omega)) ?_⟩
  rintro _ w1 ⟨p, rfl, h1, -⟩
  replace h1 := h1.mono (Y := no) fun _ h => h.elim
  generalize Int.toNat (64 + nn) = N at h1
  refine ⟨_, _, rfl, PIf.ff rfl (eq_nil_ptr uD ⟨_, rfl, PIf.ff rfl (PC.ok (log_Open (size := size) hw h1) ?_)⟩)⟩
  rintro _ w2 (⟨hne, rfl, h2, -⟩ | ⟨h0, q, a2, n2, c2, G2, rfl, ho2, h2, -, -, -, -⟩)
  · exact ⟨_, _, _, _, _, rfl, PIf.tt (by simpa using hne) (PIf.tt (by simpa using hne) (eq_nil_ptr uL ⟨_, rfl, PIf.tt rfl (fin22 hw h2.gr)⟩))⟩
  obtain ⟨hwell, hout⟩ := well_new h0
  replace h2 := h2.mono (Y := no) fun _ h => h.elim
  have hsz : (logOpen (newD N) size).V.size = size := by
    rcases open_new N size with h | ⟨-, h1, h2, h3, h4, h5, h6, h7⟩
    · exact absurd h0 (by omega)
    · exact h4
  generalize logOpen (newD N) size = r0 at h2 hwell hsz
  /- a state, with what is wanted -/
  let St : List EventV → Option Addr → Nat → Nat → World → Prop := fun W a m c w' => ∃ V D A no l k F, Lst cEv 39 F w' a m c W ∧ (∀ b, F b → w.heap.size ≤ b) ∧ Well V D A no l k ∧ V.size = size ∧ evsOf A l = W ∧ NLog w w' p q V D F
  refine ⟨_, _, _, _, _, rfl, PIf.ff rfl (eq_nil_ptr uL ⟨_, rfl, PIf.ff rfl ⟨fun a m c w' => ∃ W, W.length ≤ 200 ∧ St W a m c w', ⟨fun k a m c i w' => ∃ j : Nat, i = j ∧ j ≤ 200 ∧ k = 201 - j ∧ ∃ W, W.length = j ∧ St W a m c w', ⟨_, 0, rfl, by omega, rfl, [], rfl, r0.V, r0.D, [], 1, [], 0, fun _ => False, Lst.nil w2, (fun _ h => h.elim), hwell, hsz, rfl, h2⟩, ?_⟩, ?_⟩⟩)⟩
  · rintro k a m c i _ w3 ⟨j, rfl, hj, rfl, W, hWl, V, D, A, no, l', k', F, ho, hF, hwl, hVs, hWe, hN⟩
    refine PC.ok (kit_Pick (by unfold I64; omega)) ?_
    rintro _ _ ⟨rfl, rfl⟩
    have hpa := pick_range (k := ahead) (n := 201) (by omega)
    refine ⟨_, rfl, PIf.dec (fun hlt => ?_) (fun hge => ⟨W, by omega, V, D, A, no, l', k', F, ho, hF, hwl, hVs, hWe, hN⟩)⟩
    have e1 : IntKind.wrap .i64 ((j : Int) + 1) = ((j + 1 : Nat) : Int) := wrap_succ (by omega)
    rw [e1]
    have oe := evSome_ok (n := ((j + 1 : Nat) : Int)) (by omega) (by omega)
    refine PC.ok (law22_some (by omega) (by omega)) ?_
    rintro _ w4 ⟨a4, n4, c4, F4, rfl, ho4, hF4, k4⟩
    refine ⟨_, _, _, _, _, _, _, _, _, _, _, _, rfl, PA.mk fun w5 k5 s5 g5 => ?_⟩
    have hN5 := (hN.grew k4).grew k5
    refine PC.ok (log_Append hw hN5 (by rw [hwl.v.segs]; simp) (row_one (e := evSome ((j + 1 : Nat) : Int)) g5 (ho4.grew k5) oe.1 (by simp [evSome])) (fun b hb => hb) (by simp)) ?_
    rintro _ w6 ⟨rfl, hN6, k6⟩
    have hwa := hwl.append (x := [evSome ((j + 1 : Nat) : Int)]) (fun e he => by simp at he; subst he; exact oe.1) (by simp) hN.ok
    generalize logAppend V D [evSome ((j + 1 : Nat) : Int)] = r at hN6 hwa
    obtain ⟨-, hrs, A', no', l'', k'', hwl', -, hev'⟩ := hwa
    have ho6 := ((ho.grew k4).grew k5).keep k6 fun b hb hn => hn hb
    refine ⟨_, rfl, PIf.neI (fun hne => ?_) (fun h0 => ?_)⟩
    · rw [if_neg hne] at hev'
      exact ⟨W, by omega, r.2.1, r.2.2, A', no', l'', k'', F, ho6, hF, hwl', hrs.trans hVs, hev'.trans hWe, hN6⟩
    rw [if_pos h0] at hev'
    refine PC.ok (law22_some (by omega) (by omega)) ?_
    rintro _ w7 ⟨a7, n7, c7, F7, rfl, ho7, hF7, k7⟩
    have hN7 : NLog w w7 p q r.2.1 r.2.2 (fun b => F b ∨ F7 b) := hN6.add k7 fun b hb => ⟨hF7 b hb, ho7.dom b hb⟩
    have hr7 : Row cI64 8 w7 F7 a7 n7 (evSome ((j + 1 : Nat) : Int)).deps := ho7.row (by decide) (by simp [evSome, Big])
    refine ⟨_, _, _, _, _, _, _, _, _, _, _, _, rfl, papp (ho6.grew k7) slEv (x := evSome ((j + 1 : Nat) : Int)) (D := F7) ⟨a7, n7, c7, rfl, hr7, oe.1⟩ (fun b hb => ⟨ho7.dom b hb, fun hc => ?_⟩) (by rw [hWl]; unfold Big; omega) (by rw [hWl]; unfold maxLen; omega) fun a8 c8 w8 F8 ho8 hk8 hF8 hs8 => ?_⟩
    · have := ho6.dom b (ho6.self b hc); have := hF7 b hb; omega
    refine ⟨_, _, _, rfl, 201 - (j + 1), by omega, j + 1, rfl, by omega, rfl, _, by simp [hWl], r.2.1, r.2.2, A', no', l'', k'', F8, ho8, ?_, hwl', hrs.trans hVs, by rw [hev', hWe], ?_⟩
    · intro b hb
      have hg6 := hN6.gr.size; have := k7.size
      rcases hF8 b hb with h' | h' | h'
      · exact hF b h'
      · have := hF7 b h'; omega
      · omega
    · refine hN7.turn hk8 (fun b hb => ⟨.inl (ho6.self b hb), hF b (ho6.self b hb)⟩) fun b hb => ⟨?_, ho8.dom b hb⟩
      rcases hF8 b hb with h' | h' | h'
      · exact .inl (.inl h')
      · exact .inl (.inr h')
      · exact .inr h'
  · rintro a m c _ w3 ⟨W, hWl, V, D, A, no, l', k', F, ho, hF, hwl, hVs, hWe, hN⟩
    refine PC.ok (log_Append hw hN (by rw [hwl.v.segs]; simp) (ha.grew hN.gr) (fun b hb => by have := hDl b hb; have := hN.gr.size; omega) (by omega)) ?_
    rintro _ w4 ⟨rfl, hN4, k4⟩
    have hwa := hwl.append (x := l) (row_evOk ha) (by omega) hN.ok
    generalize logAppend V D l = r at hN4 hwa
    obtain ⟨hcode, hrs, A', no', l'', k'', hwl', -, hev'⟩ := hwa
    have ho4 := ho.keep k4 fun b hb hn => hn hb
    refine ⟨_, rfl, fun a m c w' => ∃ F, Lst cEv 39 F w' a m c (evsOf A' l'') ∧ NLog w w' p q r.2.1 r.2.2 F, ?_, ?_⟩
    · refine PIf.eqI (fun h0 => ?_) (fun hne => ⟨F, by rw [hev', if_neg hne, hWe]; exact ho4, hN4⟩)
      refine appRow' ho4 slEv (ha.grew hN4.gr) hnil (fun b hb => ⟨by have := hDl b hb; have := hN4.gr.size; omega, fun hc => by have := hF b (ho4.self b hc); have := hDl b hb; omega⟩) (by unfold Big; omega) (by unfold maxLen; omega) fun a5 c5 w5 F5 ho5 hk5 hF5 _ => ?_
      refine ⟨_, _, _, rfl, F5, by rw [hev', if_pos h0, hWe]; exact ho5, ?_⟩
      refine hN4.turn0 hk5 (fun b hb => ⟨ho4.self b hb, hF b (ho4.self b hb)⟩) fun b hb => ⟨?_, ho5.dom b hb⟩
      rcases hF5 b hb with h' | h' | h'
      · exact .inl h'
      · exact .inr (.inl (hDl b h'))
      · exact .inr (.inr h')
    · rintro a m c _ w5 ⟨F5, ho5, hN5⟩
      refine ⟨fun w' => w5 = w', ?_, ?_⟩
      · refine PIf.neI (fun h1 => PIf.neI (fun h2 => PIf.neI (fun h3 => ?_) (fun _ => rfl)) (fun _ => rfl)) (fun _ => rfl)
        omega
      rintro _ _ rfl
      refine PC.ok (log_Open (size := size) hw hN5.disk) ?_
      obtain ⟨o1, o2, -⟩ := open_anew (size := size) hwl'.held hwl'.alive
      rintro _ w6 (⟨hne, -⟩ | ⟨-, q6, a6, n6, c6, G6, rfl, ho6, h6, k6, -, -, hl6⟩)
      · exact absurd o1 hne
      rw [o2] at ho6 hl6
      have ho56 := ho5.keep k6 fun b hb hn => hn hb
      have hWl' : (evsOf A' l'').length ≤ 400 := by
        rw [hev', hWe]; split
        · rw [List.length_append]; omega
        · omega
      refine ⟨_, _, _, _, _, rfl, PIf.tt rfl (PC.ok (kit_SameEvents (lst_evs ho6 (by omega)) (ho56.row (bytes := 96) (by decide) (by unfold Big; omega))) ?_)⟩
      rintro _ w7 ⟨rfl, k7⟩
      exact ⟨_, rfl, PIf.tt (by simp) (fin22 hw (h6.gr.then k7))⟩
end Go.Proofs.YtpbpjojdfcdbbaaGreatDoor

/- SeglogPieces: the walk -/
namespace Go.Proofs.YtpbpjojdfcdbbaaGreatDoor
open Go.Lift
set_option linter.unusedVariables false
set_option maxRecDepth 20000

theorem begin2_size (a b : Int) (S : List Int) (m n : Int) (D : DiskV) : (begin2 ⟨a, S, m, n⟩ D).1 = (begin2 ⟨b, S, m, n⟩ D).1 := by
  simp only [begin2, begin3, apply_ite Prod.fst]
theorem open_big (sz : Int) : (logOpen (newD 262144) sz).no = 0 := by
  rw [open_new_eq]
  show (begin2 ⟨sz, [], 0, 1⟩ (newD 262144)).1 = 0
  rw [begin2_size sz 0]
  decide +kernel

end Go.Proofs.YtpbpjojdfcdbbaaGreatDoor

/- SeglogSegments: the walk -/
namespace Go.Proofs.YtpbpjojdfcdbbaaGreatDoor
open Go.Lift
set_option linter.unusedVariables false
set_option maxRecDepth 20000

theorem Alive.mfTell {D : DiskV} (ha : Alive D) {L : List Int} (hm : aget D.files mName = some (fullF (mfBytes L))) (hr : ∀ x ∈ L, I64 x) (hl : L.length ≤ 64) : mfTell D = some L := by
  unfold Go.Proofs.YtpbpjojdfcdbbaaGreatDoor.mfTell
  rw [ha.read hm, if_neg (by simp), show (fullF (mfBytes L)).bytes = mfBytes L from rfl, mfRead_bytes hr hl]

theorem SeglogSegments {size : Int} {la sa : Option Addr} {ln lc sn sc : Nat} {l : List EventV} {ss : List Int} {w : World} {Dl Ds : Nat → Prop} (hs : I64 size) (ha : Row cEv 96 w Dl la ln l) (hDl : ∀ b, Dl b → b < w.heap.size) (hlc : ln ≤ lc) (hss : Row cI64 8 w Ds sa sn ss) (hw : Laid w) :
    Calls Tryz.prog F_law22_SeglogSegments #[.int .i64 size, .slice la ln lc, .slice sa sn sc] w (Ok fun v w' => v = .bool true ∧ Grew w w') := by
  have ha0 := ha.len; have hs0 := hss.len
  refine L_law22_SeglogSegments (PC.ok (law10_Long ha) ?_)
  rintro _ _ ⟨rfl, rfl⟩
  refine ⟨_, rfl, PIf.dec (fun h => fin22 hw (Keep.refl _)) (fun hlong => PIf.dec (fun h => fin22 hw (Keep.refl _)) (fun h100 => PC.ok (kit_Pick (by unfold I64; omega)) ?_))⟩
  have hl200 : l.length ≤ 200 := by omega
  rintro _ _ ⟨rfl, rfl⟩
  have hp := pick_range (k := size) (n := 400) (by omega)
  generalize pick size 400 = ps at hp
  refine ⟨_, rfl, PC.ok (new_ok (Keep.refl w) (by omega) (by omega)) ?_⟩
  rintro _ w1 ⟨p, rfl, h1, -⟩
  rw [show Int.toNat 262144 = 262144 from rfl] at h1
  rw [wrap_i64 (x := 1 + ps) (by unfold I64; omega)]
  refine ⟨_, _, rfl, PIf.ff rfl (eq_nil_ptr uD ⟨_, rfl, PIf.ff rfl (PC.ok (log_Open (size := 1 + ps) hw h1) ?_)⟩)⟩
  rintro _ w2 (⟨hne, -⟩ | ⟨h0, q, a3, n3, c3, G3, rfl, -, h2, -, -, -, -⟩)
  · exact absurd (open_big _) hne
  obtain ⟨hwell, hout⟩ := well_new h0
  have hsz : (logOpen (newD 262144) (1 + ps)).V.size = 1 + ps := by
    rcases open_new 262144 (1 + ps) with h | ⟨-, h1, h2, h3, h4, h5, h6, h7⟩
    · exact absurd h0 (by omega)
    · exact h4
  generalize logOpen (newD 262144) (1 + ps) = r0 at h2 hwell hsz
  replace h2 := h2.mono (Y := no) fun b hb => hb.elim
  have hx : ∀ e ∈ l, e.Ok := row_evOk ha
  have gl : ∀ {w' : World} {V : LogV} {D : DiskV}, NLog w w' p q V D no → ∀ b, Dl b → b < w'.heap.size := fun hN b hb => by have := hDl b hb; have := hN.gr.size; omega
  refine ⟨_, _, _, _, _, rfl, PIf.ff rfl (eq_nil_ptr uL ⟨_, rfl, PIf.ff rfl ⟨fun w' => ∃ V D A no' l' k', Well V D A no' l' k' ∧ V.size = 1 + ps ∧ NLog w w' p q V D no ∧ evsOf A l' = l, ⟨fun m at' i w' => ∃ (u v : Nat) (V : LogV) (D : DiskV) (A : Segs) (no' : Int) (l' : List EventV) (k' : Nat), at' = u ∧ u ≤ ln ∧ i = v ∧ v ≤ u ∧ m = ln - v ∧ Well V D A no' l' k' ∧ V.size = 1 + ps ∧ NLog w w' p q V D no ∧ evsOf A l' = l.take u,
    ⟨_, 0, 0, r0.V, r0.D, [], 1, [], 0, rfl, Nat.zero_le _, rfl, Nat.le_refl _, rfl, hwell, hsz, h2, by simp [evsOf]⟩, ?_⟩, ?_⟩⟩)⟩
  · rintro m at' i _ w3 ⟨u, v, V, D, A, no', l', k', rfl, hu, rfl, hvu, rfl, hwl, hVs, h3, hev⟩
    refine PIf.dec (fun hlt => PIf.dec (fun hlt2 => ?_) (fun hge2 => by omega)) (fun hge => ⟨V, D, A, no', l', k', hwl, hVs, h3, by rw [hev, List.take_of_length_le (by omega)]⟩)
    refine ⟨fun n w' => w3 = w' ∧ 1 ≤ n ∧ n ≤ 9, ?_, ?_⟩
    · refine PIf.dec (fun hpos => ?_) (fun _ => ⟨rfl, by omega, by omega⟩)
      have hrun : ∀ x y, (do eqGuard .rem 3 x y (.int .i64 (v : Int)) (.int .i64 ((sn : Nat) : Int)); binOp .rem 3 (.int .i64 (v : Int)) (.int .i64 ((sn : Nat) : Int)) : Sem Value).run Tryz.prog w3 = .ok (.int .i64 ((v : Int).tmod (sn : Int))) w3 := fun x y => by
        have : sn ≠ 0 := by omega
        simp [eqGuard, binOp, Op.intDiv, this]
      have hm : (v : Int).tmod (sn : Int) = ((v % sn : Nat) : Int) := by rw [Int.tmod_eq_emod_of_nonneg (by omega)]; simp
      have hmlt : v % sn < sn := Nat.mod_lt _ (by omega)
      obtain ⟨b, off, x, rfl, hxs, hxr, hc⟩ := (hss.grew h3.gr).at1 (i := v % sn) hmlt
      refine PRun.mk (hrun _ _) ⟨_, rfl, b, off, rfl, ?_⟩
      rw [hm]
      refine ⟨by omega, by omega, x, hc, PC.ok (kit_Pick (by unfold I64; omega)) ?_⟩
      rintro _ _ ⟨rfl, rfl⟩
      have hp9 := pick_range (k := x) (n := 9) (by omega)
      refine ⟨_, rfl, ?_⟩
      rw [wrap_i64 (by unfold I64; omega)]
      exact ⟨rfl, by omega, by omega⟩
    · rintro n _ _ ⟨rfl, hn1, hn9⟩
      rw [wrap_i64 (x := (ln : Int) - u) (by unfold I64; omega)]
      obtain ⟨t, ht, htl, ht1⟩ : ∃ t : Nat, (u : Int) + (if (ln : Int) - u < n then (ln : Int) - u else n) = t ∧ t ≤ ln ∧ u + 1 ≤ t := by
        refine ⟨((u : Int) + (if (ln : Int) - u < n then (ln : Int) - u else n)).toNat, ?_, ?_, ?_⟩ <;> split <;> omega
      rw [ht, wrap_i64 (x := (t : Int)) (by unfold I64; omega)]
      refine ⟨by omega, by omega, by omega, ?_⟩
      rw [Int.toNat_natCast, Int.toNat_natCast]
      have hpart := (ha.grew h3.gr).part (lo := u) (hi := t) (cap := lc) (by omega) (by omega) hlc
      have hsub : ∀ e ∈ (l.take t).drop u, e.Ok := fun e he => hx e (List.mem_of_mem_take (List.mem_of_mem_drop he))
      have hsl : ((l.take t).drop u).length ≤ 1000 := by simp; omega
      refine PC.ok (log_Append hw h3 (by rw [hwl.v.segs]; simp) hpart (gl h3) hsl) ?_
      rintro _ w5 ⟨rfl, h5, -⟩
      obtain ⟨hcode', hrs, A', no'', l'', k'', hwl', -, hev'⟩ := hwl.append hsub hsl h3.ok
      refine ⟨_, rfl, PIf.eqI (fun _ => fin22 hw h5.gr) (fun hc3 => PIf.eqI (fun _ => fin22 hw h5.gr) (fun hc12 => PIf.neI (fun hne => by omega) (fun e0 => ?_)))⟩
      refine ⟨ln - (v + 1), by omega, t, v + 1, _, _, A', no'', l'', k'', rfl, htl, wrap_succ (by omega), by omega, rfl, hwl', hrs.trans hVs, h5, ?_⟩
      rw [hev', if_pos e0, hev]
      have := List.take_append_drop u (l.take t)
      rw [List.take_take, Nat.min_eq_left (by omega)] at this
      exact this
  · rintro _ w3 ⟨V, D, A, no', l', k', hwl, hVs, h3, hev⟩
    have hH := hwl.held
    have hseg := hwl.v.segs
    have hnl : (nums A ++ [no']).length ≤ 64 := by have := hH.many; simpa [nums] using this
    have hmf := hwl.alive.mfTell hH.man (fun x hx => by have := hH.rng x hx; unfold I64; omega) hnl
    refine PC.ok h3.segments ?_
    rintro _ w4 ⟨a4, n4, c4, F4, rfl, ho4, k4, hF4⟩
    rw [hseg] at ho4
    have hn4 := ho4.len (by decide)
    have h4 := h3.grew k4
    refine ⟨_, _, _, rfl, PC.ok (h4.disk.mfRead hw.tabs) ?_⟩
    rintro _ w5 ⟨a5, n5, c5, G5, rfl, ho5, hG5, -, k5⟩
    rw [hmf] at ho5 ⊢
    refine ⟨_, _, _, _, rfl, PA.mk fun w6 k6 s6 g6 => PS.mk g6 (by simp) fun w7 k7 s7 g7 w8 d8 => ⟨fun _ => False, PIf.ff rfl (PIf.eqI (fun hz => ?_) (fun hnz => ?_))⟩⟩
    · rw [hn4] at hz; simp at hz; omega
    have k57 : Grew w5 w7 := k6.new k7 fun b hb => .inr (by omega)
    have k58 : Grew w5 w8 := k57.then d8.keep
    have k48 : Grew w4 w8 := k5.then k58
    have g8 : w8.heap[w5.heap.size]? = some (.cells #[.slice a5 n5 c5] 56 (0, 0)) := Keep.get (S := fun _ => False) d8.keep g7 id
    have hr4 : Row cI64 8 w8 F4 a4 n4 (nums A ++ [no']) := (ho4.grew k48).row (by decide) (by unfold Big; omega)
    have hr5 : Row cI64 8 w8 G5 a5 n5 (nums A ++ [no']) := (ho5.grew k58).row (by decide) (by unfold Big; simp only [Option.getD_some]; omega)
    refine ⟨_, _, _, cell_at g8 rfl, PC.ok (kit_SameIntsR hr5 hr4) ?_⟩
    rintro _ w9 ⟨rfl, d9⟩
    have k49 : Grew w4 w9 := k48.then d9.keep
    have h9 := h4.grew k49
    have hr9 := hr4.grew d9.keep
    have hpos : 0 < n4 := by rw [hn4]; simp
    have hlast : (nums A ++ [no'])[n4 - 1]? = some no' := by
      rw [hn4]; simp
    obtain ⟨b, off, x, rfl, hxl, hxr, hc⟩ := hr9.at1 (i := n4 - 1) (by omega)
    rw [hlast] at hxl; cases hxl
    have ew : IntKind.wrap .i64 ((n4 : Int) - 1) = ((n4 - 1 : Nat) : Int) := by rw [wrap_i64 (by unfold I64; omega)]; omega
    refine ⟨_, rfl, d9.keep, PIf.ff (by simp) ⟨b, off, rfl, ?_⟩⟩
    rw [ew]
    refine ⟨by omega, by omega, id, _, hc, ?_⟩
    obtain ⟨GL, hlat, -⟩ := h9.at
    refine PC.ok (log_Next hlat) ?_
    rintro _ _ ⟨rfl, rfl⟩
    have hvn := hwl.v.next
    refine ⟨_, rfl, Keep.refl _, PIf.dec (fun hle => by omega) (fun _ => ?_)⟩
    /- the segments, with their events -/
    let SL : Segs := A ++ [(no', l')]
    have hSLn : SL.map (·.1) = nums A ++ [no'] := by simp [SL, nums]
    have hSLe : (SL.map (·.2)).flatten = l := by rw [← hev]; simp [SL, evsOf]
    have hSLl : SL.length = n4 := by rw [hn4, ← hSLn]; simp
    have hfile : ∀ y ∈ SL, D.read (segNm y.1) = (evFrs y.2, 0) ∧ ∀ e ∈ y.2, e.Ok ∧ e.deps.length ≤ 64 := by
      intro y hy
      rcases List.mem_append.1 hy with h' | h'
      · exact ⟨hwl.alive.read (hH.full y h'), fun e he => hH.evs e (List.mem_append_left _ (List.mem_flatten.2 ⟨y.2, List.mem_map.2 ⟨y, h', rfl⟩, he⟩))⟩
      · rw [List.mem_singleton] at h'; subst h'
        obtain ⟨s, g1, -⟩ := hH.last
        exact ⟨hwl.alive.read g1, hH.evl⟩
    have htot : ∀ u, ((SL.take u).map (·.2)).flatten.length ≤ 200 := fun u => by
      have h1 := congrArg List.length hSLe
      conv at h1 => lhs; rw [← List.take_append_drop u SL, List.map_append, List.flatten_append, List.length_append]
      omega
    have hrise := hH.rise
    refine ⟨fun m aa an ac i w' => ∃ (u : Nat) (F : Nat → Prop), i = u ∧ u ≤ n4 ∧ m = n4 - u ∧ Lst cEvO 39 F w' aa an ac ((SL.take u).map (·.2)).flatten ∧ (∀ b, F b → w9.heap.size ≤ b) ∧ Grew w9 w',
      ⟨_, 0, fun _ => False, rfl, Nat.zero_le _, rfl, Lst.nil w9, (fun _ h => h.elim), Keep.refl _⟩, ?_⟩
    rintro m aa an ac i _ w10 ⟨u, F, rfl, hu, rfl, ho, hF, k10⟩
    refine PIf.dec (fun hlt => ?_) (fun hge => ?_)
    · have hu' : u < SL.length := by omega
      have hy : SL[u] ∈ SL := List.getElem_mem hu'
      obtain ⟨hrd, hevs⟩ := hfile _ hy
      have htk : SL.take (u + 1) = SL.take u ++ [SL[u]] := by rw [List.take_add_one]; simp [hu']
      have hnum : ∀ v (hv : v < SL.length), (nums A ++ [no'])[v]? = some (SL[v]).1 := fun v hv => by rw [← hSLn]; simp [hv]
      have hyn : ∀ {w'}, Grew w9 w' → ∀ v, v < n4 → ∃ hv : v < SL.length, w'.cell? ⟨b, off + v, none⟩ = some (.int .i64 (SL[v]).1) ∧ I64 (SL[v]).1 := fun hk v hv => by
        obtain ⟨b', off', x', he, hxv, hxr', hc'⟩ := (hr9.grew hk).at1 (i := v) hv
        cases he
        have hv' : v < SL.length := by omega
        rw [hnum v hv'] at hxv
        cases hxv
        exact ⟨hv', hc', hxr'⟩
      obtain ⟨_, hcu, hru⟩ := hyn k10 u (by omega)
      have h10 := (h9.grew k10)
      obtain ⟨y, hyy⟩ : ∃ y, SL[u] = y := ⟨_, rfl⟩
      rw [hyy] at hrd hevs htk hcu hru
      refine ⟨b, off, rfl, by omega, by omega, y.1, by rw [Int.toNat_natCast]; exact hcu, PC.ok (h10.disk.load hw hru) ?_⟩
      rintro _ w11 ⟨a11, n11, c11, G11, rfl, ho11, hG11, -, k11, -⟩
      have hseq : segLoad (D.read (txt (segName y.1))).1 = (y.2, (evFrs y.2).length) := by
        rw [show D.read (txt (segName y.1)) = _ from hrd]; exact segLoad_all hevs
      rw [hseq] at ho11 ⊢
      dsimp only at ho11 ⊢
      have k911 := k10.then k11
      obtain ⟨_, hcu11, _⟩ := hyn k911 u (by omega)
      have hcu11' : w11.cell? ⟨b, off + u, none⟩ = some (.int .i64 y.1) := by rw [hcu11]; simp only [hyy]
      refine ⟨_, _, _, _, rfl, b, off, rfl, by omega, by omega, y.1, by rw [Int.toNat_natCast]; exact hcu11', PC.ok (seg_Name (hw.grew (h10.gr.then k11)) hru) ?_⟩
      rintro _ w12 ⟨rfl, k12⟩
      have h12 := (h10.grew k11).grew k12
      refine ⟨_, rfl, PC.ok (h12.disk.read (k := segNm y.1)) ?_⟩
      rintro _ w13 ⟨a13, n13, c13, F13, rfl, ho13, hF13, -, k13⟩
      rw [hrd] at ho13 ⊢
      have hn13 := ho13.len (by decide)
      have k1113 := k12.then k13
      have k913 := k911.then k1113
      /- the events added -/
      have fin : ∀ {w14 : World} {ε : Value → World → Prop}, Grew w13 w14 → PRun Tryz.prog (Builtin.append_ #[22, 22] 22 #[.slice aa an ac, .slice a11 n11 c11]) w14 (fun v116 w117 => ∃ (t118a : Option Addr) (t118n : Nat) (t118c : Nat), v116 = .slice t118a t118n t118c ∧ ∃ m87, m87 < n4 - u ∧
          ∃ (u' : Nat) (F : Nat → Prop), IntKind.wrap .i64 ((u : Int) + 1) = u' ∧ u' ≤ n4 ∧ m87 = n4 - u' ∧ Lst cEvO 39 F w117 t118a t118n t118c ((SL.take u').map (·.2)).flatten ∧ (∀ b, F b → w9.heap.size ≤ b) ∧ Grew w9 w117) ε := by
        intro w14 ε k14
        have kk := (k11.then k1113).then k14
        have ho' := ho.grew kk
        have ho11' := ho11.grew (k1113.then k14)
        have z9 := k10.size; have z11 := k11.size; have zz := kk.size
        have htu := htot (u + 1)
        rw [htk, List.map_append, List.flatten_append, List.length_append] at htu
        have hyl : y.2.length ≤ 200 := by simp at htu; omega
        have hr11 : Row cEvO 96 w14 G11 a11 n11 y.2 := ho11'.row (bytes := 96) (by decide) (by unfold Big; omega)
        refine appRow' ho' slEv hr11 (fun e => ho11'.nil0 e) (fun b hb => ⟨ho11'.dom b hb, fun hc => by have := ho.dom b (ho.self b hc); have := hG11 b hb; omega⟩) (by have := htot u; unfold Big; omega) (by have := htot u; unfold maxLen; omega) fun a15 c15 w15 F15 ho15 hk15 hF15 _ => ?_
        refine ⟨_, _, _, rfl, n4 - (u + 1), by omega, u + 1, F15, wrap_succ (by omega), by omega, rfl, ?_, fun b hb => ?_, (k10.then kk).new hk15 fun b hb => .inr (hF b (ho.self b hb))⟩
        · rw [htk, List.map_append, List.flatten_append]; simpa using ho15
        · rcases hF15 b hb with h' | h' | h'
          · exact hF b h'
          · have := hG11 b h'; omega
          · omega
      refine ⟨_, _, _, _, rfl, PIf.ff rfl (PIf.neI (fun hne => absurd (by rw [hn13]) hne) (fun _ => ?_))⟩
      have mid : ∀ {X Y : Prop}, (0 < u → (∀ w14, Drew w13 w14 → Y) → X) → True := fun _ => trivial
      have prev : 0 < u → ∃ x', w13.cell? ⟨b, off + Int.toNat (u : Int), none⟩ = some (.int .i64 y.1) ∧ IntKind.wrap .i64 ((u : Int) - 1) = ((u - 1 : Nat) : Int) ∧ w13.cell? ⟨b, off + Int.toNat ((u - 1 : Nat) : Int), none⟩ = some (.int .i64 x') ∧ x' < y.1 := by
        intro h0
        obtain ⟨hvu, e1, -⟩ := hyn k913 u (by omega)
        obtain ⟨hv, e2, -⟩ := hyn k913 (u - 1) (by omega)
        refine ⟨(SL[u - 1]).1, by rw [Int.toNat_natCast, e1]; simp only [hyy], by rw [wrap_i64 (by unfold I64; omega)]; omega, by rw [Int.toNat_natCast]; exact e2, ?_⟩
        have hlen : (nums A ++ [no']).length = SL.length := by rw [← hSLn]; simp
        have hpw := List.pairwise_iff_getElem.1 hrise (u - 1) u (by omega) (by omega) (by omega)
        have g1 := hnum (u - 1) hv
        have g2 := hnum u hvu
        rw [List.getElem?_eq_getElem (by omega)] at g1 g2
        rw [Option.some.inj g1, Option.some.inj g2] at hpw
        simp only [hyy] at hpw
        exact hpw
      refine PIf.dec (fun hnl => PIf.dec (fun hsm => ?_) (fun _ => PIf.dec (fun h0 => ?_) (fun _ w14 d14 => fin d14.keep))) (fun _ => PIf.dec (fun h0 => ?_) (fun _ w14 d14 => fin d14.keep))
      · have hA : u < A.length := by
          have : SL.length = A.length + 1 := by simp [SL]
          omega
        have hya : y ∈ A := by
          rw [← hyy, show SL[u] = A[u] from List.getElem_append_left hA]; exact List.getElem_mem hA
        have := hwl.fat y hya
        rw [hVs] at this
        omega
      · obtain ⟨x', e1, e2, e3, e4⟩ := prev (by omega)
        refine ⟨b, off, rfl, by omega, by omega, _, e1, b, off, rfl, ?_⟩
        rw [e2]
        exact ⟨by omega, by omega, _, e3, fun w14 d14 => PIf.dec (fun hle => by omega) (fun _ => fin d14.keep)⟩
      · obtain ⟨x', e1, e2, e3, e4⟩ := prev (by omega)
        refine ⟨b, off, rfl, by omega, by omega, _, e1, b, off, rfl, ?_⟩
        rw [e2]
        exact ⟨by omega, by omega, _, e3, fun w14 d14 => PIf.dec (fun hle => by omega) (fun _ => fin d14.keep)⟩
    · obtain rfl : u = n4 := by omega
      rw [List.take_of_length_le (by omega), hSLe] at ho
      have k := (h9.grew k10).gr
      refine PC.ok (kit_SameEvents (lst_evs ho (by omega)) (ha.grew k)) ?_
      rintro _ w11 ⟨rfl, k11⟩
      exact ⟨_, rfl, PIf.tt (by simp) (fin22 hw (k.then k11))⟩
end Go.Proofs.YtpbpjojdfcdbbaaGreatDoor

/- SeglogLasts: the walk -/
namespace Go.Proofs.YtpbpjojdfcdbbaaGreatDoor
open Go.Lift
set_option linter.unusedVariables false
set_option maxRecDepth 20000

/-! a disk that lives goes on living -/
section
variable {D E : DiskV} {V : LogV}
theorem Alive.mstep (h : Alive D) (l : List Int) (i : Nat) : Alive (mStep l i D).2 := by
  match i with
  | 0 => exact h.clean
  | 1 => exact (h.create mTemp).1
  | 2 => exact (h.append mTemp _).1
  | 3 => exact (h.sync mTemp).1
  | i + 4 =>
    show Alive (D.rename mTemp mName).2
    unfold DiskV.rename
    refine h.onA fun f => ?_
    split
    · exact h.same rfl rfl
    · exact h
theorem Alive.mrun (l : List Int) : ∀ (k i : Nat) {D : DiskV}, Alive D → Alive (mRun l i k D).2
  | 0, i, _, h => h
  | k + 1, i, D, h => by
    rw [mRun]
    split
    · exact (h.mstep l i).clean
    · exact Alive.mrun l k (i + 1) (h.mstep l i)
theorem Alive.mfw (h : Alive D) (l : List Int) : Alive (Go.Proofs.YtpbpjojdfcdbbaaGreatDoor.mfWrite D l).2 := by
  unfold Go.Proofs.YtpbpjojdfcdbbaaGreatDoor.mfWrite
  split
  · exact h
  · exact Alive.mrun l 5 0 h
theorem Alive.begin2 (h : Alive D) : Alive (begin2 V D).2.2 := by
  unfold Go.Proofs.YtpbpjojdfcdbbaaGreatDoor.begin2
  dsimp only
  have h1 := (h.create (txt (segName V.next))).1
  split
  · exact h1
  · unfold begin3
    dsimp only
    have h2 := (h1.sync (txt (segName V.next))).1
    split
    · exact (h2.delete _).1
    · have h3 := h2.mfw (V.segs ++ [V.next])
      split
      · exact (h3.delete _).1
      · exact h3
theorem Alive.begin (h : Alive D) : Alive (logBegin V D).2.2 := by
  unfold logBegin
  dsimp only
  split
  · exact h.begin2
  · have h1 := (h.sync V.last).1
    split
    · exact h1
    · exact h1.begin2
theorem Alive.lay (h : Alive D) (x : List EventV) : Alive (logAppend V D x).2.2 := by
  unfold logAppend
  dsimp only
  split
  · exact h
  split
  · exact h
  by_cases hc : V.size ≤ V.bytes
  · rw [if_pos hc]
    have h1 := h.begin (V := V)
    generalize logBegin V D = r at h1
    split
    · exact h1
    have h2 := (h1.append r.2.1.last (evFrs x)).1
    split
    · exact h2
    · exact h2
  · rw [if_neg hc]
    split
    · exact h
    have h2 := (h.append V.last (evFrs x)).1
    split
    · exact h2
    · exact h2
end

/-! calls of these statements -/
structure Act22 where
  kind : Int
  n : Int
  evs : List EventV
  bs : List UInt8
def cAct22 : Cod Act22 where
  k := 4
  rep := fun w D x cs => ∃ a n c b m d, cs = [.int .i64 x.kind, .int .i64 x.n, .slice a n c, .slice b m d] ∧ Row cEv 96 w D a n x.evs ∧ Row cU8 1 w D b m x.bs ∧ I64 x.kind ∧ I64 x.n ∧ (b = none → m = 0 ∧ d = 0)
  keep := fun ⟨a, n, c, b, m, d, h1, h2, h3, h4⟩ hk hd => ⟨a, n, c, b, m, d, h1, h2.keep hk hd, h3.keep hk hd, h4⟩
  mono := fun ⟨a, n, c, b, m, d, h1, h2, h3, h4⟩ hd => ⟨a, n, c, b, m, d, h1, h2.mono hd, h3.mono hd, h4⟩
  len := fun ⟨a, n, c, b, m, d, h1, _⟩ => by rw [h1]; rfl
  one := fun ⟨a, n, c, b, m, d, h1, _⟩ u hu => by
    rw [h1] at hu
    simp only [List.mem_cons, List.not_mem_nil, or_false] at hu
    rcases hu with rfl | rfl | rfl | rfl <;> rfl

def evTotal (l : List Act22) : Nat := (l.map fun x => x.evs.length).sum
theorem evTotal_take (l : List Act22) {j : Nat} {x : Act22} (h : l[j]? = some x) : evTotal (l.take (j + 1)) = evTotal (l.take j) + x.evs.length := by
  unfold evTotal; rw [List.take_add_one, h]; simp
theorem evTotal_le (l : List Act22) (j : Nat) : evTotal (l.take j) ≤ evTotal l := by
  have : evTotal l = evTotal (l.take j) + evTotal (l.drop j) := by
    unfold evTotal
    rw [← List.sum_append_nat, ← List.map_append, List.take_append_drop]
  omega

/-- what Long lets through -/
def Short (l : List Act22) : Prop := l.length ≤ 120 ∧ evTotal l ≤ 600 ∧ ∀ x ∈ l, x.evs.length ≤ 200 ∧ (∀ e ∈ x.evs, e.deps.length ≤ 100) ∧ x.bs.length ≤ 1024
theorem law22_Long {l : List Act22} {a : Option Addr} {n c : Nat} {w : World} {D : Nat → Prop} (ha : Row cAct22 64 w D a n l) :
    Calls Tryz.prog F_law22_Long #[.slice a n c] w (Ok fun v w' => (∃ t : Bool, v = .bool t ∧ (t = false → Short l)) ∧ w = w') := by
  have ha0 := ha.len; have ha1 := ha.big
  unfold Big at ha1
  have tt : ∀ w' : World, w = w' → Ok (fun v w' => (∃ t : Bool, v = .bool t ∧ (t = false → Short l)) ∧ w = w') (.returned (.bool true)) w' := fun w' h => Ok.mk ⟨⟨true, rfl, fun h => by cases h⟩, h⟩
  refine L_law22_Long ⟨fun t w' => w = w' ∧ (l.length ≤ 120 → t = (evTotal l : Nat) ∧ ∀ x ∈ l, x.evs.length ≤ 200 ∧ (∀ e ∈ x.evs, e.deps.length ≤ 100) ∧ x.bs.length ≤ 1024), ⟨fun m t i w' => w = w' ∧ ∃ j : Nat, i = j ∧ j ≤ n ∧ j ≤ 300 ∧ m = n - j ∧ t = (evTotal (l.take j) : Nat) ∧ evTotal (l.take j) ≤ 200 * j ∧ ∀ x ∈ l.take j, x.evs.length ≤ 200 ∧ (∀ e ∈ x.evs, e.deps.length ≤ 100) ∧ x.bs.length ≤ 1024,
    ⟨_, rfl, 0, rfl, Nat.zero_le _, Nat.zero_le _, rfl, by simp [evTotal], by simp [evTotal], by simp⟩, ?_⟩, ?_⟩
  · rintro m t i _ _ ⟨rfl, j, rfl, hj, hj3, rfl, rfl, htl, hall⟩
    refine PIf.dec (fun hlt => PIf.dec (fun h300 => ?_) (fun h300 => ⟨rfl, fun h => by omega⟩)) (fun hge => ⟨rfl, fun h => by
      rw [List.take_of_length_le (by omega)] at hall ⊢; exact ⟨rfl, hall⟩⟩)
    obtain ⟨b, off, x, es, rfl, _, _, hx, hc, a1, n1, c1, b1, m1, d1, rfl, hr1, hr2, -⟩ := ha.atN (i := j) (by omega)
    have hn1 := hr1.len; have hm1 := hr2.len
    refine ⟨b, off, rfl, by omega, by omega, _, _, _, hc 2 (by decide), PC.ok (law10_Long hr1) ?_⟩
    rintro _ _ ⟨rfl, rfl⟩
    refine ⟨_, rfl, PIf.dec (fun h => tt _ rfl) (fun hno => ?_)⟩
    refine ⟨b, off, rfl, by omega, by omega, _, _, _, hc 3 (by decide), PIf.dec (fun h => tt _ rfl) (fun hbs => ?_)⟩
    have hd : ∀ e ∈ x.evs, e.deps.length ≤ 100 := fun e he => Nat.le_of_not_lt fun hlt => hno (.inl ⟨e, he, hlt⟩)
    have h2 : x.evs.length ≤ 200 := Nat.le_of_not_lt fun hlt => hno (.inr hlt)
    refine ⟨b, off, rfl, by omega, by omega, _, _, _, hc 2 (by decide), n - (j + 1), by omega, rfl, j + 1, wrap_succ (by omega), by omega, by omega, rfl, ?_, by rw [evTotal_take l hx]; omega, ?_⟩
    · rw [wrap_i64 (by unfold I64; omega), evTotal_take l hx, hn1]; simp
    · intro y hy
      rw [List.take_add_one, hx] at hy
      rcases List.mem_append.1 hy with h' | h'
      · exact hall y h'
      · simp at h'; subst h'; exact ⟨h2, hd, by omega⟩
  · rintro t _ _ ⟨rfl, h⟩
    refine PIf.dec (fun h120 => tt _ rfl) (fun h120 => Ok.mk ⟨⟨_, rfl, fun hf => ?_⟩, rfl⟩)
    obtain ⟨rfl, h2⟩ := h (by omega)
    have := of_decide_eq_false hf
    exact ⟨by omega, by omega, h2⟩

/-- events that own what they name are read -/
theorem lst_read {e : TypeId} {F : Nat → Prop} {w : World} {a : Option Addr} {n c : Nat} {l : List EventV} (h : Lst cEvO e F w a n c l) : Lst cEv e F w a n c l := by
  have hreps : ∀ (D : Nat → Prop) (xs : List EventV) (cs : List Value), Reps cEvO w D xs cs → Reps cEv w D xs cs := by
    intro D xs
    induction xs with
    | nil => intro cs h; exact h
    | cons x xs ih => rintro cs ⟨es, r, h1, h2, h3⟩; exact ⟨es, r, h1, cEvO.read h2, ih _ h3⟩
  obtain ⟨cs, D, ho, hr, hD⟩ := h.body
  exact ⟨⟨cs, D, ho, hreps _ _ _ hr, hD⟩, h.self, h.dom⟩
end Go.Proofs.YtpbpjojdfcdbbaaGreatDoor

/- SeglogLasts: the walk -/
namespace Go.Proofs.YtpbpjojdfcdbbaaGreatDoor
open Go.Lift
set_option linter.unusedVariables false
set_option maxRecDepth 20000

section
variable {w0 w w1 w' : World} {p q : Nat} {D D' : DiskV} {V V' : LogV} {X Y Z G S : Nat → Prop}
theorem NLog.fuse {n : Int} (h : NLog w0 w p q V D X) (hn : I64 n) : Calls Tryz.prog F_vdisk_Disk_Fuse #[.pointer (some ⟨p, 0, none⟩), .int .i64 n] w (Ok fun v w' => v = .tuple #[] ∧ NLog w0 w' p q V (D.fuse n) X ∧ Keep (Not' X) w w') := by
  obtain ⟨G, h1, h2, h3⟩ := h
  refine Calls.ok (h1.fuse hn) ?_
  rintro v w' ⟨hv, hD, hk⟩
  exact ⟨hv, ⟨G, hD, h2.keep hk fun b hb hn => hn (.inr hb), h3⟩, hk.mono fun b _ hb hx => hb (.inl hx)⟩
/-- another log opened on the disk of one -/
theorem NLog.open2 {size : Int} (hL : Laid w0) (h : NLog w0 w p q V D X) (h0 : (logOpen D size).no = 0) : Calls Tryz.prog F_seglog_Open #[.pointer (some ⟨p, 0, none⟩), .int .i64 size] w (Ok fun v w' =>
    ∃ q2 a n c G2, v = .tuple #[.pointer (some ⟨q2, 0, none⟩), .slice a n c, .int .i64 0] ∧ Lst cEvO 39 G2 w' a n c (logOpen D size).out ∧ NLog w0 w' p q V (logOpen D size).D (fun b => X b ∨ G2 b) ∧ Keep (Not' X) w w' ∧ ∀ b, G2 b → w.heap.size ≤ b) := by
  obtain ⟨G, h1, h2, h3⟩ := h
  refine Calls.ok (log_Open (size := size) hL h1) ?_
  rintro v w' (⟨hne, -⟩ | ⟨-, q2, a, n, c, G2, hv, ho, hN, hk, hG2, -, -⟩)
  · exact absurd h0 hne
  refine ⟨q2, a, n, c, G2, hv, ho, ⟨G, hN.disk.mono fun b hb => ?_, h2.keep hk fun b hb hn => hn (.inr hb), fun b hb => ⟨(h3 b hb).1, fun hx => hx.elim (h3 b hb).2 fun hg => by have := h2.dom b hb; have := hG2 b hg; omega⟩⟩, hk.mono fun b _ hb hx => hb (.inl hx), hG2⟩
  rcases hb with (hb | hb) | hb
  · exact .inl (.inl hb)
  · exact .inr hb
  · exact .inl (.inr hb)
end

/-- the walk's state: what was synced, what came behind -/
structure LSt (w0 w : World) (p : Nat) (size : Int) (q : Nat) (sa : Option Addr) (sn sc : Nat) (ba : Option Addr) (bn bc : Nat) (N : Nat) (dead : Bool) (S B : List EventV) (Fs FB : Nat → Prop) (V : LogV) (D : DiskV) (A : Segs) (no : Int) (lst : List EventV) (k : Nat) : Prop where
  hS : Lst cEv 39 Fs w sa sn sc S
  hB : Lst cEv 39 FB w ba bn bc B
  nS : ∀ b, Fs b → w0.heap.size ≤ b
  nB : ∀ b, FB b → w0.heap.size ≤ b
  ap : ∀ b, Fs b → ¬ FB b
  held : Held D A no lst k
  v : VOk V A no lst
  siz : V.size = size
  fat : Fat size A
  log : NLog w0 w p q V D (fun b => Fs b ∨ FB b)
  evs : evsOf A lst = S ++ B
  durs : S.length ≤ dur A k
  live : dead = false → Alive D
  tot : (S ++ B).length ≤ N
theorem LSt.grew {w0 w w' : World} {p : Nat} {size : Int} {q : Nat} {sa : Option Addr} {sn sc : Nat} {ba : Option Addr} {bn bc : Nat} {N : Nat} {dead : Bool} {S B : List EventV} {Fs FB : Nat → Prop} {V : LogV} {D : DiskV} {A : Segs} {no : Int} {lst : List EventV} {k : Nat}
    (h : LSt w0 w p size q sa sn sc ba bn bc N dead S B Fs FB V D A no lst k) (hk : Grew w w') : LSt w0 w' p size q sa sn sc ba bn bc N dead S B Fs FB V D A no lst k :=
  ⟨h.hS.grew hk, h.hB.grew hk, h.nS, h.nB, h.ap, h.held, h.v, h.siz, h.fat, h.log.grew hk, h.evs, h.durs, h.live, h.tot⟩

theorem evsOf_take (A : Segs) (l : List EventV) (q : Nat) : evsOf A (l.take q) = (evsOf A l).take (((A.map (·.2)).flatten).length + q) := by
  unfold evsOf
  generalize (A.map (·.2)).flatten = a
  rw [List.take_length_add_append]

theorem SeglogLasts {n size : Int} {la : Option Addr} {ln lc : Nat} {l : List Act22} {w : World} {Dl : Nat → Prop} (hn : I64 n) (ha : Row cAct22 64 w Dl la ln l) (hw : Laid w) :
    Calls Tryz.prog F_law22_SeglogLasts #[.int .i64 n, .int .i64 size, .slice la ln lc] w (Ok fun v w' => v = .bool true ∧ Grew w w') := by
  have ha0 := ha.len
  refine L_law22_SeglogLasts (PC.ok (law22_Long ha) ?_)
  rintro _ _ ⟨⟨t, rfl, hsh⟩, rfl⟩
  refine ⟨_, rfl, PIf.mk (fun h => fin22 hw (Keep.refl _)) (fun hlong => PC.ok (law22_Size hn) ?_)⟩
  obtain ⟨hl120, hl600, hall⟩ := hsh hlong
  rintro _ _ ⟨rfl, rfl⟩
  have hp := pick_range (k := n) (n := 16384) (by omega)
  generalize pick n 16384 = nn at hp
  refine ⟨_, rfl, PC.ok (new_ok (Keep.refl w) (by omega) (by omega)) ?_⟩
  rintro _ w1 ⟨p, rfl, h1, -⟩
  replace h1 := h1.mono (Y := no) fun _ h => h.elim
  generalize Int.toNat (64 + nn) = NN at h1
  refine ⟨_, _, rfl, PIf.ff rfl (eq_nil_ptr uD ⟨_, rfl, PIf.ff rfl (PC.ok (log_Open (size := size) hw h1) ?_)⟩)⟩
  rintro _ w2 (⟨hne, rfl, h2, -⟩ | ⟨h0, q, a2, n2, c2, G2, rfl, ho2, h2, -, -, -, -⟩)
  · exact ⟨_, _, _, _, _, rfl, PIf.tt (by simpa using hne) (eq_nil_ptr uL ⟨_, rfl, PIf.tt rfl (fin22 hw h2.gr)⟩)⟩
  obtain ⟨hwell, hout⟩ := well_new h0
  have hsz : (logOpen (newD NN) size).V.size = size := by
    rcases open_new NN size with h | ⟨-, h1, h2, h3, h4, h5, h6, h7⟩
    · exact absurd h0 (by omega)
    · exact h4
  generalize logOpen (newD NN) size = r0 at h2 hwell hsz
  refine ⟨_, _, _, _, _, rfl, PIf.ff rfl (eq_nil_ptr uL ⟨_, rfl, PIf.ff rfl ⟨fun m lp sa sn sc ba bn bc nx dead i w' => ∃ (j q N : Nat) (S B : List EventV) (Fs FB : Nat → Prop) (V : LogV) (D : DiskV) (A : Segs) (no' : Int) (lst : List EventV) (k : Nat),
      lp = some ⟨q, 0, none⟩ ∧ i = j ∧ j ≤ ln ∧ m = ln - j ∧ nx = ((N + 1 : Nat) : Int) ∧ N ≤ evTotal (l.take j) ∧ LSt w w' p size q sa sn sc ba bn bc N dead S B Fs FB V D A no' lst k,
    ⟨_, 0, q, 0, [], [], fun _ => False, fun _ => False, r0.V, r0.D, [], 1, [], 0, rfl, rfl, Nat.zero_le _, rfl, rfl, Nat.zero_le _, ⟨Lst.nil w2, Lst.nil w2, (fun _ h => h.elim), (fun _ h => h.elim), (fun _ h => h.elim), hwell.held, hwell.v, hsz, (fun y hy => by cases hy), h2.mono fun b hb => hb.elim (fun h => h.elim) fun h => h.elim, rfl, Nat.zero_le _, fun _ => hwell.alive, Nat.zero_le _⟩⟩, ?_⟩⟩)⟩
  rintro m lp sa sn sc ba bn bc nx dead i _ w3 ⟨j, q, N, S, B, Fs, FB, V, D, A, no', lst, k, rfl, rfl, hj, rfl, rfl, hN, hSt⟩
  refine PIf.dec (fun hlt => ?_) (fun hge => fin22 hw hSt.log.gr)
  obtain ⟨b, off, x, es, rfl, _, _, hx, hc, a1, n1, c1, b1, m1, d1, rfl, hr1, hr2, hki, hni, -⟩ := (ha.grew hSt.log.gr).atN (i := j) (by omega)
  have hn1 := hr1.len
  have hxm := List.mem_of_getElem? hx
  obtain ⟨hx200, -, -⟩ := hall x hxm
  have htot := evTotal_take l hx
  have htle := evTotal_le l (j + 1)
  refine ⟨b, off, rfl, by omega, by omega, _, _, _, _, _, _, _, _, hc 0 (by decide), hc 1 (by decide), hc 2 (by decide), hc 3 (by decide), PA.mk fun w4 k4 s4 g4 => ?_⟩
  refine storeAll [.int .i64 x.kind, .int .i64 x.n, .slice a1 n1 c1, .slice b1 m1 d1] g4 rfl fun w5 k5 s5 g5 => ?_
  have k35 : Grew w3 w5 := k4.new k5 fun b hb => .inr (by omega)
  have hSt5 := hSt.grew k35
  have z35 := k35.size
  have z3 := hSt.log.gr.size
  have hz5 : w3.heap.size < w5.heap.size := by omega
  have hne : V.segs ≠ [] := by rw [hSt.v.segs]; simp
  have hSl : S.length + B.length ≤ 600 := by have := hSt.tot; rw [List.length_append] at this; omega
  refine ⟨_, cell_at g5 rfl, PIf.eqI (fun h0 => ?_) (fun h0 => PIf.eqI (fun h1 => ?_) (fun h1 => PIf.eqI (fun h3 => ?_) (fun h3 => ?_)))⟩
  /- Append -/
  · refine ⟨fun m nx xa xn xc kk w' => ∃ (u : Nat) (xs : List EventV) (FX : Nat → Prop), kk = u ∧ u ≤ n1 ∧ m = n1 - u ∧ nx = ((N + 1 + u : Nat) : Int) ∧ xs.length = u ∧ (∀ e ∈ xs, e.Ok) ∧ Lst cEv 39 FX w' xa xn xc xs ∧ (∀ b, FX b → w5.heap.size ≤ b) ∧ Grew w5 w',
      ⟨_, 0, [], fun _ => False, rfl, Nat.zero_le _, rfl, rfl, rfl, by simp, Lst.nil w5, (fun _ h => h.elim), Keep.refl _⟩, ?_⟩
    rintro m nx xa xn xc kk _ w6 ⟨u, xs, FX, rfl, hu, rfl, rfl, hxl, hxo, hoX, hFX, k6⟩
    have g6 := k6.get g5 id
    refine ⟨_, _, _, cell_at g6 rfl, PIf.dec (fun hlt => ?_) (fun hge => ?_)⟩
    · have oe := evSome_ok (n := ((N + 1 + u : Nat) : Int)) (by omega) (by omega)
      refine PC.ok (law22_some (by omega) (by omega)) ?_
      rintro _ w7 ⟨a7, n7, c7, F7, rfl, ho7, hF7, k7⟩
      have hr7 : Row cI64 8 w7 F7 a7 n7 (evSome ((N + 1 + u : Nat) : Int)).deps := ho7.row (by decide) (by simp [evSome, Big])
      refine ⟨_, _, _, _, _, _, _, _, _, _, _, _, rfl, papp (hoX.grew k7) slEv (x := evSome ((N + 1 + u : Nat) : Int)) (D := F7) ⟨a7, n7, c7, rfl, hr7, oe.1⟩ (fun b hb => ⟨ho7.dom b hb, fun hc => by have := hoX.dom b (hoX.self b hc); have := hF7 b hb; omega⟩) (by rw [hxl]; unfold Big; omega) (by rw [hxl]; unfold maxLen; omega) fun a8 c8 w8 F8 ho8 hk8 hF8 _ => ?_⟩
      refine ⟨_, _, _, rfl, n1 - (u + 1), by omega, u + 1, xs ++ [evSome ((N + 1 + u : Nat) : Int)], F8, wrap_succ (by omega), by omega, rfl, wrap_succ (by omega), by simp [hxl], ?_, ho8, ?_, (k6.then k7).new hk8 fun b hb => .inr (hFX b (hoX.self b hb))⟩
      · intro e he
        rcases List.mem_append.1 he with h' | h'
        · exact hxo e h'
        · simp at h'; subst h'; exact oe.1
      · intro b hb
        have := k6.size; have := k7.size
        rcases hF8 b hb with h' | h' | h'
        · exact hFX b h'
        · have := hF7 b h'; omega
        · omega
    · obtain rfl : u = n1 := by omega
      have hSt6 := hSt5.grew k6
      have hN6 : NLog w w6 p q V D (fun b => (Fs b ∨ FB b) ∨ FX b) := hSt5.log.add k6 fun b hb => ⟨hFX b hb, hoX.dom b hb⟩
      have hrX : Row cEv 96 w6 FX xa xn xs := hoX.row (by decide) (by unfold Big; omega)
      refine PC.ok (log_Append hw hN6 hne hrX hoX.dom (by omega)) ?_
      rintro _ w7 ⟨rfl, hN7, k7⟩
      have hla : dead = false → Alive (logAppend V D xs).2.2 := fun hd => (hSt.live hd).lay xs
      have hap := held_append (x := xs) hSt.held hSt.v hxo (by omega) hSt.log.ok (by rw [hSt.siz]; exact hSt.fat)
      generalize logAppend V D xs = r at hN7 hla hap ⊢
      obtain ⟨A', no'', lst', k', hH', hV', hd', he', hs', hf', -⟩ := hap
      rw [hSt.siz] at hs' hf'
      rw [hSt.evs] at he'
      have hd2 := hSt.durs
      have hS7 := hSt6.hS.keep k7 fun b hb hn => hn (.inl (.inl hb))
      have hB7 := hSt6.hB.keep k7 fun b hb hn => hn (.inl (.inr hb))
      have hX7 := hoX.keep k7 fun b hb hn => hn (.inr hb)
      have hBd := hSt5.hB.dom
      refine ⟨_, rfl, PIf.eqI (fun h0 => ?_) (fun hne => ?_)⟩
      · rw [if_pos h0] at he'
        have hrX7 : Row cEv 96 w7 FX xa xn xs := hX7.row (by decide) (by unfold Big; omega)
        refine appRow' hB7 slEv hrX7 (fun e => hX7.nil0 e) (fun b hb => ⟨hX7.dom b hb, fun hc => by have := hBd b (hB7.self b hc); have := hFX b hb; omega⟩) (by unfold Big; omega) (by unfold maxLen; omega) fun a8 c8 w8 F8 ho8 hk8 hF8 _ => ?_
        have z57 := k6.size; have z7 := k7.size
        refine ⟨_, _, _, rfl, ln - (j + 1), by omega, j + 1, q, N + u, S, B ++ xs, Fs, F8, r.2.1, r.2.2, A', no'', lst', k', rfl, wrap_succ (by omega), by omega, rfl, by congr 1; omega, by omega, ?_⟩
        refine ⟨hS7.keep hk8 fun b hb hc => hSt.ap b hb (hB7.self b hc), ho8, hSt.nS, fun b hb => ?_, fun b hb hc => ?_, hH', hV', hs', hf', ?_, by rw [he']; simp, by omega, hla, by have := hSt.tot; simp at this ⊢; omega⟩
        · rcases hF8 b hb with h' | h' | h'
          · exact hSt.nB b h'
          · have := hFX b h'; omega
          · omega
        · have := hSt5.hS.dom b hb
          rcases hF8 b hc with h' | h' | h'
          · exact hSt.ap b hb h'
          · have := hFX b h'; omega
          · omega
        · refine hN7.turn hk8 (fun b hb => ⟨.inl (.inr (hB7.self b hb)), hSt.nB b (hB7.self b hb)⟩) fun b hb => ?_
          rcases hb with hb | hb
          · exact ⟨.inl (.inl (.inl hb)), by have := hS7.dom b hb; have := hk8.size; omega⟩
          · refine ⟨?_, ho8.dom b hb⟩
            rcases hF8 b hb with h' | h' | h'
            · exact .inl (.inl (.inr h'))
            · exact .inl (.inr h')
            · exact .inr h'
      · rw [if_neg hne] at he'
        exact ⟨ln - (j + 1), by omega, j + 1, q, N + u, S, B, Fs, FB, r.2.1, r.2.2, A', no'', lst', k', rfl, wrap_succ (by omega), by omega, rfl, by congr 1; omega, by omega, ⟨hS7, hB7, hSt.nS, hSt.nB, hSt.ap, hH', hV', hs', hf', hN7.mono fun b hb => .inl hb, he', by omega, hla, by have := hSt.tot; omega⟩⟩
  /- Sync -/
  · refine PC.ok (log_Sync hw hSt5.log hne) ?_
    rintro _ w6 ⟨rfl, hN6, k6⟩
    rw [Held.lastNm hSt.v] at hN6 ⊢
    have hla : dead = false → Alive (D.sync (segNm no')).2 := fun hd => ((hSt.live hd).sync (segNm no')).1
    have hsy := held_sync hSt.held
    generalize D.sync (segNm no') = r at hN6 hla hsy ⊢
    have hS6 := hSt5.hS.keep k6 fun b hb hn => hn (.inl hb)
    have hB6 := hSt5.hB.keep k6 fun b hb hn => hn (.inr hb)
    refine ⟨_, rfl, PIf.eqI (fun h0 => ?_) (fun hne => ?_)⟩
    · rcases hsy with ⟨-, hH⟩ | ⟨hc, -⟩
      · have hrB : Row cEv 96 w6 FB ba bn B := hB6.row (by decide) (by unfold Big; omega)
        refine appRow' hS6 slEv hrB (fun e => hB6.nil0 e) (fun b hb => ⟨hB6.dom b hb, fun hc => hSt.ap b (hS6.self b hc) hb⟩) (by unfold Big; omega) (by unfold maxLen; omega) fun a7 c7 w7 F7 ho7 hk7 hF7 _ => ?_
        refine ⟨_, _, _, rfl, ln - (j + 1), by omega, j + 1, q, N, S ++ B, [], F7, fun _ => False, V, r.2, A, no', lst, lst.length, rfl, wrap_succ (by omega), by omega, rfl, rfl, by omega, ?_⟩
        have z6 := k6.size
        refine ⟨ho7, Lst.nil w7, fun b hb => ?_, (fun _ h => h.elim), (fun _ _ h => h), hH, hSt.v, hSt.siz, hSt.fat, ?_, by rw [hSt.evs, List.append_nil], ?_, hla, by rw [List.append_nil]; exact hSt.tot⟩
        · rcases hF7 b hb with h' | h' | h'
          · exact hSt.nS b h'
          · exact hSt.nB b h'
          · omega
        · refine hN6.turn hk7 (fun b hb => ⟨.inl (hS6.self b hb), hSt.nS b (hS6.self b hb)⟩) fun b hb => ?_
          rcases hb with hb | hb
          · refine ⟨?_, ho7.dom b hb⟩
            rcases hF7 b hb with h' | h' | h'
            · exact .inl (.inl h')
            · exact .inl (.inr h')
            · exact .inr h'
          · exact hb.elim
        · rw [← hSt.evs]; unfold evsOf dur; simp
      · exact absurd h0 hc
    · rcases hsy with ⟨hc, -⟩ | ⟨-, hH⟩
      · exact absurd hc hne
      · exact ⟨ln - (j + 1), by omega, j + 1, q, N, S, B, Fs, FB, V, r.2, A, no', lst, k, rfl, wrap_succ (by omega), by omega, rfl, rfl, by omega, ⟨hS6, hB6, hSt.nS, hSt.nB, hSt.ap, hH, hSt.v, hSt.siz, hSt.fat, hN6, hSt.evs, hSt.durs, hla, hSt.tot⟩⟩
  /- Fuse -/
  · refine ⟨_, cell_at g5 rfl, PC.ok (hSt5.log.fuse hni) ?_⟩
    rintro _ w6 ⟨rfl, hN6, k6⟩
    exact ⟨rfl, ln - (j + 1), by omega, j + 1, q, N, S, B, Fs, FB, V, D.fuse x.n, A, no', lst, k, rfl, wrap_succ (by omega), by omega, rfl, rfl, by omega, ⟨hSt5.hS.keep k6 fun b hb hn => hn (.inl hb), hSt5.hB.keep k6 fun b hb hn => hn (.inr hb), hSt.nS, hSt.nB, hSt.ap, hSt.held.files rfl, hSt.v, hSt.siz, hSt.fat, hN6, hSt.evs, hSt.durs, (fun h => by cases h), hSt.tot⟩⟩
  /- the rest -/
  · have stay : ∃ m36, m36 < ln - j ∧ ∃ (j' q' N' : Nat) (S B : List EventV) (Fs FB : Nat → Prop) (V : LogV) (D : DiskV) (A : Segs) (no' : Int) (lst : List EventV) (k : Nat),
        (some ⟨q, 0, none⟩ : Option Addr) = some ⟨q', 0, none⟩ ∧ IntKind.wrap .i64 ((j : Int) + 1) = j' ∧ j' ≤ ln ∧ m36 = ln - j' ∧ ((N + 1 : Nat) : Int) = ((N' + 1 : Nat) : Int) ∧ N' ≤ evTotal (l.take j') ∧ LSt w w5 p size q' sa sn sc ba bn bc N' dead S B Fs FB V D A no' lst k :=
      ⟨ln - (j + 1), by omega, j + 1, q, N, S, B, Fs, FB, V, D, A, no', lst, k, rfl, wrap_succ (by omega), by omega, rfl, rfl, by omega, hSt5⟩
    refine ⟨fun t w' => t = decide (x.kind = 2 ∨ x.kind = 4) ∧ w5 = w', PIf.eqI (fun h2 => ⟨by simp [h2], rfl⟩) (fun h2 => ⟨by simp [h2]; rfl, rfl⟩), ?_⟩
    rintro _ _ _ ⟨rfl, rfl⟩
    refine PIf.dec (fun h24 => ?_) (fun _ => stay)
    refine ⟨fun w' => w5 = w' ∧ (x.kind = 4 → dead = false), ⟨_, cell_at g5 rfl, PIf.eqI (fun h4 => PIf.mk (fun hd => stay) (fun hd => ⟨rfl, fun _ => hd⟩)) (fun h4 => ⟨rfl, fun h => absurd h h4⟩)⟩, ?_⟩
    rintro _ _ ⟨rfl, hk4⟩
    let X5 : Nat → Prop := fun b => (Fs b ∨ FB b) ∨ b = w3.heap.size
    have hN5 : NLog w w5 p q V D X5 := hSt.log.add k35 fun b hb => by subst hb; omega
    refine ⟨fun d' w' => d' = false ∧ ∃ (D1 : DiskV) (q' k' : Nat), NDisk w w' p D1 X5 ∧ Lst cEv 39 Fs w' sa sn sc S ∧ Lst cEv 39 FB w' ba bn bc B ∧ w5.heap.size ≤ w'.heap.size ∧ w'.heap[w3.heap.size]? = some (.cells #[.int .i64 x.kind, .int .i64 x.n, .slice a1 n1 c1, .slice b1 m1 d1] 51 (0, 0)) ∧
      (logOpen D1 size).no = 0 ∧ (logOpen D1 size).out = evsOf A (lst.take q') ∧ VOk (logOpen D1 size).V A no' (lst.take q') ∧ (logOpen D1 size).V.size = size ∧ Held (logOpen D1 size).D A no' (lst.take q') k' ∧ Alive (logOpen D1 size).D ∧ k ≤ q' ∧ q' ≤ lst.length ∧ (x.kind = 2 → k' = q') ∧ (x.kind ≠ 2 → q' = lst.length ∧ k' = k), ?_, ?_⟩
    · refine ⟨_, cell_at g5 rfl, PIf.eqI (fun h2 => ⟨_, cell_at g5 rfl, PC.ok (hN5.disk.crash hni) ?_⟩) (fun h2 => ?_)⟩
      · rintro _ w6 ⟨rfl, hD6, k6⟩
        obtain ⟨q', e1, e2, e3, e4, e5, e6, e7, e8⟩ := open_crash (size := size) (keep := x.n) hSt.held
        exact ⟨rfl, rfl, _, q', q', hD6, hSt5.hS.keep k6 fun b hb hn => hn (.inl (.inl hb)), hSt5.hB.keep k6 fun b hb hn => hn (.inl (.inr hb)), k6.size, k6.get g5 fun hn => hn (.inr rfl), e3, e4, e5, e6, e7, e8, e1, e2, fun _ => rfl, fun h => absurd h2 h⟩
      · have h4 : x.kind = 4 := h24.resolve_left h2
        have hd := hk4 h4
        obtain ⟨e1, e2, e3, e4, -, e6, e7, -⟩ := open_anew (size := size) hSt.held (hSt.live hd)
        exact ⟨hd, D, lst.length, k, hN5.disk, hSt5.hS, hSt5.hB, Nat.le_refl _, g5, e1, by rw [List.take_length]; exact e2, by rw [List.take_length]; exact e3, e4, by rw [List.take_length]; exact e6, e7, hSt.held.kl, Nat.le_refl _, fun h => absurd h h2, fun _ => ⟨rfl, rfl⟩⟩
    · rintro _ _ w6 ⟨rfl, D1, q', k', hD6, hS6, hB6, z6, g6, o1, o2, o3, o4, o5, o6, hkq, hql, hk2, hk4'⟩
      refine PC.ok (log_Open (size := size) hw hD6) ?_
      rintro _ w7 (⟨hne, -⟩ | ⟨-, q7, a7, n7, c7, G7, rfl, ho7, hN7, k7, hG7, -, -⟩)
      · exact absurd o1 hne
      rw [o2] at ho7
      obtain ⟨y1, y2, y3, y4, -, y6, y7, -⟩ := open_anew (size := size) o5 o6
      generalize logOpen D1 size = r1 at hN7 o3 o4 o5 o6 y1 y2 y3 y4 y6 y7
      have hn7 := ho7.len (by decide)
      have hS7 := hS6.keep k7 fun b hb hn => hn (.inl (.inl hb))
      have hB7 := hB6.keep k7 fun b hb hn => hn (.inl (.inr hb))
      have g7 := k7.get g6 fun hn => hn (.inr rfl)
      have hsn := hS7.len (by decide)
      have hbn := hB7.len (by decide)
      have hgot := evsOf_take A lst q'
      rw [hSt.evs] at hgot
      have hgl : (evsOf A (lst.take q')).length = ((A.map (·.2)).flatten).length + q' := by unfold evsOf; simp; omega
      have hel := congrArg List.length hSt.evs
      have hel2 : ((A.map (·.2)).flatten).length + lst.length = S.length + B.length := by
        rw [List.length_append] at hel; rw [← hel]; unfold evsOf; simp
      have hdS := hSt.durs
      unfold dur at hdS
      have hrS : Row cEv 96 w7 Fs sa sn S := hS7.row (by decide) (by unfold Big; omega)
      refine ⟨_, _, _, _, _, rfl, PIf.ff rfl (eq_nil_ptr uL ⟨_, rfl, PIf.ff rfl (PC.ok (kit_CopyEvents hrS fun e he => ?_) ?_)⟩)⟩
      · have := (hSt.held.evs e (by rw [hSt.evs]; exact List.mem_append_left _ he)).2
        omega
      rintro _ w8 ⟨a8, n8, c8, F8, rfl, ho8, k8, hF8⟩
      have hB8 := hB7.grew k8
      have hrB : Row cEv 96 w8 FB ba bn B := hB8.row (by decide) (by unfold Big; omega)
      have hn8 := ho8.len (by decide)
      refine ⟨_, _, _, rfl, appRow' (lst_read ho8) slEv hrB (fun e => hB8.nil0 e) (fun b hb => ⟨hB8.dom b hb, fun hc => by have := hF8 b (ho8.self b hc); have := hB7.dom b hb; omega⟩) (by unfold Big; omega) (by unfold maxLen; omega) fun a9 c9 w9 F9 ho9 hk9 hF9 _ => ?_⟩
      have hn9 := ho9.len (by decide)
      have hc9 := ho9.cap_le
      have hN8 : NLog w w8 p q7 r1.V r1.D (fun b => (X5 b ∨ G7 b) ∨ F8 b) := hN7.add k8 fun b hb => ⟨hF8 b hb, ho8.dom b hb⟩
      have z7 := k7.size; have z8 := k8.size; have z9 := hk9.size
      have zw7 := hN7.gr.size
      have hN9 : NLog w w9 p q7 r1.V r1.D (fun b => X5 b ∨ G7 b) := (hN8.other hk9 fun b hb => ⟨.inr (ho8.self b hb), by have := hF8 b (ho8.self b hb); omega⟩).mono fun b hb => .inl hb
      have k79 : Grew w7 w9 := k8.new hk9 fun b hb => .inr (hF8 b (ho8.self b hb))
      have g9 := k79.get g7 id
      have ho79 := ho7.grew k79
      have hr79 : Row cEv 96 w9 G7 a7 n7 (evsOf A (lst.take q')) := lst_evs ho79 (by omega)
      have hr9 : Row cEv 96 w9 F9 a9 (n8 + bn) (S ++ B) := ho9.row (by decide) (by simp; unfold Big; omega)
      rw [List.length_append] at hn9
      refine ⟨_, _, _, rfl, fun w' => Grew w9 w', ?_, ?_⟩
      · refine PIf.dec (fun h => by omega) (fun _ => PIf.dec (fun h => by omega) (fun _ => ⟨by omega, by omega, ?_⟩))
        rw [Int.toNat_natCast]
        refine PC.ok (kit_SameEvents hr79 (hr9.take (m := n7) (by omega))) ?_
        rintro _ w10 ⟨rfl, k10⟩
        have hsame : evsOf A (lst.take q') = (S ++ B).take n7 := by rw [hn7, hgl]; exact hgot
        refine ⟨_, rfl, PIf.ff (by simp [← hsame]) ⟨_, cell_at (k10.get g9 id) rfl, PIf.eqI (fun h4 => PIf.neI (fun hne => ?_) (fun _ => k10)) (fun _ => k10)⟩⟩
        have := (hk4' (by rw [h4]; decide)).1
        omega
      · rintro _ w10 k10
        have hN10 := hN9.grew k10
        refine PC.ok (hN10.open2 (size := size) hw y1) ?_
        rintro _ w11 ⟨q11, a11, n11, c11, G11, rfl, ho11, hN11, k11, hG11⟩
        rw [y2] at ho11
        have ho711 := (ho79.grew k10).keep k11 fun b hb hn => hn (.inr hb)
        have g11 := k11.get (k10.get g9 id) fun hn => hn (.inl (.inr rfl))
        have hS11 := ((hS7.grew k79).grew k10).keep k11 fun b hb hn => hn (.inl (.inl (.inl hb)))
        have hB11 := ((hB7.grew k79).grew k10).keep k11 fun b hb hn => hn (.inl (.inl (.inr hb)))
        refine ⟨_, _, _, _, _, rfl, PIf.ff rfl (PC.ok (kit_SameEvents (lst_evs ho11 (by omega)) (lst_evs ho711 (by omega))) ?_)⟩
        rintro _ w12 ⟨rfl, k12⟩
        have hN12 := hN11.grew k12
        refine ⟨_, rfl, PIf.ff (by simp) ⟨_, cell_at (k12.get g11 id) rfl, PIf.eqI (fun h2 => ?_) (fun h2 => ?_)⟩⟩
        · obtain rfl := hk2 h2
          refine ⟨ln - (j + 1), by omega, j + 1, q7, N, evsOf A (lst.take k'), [], G7, fun _ => False, r1.V, _, A, no', lst.take k', k', rfl, wrap_succ (by omega), by omega, rfl, rfl, by omega, ⟨lst_read (ho711.grew k12), Lst.nil w12, fun b hb => by have := hG7 b hb; omega, (fun _ h => h.elim), (fun _ _ h => h), y6, o3, o4, hSt.fat, hN12.mono fun b hb => ?_, by rw [List.append_nil], ?_, fun _ => y7, ?_⟩⟩
          · exact hb.elim (fun h => .inl (.inr h)) fun h => h.elim
          · rw [hgl]; unfold dur; omega
          · rw [List.append_nil, hgl]; have := hSt.tot; rw [List.length_append] at this; omega
        · obtain ⟨rfl, rfl⟩ := hk4' h2
          rw [List.take_length] at o3 y6
          exact ⟨ln - (j + 1), by omega, j + 1, q7, N, S, B, Fs, FB, r1.V, _, A, no', lst, k', rfl, wrap_succ (by omega), by omega, rfl, rfl, by omega, ⟨hS11.grew k12, hB11.grew k12, hSt.nS, hSt.nB, hSt.ap, y6, o3, o4, hSt.fat, hN12.mono fun b hb => .inl (.inl (.inl hb)), hSt.evs, hSt.durs, fun _ => y7, hSt.tot⟩⟩
end Go.Proofs.YtpbpjojdfcdbbaaGreatDoor

/- what the statements share: numbers and events of our own, spoilt -/
namespace Go.Lift
open Go
set_option linter.unusedVariables false
/-- another slice, maybe of the same block -/
theorem Own.beside {w w' : World} {e : TypeId} {k : Nat} {a a0 : Option Addr} {n c n0 c0 : Nat} {cs cs0 cs0' : List Value} (h : Own w e k a n c cs) (h0 : Own w e k a0 n0 c0 cs0) (h0' : Own w' e k a0 n0 c0 cs0') (hk : Keep (fun b => blk a0 = some b) w w') : ∃ cs', Own w' e k a n c cs' := by
  by_cases hb : blk a = blk a0
  · rcases h.row.2 with ⟨he, hn⟩ | ⟨g, cp, cur, he, hz, hg, hnc, hm, hs, ht⟩
    · simp only [Value.slice.injEq] at he
      obtain ⟨rfl, rfl, rfl⟩ := he
      exact ⟨[], Own.nil _ _ _⟩
    · simp only [Value.slice.injEq] at he
      obtain ⟨rfl, -, rfl⟩ := he
      rcases h0.cases with ⟨rfl, _⟩ | ⟨g0, cur0, rfl, hg0, _, hs0, _⟩
      · cases hb
      rcases h0'.cases with ⟨ha, _⟩ | ⟨g1, cur1, ha, hg1, _, hs1, _⟩
      · cases ha
      cases ha
      simp only [blk, Option.some.injEq] at hb
      subst hb
      rw [hg] at hg0
      cases hg0
      have hs2 : cur1.size = c * k := by rw [hs1, ← hs0, hs]
      refine ⟨cur1.toList.take (n * k), ⟨⟨?_, .inr ⟨g, c, cur1, rfl, hz, hg1, hnc, hm, hs2, rfl⟩⟩⟩⟩
      have : n * k ≤ c * k := Nat.mul_le_mul_right _ hnc
      simp; omega
  · exact ⟨cs, h.keep hk (notIn_blk.2 fun b h1 h2 => hb (h1.trans h2.symm))⟩
end Go.Lift
namespace Go.Proofs.YtpbpjojdfcdbbaaGreatDoor
open Go.Lift
set_option linter.unusedVariables false
set_option maxRecDepth 20000

theorem kit_SpoilIntsO {w : World} {a : Option Addr} {n c : Nat} {cs : List Value} (h : Own w 3 1 a n c cs) (hb : n * 8 ≤ Big) :
    Calls Tryz.prog F_kit_SpoilInts #[.slice a n c] w (Ok fun v w' => v = .tuple #[] ∧ Keep (fun b => blk a = some b) w w' ∧ w'.heap.size = w.heap.size ∧ ∃ cs', Own w' 3 1 a n c cs') := by
  unfold Big at hb
  refine L_kit_SpoilInts ⟨fun k i w' => ∃ (j : Nat) (cs : List Value), i = (j : Int) ∧ j ≤ n ∧ k = n - j ∧ Own w' 3 1 a n c cs ∧ Keep (fun b => blk a = some b) w w' ∧ w'.heap.size = w.heap.size, ⟨_, 0, _, rfl, by omega, rfl, h, Keep.refl _, rfl⟩, ?_⟩
  rintro k i _ w1 ⟨j, cs, rfl, hj, rfl, ho, k1, s1⟩
  refine PIf.dec (fun h1 => ?_) (fun h1 => Ok.mk ⟨rfl, k1, s1, _, ho⟩)
  have hl := ho.length
  rcases ho.cases with ⟨_, rfl, _⟩ | ⟨g, cur, rfl, _⟩
  · omega
  refine PC.ok (φ := fun v w' => v = .int .i64 (IntKind.wrap .i64 (7001 + (IntKind.wrap .i64 (13 * (IntKind.wrap .i64 ((j : Int) + 7)))))) ∧ w1 = w') (L_kit_markInts (Ok.mk ⟨rfl, rfl⟩)) ?_
  rintro _ _ ⟨rfl, rfl⟩
  refine ⟨_, rfl, g, 0, rfl, by omega, by omega, ?_⟩
  rw [Int.toNat_natCast]
  exact ho.set (m := j) (by omega) rfl fun w2 ho2 k2 s2 => ⟨_, by omega, j + 1, _, wrap_succ (by omega), by omega, rfl, ho2, k1.then k2, by omega⟩

theorem kit_SpoilEvents {w : World} {F : Nat → Prop} {a : Option Addr} {n c : Nat} {l : List EventV} (h : Lst cEvO 39 F w a n c l) (hl : l.length ≤ 16777216) :
    Calls Tryz.prog F_kit_SpoilEvents #[.slice a n c] w (Ok fun v w' => v = .tuple #[] ∧ Keep F w w' ∧ w'.heap.size = w.heap.size) := by
  have hn := h.len (by decide)
  obtain ⟨cs, D0, ho, hr, hD0⟩ := h.body
  have hself := h.self
  have start : ∀ i, i < n → ∃ x y z, cs[i * 10 + 3]? = some (.slice x y z) ∧ (∃ ds, Own w 3 1 x y z ds) ∧ (∀ b, blk x = some b → F b ∧ blk a ≠ some b) ∧ y * 8 ≤ Big := fun i hi => by
    obtain ⟨e, he⟩ : ∃ e, l[i]? = some e := ⟨l[i]'(by omega), List.getElem?_eq_getElem (by omega)⟩
    obtain ⟨es, hes, x, y, z, G, rfl, hx, hG, _, hb⟩ := hr.at he
    obtain ⟨ds, D1, hox, _, _⟩ := hx.body
    have hy := hx.len (by decide)
    exact ⟨x, y, z, hes 3 (by decide), ⟨ds, hox⟩, fun b hb => hD0 b (hG b (hx.self b hb)), by rw [hy]; exact hb⟩
  refine L_kit_SpoilEvents ⟨fun k i w' => ∃ (j : Nat) (cs : List Value), i = (j : Int) ∧ j ≤ n ∧ k = n - j ∧ Own w' 39 10 a n c cs ∧ (∀ i, i < n → ∃ x y z, cs[i * 10 + 3]? = some (.slice x y z) ∧ (∃ ds, Own w' 3 1 x y z ds) ∧ (∀ b, blk x = some b → F b ∧ blk a ≠ some b) ∧ y * 8 ≤ Big) ∧
    Keep F w w' ∧ w'.heap.size = w.heap.size, ⟨_, 0, cs, rfl, by omega, rfl, ho, start, Keep.refl _, rfl⟩, ?_⟩
  rintro k i _ w1 ⟨j, cs1, rfl, hj, rfl, ho1, hall, k1, s1⟩
  refine PIf.dec (fun h1 => ?_) (fun h1 => Ok.mk ⟨rfl, k1, s1⟩)
  obtain ⟨x, y, z, hc, ⟨ds, hox⟩, hbx, hy⟩ := hall j (by omega)
  obtain ⟨g, rfl, _, hcell⟩ := ho1.cell hc
  have hl1 := ho1.length
  rw [Int.toNat_natCast]
  refine ⟨g, 0, rfl, by omega, by omega, x, y, z, by rw [Nat.zero_add]; exact hcell, PC.ok (kit_SpoilIntsO hox hy) ?_⟩
  rintro _ w2 ⟨rfl, k2, s2, cs2, hox2⟩
  have ho2 : Own w2 39 10 (some ⟨g, 0, none⟩) n c cs1 := ho1.keep k2 (notIn_blk.2 fun b h1 h2 => (hbx b h2).2 h1)
  refine ⟨rfl, g, 0, rfl, by omega, by omega, ?_⟩
  rw [Nat.add_assoc 0 (j * 10) 2]
  refine ho2.set (m := j * 10 + 2) (by omega) rfl fun w3 ho3 k3 s3 => ⟨g, 0, rfl, by omega, by omega, ?_⟩
  rw [Nat.add_assoc 0 (j * 10) 8]
  refine ho3.set (m := j * 10 + 8) (by rw [List.length_set]; omega) rfl fun w4 ho4 k4 s4 => ⟨_, by omega, j + 1, _, wrap_succ (by omega), by omega, rfl, ho4, fun i hi => ?_, ?_, by omega⟩
  · obtain ⟨x', y', z', hc', ⟨ds', hox'⟩, hbx', hy'⟩ := hall i hi
    obtain ⟨ds2, hx2⟩ := hox'.beside hox hox2 k2
    refine ⟨x', y', z', ?_, ⟨ds2, ?_⟩, hbx', hy'⟩
    · rw [List.getElem?_set_ne (by omega), List.getElem?_set_ne (by omega)]; exact hc'
    · exact (hx2.keep k3 (notIn_blk.2 fun b h1 h2 => (hbx' b h1).2 h2)).keep k4 (notIn_blk.2 fun b h1 h2 => (hbx' b h1).2 h2)
  · exact ((k1.then (k2.mono fun b _ hb => (hbx b hb).1)).then (k3.mono fun b _ hb => hself b hb)).then (k4.mono fun b _ hb => hself b hb)
end Go.Proofs.YtpbpjojdfcdbbaaGreatDoor

/- calls of chapter 22 as arguments -/
namespace Go.Proofs.YtpbpjojdfcdbbaaGreatDoor
open Go.Lift
set_option linter.unusedVariables false
set_option maxRecDepth 20000
end Go.Proofs.YtpbpjojdfcdbbaaGreatDoor

/- SeglogRuns: a log and the document's answer alike, whatever is done -/
namespace Go.Proofs.YtpbpjojdfcdbbaaGreatDoor
open Go.Lift
set_option linter.unusedVariables false
set_option maxRecDepth 20000

section
variable {w0 w w' : World} {p : Nat} {D : DiskV} {o : Option Nat} {V : LogV} {B : Thing} {X : Nat → Prop} {n : Int}
theorem Duo_pok (h : Duo w0 w (plT p o V D) B X) : D.Ok := by
  obtain ⟨F, G, ⟨h0, Fd, h1, _⟩, _⟩ := h; exact h1.ok
theorem NRef.crash (h : NRef w0 w p D X) (hok : (D.crash n).Ok) (hn : I64 n) : Calls Tryz.prog F_ref19_Disk_Crash #[.pointer (some ⟨p, 0, none⟩), .int .i64 n] w (Ok fun v w' => v = .tuple #[] ∧ NRef w0 w' p (D.crash n) X ∧ Keep (Not' X) w w') := by
  obtain ⟨F, h1, h0, h2, h3, h4⟩ := h
  refine Calls.ok (ref_Crash hn h1 h0.fit) ?_
  rintro v w' ⟨F', hv, hD, hev⟩
  have := h2.size; have := hev.keep.size
  exact ⟨hv, ⟨F', hD, hok, h2.new hev.keep fun b hb => .inr (h3 b hb).1, fun b hb => (hev.new b hb).elim (h3 b) fun h => ⟨by omega, fun hx => by have := h4 b hx; omega⟩, fun b hb => by have := h4 b hb; omega⟩, hev.keep.mono fun b _ hb => (h3 b hb).2⟩
theorem NRef.fuse (h : NRef w0 w p D X) (hok : (D.fuse n).Ok) : Calls Tryz.prog F_ref19_Disk_Fuse #[.pointer (some ⟨p, 0, none⟩), .int .i64 n] w (Ok fun v w' => v = .tuple #[] ∧ NRef w0 w' p (D.fuse n) X ∧ Keep (Not' X) w w') := by
  obtain ⟨F, h1, h0, h2, h3, h4⟩ := h
  refine Calls.ok (ref_Fuse h1) ?_
  rintro v w' ⟨hv, hD, hk⟩
  have := hk.size
  exact ⟨hv, ⟨F, hD, hok, h2.new hk fun b hb => .inr (h3 b hb).1, h3, fun b hb => by have := h4 b hb; omega⟩, hk.mono fun b _ hb => (h3 b hb).2⟩
end
theorem uM : Tryz.prog.underlying 111 = some (.pointer 149) := by kernel_rfl
def lp (o : Option Nat) : Value := .pointer (o.map fun q => ⟨q, 0, none⟩)
/-- both, and what says where they are -/
structure PSt (w0 w : World) (b p p' : Nat) (o o' : Option Nat) (size : Int) (V : LogV) (D : DiskV) (X : Nat → Prop) : Prop where
  cell : w.heap[b]? = some (.cells #[.pointer (some ⟨p, 0, none⟩), .pointer (some ⟨p', 0, none⟩), lp o, lp o', .int .i64 size] 113 (0, 0))
  duo : Duo w0 w (plT p o V D) (rlT p' o' V D) X
  xb : X b
  b0 : w0.heap.size ≤ b
  both : o.isSome = o'.isSome
  ne : o.isSome = true → V.segs ≠ []

section
variable {w0 w w' : World} {b p p' : Nat} {o o' : Option Nat} {size : Int} {V : LogV} {D : DiskV} {X Y : Nat → Prop}
theorem PSt.grew (h : PSt w0 w b p p' o o' size V D X) (hk : Grew w w') : PSt w0 w' b p p' o o' size V D X := ⟨hk.get h.cell id, h.duo.grew hk, h.xb, h.b0, h.both, h.ne⟩
theorem PSt.mono (h : PSt w0 w b p p' o o' size V D X) (hx : ∀ b, Y b → X b) (hb : Y b) : PSt w0 w b p p' o o' size V D Y := ⟨h.cell, h.duo.mono hx, hb, h.b0, h.both, h.ne⟩

theorem logOpen_segs {D : DiskV} {size : Int} (h : (logOpen D size).no = 0) : (logOpen D size).V.segs ≠ [] := by
  revert h
  unfold logOpen openEnd
  split
  · rename_i hne; intro h; exact absurd h hne
  split
  · intro h; exact logBegin_segs h
  rename_i hs
  split
  · intro _; exact hs
  · intro _; exact hs
theorem logBegin_segs' {V : LogV} {D : DiskV} (hne : V.segs ≠ []) : (logBegin V D).2.1.segs ≠ [] := by
  by_cases h : (logBegin V D).1 = 0
  · exact logBegin_segs h
  revert h
  unfold logBegin
  rw [if_neg hne]
  dsimp only
  split
  · intro _; exact hne
  unfold begin2
  dsimp only
  split
  · intro _; exact hne
  unfold begin3
  dsimp only
  split
  · intro _; exact hne
  split
  · intro _; exact hne
  · intro h; exact absurd rfl h
theorem logAppend_segs {V : LogV} {D : DiskV} {l : List EventV} (hne : V.segs ≠ []) : (logAppend V D l).2.1.segs ≠ [] := by
  have h1 : (if V.size ≤ V.bytes then logBegin V D else (0, V, D)).2.1.segs ≠ [] := by
    split
    · exact logBegin_segs' hne
    · exact hne
  unfold logAppend
  split
  · exact hne
  split
  · exact hne
  dsimp only
  generalize (if V.size ≤ V.bytes then logBegin V D else (0, V, D)) = b0 at h1 ⊢
  split
  · exact h1
  split
  · exact h1
  · exact h1

theorem lst_ev0 (w : World) : Row cEv 96 w (fun _ => False) none 0 [] := (Lst.nil (c := cEv) (e := 39) w).row (by decide) (by unfold Big; simp)

/-- both opened anew -/
theorem pair_open (hL : Laid w0) (h : PSt w0 w b p p' o o' size V D X) : Calls Tryz.prog F_law22_pair_open #[.pointer (some ⟨b, 0, none⟩)] w (Ok fun v w' =>
    v = .bool true ∧ ∃ q q', PSt w0 w' b p p' q q' size (logOpen D size).V (logOpen D size).D X ∧ Keep (fun x => ¬ X x ∨ x = b) w w') := by
  refine L_law22_pair_open fun w3 d3 => ?_
  have h3 := h.grew d3.keep
  have k3 : Grew w w3 := d3.keep
  refine ⟨b, 0, rfl, _, cell_at h3.cell rfl, b, 0, rfl, _, cell_at h3.cell rfl, PC.ok (h3.duo.popen (size := size) hL) ?_⟩
  rintro _ w11 (⟨hne, rfl, h11, k11⟩ | ⟨h0, q2, a11, n11, c11, G11, rfl, ho11, h11, k11, hG11, hl11⟩)
  · have g11 := k11.get h3.cell fun hn => hn h.xb
    refine ⟨_, _, _, _, _, rfl, fun w16 d16 => ?_⟩
    have g16 := (d16.keep (S := fun _ => False)).get g11 id
    have k16 : Grew w11 w16 := d16.keep
    refine ⟨b, 0, rfl, _, cell_at g16 rfl, b, 0, rfl, _, cell_at g16 rfl, PC.ok ((h11.grew k16).swap.ropen (size := size)) ?_⟩
    rintro _ w24 (⟨-, rfl, h24, k24⟩ | ⟨h0, -⟩)
    · have g24 := k24.get g16 fun hn => hn h.xb
      refine ⟨_, _, _, _, _, rfl, b, 0, rfl, PS.mk g24 (by simp) fun w30 k30 s30 g30 => ⟨b, 0, rfl, PS.mk g30 (by simp) fun w33 k33 s33 g33 => PIf.tt (by simp) (PC.ok (kit_SameEvents (lst_ev0 w33) (lst_ev0 w33)) ?_)⟩⟩
      rintro _ w35 ⟨rfl, k35⟩
      refine ⟨_, rfl, PIf.tt (by simp) (eq_nil_ptr uL ⟨_, rfl, PIf.tt (by simpa using hne) (eq_nil_ptr uM ⟨_, rfl, PC.ok (kit_SpoilEvents (Lst.nil w35) (by simp)) ?_⟩)⟩)⟩
      rintro _ w44 ⟨rfl, k44, -⟩
      have kb : Keep (fun x => x = b) w24 w33 := k30.then k33
      have h33 := (h24.swap.other kb (fun x e => e ▸ h.xb) fun x e => e ▸ h.b0)
      have k44' : Grew w35 w44 := k44.mono fun b _ hb => hb.elim
      refine ⟨rfl, Ok.mk ⟨by simpa using hne, none, none, ⟨(k35.then k44').get g33 id, (h33.grew k35).grew k44', h.xb, h.b0, rfl, fun h => by cases h⟩, ?_⟩⟩
      exact ((((((Grew.keep k3).then (k11.mono fun b _ hb => .inl hb)).grew k16).then (k24.mono fun b _ hb => .inl hb)).then (kb.mono fun b _ hb => .inr hb)).grew k35).grew k44'
    · exact absurd h0 hne
  · have g11 := k11.get h3.cell fun hn => hn h.xb
    refine ⟨_, _, _, _, _, rfl, fun w16 d16 => ?_⟩
    have g16 := (d16.keep (S := fun _ => False)).get g11 id
    have k16 : Grew w11 w16 := d16.keep
    refine ⟨b, 0, rfl, _, cell_at g16 rfl, b, 0, rfl, _, cell_at g16 rfl, PC.ok ((h11.grew k16).swap.ropen (size := size)) ?_⟩
    rintro _ w24 (⟨hne, -⟩ | ⟨-, q3, a24, n24, c24, G24, rfl, ho24, h24, k24, hG24, hl24⟩)
    · exact absurd h0 hne
    have g24 := k24.get g16 fun hn => hn (.inl h.xb)
    have hb11 : ¬ G11 b := fun hg => by have := hG11 b hg; have := lt_of_get h3.cell; omega
    have hb24 : ¬ G24 b := fun hg => by have := hG24 b hg; have := lt_of_get g16; omega
    refine ⟨_, _, _, _, _, rfl, b, 0, rfl, PS.mk g24 (by simp) fun w30 k30 s30 g30 => ⟨b, 0, rfl, PS.mk g30 (by simp) fun w33 k33 s33 g33 => PIf.tt (by simp) ?_⟩⟩
    have kb : Keep (fun x => x = b) w24 w33 := k30.then k33
    have ho11' : Lst cEvO 39 G11 w33 a11 n11 c11 (logOpen D size).out := ((ho11.grew k16).keep k24 fun x hx hn => hn (.inr hx)).keep kb fun x hx e => hb11 (e ▸ hx)
    have ho24' := ho24.keep kb fun x hx e => hb24 (e ▸ hx)
    have rA : Row cEv 96 w33 G11 a11 n11 (logOpen D size).out := cEvO.row (ho11'.row (by decide) (by unfold Big; omega))
    have rB : Row cEv 96 w33 G24 a24 n24 (logOpen D size).out := cEvO.row (ho24'.row (by decide) (by unfold Big; omega))
    refine PC.ok (kit_SameEvents rA rB) ?_
    rintro _ w35 ⟨rfl, k35⟩
    refine ⟨_, rfl, PIf.tt (by simp) (eq_nil_ptr uL ⟨_, rfl, PIf.tt (by simp) (eq_nil_ptr uM ⟨_, rfl, PC.ok (kit_SpoilEvents (ho11'.grew k35) hl11) ?_⟩)⟩)⟩
    rintro _ w44 ⟨rfl, k44, -⟩
    have hg11 := h11.gr.size
    have h33 := h24.swap.other kb (fun x e => .inl (.inl (e ▸ h.xb))) fun x e => e ▸ h.b0
    have h44 := (h33.grew k35).other k44 (fun x hx => .inl (.inr hx)) fun x hx => by have := hG11 x hx; have := h3.duo.gr.size; omega
    refine ⟨rfl, Ok.mk ⟨by simp, some q2, some q3, ⟨k44.get (k35.get g33 id) hb11, h44.mono fun x hx => .inl (.inl hx), h.xb, h.b0, rfl, fun _ => logOpen_segs h0⟩, ?_⟩⟩
    have kX : Keep (fun x => ¬ X x ∨ x = b) w w35 := (((((Grew.keep k3).then (k11.mono fun b _ hb => .inl hb)).grew k16).then (k24.mono fun b _ hb => .inl fun hx => hb (.inl hx))).then (kb.mono fun b _ hb => .inr hb)).grew k35
    refine kX.new k44 fun x hx => .inr (by have := hG11 x hx; have := k3.size; omega)

theorem law22_names {n : Int} (hw : Laid w) (hn : I64 n) : Calls Tryz.prog F_law22_names #[.int .i64 n] w (Ok fun v w' => v = .string (txt (segName n)) ∧ Grew w w') := by
  refine L_law22_names (PC.ok (seg_Name hw hn) ?_)
  rintro _ w1 ⟨rfl, k1⟩
  exact ⟨_, rfl, Ok.mk ⟨rfl, k1⟩⟩
theorem law22_last {q : Nat} {G : Nat → Prop} (hw : Laid w) (h : RLogAt w p q G V) (hne : V.segs ≠ []) : Calls Tryz.prog F_law22_last #[.pointer (some ⟨q, 0, none⟩)] w (Ok fun v w' => v = .string V.last ∧ Grew w w') := by
  obtain ⟨a, n, c, E, g, hr, hE, hn⟩ := h.row
  have hpos : 0 < V.segs.length := List.length_pos_iff.2 hne
  have hm := h.many
  refine L_law22_last ⟨q, 0, rfl, _, _, _, cell_at g rfl, PIf.dec (fun _ => fun w1 d1 => ?_) (fun hc => absurd (show ((n : Nat) : Int) > 0 by omega) hc)⟩
  have k1 : Grew w w1 := d1.keep
  have g1 := k1.get g id
  have hi : IntKind.wrap .i64 ((n : Int) - 1) = ((n - 1 : Nat) : Int) := by rw [wrap_i64 (by unfold I64; omega)]; omega
  obtain ⟨b, off, x, rfl, hx, hxr, hc⟩ := (hr.grew k1).at1 (i := n - 1) (by omega)
  refine ⟨q, 0, rfl, _, _, _, cell_at g1 rfl, q, 0, rfl, _, _, _, cell_at g1 rfl, b, off, rfl, ?_⟩
  rw [hi]
  refine ⟨by omega, by omega, x, hc, PC.ok (law22_names (hw.grew k1) hxr) ?_⟩
  rintro _ w2 ⟨rfl, k2⟩
  refine ⟨_, rfl, Ok.mk ⟨?_, k1.then k2⟩⟩
  unfold LogV.last
  rw [List.getLast?_eq_getElem?, ← hn, hx]; rfl

/-- what an act leaves -/
def DidP (w0 w : World) (b p p' : Nat) (size : Int) (X : Nat → Prop) (v : Value) (w' : World) : Prop :=
  v = .bool true ∧ ∃ o o' V D, PSt w0 w' b p p' o o' size V D X ∧ Keep (fun x => ¬ X x ∨ x = b) w w'

theorem lp_some {o : Option Nat} (h : o.isSome = true) : ∃ q, o = some q := Option.isSome_iff_exists.1 h

theorem pair_do {De Db : Nat → Prop} {kind n : Int} {ea ba : Option Addr} {en ec bn bc : Nat} {evs : List EventV} {bs : List UInt8} (hL : Laid w0) (h : PSt w0 w b p p' o o' size V D X) (hk : I64 kind) (hn : I64 n)
    (he : Row cEv 96 w0 De ea en evs) (hDe : ∀ b, De b → b < w0.heap.size) (hel : evs.length ≤ 200 ∧ ∀ e ∈ evs, e.deps.length ≤ 100) (hb : Row cU8 1 w0 Db ba bn bs) (hDb : ∀ b, Db b → b < w0.heap.size) (hnil : ba = none → bn = 0 ∧ bc = 0) (hbl : bs.length ≤ 1024) :
    Calls Tryz.prog F_law22_pair_do #[.pointer (some ⟨b, 0, none⟩), .agg #[.int .i64 kind, .int .i64 n, .slice ea en ec, .slice ba bn bc]] w (Ok (DidP w0 w b p p' size X)) := by
  have hg0 := h.duo.gr
  have z0 := hg0.size
  have hdomX : ∀ x, X x → x < w.heap.size := by obtain ⟨F, G, _, _, _, _, _, h⟩ := h.duo; exact h
  refine L_law22_pair_do (PA.mk fun w7 k7 s7 g7 => ?_)
  let Z : Nat → Prop := fun x => X x ∨ x = w.heap.size
  have hZlt : ∀ x, Z x → x < w7.heap.size := fun x hx => hx.elim (fun hx => by have := hdomX x hx; omega) fun e => by subst e; exact lt_of_get g7
  have h7 : PSt w0 w7 b p p' o o' size V D Z := ⟨k7.get h.cell id, h.duo.add k7 fun x hx => by subst hx; exact ⟨Nat.le_refl _, lt_of_get g7⟩, .inl h.xb, h.b0, h.both, h.ne⟩
  have hpb : w.heap.size ≠ b := fun e => by have := lt_of_get h.cell; omega
  let C : World → Prop := fun w' => w'.heap[w.heap.size]? = some (.cells #[.int .i64 kind, .int .i64 n, .slice ea en ec, .slice ba bn bc] 51 (0, 0))
  have keepC : ∀ {w1 w2 : World}, C w1 → Keep (fun x => ¬ Z x) w1 w2 → C w2 := fun hc hk => hk.get hc fun hn => hn (.inr rfl)
  have growC : ∀ {w1 w2 : World}, C w1 → Grew w1 w2 → C w2 := fun hc hk => hk.get hc id
  /- the ends -/
  have toX : ∀ {w1 : World}, Keep (fun x => ¬ Z x ∨ x = b) w7 w1 → Keep (fun x => ¬ X x ∨ x = b) w w1 := fun hk => (Grew.keep k7).new hk fun x hx => by
    rcases hx with hx | hx
    · by_cases hX : X x
      · exact absurd (.inl hX) hx
      · exact .inl (.inl hX)
    · exact .inl (.inr hx)
  have fin : ∀ {w1 : World} {o1 o1' V1 D1}, PSt w0 w1 b p p' o1 o1' size V1 D1 Z → Keep (fun x => ¬ Z x ∨ x = b) w7 w1 → DidP w0 w b p p' size X (.bool true) w1 := fun hp hk =>
    ⟨rfl, _, _, _, _, hp.mono (fun x hx => .inl hx) h.xb, toX hk⟩
  have wid : ∀ {w1 w2 : World}, Keep (fun x => ¬ Z x) w1 w2 → Keep (fun x => ¬ Z x ∨ x = b) w1 w2 := fun hk => hk.mono fun x _ hx => .inl hx
  have cellK : ∀ {w1 w2 : World} {o1 o1' : Option Nat} {V1 D1}, PSt w0 w1 b p p' o1 o1' size V1 D1 Z → Keep (fun x => ¬ Z x) w1 w2 → w2.heap[b]? = some (.cells #[.pointer (some ⟨p, 0, none⟩), .pointer (some ⟨p', 0, none⟩), lp o1, lp o1', .int .i64 size] 113 (0, 0)) := fun hp hk => hk.get hp.cell fun hn => hn hp.xb
  have dop : ∀ {w1 : World} {o1 o1' V1 D1}, PSt w0 w1 b p p' o1 o1' size V1 D1 Z → Keep (fun x => ¬ Z x ∨ x = b) w7 w1 → ∀ {ε : List PanicEntry → World → Prop}, PC Tryz.prog F_law22_pair_open #[.pointer (some ⟨b, 0, none⟩)] w1 (fun v w2 => ∃ t : Bool, v = .bool t ∧ Ok (DidP w0 w b p p' size X) (.returned (.bool t)) w2) ε := fun hp hk ε =>
    PC.ok (pair_open hL hp) (by rintro _ w2 ⟨rfl, q, q', h2, k2⟩; exact ⟨_, rfl, Ok.mk (fin h2 (hk.then k2))⟩)
  refine ⟨fun w' => ∃ D', PSt w0 w' b p p' o o' size V D' Z ∧ C w' ∧ Keep (fun x => ¬ Z x ∨ x = b) w7 w', ⟨_, cell_at g7 rfl, PIf.eqI (fun h2 => fun w11 d11 => ?_) (fun h2 => PIf.eqI (fun h3 => fun w30 d30 => ?_) (fun h3 => PIf.eqI (fun h4 => dop h7 (Keep.refl _)) (fun h4 => ⟨D, h7, g7, Keep.refl _⟩)))⟩, ?_⟩
  · /- a crash -/
    have k11 : Grew w7 w11 := d11.keep
    have h11 := h7.grew k11
    have c11 := growC (show C w7 from g7) k11
    refine ⟨b, 0, rfl, _, cell_at h11.cell rfl, _, cell_at c11 rfl, PC.ok (h11.duo.pdisk (Q := fun v _ => v = .tuple #[]) fun Y _ hY => hY.crash hn) ?_⟩
    rintro _ w17 ⟨rfl, d17, k17⟩
    have g17 := k17.get h11.cell fun hn => hn h11.xb
    have c17 := keepC c11 k17
    refine ⟨rfl, fun w19 d19 => ?_⟩
    have k19 : Grew w17 w19 := d19.keep
    have g19 := k19.get g17 id
    have c19 := growC c17 k19
    refine ⟨b, 0, rfl, _, cell_at g19 rfl, _, cell_at c19 rfl, PC.ok ((d17.grew k19).swap.rdisk (Q := fun v _ => v = .tuple #[]) (D' := D.crash n) fun Y _ hY => NRef.crash hY (Duo_pok d17) hn) ?_⟩
    rintro _ w25 ⟨rfl, d25, k25⟩
    have h25 : PSt w0 w25 b p p' o o' size V (D.crash n) Z := ⟨k25.get g19 fun hn => hn h7.xb, d25.swap, h7.xb, h.b0, h.both, h.ne⟩
    exact ⟨rfl, dop h25 ((((Grew.keep k11).then (wid k17)).grew k19).then (wid k25))⟩
  · /- a fuse -/
    have k30 : Grew w7 w30 := d30.keep
    have h30 := h7.grew k30
    have c30 := growC (show C w7 from g7) k30
    refine ⟨b, 0, rfl, _, cell_at h30.cell rfl, _, cell_at c30 rfl, PC.ok (h30.duo.pdisk (Q := fun v _ => v = .tuple #[]) fun Y _ hY => hY.fuse hn) ?_⟩
    rintro _ w36 ⟨rfl, d36, k36⟩
    have g36 := k36.get h30.cell fun hn => hn h30.xb
    have c36 := keepC c30 k36
    refine ⟨rfl, fun w38 d38 => ?_⟩
    have k38 : Grew w36 w38 := d38.keep
    have g38 := k38.get g36 id
    have c38 := growC c36 k38
    refine ⟨b, 0, rfl, _, cell_at g38 rfl, _, cell_at c38 rfl, PC.ok ((d36.grew k38).swap.rdisk (Q := fun v _ => v = .tuple #[]) (D' := D.fuse n) fun Y _ hY => NRef.fuse hY (Duo_pok d36)) ?_⟩
    rintro _ w44 ⟨rfl, d44, k44⟩
    have h44 : PSt w0 w44 b p p' o o' size V (D.fuse n) Z := ⟨k44.get g38 fun hn => hn h7.xb, d44.swap, h7.xb, h.b0, h.both, h.ne⟩
    exact ⟨rfl, D.fuse n, h44, keepC c38 k44, (((Grew.keep k30).then (wid k36)).grew k38).then (wid k44)⟩
  intro _ w49 ⟨D9, h49, c49, k49⟩
  have hboth := h.both
  refine ⟨fun t w' => t = o.isNone ∧ w49 = w', ⟨b, 0, rfl, _, cell_at h49.cell rfl, eq_nil_ptr uL ⟨_, rfl, PIf.mk (fun hno => ⟨?_, rfl⟩) (fun hyes => ⟨b, 0, rfl, _, cell_at h49.cell rfl, eq_nil_ptr uM ⟨_, rfl, ?_, rfl⟩⟩)⟩⟩, ?_⟩
  · cases o <;> simp_all
  · cases o <;> cases o' <;> simp_all
  rintro t _ _ ⟨rfl, rfl⟩
  refine PIf.mk (fun hno => ?_) (fun hyes => ?_)
  · have e1 : o = none := by cases o <;> simp_all
    have e2 : o' = none := by cases o' <;> simp_all
    subst e1 e2
    refine ⟨b, 0, rfl, _, cell_at h49.cell rfl, eq_nil_ptr uL ⟨_, rfl, PIf.tt rfl ⟨b, 0, rfl, _, cell_at h49.cell rfl, eq_nil_ptr uM ⟨_, rfl, Ok.mk (fin h49 k49)⟩⟩⟩⟩
  obtain ⟨q, rfl⟩ := lp_some (show o.isSome = true by cases o <;> simp_all)
  obtain ⟨q', rfl⟩ := lp_some (show o'.isSome = true by cases o' <;> simp_all)
  have hne := h49.ne rfl
  have he49 := he.grew h49.duo.gr
  have z49 := h49.duo.gr.size
  refine ⟨_, cell_at c49 rfl, PIf.eqI (fun k0 => ?_) (fun k0 => PIf.eqI (fun k1 => ?_) (fun k1 => PIf.eqI (fun k5 => ?_) (fun k5 => Ok.mk (fin h49 k49))))⟩
  · /- events laid -/
    refine ⟨_, _, _, cell_at c49 rfl, PC.ok (kit_CopyEvents he49 hel.2) ?_⟩
    rintro _ w81 ⟨a81, n81, c81', F81, rfl, ho81, k81, hF81⟩
    have h81 := h49.grew k81
    have c81 := growC c49 k81
    have d81 := h49.duo.add k81 (Y := F81) fun x hx => ⟨hF81 x hx, ho81.dom x hx⟩
    have hr81 : Row cEv 96 w81 F81 a81 n81 evs := cEvO.row (ho81.row (by decide) (by unfold Big; omega))
    refine ⟨_, _, _, rfl, b, 0, rfl, _, cell_at h81.cell rfl, PC.ok (d81.plog (Q := fun v _ => v = .int .i64 (logAppend V D9 evs).1) (V' := (logAppend V D9 evs).2.1) (D' := (logAppend V D9 evs).2.2) fun Y _ hY => ?_) ?_⟩
    · refine Calls.ok (log_Append hL hY hne hr81 ho81.dom (by omega)) ?_
      rintro v w' ⟨hv, hN, hK⟩
      exact ⟨hv, hN, hK⟩
    rintro _ w87 ⟨rfl, d87, k87⟩
    have g87 := k87.get h81.cell fun hn => hn (.inl h81.xb)
    have c87 : C w87 := k87.get c81 fun hn => hn (.inl (.inr rfl))
    have ho87 := ho81.keep k87 fun x hx hn => hn (.inr hx)
    have hr87 : Row cEv 96 w87 F81 a81 n81 evs := cEvO.row (ho87.row (by decide) (by unfold Big; omega))
    refine ⟨_, rfl, _, _, _, cell_at c87 rfl, PC.ok (kit_SameEvents hr87 (he.grew d87.gr)) ?_⟩
    rintro _ w91 ⟨rfl, k91⟩
    refine ⟨_, rfl, PC.ok (kit_SpoilEvents (ho87.grew k91) (by omega)) ?_⟩
    rintro _ w94 ⟨rfl, k94, -⟩
    have hb81 : ¬ F81 b := fun hx => by have := hF81 b hx; have := lt_of_get h49.cell; omega
    have hp81 : ¬ F81 w.heap.size := fun hx => by have := hF81 _ hx; have := lt_of_get c49; omega
    have g94 := k94.get (k91.get g87 id) hb81
    have c94 : C w94 := k94.get (k91.get c87 id) hp81
    have d94 := (d87.grew k91).other k94 (fun x hx => .inr hx) fun x hx => by have := hF81 x hx; omega
    refine ⟨rfl, fun w96 d96 => ?_⟩
    have k96 : Grew w94 w96 := d96.keep
    have g96 := k96.get g94 id
    have c96 := growC c94 k96
    refine ⟨b, 0, rfl, _, cell_at g96 rfl, _, _, _, cell_at c96 rfl, PC.ok ((d94.grew k96).swap.rlog (Q := fun v _ => v = .int .i64 (logAppend V D9 evs).1) (V' := (logAppend V D9 evs).2.1) (D' := (logAppend V D9 evs).2.2) fun Y _ hY => ?_) ?_⟩
    · refine Calls.ok (rlog_Append hY hne (he.grew (d94.grew k96).gr) (fun x hx => by have := hDe x hx; have := (d94.grew k96).gr.size; omega) (by omega)) ?_
      rintro v w' ⟨hv, hN, hK⟩
      exact ⟨hv, hN, hK⟩
    rintro _ w102 ⟨rfl, d102, k102⟩
    have h102 : PSt w0 w102 b p p' (some q) (some q') size (logAppend V D9 evs).2.1 (logAppend V D9 evs).2.2 Z := ⟨k102.get g96 fun hn => hn (.inl h49.xb), d102.swap.mono fun x hx => .inl hx, h49.xb, h.b0, rfl, fun _ => logAppend_segs hne⟩
    have kk : Keep (fun x => ¬ Z x ∨ x = b) w7 w102 := by
      have e1 : Keep (fun x => ¬ Z x ∨ x = b) w7 w91 := ((k49.grew k81).then (k87.mono fun x _ hx => .inl fun hz => hx (.inl hz))).grew k91
      have e2 : Keep (fun x => ¬ Z x ∨ x = b) w7 w94 := e1.new k94 fun x hx => .inr (by have := hF81 x hx; have := k49.size; omega)
      exact (e2.grew k96).then (k102.mono fun x _ hx => .inl fun hz => hx (.inl hz))
    exact ⟨_, rfl, PIf.tt (by simp) (by simp only [decide_true]; exact Ok.mk (fin h102 kk))⟩
  · /- synced -/
    intro w105 d105
    have k105 : Grew w49 w105 := d105.keep
    have h105 := h49.grew k105
    refine ⟨fun x => ¬ Z x, b, 0, rfl, _, cell_at h105.cell rfl, b, 0, rfl, fun hn => hn h49.xb, _, cell_at h105.cell rfl, PC.ok (h105.duo.plog (Q := fun v _ => v = .int .i64 (D9.sync V.last).1) (V' := V) (D' := (D9.sync V.last).2) fun Y _ hY => ?_) ?_⟩
    · refine Calls.ok (log_Sync hL hY hne) ?_
      rintro v w' ⟨hv, hN, hK⟩
      exact ⟨hv, hN, hK⟩
    rintro _ w114 ⟨rfl, d114, k114⟩
    refine ⟨_, rfl, k114, PC.ok (d114.swap.rlog (Q := fun v _ => v = .int .i64 (D9.sync V.last).1) (V' := V) (D' := (D9.sync V.last).2) fun Y _ hY => ?_) ?_⟩
    · refine Calls.ok (rlog_Sync hY hne) ?_
      rintro v w' ⟨hv, hN, hK⟩
      exact ⟨hv, hN, hK⟩
    rintro _ w117 ⟨rfl, d117, k117⟩
    have h117 : PSt w0 w117 b p p' (some q) (some q') size V (D9.sync V.last).2 Z := ⟨k117.get (k114.get h105.cell fun hn => hn h49.xb) fun hn => hn h49.xb, d117.swap, h49.xb, h.b0, rfl, fun _ => hne⟩
    refine ⟨_, rfl, k117, ?_⟩
    simp only [beq_self_eq_true]
    exact Ok.mk (fin h117 (((k49.grew k105).then (wid k114)).then (wid k117)))
  · /- bytes behind the last segment's -/
    intro w120 d120
    have k120 : Grew w49 w120 := d120.keep
    have h120 := h49.grew k120
    have c120 := growC c49 k120
    have hzb : ¬ ¬ Z b := fun hn => hn h49.xb
    have hzp : ¬ ¬ Z w.heap.size := fun hn => hn (.inr rfl)
    refine ⟨fun x => ¬ Z x, b, 0, rfl, hzb, _, cell_at h120.cell rfl, b, 0, rfl, _, cell_at h120.cell rfl, hzp, _, _, _, cell_at c120 rfl, b, 0, rfl, hzb, _, cell_at h120.cell rfl, b, 0, rfl, hzb, _, cell_at h120.cell rfl, hzp, _, _, _, cell_at c120 rfl, PC.ok (h120.duo.swap.rlook (Q := fun v _ => v = .string V.last) fun G hG => law22_last (hL.grew h120.duo.gr) hG hne) ?_⟩
    rintro _ w137 ⟨rfl, d137, k137⟩
    refine ⟨_, rfl, k137.keep, PC.ok (d137.swap.pdisk (Q := fun v _ => v = .int .i64 (D9.append V.last bs).1) (D' := (D9.append V.last bs).2) fun Y _ hY => ?_) ?_⟩
    · refine Calls.ok (hY.append (hb.grew d137.gr) hnil fun x hx => .inl (hDb x hx)) ?_
      rintro v w' ⟨hv, hN, hK⟩
      exact ⟨hv, hN, hK⟩
    rintro _ w140 ⟨rfl, d140, k140⟩
    refine ⟨_, rfl, k140, PC.ok (d140.swap.rlook (Q := fun v _ => v = .string V.last) fun G hG => law22_last (hL.grew d140.gr) hG hne) ?_⟩
    rintro _ w143 ⟨rfl, d143, k143⟩
    refine ⟨_, rfl, k143.keep, PC.ok (d143.rdisk (Q := fun v _ => v = .int .i64 (D9.append V.last bs).1) (D' := (D9.append V.last bs).2) fun Y _ hY => ?_) ?_⟩
    · refine Calls.ok (hY.append (hb.grew d143.gr) fun x hx => .inl (hDb x hx)) ?_
      rintro v w' ⟨hv, hN, hK⟩
      exact ⟨hv, hN, hK⟩
    rintro _ w146 ⟨rfl, d146, k146⟩
    have kall : Keep (fun x => ¬ Z x) w120 w146 := (((Grew.keep k137).then k140).grew k143).then k146
    have h146 : PSt w0 w146 b p p' (some q) (some q') size V (D9.append V.last bs).2 Z := ⟨kall.get h120.cell hzb, d146.swap, h49.xb, h.b0, rfl, fun _ => hne⟩
    exact ⟨_, rfl, PIf.tt (by simp) (dop h146 ((k49.grew k120).then (wid kall)))⟩

theorem SeglogRuns {n size : Int} {la : Option Addr} {ln lc : Nat} {l : List Act22} {w : World} {Dl : Nat → Prop} (hn : I64 n) (ha : Row cAct22 64 w Dl la ln l) (hDl : ∀ b, Dl b → b < w.heap.size) (hw : Laid w) :
    Calls Tryz.prog F_law22_SeglogRuns #[.int .i64 n, .int .i64 size, .slice la ln lc] w (Ok fun v w' => v = .bool true ∧ Grew w w') := by
  have ha0 := ha.len
  refine L_law22_SeglogRuns (PC.ok (law22_Long ha) ?_)
  rintro _ _ ⟨⟨tl, rfl, hsh⟩, rfl⟩
  refine ⟨_, rfl, PIf.mk (fun _ => fin22 hw (Keep.refl _)) (fun htl => PC.ok (law22_Size hn) ?_)⟩
  obtain ⟨s1, s2, s3⟩ := hsh htl
  rintro _ _ ⟨rfl, rfl⟩
  have hp := pick_range (k := n) (n := 16384) (by omega)
  refine ⟨_, rfl, PC.ok vdisk_New ?_⟩
  intro v1 w1 hv1
  rw [if_neg (by omega)] at hv1
  obtain ⟨p, F1, rfl, hD1, k1, hF1⟩ := hv1
  refine ⟨_, _, rfl, PC.ok (law22_Size hn) ?_⟩
  rintro _ _ ⟨rfl, rfl⟩
  refine ⟨_, rfl, PC.ok ref_New ?_⟩
  intro v2 w2 hv2
  rw [if_neg (by omega)] at hv2
  obtain ⟨p', F2, rfl, hD2, k2, hF2⟩ := hv2
  generalize hN : Int.toNat (64 + pick n 16384) = N at hD1 hD2
  have hok : (newD N).Ok := ⟨by show N ≤ 262144; omega, by show sumLen [] ≤ N; simp [sumLen], by simp [newD], by simp [newD, Tidy], by simp [newD], by simp [newD], by simp [newD], by unfold I64; simp [newD]⟩
  have hA : (plT p none ⟨0, [], 0, 0⟩ (newD N)).at' w1 F1 := ⟨hD1.dom, F1, hD1, fun _ h => h, fun x hx => by cases hx⟩
  have hB : (rlT p' none ⟨0, [], 0, 0⟩ (newD N)).at' w2 F2 := ⟨hD2.dom, hok, F2, hD2, fun _ h => h, fun x hx => by cases hx⟩
  have hd := Duo.of (Keep.refl w) hA hF1 k1 hB hF2 k2
  refine ⟨_, _, rfl, PIf.ff rfl (PIf.ff rfl (eq_nil_ptr uD ⟨_, rfl, PIf.ff rfl (PA.mk fun w3 k3 _ g3 => ?_)⟩))⟩
  have hd3 := (hd.add k3 (Y := fun x => x = w2.heap.size) fun x hx => by subst hx; exact ⟨Nat.le_refl _, lt_of_get g3⟩).mono (Y := fun x => x = w2.heap.size) fun x hx => .inr hx
  have z1 := k1.size; have z2 := k2.size
  have h3 : PSt w w3 w2.heap.size p p' none none size ⟨0, [], 0, 0⟩ (newD N) (fun x => x = w2.heap.size) := ⟨g3, hd3, rfl, by omega, rfl, fun h => by cases h⟩
  refine PC.ok (pair_open hw h3) ?_
  rintro _ w4 ⟨rfl, o, o', h4, -⟩
  refine ⟨_, rfl, PIf.ff rfl ⟨fun m i w' => ∃ (j : Nat) (o o' : Option Nat) (V : LogV) (D : DiskV), i = j ∧ j ≤ ln ∧ m = ln - j ∧ PSt w w' w2.heap.size p p' o o' size V D (fun x => x = w2.heap.size),
    ⟨_, 0, o, o', _, _, rfl, Nat.zero_le _, rfl, h4⟩, ?_⟩⟩
  rintro m i _ w5 ⟨j, o, o', V, D, rfl, hj, rfl, h5⟩
  refine PIf.dec (fun hlt => ?_) (fun hge => fin22 hw h5.duo.gr)
  obtain ⟨bb, off, x, es, rfl, hbb, _, hx, hc, ea, en, ec, ba, bn, bc, rfl, he, hb, hk, hnn, hnil⟩ := ha.atN (i := j) (by omega)
  obtain ⟨x1, x2, x3⟩ := s3 x (List.mem_of_getElem? hx)
  have hg5 := h5.duo.gr
  have e0 : w5.cell? ⟨bb, off + j * 4, none⟩ = some (.int .i64 x.kind) := Keep.cell' hg5 id (hc 0 (by decide))
  have e1 : w5.cell? ⟨bb, off + j * 4 + 1, none⟩ = some (.int .i64 x.n) := Keep.cell' hg5 id (hc 1 (by decide))
  have e2 : w5.cell? ⟨bb, off + j * 4 + 2, none⟩ = some (.slice ea en ec) := Keep.cell' hg5 id (hc 2 (by decide))
  have e3 : w5.cell? ⟨bb, off + j * 4 + 3, none⟩ = some (.slice ba bn bc) := Keep.cell' hg5 id (hc 3 (by decide))
  refine ⟨bb, off, rfl, by omega, by omega, _, _, _, _, _, _, _, _, e0, e1, e2, e3, PC.ok (pair_do hw h5 hk hnn he hDl ⟨x1, x2⟩ hb hDl hnil x3) ?_⟩
  rintro _ w6 ⟨rfl, o1, o1', V1, D1, h6, -⟩
  refine ⟨_, rfl, PIf.ff rfl fun w7 d7 => ?_⟩
  have h7 := h6.grew (Drew.keep d7)
  have again : ∀ {w8 : World}, PSt w w8 w2.heap.size p p' o1 o1' size V1 D1 (fun x => x = w2.heap.size) → ∃ m33, m33 < ln - j ∧ ∃ (j' : Nat) (o o' : Option Nat) (V : LogV) (D : DiskV), IntKind.wrap .i64 ((j : Int) + 1) = j' ∧ j' ≤ ln ∧ m33 = ln - j' ∧ PSt w w8 w2.heap.size p p' o o' size V D (fun x => x = w2.heap.size) := fun h8 =>
    ⟨ln - (j + 1), by omega, j + 1, o1, o1', V1, D1, wrap_succ (by omega), by omega, rfl, h8⟩
  have rooms : ∀ {w8 : World} {ε ε' : List PanicEntry → World → Prop}, PSt w w8 w2.heap.size p p' o1 o1' size V1 D1 (fun x => x = w2.heap.size) →
      PC Tryz.prog F_vdisk_Disk_Room #[.pointer (some ⟨p, 0, none⟩)] w8 (fun v80 w81 => ∃ (t82 : Int), v80 = .int .i64 t82 ∧ (Keep (fun x => ¬ x = w2.heap.size) w8 w81 ∧ PC Tryz.prog F_ref19_Disk_Room #[.pointer (some ⟨p', 0, none⟩)] w81 (fun v83 w84 => ∃ (t85 : Int), v83 = .int .i64 t85 ∧ (Keep (fun x => ¬ x = w2.heap.size) w81 w84 ∧
        PIf ((t82 : Int) != t85) (Ok (fun v w' => v = .bool true ∧ Grew w w') (.returned (.bool false)) w84) (∃ m33, m33 < ln - j ∧ ∃ (j' : Nat) (o o' : Option Nat) (V : LogV) (D : DiskV), IntKind.wrap .i64 ((j : Int) + 1) = j' ∧ j' ≤ ln ∧ m33 = ln - j' ∧ PSt w w84 w2.heap.size p p' o o' size V D (fun x => x = w2.heap.size)))) ε)) ε' := fun h8 => by
    refine PC.ok (h8.duo.pdisk (Q := fun v _ => v = .int .i64 D1.room) (D' := D1) fun Y _ hY => ?_) ?_
    · refine Calls.ok hY.room ?_
      rintro v w' ⟨hv, hN, hK⟩
      exact ⟨hv, hN, Grew.keep hK⟩
    rintro _ w9 ⟨rfl, d9, k9⟩
    refine ⟨_, rfl, k9, PC.ok (d9.swap.rdisk (Q := fun v _ => v = .int .i64 D1.room) (D' := D1) fun Y _ hY => ?_) ?_⟩
    · refine Calls.ok hY.room ?_
      rintro v _ ⟨hv, rfl⟩
      exact ⟨hv, hY, Keep.refl _⟩
    rintro _ w10 ⟨rfl, d10, k10⟩
    refine ⟨_, rfl, k10, PIf.ff (by simp) (again ⟨k10.get (k9.get h8.cell fun hn => hn rfl) fun hn => hn rfl, d10.swap, rfl, h8.b0, h8.both, h8.ne⟩)⟩
  refine ⟨fun x => ¬ x = w2.heap.size, w2.heap.size, 0, rfl, _, cell_at h7.cell rfl, _, fun w' => run_ne_nil_ptr uL _ _ _ w', PIf.mk (fun hs => ?_) (fun hs => rooms h7)⟩
  have hs1 : o1.isSome = true := by cases o1 <;> simp_all
  obtain ⟨q, rfl⟩ := lp_some hs1
  obtain ⟨q', rfl⟩ := lp_some (show o1'.isSome = true by have := h7.both; simp_all)
  have hb0 : ¬ ¬ w2.heap.size = w2.heap.size := fun hn => hn rfl
  refine ⟨w2.heap.size, 0, rfl, _, cell_at h7.cell rfl, w2.heap.size, 0, rfl, hb0, _, cell_at h7.cell rfl, PC.ok (h7.duo.plook (Q := fun v w' => ∃ a n c F, v = .slice a n c ∧ Lst cI64 3 F w' a n c V1.segs) fun G hG => ?_) ?_⟩
  · refine Calls.ok (log_Segments hG) ?_
    rintro v w' ⟨a, n, c, F, hv, ho, hk, -⟩
    exact ⟨⟨a, n, c, F, hv, ho⟩, hk⟩
  rintro _ w8 ⟨⟨a8, n8, c8, F8, rfl, ho8⟩, d8, k8⟩
  refine ⟨_, _, _, rfl, k8.keep, PC.ok (d8.swap.rlook (Q := fun v w' => ∃ a n c F, v = .slice a n c ∧ Lst cI64 3 F w' a n c V1.segs) fun G hG => ?_) ?_⟩
  · refine Calls.ok (rlog_Segments hG) ?_
    rintro v w' ⟨a, n, c, F, hv, ho, hk, -⟩
    exact ⟨⟨a, n, c, F, hv, ho⟩, hk⟩
  rintro _ w9 ⟨⟨a9, n9, c9, F9, rfl, ho9⟩, d9, k9⟩
  have hmany : V1.segs.length ≤ 64 := by
    obtain ⟨F, G, ⟨h0, Fd, h1, h2, h3⟩, -⟩ := h7.duo
    obtain ⟨G, h4, -⟩ := h3 q rfl
    exact h4.many
  refine ⟨_, _, _, rfl, k9.keep, PC.ok (kit_SameIntsR ((ho8.grew k9).row (bytes := 8) (by decide) (by unfold Big; omega)) (ho9.row (bytes := 8) (by decide) (by unfold Big; omega))) ?_⟩
  rintro _ w10 ⟨rfl, k10⟩
  have k710 : Grew w7 w10 := (k8.then k9).then (Drew.keep k10)
  have h10 := h7.grew k710
  refine ⟨_, rfl, Drew.keep k10, PIf.ff (by simp) ⟨w2.heap.size, 0, rfl, _, cell_at h10.cell rfl, w2.heap.size, 0, rfl, hb0, _, cell_at h10.cell rfl, PC.ok (h10.duo.plook (Q := fun v _ => v = .int .i64 V1.next) fun G hG => ?_) ?_⟩⟩
  · refine Calls.ok (log_Next hG) ?_
    rintro v _ ⟨hv, rfl⟩
    exact ⟨hv, Keep.refl _⟩
  rintro _ w11 ⟨rfl, d11, k11⟩
  refine ⟨_, rfl, k11.keep, PC.ok (d11.swap.rlook (Q := fun v _ => v = .int .i64 V1.next) fun G hG => ?_) ?_⟩
  · refine Calls.ok (rlog_Next hG) ?_
    rintro v _ ⟨hv, rfl⟩
    exact ⟨hv, Keep.refl _⟩
  rintro _ w12 ⟨rfl, d12, k12⟩
  have h12 := h10.grew (k11.then k12)
  exact ⟨_, rfl, k12.keep, PIf.ff (by simp) (rooms h12)⟩
end
end Go.Proofs.YtpbpjojdfcdbbaaGreatDoor
