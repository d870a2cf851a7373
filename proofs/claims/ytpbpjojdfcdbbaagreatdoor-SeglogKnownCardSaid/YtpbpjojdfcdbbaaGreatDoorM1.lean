/- MfLaw, Mf, LawD, MfAgain, SegCon, Log, LogBegin, LogLoad, LogOpen, LogApp, Ref01, LstLit, Ref05, Ref03, OneD, SegWorks, SegBack, SegNames, LawD2, RefD, RefD2, RefD3, RefD4 -/
import Derived.Test.YtpbpjojdfcdbbaaGreatDoorWire
import Derived.Test.YtpbpjojdfcdbbaaGreatDoorFrame2
import Derived.Test.YtpbpjojdfcdbbaaGreatDoorReader2
import Derived.Test.YtpbpjojdfcdbbaaGreatDoorDiskOps4
import Derived.Test.YtpbpjojdfcdbbaaGreatDoorDiskOps3
import Derived.Test.YtpbpjojdfcdbbaaGreatDoorEvent
import Derived.Test.YtpbpjojdfcdbbaaGreatDoorIn
import Derived.Test.YtpbpjojdfcdbbaaGreatDoorKitEv
import Derived.Test.YtpbpjojdfcdbbaaGreatDoorSeg
import Derived.Test.YtpbpjojdfcdbbaaGreatDoorSegLaw2
import Derived.Test.YtpbpjojdfcdbbaaGreatDoorReader
import Derived.Test.YtpbpjojdfcdbbaaGreatDoorCrc
import Derived.Test.YtpbpjojdfcdbbaaGreatDoorRep
import Derived.Test.YtpbpjojdfcdbbaaGreatDoorEvent2
import Derived.Test.YtpbpjojdfcdbbaaGreatDoorOwn
import Derived.ArgAppend
import Derived.Laws.BytesArg
import Derived.Lib.SlBytesConst
import Derived.Sort.Walk0
/- manifests as bytes. No program is named here. -/
namespace Go.Lift
open Go
set_option linter.unusedVariables false

def mfBody (l : List Int) : List UInt8 := encInts ((l.length : Int) :: l)
def mfBytes (l : List Int) : List UInt8 := frBytes 2 (mfBody l)
def mfNums (body : List UInt8) : List Int × RdV := rdInts (rdCount 64 ⟨body, 0, 0⟩).1.toNat (rdCount 64 ⟨body, 0, 0⟩).2
def mfRead (b : List UInt8) : Option (List Int) :=
  if (frGet b).no ≠ 0 ∨ (frGet b).n ≠ b.length ∨ (frGet b).kind ≠ 2 then none else if rdDone (mfNums (frGet b).body).2 ≠ 0 then none else some (mfNums (frGet b).body).1

theorem mfNums_ok (body : List UInt8) : (∀ x ∈ (mfNums body).1, I64 x) ∧ (mfNums body).1.length ≤ 64 ∧ (mfNums body).2.Fit := by
  obtain ⟨c1, c2, c3, c4⟩ := RdV.Fit.count (r := ⟨body, 0, 0⟩) ⟨Nat.zero_le _, .inl rfl⟩ (m := 64) (by omega)
  obtain ⟨d1, d2, d3, d4⟩ := c1.ints (rdCount 64 ⟨body, 0, 0⟩).1.toNat
  exact ⟨d2, by show (rdInts _ _).1.length ≤ 64; rw [d3]; omega, d1⟩
theorem mfRead_ok {b : List UInt8} {l : List Int} (h : mfRead b = some l) : (∀ x ∈ l, I64 x) ∧ l.length ≤ 64 := by
  unfold mfRead at h
  split at h
  · cases h
  split at h
  · cases h
  · cases h
    exact ⟨(mfNums_ok _).1, (mfNums_ok _).2.1⟩
theorem mfBody_le {l : List Int} (h : ∀ x ∈ l, I64 x) (hl : l.length ≤ 64) : (mfBody l).length ≤ 585 := by
  have := encInts_le (l := (l.length : Int) :: l) (by
    intro x hx
    rcases List.mem_cons.1 hx with rfl | hx
    · unfold I64; omega
    · exact h x hx)
  unfold mfBody
  rw [List.length_cons] at this
  omega
theorem mfBytes_length (l : List Int) : (mfBytes l).length = (mfBody l).length + 9 := frBytes_length _ _
/-- WHAT WAS LAID IS READ -/
theorem mfRead_bytes {l : List Int} (h : ∀ x ∈ l, I64 x) (hl : l.length ≤ 64) : mfRead (mfBytes l) = some l := by
  have hb := mfBody_le h hl
  have hf : frGet (mfBytes l) = ⟨2, mfBody l, (mfBody l).length + 9, 0⟩ := by
    have := frGet_put (k := 2) (body := mfBody l) (r := []) (by decide) (by decide) (by omega)
    rwa [List.append_nil] at this
  have h0 : (RdV.mk (mfBody l) 0 0).At (mfBody l) (encInt (l.length : Int) ++ (encInts (l ++ []) ++ [])) := ⟨rfl, Nat.zero_le _, rfl, by rw [List.drop_zero]; simp [mfBody, encInts_cons]⟩
  obtain ⟨c1, c2⟩ := h0.count (m := 64) (by unfold I64; omega) (by omega) (by omega)
  obtain ⟨d1, d2⟩ := RdV.At.ints l c2 h
  have hn : mfNums (mfBody l) = rdInts l.length (rdCount 64 ⟨mfBody l, 0, 0⟩).2 := by unfold mfNums; rw [c1, Int.toNat_natCast]
  have hdone : rdDone (mfNums (mfBody l)).2 = 0 := by rw [hn]; exact RdV.At.done (by simpa [encInts] using d2)
  unfold mfRead
  rw [hf, if_neg (by simp [mfBytes_length])]
  simp only
  rw [if_neg (by rw [hdone]; simp), hn, d1]
end Go.Lift

/- manifest: its bytes; Temp deleted; written; read -/
namespace Go.Proofs.YtpbpjojdfcdbbaaGreatDoor
open Go.Lift
set_option linter.unusedVariables false
set_option maxRecDepth 20000

def mTemp : ByteArray := ⟨#[109, 97, 110, 105, 102, 101, 115, 116, 46, 116, 109, 112]⟩
def mName : ByteArray := ⟨#[109, 97, 110, 105, 102, 101, 115, 116]⟩
def cleanV (D : DiskV) : Int × DiskV := if (aget D.files mTemp).isSome then D.delete mTemp else (0, D)
def mStep (l : List Int) : Nat → DiskV → Int × DiskV
  | 0, D => cleanV D
  | 1, D => D.create mTemp
  | 2, D => D.append mTemp (mfBytes l)
  | 3, D => D.sync mTemp
  | _, D => D.rename mTemp mName
/-- the steps from i on, so many -/
def mRun (l : List Int) : Nat → Nat → DiskV → Int × DiskV
  | _, 0, D => (0, D)
  | i, k + 1, D => if (mStep l i D).1 ≠ 0 then ((mStep l i D).1, (cleanV (mStep l i D).2).2) else mRun l (i + 1) k (mStep l i D).2
def mfWrite (D : DiskV) (l : List Int) : Int × DiskV := if 64 < l.length then (3, D) else mRun l 0 5 D
def mfTell (D : DiskV) : Option (List Int) := if (D.read mName).2 ≠ 0 then none else mfRead (D.read mName).1

theorem sortS_perm' (l : List ByteArray) : (sortS l).Perm l := List.mergeSort_perm _ _
theorem mem_list' {D : DiskV} {k : ByteArray} : k ∈ D.list ↔ (aget D.files k).isSome = true := by
  unfold DiskV.list
  rw [(sortS_perm' _).mem_iff]
  constructor
  · intro h
    cases hk : aget D.files k with
    | none => exact absurd h (aget_none.1 hk)
    | some f => rfl
  · intro h
    obtain ⟨f, hf⟩ := Option.isSome_iff_exists.1 h
    exact List.mem_map.2 ⟨_, aget_mem hf, rfl⟩
theorem list_length' (D : DiskV) : D.list.length = D.files.length := by unfold DiskV.list sortS; simp
theorem mRun_succ (l : List Int) {i : Nat} (h : i < 5) (D : DiskV) : mRun l i (5 - i) D = if (mStep l i D).1 ≠ 0 then ((mStep l i D).1, (cleanV (mStep l i D).2).2) else mRun l (i + 1) (5 - (i + 1)) (mStep l i D).2 := by
  obtain ⟨k, hk⟩ : ∃ k, 5 - i = k + 1 := ⟨4 - i, by omega⟩
  rw [hk, show 5 - (i + 1) = k by omega]
  rfl

theorem slices_Index {a : Option Addr} {n c : Nat} {l : List ByteArray} {s : ByteArray} {w : World} {D : Nat → Prop} (ha : Row cStr 16 w D a n l) :
    Calls Tryz.prog F_slices_Index_string_string #[.slice a n c, .string s] w (Ok fun v w' => (∃ t : Int, v = .int .i64 t ∧ (0 ≤ t ↔ s ∈ l)) ∧ w = w') := by
  have hl := ha.len; have hb := ha.big
  unfold Big at hb
  refine L_slices_Index_string_string ⟨fun m i w' => ∃ j : Nat, i = j ∧ j ≤ n ∧ m = n - j ∧ s ∉ l.take j ∧ w = w', ⟨_, 0, rfl, Nat.zero_le _, rfl, by simp, rfl⟩, ?_⟩
  rintro m i _ _ ⟨j, rfl, hj, rfl, hno, rfl⟩
  refine PIf.dec (fun h1 => ?_) (fun h1 => ?_)
  · obtain ⟨b, off, x, rfl, hx, _, hc⟩ := ha.at1 (i := j) (by omega)
    refine ⟨b, off, rfl, by omega, by omega, _, hc, PIf.eqS (fun he => ?_) (fun he => ?_)⟩
    · exact Ok.mk ⟨⟨_, rfl, fun _ => he ▸ List.mem_of_getElem? hx, fun _ => by omega⟩, rfl⟩
    · refine ⟨_, by omega, j + 1, wrap_succ (by omega), by omega, rfl, ?_, rfl⟩
      rw [List.take_add_one, hx]
      intro hm
      rcases List.mem_append.1 hm with h | h
      · exact hno h
      · simp at h; exact he h
  · rw [List.take_of_length_le (by omega)] at hno
    exact Ok.mk ⟨⟨_, rfl, fun h => by omega, fun h => absurd h hno⟩, rfl⟩
theorem slices_Contains {a : Option Addr} {n c : Nat} {l : List ByteArray} {s : ByteArray} {w : World} {D : Nat → Prop} (ha : Row cStr 16 w D a n l) :
    Calls Tryz.prog F_slices_Contains_string_string #[.slice a n c, .string s] w (Ok fun v w' => v = .bool (decide (s ∈ l)) ∧ w = w') := by
  refine L_slices_Contains_string_string (PC.ok (slices_Index ha) ?_)
  rintro _ _ ⟨⟨t, rfl, ht⟩, rfl⟩
  exact ⟨_, rfl, Ok.mk ⟨by rw [decide_eq_decide.2 ht], rfl⟩⟩

theorem manifest_clean {w : World} {p : Nat} {F : Nat → Prop} {D : DiskV} (hD : DiskAt w p F D) : Calls Tryz.prog F_manifest_clean #[.pointer (some ⟨p, 0, none⟩)] w (Ok (Did w p F (cleanV D))) := by
  refine L_manifest_clean (PC.ok (Disk_List hD) ?_)
  rintro _ w1 ⟨a, n, c, G, rfl, ho, k1, hG⟩
  have hl : D.list.length ≤ 64 := by rw [list_length']; exact hD.ok.many
  refine ⟨_, _, _, rfl, PC.ok (slices_Contains (ho.row (by decide) (by unfold Big; omega))) ?_⟩
  rintro _ _ ⟨rfl, rfl⟩
  have hm : (mTemp ∈ D.list) ↔ (aget D.files mTemp).isSome = true := mem_list'
  refine ⟨_, rfl, PIf.dec (fun h => PC.ok (Disk_Delete (hD.grew k1)) fun v w' h2 => did_int v w' k1 ?_) (fun h => ?_)⟩
  · have e : cleanV D = D.delete mTemp := by unfold cleanV; rw [if_pos (hm.1 h)]
    rw [e]; exact h2
  · have e : cleanV D = (0, D) := by unfold cleanV; rw [if_neg fun hc => h (hm.2 hc)]
    rw [e]; exact Ok.mk (Did.same (hD.grew k1) k1.keep)

theorem manifest_bytes {w : World} {Dl : Nat → Prop} {a : Option Addr} {n c : Nat} {l : List Int} (ht : Tabs w) (hl : Row cI64 8 w Dl a n l) (hok : ∀ x ∈ l, I64 x) (hD : ∀ b, Dl b → b < w.heap.size) (h64 : l.length ≤ 64) :
    Calls Tryz.prog F_manifest_bytes #[.agg #[.slice a n c]] w (Ok (New cU8 5 w (mfBytes l))) := by
  have hn := hl.len
  refine L_manifest_bytes (PA.mk fun w1 k1 s1 g1 => ⟨_, _, _, cell_at g1 rfl, PC.ok (pack_Int (m := (n : Int)) (by unfold I64; omega) (Row.nil w1 fun _ => False) (by unfold Big; omega) fun _ h => h.elim) ?_⟩)
  rintro _ w2 ⟨a2, n2, c2, F2, rfl, ho2, k2, hF2⟩
  have k02 : Grew w w2 := k1.then k2
  have e0 : encInt (n : Int) = encInts ((n : Int) :: l.take 0) := by simp [encInts]
  rw [List.nil_append, e0] at ho2
  refine ⟨_, _, _, rfl, _, _, _, cell_at (k2.get g1 id) rfl, fun m ba bn bc i w' => ∃ j : Nat, i = j ∧ j ≤ n ∧ m = n - j ∧ ∃ F, Lst cU8 5 F w' ba bn bc (encInts ((n : Int) :: l.take j)) ∧ Grew w w' ∧ ∀ b, F b → w.heap.size ≤ b,
    ⟨_, 0, rfl, Nat.zero_le _, rfl, F2, ho2, k02, fun b hb => by have := hF2 b hb; omega⟩, ?_⟩
  rintro m ba bn bc i _ w3 ⟨j, rfl, hj, rfl, F3, ho3, k3, hF3⟩
  have hle : (encInts ((n : Int) :: l.take j)).length ≤ 9 * (j + 1) := by
    have h1 := encInts_le (l := (n : Int) :: l.take j) (by
      intro x hx
      rcases List.mem_cons.1 hx with rfl | hx
      · unfold I64; omega
      · exact hok x (List.mem_of_mem_take hx))
    have h2 : ((n : Int) :: l.take j).length = j + 1 := by simp; omega
    omega
  have hbn := ho3.len (by decide)
  refine PIf.dec (fun hlt => ?_) (fun hge => ?_)
  · obtain ⟨b, off, x, rfl, hx, hxr, hc⟩ := (hl.grew k3).at1 (i := j) (by omega)
    refine ⟨b, off, rfl, by omega, by omega, _, hc, PC.ok (pack_Int hxr (ho3.row (bytes := 1) (by decide) (by unfold Big; omega)) (by unfold Big; omega) ho3.dom) ?_⟩
    rintro _ w4 ⟨a4, n4, c4, F4, rfl, ho4, k4, hF4⟩
    refine ⟨_, _, _, rfl, _, ?_, j + 1, wrap_succ (by omega), by omega, rfl, F4, ?_, k3.then k4, fun b hb => by have := hF4 b hb; have := k3.size; omega⟩
    · omega
    · have e : encInts ((n : Int) :: l.take (j + 1)) = encInts ((n : Int) :: l.take j) ++ encInt x := by
        rw [List.take_add_one, hx, ← List.cons_append, encInts_append]
        congr 1
        simp [encInts]
      rw [e]; exact ho4
  · obtain rfl : j = n := by omega
    rw [List.take_of_length_le (by omega), hn] at ho3
    change Lst cU8 5 F3 w3 ba bn bc (mfBody l) at ho3
    have hmb := mfBody_le hok h64
    refine PC.ok (frame_Put (ht.grew k3) (ho3.row (bytes := 1) (by decide) (by unfold Big; omega)) ho3.dom) ?_
    rintro _ w4 ⟨_, rfl, a4, n4, c4, F4, rfl, ho4, k4, hF4⟩
    rw [show frPut 2 (mfBody l) = (mfBytes l, 0) by unfold frPut mfBytes; rw [if_neg (by decide), if_neg (by omega)]] at ho4 ⊢
    exact ⟨_, _, _, _, rfl, Ok.mk ⟨_, _, _, F4, rfl, ho4, k3.then k4, fun b hb => by have := hF4 b hb; have := k3.size; omega⟩⟩

theorem manifest_Write {w : World} {p : Nat} {F Dl : Nat → Prop} {D : DiskV} {a : Option Addr} {n c : Nat} {l : List Int} (ht : Tabs w) (hD : DiskAt w p F D) (hl : Row cI64 8 w Dl a n l) (hok : ∀ x ∈ l, I64 x) (hDl : ∀ b, Dl b → b < w.heap.size ∧ ¬ F b) (hF1 : ∀ b, F b → 1 < b) :
    Calls Tryz.prog F_manifest_Write #[.pointer (some ⟨p, 0, none⟩), .agg #[.slice a n c]] w (Ok (Did w p F (mfWrite D l))) := by
  have hn := hl.len
  refine L_manifest_Write (PA.mk fun w1 k1 s1 g1 => PA.mk fun w2 k2 s2 g2 => PA.mk fun w3 k3 s3 g3 => ⟨_, _, _, cell_at (k3.get g2 id) rfl, PIf.dec (fun h => ?_) (fun h => ?_)⟩)
  · refine PS.mk g3 (by simp) fun w4 k4 s4 g4 => ⟨_, cell_at g4 rfl, ?_⟩
    have e : mfWrite D l = (3, D) := by unfold mfWrite; rw [if_pos (by omega)]
    rw [e]
    have k04 : Grew w w4 := ((k1.then k2).then k3).new k4 fun b hb => .inr (by omega)
    exact Ok.mk (Did.same (hD.grew k04) k04.keep)
  refine PA.mk fun w4 k4 s4 g4 => ?_
  have k04 : Grew w w4 := ((k1.then k2).then k3).then k4
  have e : mfWrite D l = mRun l 0 5 D := by unfold mfWrite; rw [if_neg (by omega)]
  rw [e]
  have hFlt := hD.dom
  refine ⟨fun m t w' => ∃ (i : Nat) (Di : DiskV) (Fi : Nat → Prop), t = i ∧ i ≤ 5 ∧ m = 5 - i ∧ mRun l 0 5 D = mRun l i (5 - i) Di ∧ DiskAt w' p Fi Di ∧ Keep (fun b => F b ∨ b = w2.heap.size) w4 w' ∧ (∀ b, Fi b → F b ∨ w4.heap.size ≤ b) ∧ w'.heap[w2.heap.size]? = some (.cells #[.int .i64 0] 26 (0, 0)),
    ⟨_, 0, D, F, rfl, by omega, rfl, rfl, hD.grew k04, Keep.refl _, fun b hb => .inl hb, k4.get g3 id⟩, ?_⟩
  rintro m t _ w5 ⟨i, Di, Fi, rfl, hi, rfl, hrun, h5, k5, hFi, ge⟩
  have nF : ∀ b, w.heap.size ≤ b → b < w4.heap.size → ¬ Fi b := fun b h1 h2 hf => by
    rcases hFi b hf with h | h
    · have := hFlt b h; omega
    · omega
  have gd : w5.heap[w.heap.size]? = some (.cells #[.pointer (some ⟨p, 0, none⟩)] 25 (0, 0)) := k5.get (k4.get (k3.get (k2.get g1 id) id) id) (fun hs => hs.elim (fun h => by have := hFlt _ h; omega) (fun h => by omega))
  have gm : w5.heap[w1.heap.size]? = some (.cells #[.slice a n c] 56 (0, 0)) := k5.get (k4.get (k3.get g2 id) id) (fun hs => hs.elim (fun h => by have := hFlt _ h; omega) (fun h => by omega))
  have gc := k5.get g4 (fun hs => hs.elim (fun h => by have := hFlt _ h; omega) (fun h => by omega))
  have h45 := k5.size
  /- what leaves -/
  have leave : ∀ (e : Int) (E : DiskV) (G : Nat → Prop) (w6 : World), DiskAt w6 p G E → Keep (fun b => F b ∨ b = w2.heap.size) w4 w6 → (∀ b, G b → F b ∨ w4.heap.size ≤ b) → w6.heap[w2.heap.size]? = some (.cells #[.int .i64 e] 26 (0, 0)) →
      mRun l 0 5 D = (e, if e ≠ 0 then (cleanV E).2 else E) →
      Lv Tryz.prog (fun w36 => ∃ r37 : Int, w36.cell? ⟨w2.heap.size, 0, none⟩ = some (.int .i64 r37) ∧ Ok (Did w p F (mRun l 0 5 D)) (.returned (.int .i64 r37)) w36) (fun ch w' => Ok (Did w p F (mRun l 0 5 D)) (.panicked ch) w')
        ([{ target := .fn (.func 86) #[.pointer (some ⟨w2.heap.size, 0, none⟩), .pointer (some ⟨w.heap.size, 0, none⟩)], args := #[] }] : List Deferred) .returning w6 := by
    intro e E G w6 hE k6 hG g6 hr
    have gd6 : w6.heap[w.heap.size]? = some (.cells #[.pointer (some ⟨p, 0, none⟩)] 25 (0, 0)) := k6.get (k4.get (k3.get (k2.get g1 id) id) id) (fun hs => hs.elim (fun h => by have := hFlt _ h; omega) (fun h => by omega))
    have fin : ∀ w7 (G' : Nat → Prop) (E' : DiskV), DiskAt w7 p G' E' → Evo G w6 G' w7 → mRun l 0 5 D = (e, E') → ∃ r37 : Int, w7.cell? ⟨w2.heap.size, 0, none⟩ = some (.int .i64 r37) ∧ Ok (Did w p F (mRun l 0 5 D)) (.returned (.int .i64 r37)) w7 := by
      intro w7 G' E' hE' hev hr'
      have hGn : ¬ G w2.heap.size := fun h => (hG _ h).elim (fun h => by have := hFlt _ h; omega) (fun h => by omega)
      have h46 := k6.size
      refine ⟨e, cell_at (hev.keep.get g6 hGn) rfl, Ok.mk ?_⟩
      rw [hr']
      refine ⟨G', rfl, hE', ?_, fun b hb => ?_⟩
      · have k06 : Keep F w w6 := k04.keep.new k6 fun b hb => hb.imp id fun h => by omega
        exact k06.new hev.keep fun b hb => (hG b hb).imp id fun h => by omega
      · rcases hev.new b hb with h | h
        · exact (hG b h).imp id fun h => by omega
        · exact .inr (by omega)
    refine Lv.one (by simp) (by kernel_rfl) (CallsD.mono (LD_manifest_Write_1 (R := fun e' w7 => e' = .returned (.tuple #[]) ∧ ∃ r37 : Int, w7.cell? ⟨w2.heap.size, 0, none⟩ = some (.int .i64 r37) ∧ Ok (Did w p F (mRun l 0 5 D)) (.returned (.int .i64 r37)) w7) ⟨_, cell_at g6 rfl, PIf.neI (fun hne => ?_) (fun h0 => ?_)⟩) ?_)
    · refine ⟨_, cell_at gd6 rfl, PC.ok (manifest_clean hE) ?_⟩
      rintro _ w7 ⟨G', rfl, hE', hev⟩
      exact ⟨_, rfl, rfl, fin w7 G' _ hE' hev (by rw [hr, if_pos hne])⟩
    · exact ⟨rfl, fin w6 G E hE (Evo.refl _ _) (by rw [hr, if_neg (by simpa using h0)])⟩
    · rintro e' u' w7 ⟨rfl, rfl, hX⟩
      exact Lv.ret rfl hX
  refine PIf.dec (fun hlt => ?_) (fun hge => ?_)
  · have hi5 : i < 5 := by omega
    have step : ∀ κ ε, (∀ v w', Did w5 p Fi (mStep l i Di) v w' → κ v w') → ∃ t19 : Value, w5.cell? ⟨w3.heap.size, 0 + Int.toNat (i : Int), none⟩ = some t19 ∧ ∃ g22 fi23 ca24, t19 = .func (.func g22) fi23 ca24 ∧ enters Tryz.prog g22 = true ∧ PC Tryz.prog g22 (fi23 ++ #[] ++ ca24) w5 κ ε := by
      intro κ ε hκ
      rw [Int.toNat_natCast, Nat.zero_add]
      have fin : ∀ {r : Int × DiskV} {v w'}, Did w5 p Fi r v w' → ∃ t : Int, v = .int .i64 t ∧ Ok (Did w5 p Fi r) (.returned (.int .i64 t)) w' := fun h => did_int _ _ (Keep.refl _) h
      match i, hi5, hκ with
      | 0, _, hκ => exact ⟨_, cell_at gc rfl, _, _, _, rfl, by kernel_rfl, PC.ok (L_manifest_Write_2 ⟨_, cell_at gd rfl, PC.ok (manifest_clean h5) fun v w' h => fin h⟩) hκ⟩
      | 1, _, hκ => exact ⟨_, cell_at gc rfl, _, _, _, rfl, by kernel_rfl, PC.ok (L_manifest_Write_3 ⟨_, cell_at gd rfl, PC.ok (Disk_Create h5) fun v w' h => fin h⟩) hκ⟩
      | 2, _, hκ =>
        refine ⟨_, cell_at gc rfl, _, _, _, rfl, by kernel_rfl, PC.ok (φ := Did w5 p Fi (mStep l 2 Di)) (L_manifest_Write_4 fun w6 d6 => ?_) hκ⟩
        have k6 : Grew w5 w6 := d6.keep
        have k46 : Keep (fun b => F b ∨ b = w2.heap.size) w4 w6 := k5.then k6.keep
        have hl6 : Row cI64 8 w6 Dl a n l := (hl.grew k04).keep k46 fun b hb hs => hs.elim (hDl b hb).2 fun h => by have := (hDl b hb).1; omega
        have ht6 : Tabs w6 := by
          have := (ht.grew k04)
          have hsm : w.heap.size ≤ w4.heap.size := k04.size
          have h1 := ht.lt
          refine ⟨fun j hj => ?_, fun j hj => ?_, Nat.lt_of_lt_of_le (Nat.lt_of_lt_of_le h1 hsm) k46.size⟩
          · exact (this.lower j hj) ▸ k46.cell (a := ⟨0, j, none⟩) (by show 0 < _; omega) (fun hs => hs.elim (fun h => absurd (hF1 0 h) (by decide)) (fun h => by have h : 0 = w2.heap.size := h; omega))
          · exact (this.upper j hj) ▸ k46.cell (a := ⟨1, j, none⟩) (by show 1 < _; omega) (fun hs => hs.elim (fun h => absurd (hF1 1 h) (by decide)) (fun h => by have h : 1 = w2.heap.size := h; omega))
        refine ⟨Fi, nF _ (Nat.le_refl _) (by omega), _, cell_at (k6.get gd id) rfl, _, _, _, cell_at (k6.get gm id) rfl, PC.ok (manifest_bytes ht6 hl6 hok (fun b hb => by have := (hDl b hb).1; have := k04.size; have := k46.size; omega) (by omega)) ?_⟩
        rintro _ w7 ⟨a7, n7, c7, F7, rfl, ho7, k7, hF7⟩
        have hmb := mfBytes_length l
        have hml := mfBody_le hok (by omega)
        refine ⟨_, _, _, rfl, k7.keep, PC.ok (Disk_Append ((h5.grew k6).grew k7) (ho7.row (by decide) (by unfold Big; omega)) (fun e => ho7.nil0 e) fun b hb => ⟨ho7.dom b hb, fun hf => by have := h5.dom b hf; have := hF7 b hb; have := k6.size; omega⟩) ?_⟩
        rintro _ w8 ⟨F8, rfl, hD8, hev⟩
        exact ⟨_, rfl, hev.keep, Ok.mk ⟨F8, rfl, hD8, (Evo.mk (Grew.keep (k6.then k7)) fun _ h => .inl h : Evo Fi w5 Fi w7).trans hev⟩⟩
      | 3, _, hκ => exact ⟨_, cell_at gc rfl, _, _, _, rfl, by kernel_rfl, PC.ok (L_manifest_Write_5 ⟨_, cell_at gd rfl, PC.ok (Disk_Sync h5) fun v w' h => fin h⟩) hκ⟩
      | 4, _, hκ => exact ⟨_, cell_at gc rfl, _, _, _, rfl, by kernel_rfl, PC.ok (L_manifest_Write_6 ⟨_, cell_at gd rfl, PC.ok (Disk_Rename h5) fun v w' h => fin h⟩) hκ⟩
    refine ⟨_, _, rfl, by omega, by omega, step _ _ ?_⟩
    rintro _ w6 ⟨F6, rfl, h6, hev⟩
    have hne6 : ∀ b, F6 b → b ≠ w2.heap.size := fun b hb e => by
      subst e
      rcases hev.new _ hb with h | h
      · exact nF _ (by omega) (by omega) h
      · omega
    have hF6 : ∀ b, F6 b → F b ∨ w4.heap.size ≤ b := fun b hb => by
      rcases hev.new b hb with h | h
      · exact hFi b h
      · exact .inr (by omega)
    have k46 : Keep (fun b => F b ∨ b = w2.heap.size) w4 w6 := k5.new hev.keep fun b hb => (hFi b hb).imp .inl id
    refine ⟨_, rfl, PS.mk (hev.keep.get ge (nF _ (by omega) (by omega))) (by simp) fun w7 k7 s7 g7 => ?_⟩
    have h7 := h6.keep k7 fun b hb => hne6 b hb
    have k47 : Keep (fun b => F b ∨ b = w2.heap.size) w4 w7 := k46.then (k7.mono fun b _ hb => .inr hb)
    rw [mRun_succ l hi5] at hrun
    refine ⟨_, cell_at g7 rfl, PIf.neI (fun hne => ?_) (fun h0 => ?_)⟩
    · refine ⟨_, cell_at g7 rfl, PS.mk g7 (by simp) fun w8 k8 s8 g8 => ?_⟩
      exact leave _ _ F6 w8 (h7.keep k8 fun b hb => hne6 b hb) (k47.then (k8.mono fun b _ hb => .inr hb)) hF6 g8 (by rw [hrun, if_pos hne, if_pos hne])
    · rw [if_neg (by simpa using h0)] at hrun
      rw [h0] at g7
      exact ⟨rfl, _, by omega, i + 1, _, F6, wrap_succ (by omega), by omega, rfl, hrun, h7, k47, hF6, g7⟩
  · obtain rfl : i = 5 := by omega
    refine ⟨_, cell_at ge rfl, PS.mk ge (by simp) fun w6 k6 s6 g6 => ?_⟩
    refine leave 0 Di Fi w6 (h5.keep k6 fun b hb e => nF b (by omega) (by omega) hb) (k5.then (k6.mono fun b _ hb => .inr hb)) hFi g6 ?_
    rw [hrun]; rfl

theorem manifest_Read {w : World} {p : Nat} {F : Nat → Prop} {D : DiskV} (ht : Tabs w) (hD : DiskAt w p F D) :
    Calls Tryz.prog F_manifest_Read #[.pointer (some ⟨p, 0, none⟩)] w (Ok fun v w' => ∃ a n c G, v = .tuple #[.agg #[.slice a n c], .bool (mfTell D).isSome] ∧ Lst cI64 3 G w' a n c ((mfTell D).getD []) ∧ Grew w w' ∧ ∀ b, G b → w.heap.size ≤ b) := by
  refine L_manifest_Read (PA.mk fun w1 k1 s1 g1 => PC.ok (Disk_Read (hD.grew k1)) ?_)
  rintro _ w2 ⟨_, rfl, a2, n2, c2, F2, rfl, ho2, k2, hF2⟩
  change Lst cU8 5 F2 w2 a2 n2 c2 (D.read mName).1 at ho2
  have hlen : (D.read mName).1.length ≤ 262144 := by
    unfold DiskV.read
    split
    · simp
    · split
      · simp
      · rename_i f hf; exact hD.ok.len (aget_mem hf)
  have hcell : ∀ {w'}, Grew w1 w' → w'.heap[w.heap.size]? = some (.cells #[.slice none 0 0] 56 (0, 0)) := fun hk => hk.get g1 id
  have stop : mfTell D = none → ∀ w3, Grew w1 w3 → PS w3 ⟨w.heap.size, 0, none⟩ (.slice none 0 0) fun w7 => ∃ (r8a : Option Addr) (r8n : Nat) (r8c : Nat), w7.cell? ⟨w.heap.size, 0, none⟩ = some (.slice r8a r8n r8c) ∧
      Ok (fun v w' => ∃ a n c G, v = .tuple #[.agg #[.slice a n c], .bool (mfTell D).isSome] ∧ Lst cI64 3 G w' a n c ((mfTell D).getD []) ∧ Grew w w' ∧ ∀ b, G b → w.heap.size ≤ b) (.returned (.tuple #[.agg #[.slice r8a r8n r8c], .bool false])) w7 := by
    intro he w3 k3
    refine PS.mk (hcell k3) (by simp) fun w4 k4 s4 g4 => ⟨_, _, _, cell_at g4 rfl, ?_⟩
    rw [he]
    exact Ok.mk ⟨none, 0, 0, fun _ => False, rfl, Lst.nil w4, (k1.then k3).new k4 fun b hb => .inr (by omega), fun _ h => h.elim⟩
  refine ⟨_, _, _, _, rfl, PIf.neI (fun hne => stop (by unfold mfTell; exact if_pos hne) w2 k2) (fun he => ?_)⟩
  have hT : mfTell D = mfRead (D.read mName).1 := by unfold mfTell; exact if_neg fun h => h he
  generalize (D.read mName).1 = bs at ho2 hlen hT
  have hn2 := ho2.len (by decide)
  refine PC.ok (frame_Get (ht.grew (k1.then k2)) (ho2.row (bytes := 1) (by decide) (by unfold Big; omega)) ho2.cap_le ho2.dom) ?_
  rintro _ w3 ⟨a3, n3, c3, F3, rfl, ho3, k3, hF3⟩
  refine ⟨_, _, _, _, _, _, rfl, PA.mk fun w4 k4 s4 g4 => PS.mk g4 (by simp) fun w5 k5 s5 g5 => PS.mk g5 (by simp) fun w6 k6 s6 g6 => ?_⟩
  have g6' : w6.heap[w3.heap.size]? = some (.cells #[.int .i64 (frGet bs).kind, .slice a3 n3 c3] 99 (0, 0)) := g6
  have k36 : Grew w3 w6 := (k4.new k5 fun b hb => .inr (by omega)).new k6 fun b hb => .inr (by omega)
  have k16 : Grew w1 w6 := (k2.then k3).then k36
  have h36 := k36.size
  refine PIf.neI (fun hne => stop (by rw [hT]; unfold mfRead; exact if_pos (.inl hne)) w6 k16) (fun hno => ?_)
  refine PIf.neI (fun hne => stop (by rw [hT]; unfold mfRead; exact if_pos (.inr (.inl fun e => hne (by rw [e, hn2])))) w6 k16) (fun hnn => ?_)
  refine ⟨_, cell_at g6' rfl, PIf.neI (fun hne => stop (by rw [hT]; unfold mfRead; exact if_pos (.inr (.inr hne))) w6 k16) (fun hk2 => ?_)⟩
  have hR : mfTell D = if rdDone (mfNums (frGet bs).body).2 ≠ 0 then none else some (mfNums (frGet bs).body).1 := by
    rw [hT]; unfold mfRead
    refine if_neg ?_
    rintro (h | h | h)
    · exact h hno
    · exact h (by omega)
    · exact h hk2
  have ho6 := ho3.grew k36
  obtain ⟨hle, h9, hbl⟩ := frGet_no hno
  generalize (frGet bs).body = body at ho6 hR hbl g6' ho3
  refine ⟨_, _, _, cell_at g6' rfl, PC.ok (pack_From (ho6.row (bytes := 1) (by decide) (by unfold Big; omega)) ho6.dom) ?_⟩
  rintro _ w7 ⟨q, P, rfl, hr7, k7, hP⟩
  refine ⟨_, rfl, PA.mk fun w8 k8 s8 g8 => PC.ok (rd_Count (m := 64) (hr7.grew k8)) ?_⟩
  rintro _ w9 ⟨rfl, hr9, k9⟩
  have hP7 := hr7.dom
  have hq := hr7.self
  have hq7 := hP7 q hq
  have hq6 := hP q hq
  obtain ⟨c1, c2', c3', c4⟩ := RdV.Fit.count (r := ⟨body, 0, 0⟩) ⟨Nat.zero_le _, .inl rfl⟩ (m := 64) (by omega)
  have g9 : w9.heap[w7.heap.size]? = some (.cells #[.slice none 0 0] 56 (0, 0)) := k9.get g8 (fun e => by omega)
  have hN : mfNums body = rdInts (rdCount 64 ⟨body, 0, 0⟩).1.toNat (rdCount 64 ⟨body, 0, 0⟩).2 := rfl
  have k19 : Grew w1 w9 := ((k16.then k7).then k8).new k9 fun b hb => .inr (by have := k16.size; omega)
  generalize hct : rdCount 64 ⟨body, 0, 0⟩ = ct at hr9 c1 c2' c3' c4 hN
  obtain ⟨cn, r0⟩ := ct
  simp only at hr9 c1 c2' c3' c4 hN
  refine ⟨_, rfl, fun m t w' => ∃ j : Nat, t = j ∧ (j : Int) ≤ cn ∧ m = cn.toNat - j ∧ RdAt w' q P (rdInts j r0).2 ∧ Grew w1 w' ∧ ∃ a n c G, w'.heap[w7.heap.size]? = some (.cells #[.slice a n c] 56 (0, 0)) ∧ Lst cI64 3 G w' a n c (rdInts j r0).1 ∧ (∀ b, G b → w9.heap.size ≤ b) ∧ w9.heap.size ≤ w'.heap.size,
    ⟨_, 0, rfl, c2', rfl, hr9, k19, none, 0, 0, fun _ => False, g9, Lst.nil w9, fun _ h => h.elim, Nat.le_refl _⟩, ?_⟩
  have k79 := k9.size
  rintro m t _ w10 ⟨j, rfl, hj, rfl, hr10, k10, a10, n10, c10, G10, g10, ho10, hG10, h910⟩
  have hP9 : ∀ b, P b → b < w9.heap.size := fun b hb => by have := hP7 b hb; omega
  refine PIf.dec (fun hlt => ?_) (fun hge => ?_)
  · intro w11 d11
    have k11 : Grew w10 w11 := d11.keep
    refine ⟨(fun b => b = q ∨ G10 b), fun hs => hs.elim (fun e => by omega) (fun e => by have := hG10 _ e; omega), _, _, _, cell_at (k11.get g10 id) rfl, PC.ok (rd_Int (hr10.grew k11)) ?_⟩
    rintro _ w12 ⟨rfl, hr12, k12⟩
    obtain ⟨f1, f2, f3, f4⟩ := c1.ints j
    obtain ⟨f5, f6, f7⟩ := f1.int
    refine ⟨_, rfl, k12.mono fun b _ hb => .inl hb, ?_⟩
    have ho12 := (ho10.grew k11).keep k12 fun b hb e => by have := hG10 b hb; omega
    refine PA.mk fun w13 k13 s13 g13 => ⟨k13.keep, ?_⟩
    have ho13 := ho12.grew k13
    have hlj : (rdInts j r0).1.length = j := f3
    refine appRow ho13 slI64 (D := (· = w12.heap.size)) (Row.lit g13 [(rdInt (rdInts j r0).2).1] rfl (fun x hx => by simp at hx; subst hx; exact f6) (by unfold Big; simp)) (fun b e => ⟨by omega, fun e2 => by have := ho12.dom b (ho12.self b e2); omega⟩) (by rw [hlj]; unfold Big; simp; omega) (by rw [hlj]; unfold maxLen; simp; omega) fun a14 c14 w14 F14 ho14 hk14 _ hs14 => ?_
    replace ho14 := ho14.alone
    have g14 : w14.heap[w7.heap.size]? = some (.cells #[.slice a10 n10 c10] 56 (0, 0)) := hk14.get (k13.get (k12.get (k11.get g10 id) (fun e => by omega)) id) (fun e => by have := hG10 _ (ho10.self _ e); omega)
    have z1 := k11.size; have z2 := k12.size; have z3 := k13.size; have z4 := hk14.size
    have hs14' : ∀ b, blk a14 = some b → w9.heap.size ≤ b := fun b hb => by
      rcases hs14 b hb with h | h
      · exact hG10 b h
      · omega
    refine ⟨_, _, _, rfl, PS.mk g14 (by simp) fun w15 k15 s15 g15 => ⟨_, by omega, j + 1, wrap_succ (by omega), by omega, rfl, ?_, ?_, a14, _, c14, (fun b => blk a14 = some b), g15, ?_, hs14', by omega⟩⟩
    · refine (((hr12.grew k13).keep hk14 fun b hb e => by have := hP9 b hb; have := hG10 b (ho10.self b e); omega)).keep k15 fun b hb e => by have := hr7.dom b hb; omega
    · refine ((((k10.then k11).new k12 fun b hb => .inr (by have := k16.size; omega)).then k13).new hk14 fun b hb => .inr (by have := hG10 b (ho10.self b hb); have := k19.size; omega)).new k15 fun b hb => .inr (by have := (k16.then k7).size; omega)
    · exact ho14.keep k15 fun b hb e => by have := hs14' b hb; omega
  · obtain rfl : cn = (j : Int) := by omega
    rw [Int.toNat_natCast] at hN
    rw [← hN] at hr10 ho10
    refine PC.ok (rd_Done hr10) ?_
    rintro _ w11 ⟨rfl, d11⟩
    have k11 : Grew w10 w11 := d11.keep
    refine ⟨_, rfl, PIf.neI (fun hne => stop (by rw [hR]; exact if_pos hne) w11 (k10.then k11)) (fun h0 => ?_)⟩
    have hS : mfTell D = some (mfNums body).1 := by rw [hR]; exact if_neg fun h => h h0
    rw [hS]
    refine ⟨_, _, _, cell_at (k11.get g10 id) rfl, PS.mk (hcell (k10.then k11)) (by simp) fun w12 k12 s12 g12 => ⟨_, _, _, cell_at g12 rfl, Ok.mk ⟨a10, n10, c10, G10, rfl, ?_, ?_, ?_⟩⟩⟩
    · exact (ho10.grew k11).keep k12 fun b hb e => by have := hG10 b hb; have := k19.size; omega
    · exact (k1.then (k10.then k11)).new k12 fun b hb => .inr (by omega)
    · intro b hb; have := hG10 b hb; have := k19.size; omega
end Go.Proofs.YtpbpjojdfcdbbaaGreatDoor

/- what the statements of chapter 19 share -/
namespace Go.Proofs.YtpbpjojdfcdbbaaGreatDoor
open Go.Lift
set_option linter.unusedVariables false
set_option maxRecDepth 20000

/-- a disk that was made behind w0, apart from blocks X -/
def NDisk (w0 w : World) (p : Nat) (D : DiskV) (X : Nat → Prop) : Prop := ∃ F, DiskAt w p F D ∧ Grew w0 w ∧ (∀ b, F b → w0.heap.size ≤ b ∧ ¬ X b) ∧ ∀ b, X b → b < w.heap.size

abbrev no : Nat → Prop := fun _ => False
abbrev Not' (X : Nat → Prop) : Nat → Prop := fun b => ¬ X b

section
variable {w0 w w1 w' : World} {p : Nat} {D D' : DiskV} {X Y : Nat → Prop}
theorem NDisk.gr (h : NDisk w0 w p D X) : Grew w0 w := by obtain ⟨F, h1, h2, h3, h4⟩ := h; exact h2
theorem NDisk.ok (h : NDisk w0 w p D X) : D.Ok := by obtain ⟨F, h1, h2, h3, h4⟩ := h; exact h1.ok
theorem NDisk.grew (h : NDisk w0 w p D X) (hk : Grew w w') : NDisk w0 w' p D X := by
  obtain ⟨F, h1, h2, h3, h4⟩ := h; exact ⟨F, h1.grew hk, h2.grew hk, h3, fun b hb => Nat.lt_of_lt_of_le (h4 b hb) hk.size⟩
theorem NDisk.mono (h : NDisk w0 w p D X) (hx : ∀ b, Y b → X b) : NDisk w0 w p D Y := by
  obtain ⟨F, h1, h2, h3, h4⟩ := h; exact ⟨F, h1, h2, fun b hb => ⟨(h3 b hb).1, fun hy => (h3 b hb).2 (hx b hy)⟩, fun b hb => h4 b (hx b hb)⟩
/-- what is made behind is apart -/
theorem NDisk.add (h : NDisk w0 w p D X) (hk : Grew w w') (hY : ∀ b, Y b → w.heap.size ≤ b ∧ b < w'.heap.size) : NDisk w0 w' p D (fun b => X b ∨ Y b) := by
  obtain ⟨F, h1, h2, h3, h4⟩ := h
  exact ⟨F, h1.grew hk, h2.grew hk, fun b hb => ⟨(h3 b hb).1, fun hx => hx.elim (h3 b hb).2 fun hy => by have := h1.dom b hb; have := (hY b hy).1; omega⟩, fun b hb => hb.elim (fun h => Nat.lt_of_lt_of_le (h4 b h) hk.size) fun h => (hY b h).2⟩
theorem NDisk.of (hg : Grew w0 w) (hk : Grew w w') {F : Nat → Prop} (hD : DiskAt w' p F D) (hF : ∀ b, F b → w.heap.size ≤ b) (hX : ∀ b, X b → b < w.heap.size) : NDisk w0 w' p D X :=
  ⟨F, hD, hg.grew hk, fun b hb => ⟨Nat.le_trans hg.size (hF b hb), fun hx => by have := hF b hb; have := hX b hx; omega⟩, fun b hb => Nat.lt_of_lt_of_le (hX b hb) hk.size⟩

/-- what a call on such a disk hands back -/
def Does2 (w0 w : World) (p : Nat) (X : Nat → Prop) (r : Int × DiskV) (v : Value) (w' : World) : Prop := v = .int .i64 r.1 ∧ NDisk w0 w' p r.2 X ∧ Keep (Not' X) w w'

theorem NDisk.callG {g : FuncId} {args : Array Value} {r : Int × DiskV} (h : NDisk w0 w p D X) (hk : Grew w w1)
    (hc : ∀ F, DiskAt w1 p F D → (∀ b, F b → w0.heap.size ≤ b ∧ b < w.heap.size ∧ ¬ X b) → Calls Tryz.prog g args w1 (Ok (Did w1 p F r))) : Calls Tryz.prog g args w1 (Ok (Does2 w0 w1 p X r)) := by
  obtain ⟨F, h1, h2, h3, h4⟩ := h
  refine Calls.ok (hc F (h1.grew hk) fun b hb => ⟨(h3 b hb).1, h1.dom b hb, (h3 b hb).2⟩) ?_
  rintro v w' ⟨F', hv, hD, hev⟩
  have := hk.size; have := h2.size; have := hev.keep.size
  exact ⟨hv, ⟨F', hD, (h2.grew hk).new hev.keep fun b hb => .inr (h3 b hb).1, fun b hb => (hev.new b hb).elim (h3 b) fun h => ⟨by omega, fun hx => by have := h4 b hx; omega⟩, fun b hb => by have := h4 b hb; omega⟩, hev.keep.mono fun b _ hb => (h3 b hb).2⟩
theorem NDisk.call {g : FuncId} {args : Array Value} {r : Int × DiskV} (h : NDisk w0 w p D X)
    (hc : ∀ F, DiskAt w p F D → (∀ b, F b → w0.heap.size ≤ b ∧ b < w.heap.size ∧ ¬ X b) → Calls Tryz.prog g args w (Ok (Did w p F r))) : Calls Tryz.prog g args w (Ok (Does2 w0 w p X r)) := h.callG (Keep.refl w) hc

/-- bytes that came in, or lie in X -/
theorem NDisk.append {k : ByteArray} {a : Option Addr} {n c : Nat} {bs : List UInt8} {Db : Nat → Prop} (h : NDisk w0 w p D X) (hb : Row cU8 1 w Db a n bs) (hnil : a = none → n = 0 ∧ c = 0) (hDb : ∀ b, Db b → b < w0.heap.size ∨ X b) :
    Calls Tryz.prog F_vdisk_Disk_Append #[.pointer (some ⟨p, 0, none⟩), .string k, .slice a n c] w (Ok (Does2 w0 w p X (D.append k bs))) := by
  have hg := h.gr.size
  have hx : ∀ b, X b → b < w.heap.size := by obtain ⟨F, h1, h2, h3, h4⟩ := h; exact h4
  exact h.call fun F hD hF => Disk_Append hD hb hnil fun b hb => ⟨(hDb b hb).elim (fun h => by omega) (hx b), fun hf => (hDb b hb).elim (fun h => by have := (hF b hf).1; omega) (hF b hf).2.2⟩
theorem NDisk.create {k : ByteArray} (h : NDisk w0 w p D X) : Calls Tryz.prog F_vdisk_Disk_Create #[.pointer (some ⟨p, 0, none⟩), .string k] w (Ok (Does2 w0 w p X (D.create k))) := h.call fun F hD _ => Disk_Create hD
theorem NDisk.sync {k : ByteArray} (h : NDisk w0 w p D X) : Calls Tryz.prog F_vdisk_Disk_Sync #[.pointer (some ⟨p, 0, none⟩), .string k] w (Ok (Does2 w0 w p X (D.sync k))) := h.call fun F hD _ => Disk_Sync hD
theorem NDisk.cutF {k : ByteArray} {n : Int} (h : NDisk w0 w p D X) : Calls Tryz.prog F_vdisk_Disk_Cut #[.pointer (some ⟨p, 0, none⟩), .string k, .int .i64 n] w (Ok (Does2 w0 w p X (D.cutF k n))) := h.call fun F hD _ => Disk_Cut hD
theorem NDisk.delete {k : ByteArray} (h : NDisk w0 w p D X) : Calls Tryz.prog F_vdisk_Disk_Delete #[.pointer (some ⟨p, 0, none⟩), .string k] w (Ok (Does2 w0 w p X (D.delete k))) := h.call fun F hD _ => Disk_Delete hD
theorem NDisk.call' {g : FuncId} {args : Array Value} (h : NDisk w0 w p D X)
    (hc : ∀ F, DiskAt w p F D → Calls Tryz.prog g args w (Ok fun v w' => ∃ F', v = .tuple #[] ∧ DiskAt w' p F' D' ∧ Evo F w F' w')) : Calls Tryz.prog g args w (Ok fun v w' => v = .tuple #[] ∧ NDisk w0 w' p D' X ∧ Keep (Not' X) w w') := by
  obtain ⟨F, h1, h2, h3, h4⟩ := h
  refine Calls.ok (hc F h1) ?_
  rintro v w' ⟨F', hv, hD, hev⟩
  have := h2.size; have := hev.keep.size
  exact ⟨hv, ⟨F', hD, h2.new hev.keep fun b hb => .inr (h3 b hb).1, fun b hb => (hev.new b hb).elim (h3 b) fun h => ⟨by omega, fun hx => by have := h4 b hx; omega⟩, fun b hb => by have := h4 b hb; omega⟩, hev.keep.mono fun b _ hb => (h3 b hb).2⟩
theorem NDisk.crash {keep : Int} (h : NDisk w0 w p D X) (hk : I64 keep) : Calls Tryz.prog F_vdisk_Disk_Crash #[.pointer (some ⟨p, 0, none⟩), .int .i64 keep] w (Ok fun v w' => v = .tuple #[] ∧ NDisk w0 w' p (D.crash keep) X ∧ Keep (Not' X) w w') :=
  h.call' fun F hD => Disk_Crash hD hk
theorem NDisk.fuse {n : Int} (h : NDisk w0 w p D X) (hk : I64 n) : Calls Tryz.prog F_vdisk_Disk_Fuse #[.pointer (some ⟨p, 0, none⟩), .int .i64 n] w (Ok fun v w' => v = .tuple #[] ∧ NDisk w0 w' p (D.fuse n) X ∧ Keep (Not' X) w w') :=
  h.call' fun F hD => Calls.ok (Disk_Fuse hk hD) fun v w' ⟨h1, h2, h3⟩ => ⟨F, h1, h2, h3⟩
theorem NDisk.read {k : ByteArray} (h : NDisk w0 w p D X) : Calls Tryz.prog F_vdisk_Disk_Read #[.pointer (some ⟨p, 0, none⟩), .string k] w (Ok fun v w' => ∃ a n c F, v = .tuple #[.slice a n c, .int .i64 (D.read k).2] ∧ Lst cU8 5 F w' a n c (D.read k).1 ∧ (∀ b, F b → w.heap.size ≤ b) ∧ NDisk w0 w' p D (fun b => X b ∨ F b) ∧ Grew w w') := by
  obtain ⟨F, h1, h2⟩ := h
  refine Calls.ok (Disk_Read h1) ?_
  rintro v w' ⟨u, rfl, a, n, c, G, rfl, ho, hk, hG⟩
  exact ⟨a, n, c, G, rfl, ho, hG, NDisk.add ⟨F, h1, h2⟩ hk fun b hb => ⟨hG b hb, ho.dom b hb⟩, hk⟩
theorem NDisk.room (h : NDisk w0 w p D X) : Calls Tryz.prog F_vdisk_Disk_Room #[.pointer (some ⟨p, 0, none⟩)] w (Ok fun v w' => v = .int .i64 D.room ∧ NDisk w0 w' p D X ∧ Grew w w') := by
  obtain ⟨F, h1, h2⟩ := h
  refine Calls.ok (Disk_Room h1) ?_
  rintro v w' ⟨rfl, hk⟩
  exact ⟨rfl, NDisk.grew ⟨F, h1, h2⟩ hk, hk⟩
end

theorem uD : Tryz.prog.underlying 25 = some (.pointer 80) := by kernel_rfl

/-- a disk of a size that may be -/
def newD (n : Nat) : DiskV := ⟨n, [], false, 0, false⟩
theorem new_ok {w0 w : World} {n : Int} (hg : Grew w0 w) (h1 : 64 ≤ n) (h2 : n ≤ 262144) : Calls Tryz.prog F_vdisk_New #[.int .i64 n] w (Ok fun v w' => ∃ p, v = .tuple #[.pointer (some ⟨p, 0, none⟩), .int .i64 0] ∧ NDisk w0 w' p (newD n.toNat) (fun b => b < w.heap.size) ∧ Grew w w') := by
  refine Calls.ok vdisk_New ?_
  intro v w' h
  rw [if_neg (by omega)] at h
  obtain ⟨p, F, rfl, hD, hk, hF⟩ := h
  exact ⟨p, rfl, NDisk.of hg hk hD hF fun b hb => hb, hk⟩

theorem read_len {D : DiskV} (h : D.Ok) (k : ByteArray) : (D.read k).1.length ≤ 262144 := by
  unfold DiskV.read
  split
  · simp
  · split
    · simp
    · rename_i f hf; exact h.len (aget_mem hf)

end Go.Proofs.YtpbpjojdfcdbbaaGreatDoor

/- ManifestAgain: the walk -/
namespace Go.Proofs.YtpbpjojdfcdbbaaGreatDoor
open Go.Lift Go.ChangeShapes Go.WideShapes Go.ChangeAt Go.RowKit
set_option linter.unusedVariables false
set_option maxRecDepth 20000

section
variable {w0 w w1 w' : World} {p : Nat} {D D' : DiskV} {X Y : Nat → Prop}
theorem NDisk.mfWrite {a : Option Addr} {n c : Nat} {l : List Int} {Dl : Nat → Prop} (h : NDisk w0 w p D X) (ht : Tabs w0) (hl : Row cI64 8 w Dl a n l) (hok : ∀ x ∈ l, I64 x) (hDl : ∀ b, Dl b → b < w0.heap.size ∨ X b) :
    Calls Tryz.prog F_manifest_Write #[.pointer (some ⟨p, 0, none⟩), .agg #[.slice a n c]] w (Ok (Does2 w0 w p X (mfWrite D l))) := by
  have hg := h.gr.size
  have hx : ∀ b, X b → b < w.heap.size := by obtain ⟨F, h1, h2, h3, h4⟩ := h; exact h4
  have hlt := ht.lt
  exact h.call fun F hD hF => manifest_Write (ht.grew h.gr) hD hl hok (fun b hb => ⟨(hDl b hb).elim (fun h => by omega) (hx b), fun hf => (hDl b hb).elim (fun h => by have := (hF b hf).1; omega) (hF b hf).2.2⟩) fun b hb => by have := (hF b hb).1; omega
theorem NDisk.mfRead (h : NDisk w0 w p D X) (ht : Tabs w0) : Calls Tryz.prog F_manifest_Read #[.pointer (some ⟨p, 0, none⟩)] w (Ok fun v w' => ∃ a n c G, v = .tuple #[.agg #[.slice a n c], .bool (mfTell D).isSome] ∧ Lst cI64 3 G w' a n c ((mfTell D).getD []) ∧
    (∀ b, G b → w.heap.size ≤ b) ∧ NDisk w0 w' p D (fun b => X b ∨ G b) ∧ Grew w w') := by
  have hg := h.gr
  obtain ⟨F, h1, h2⟩ := h
  refine Calls.ok (manifest_Read (ht.grew hg) h1) ?_
  rintro v w' ⟨a, n, c, G, rfl, ho, hk, hG⟩
  exact ⟨a, n, c, G, rfl, ho, hG, NDisk.add ⟨F, h1, h2⟩ hk fun b hb => ⟨hG b hb, ho.dom b hb⟩, hk⟩
end
theorem row_i64 {w : World} {D : Nat → Prop} {a : Option Addr} {n bytes : Nat} {l : List Int} (h : Row cI64 bytes w D a n l) : ∀ x ∈ l, I64 x := fun x hx => by
  obtain ⟨i, hi⟩ := List.mem_iff_getElem?.1 hx
  obtain ⟨b, off, es, -, -, -, -, hr⟩ := h.el i x hi
  exact hr.2
theorem mfTell_le {D : DiskV} : ((mfTell D).getD []).length ≤ 64 := by
  unfold mfTell
  split
  · simp
  · cases h : mfRead (D.read mName).1 with
    | none => simp
    | some l => exact (mfRead_ok h).2

/-! the disk with its manifest alone -/
theorem tn : (mTemp == mName) = false := by decide +kernel
theorem temp_ok : isNameV mTemp = true := by decide +kernel
theorem name_ok' : isNameV mName = true := by decide +kernel
end Go.Proofs.YtpbpjojdfcdbbaaGreatDoor

/- segment: an event's frame, loading; events copied, and some -/
namespace Go.Lift
open Go
def evSome (n : Int) : EventV := ⟨0, n, n, [n - 1], 0, 0, 0, 1, 3, 0⟩
theorem evSome_ok {n : Int} (h1 : 1 ≤ n) (h2 : n ≤ 1000) : (evSome n).Ok ∧ (evSome n).deps.length ≤ 64 := by
  refine ⟨⟨?_, ?_, ?_, ?_, ?_, ?_, ?_, ?_, ?_, ?_⟩, by simp [evSome]⟩
  all_goals first | (unfold evSome I64; simp only; omega) | (intro x hx; simp [evSome] at hx; subst hx; unfold I64; omega)
end Go.Lift
namespace Go.Proofs.YtpbpjojdfcdbbaaGreatDoor
open Go.Lift
set_option linter.unusedVariables false
set_option maxRecDepth 20000

theorem seg_Frame {w : World} {D : Nat → Prop} {e : EventV} {a : Option Addr} {n c : Nat} (hw : Laid w) (hd : Row cI64 8 w D a n e.deps) (he : e.Ok) (hD : ∀ b, D b → b < w.heap.size) :
    Calls Tryz.prog F_segment_Frame #[.agg (evCells e a n c).toArray] w (Ok fun v w' => ∃ a' n' c' F, v = .tuple #[.slice a' n' c', .int .i64 (segFrame e).2] ∧ Lst cU8 5 F w' a' n' c' (segFrame e).1 ∧ Grew w w' ∧ ∀ b, F b → w.heap.size ≤ b) := by
  refine L_segment_Frame (PA.mk fun w1 k1 s1 g1 => ?_)
  refine ⟨_, _, _, _, _, _, _, _, _, _, _, _, cell_at g1 rfl, cell_at g1 rfl, cell_at g1 rfl, cell_at g1 rfl, cell_at g1 rfl, cell_at g1 rfl, cell_at g1 rfl, cell_at g1 rfl, cell_at g1 rfl, cell_at g1 rfl,
    PC.ok (event_Put (hd.grew k1) he fun b hb => Nat.lt_of_lt_of_le (hD b hb) k1.size) ?_⟩
  rintro _ w2 ⟨_, rfl, a2, n2, c2, F2, rfl, ho2, k2, hF2⟩
  refine ⟨_, _, _, _, rfl, PIf.neI (fun hne => ?_) (fun he0 => ?_)⟩
  · rw [show segFrame e = ([], (evPut e).2) by unfold segFrame; rw [if_pos hne]]
    exact Ok.mk ⟨none, 0, 0, fun _ => False, rfl, Lst.nil w2, k1.then k2, fun _ h => h.elim⟩
  rw [show segFrame e = frPut 1 (evPut e).1 by unfold segFrame; rw [if_neg (by simpa using he0)]]
  have hle : (evPut e).1.length ≤ 666 := by
    by_cases h : 64 < e.deps.length
    · simp [evPut, h]
    · have := ev_le he (by omega)
      simpa [evPut, h] using this
  refine PC.ok (frame_Put (hw.grew (k1.then k2)).tabs (ho2.row (bytes := 1) (by decide) (by unfold Big; omega)) ho2.dom) ?_
  rintro _ w3 ⟨_, rfl, a3, n3, c3, F3, rfl, ho3, k3, hF3⟩
  refine ⟨_, _, _, _, rfl, Ok.mk ⟨_, _, _, F3, rfl, ho3, (k1.then k2).then k3, fun b hb => ?_⟩⟩
  have := hF3 b hb; have := (k1.then k2).size; omega

theorem drop_sub {α : Type} {l : List α} {m : Nat} (h : l.length = m) (k : Nat) : (l.take m).drop k = l.drop k := by rw [List.take_of_length_le (by omega)]

theorem seg_Load {w : World} {p : Nat} {F : Nat → Prop} {D : DiskV} {no : Int} (hw : Laid w) (hD : DiskAt w p F D) (hn : I64 no) :
    Calls Tryz.prog F_segment_Load #[.pointer (some ⟨p, 0, none⟩), .int .i64 no] w (Ok fun v w' => ∃ a n c G, v = .tuple #[.slice a n c, .int .i64 ((segLoad (D.read (txt (segName no))).1).2 : Int)] ∧
      Lst cEvO 39 G w' a n c (segLoad (D.read (txt (segName no))).1).1 ∧ Grew w w' ∧ (∀ b, G b → w.heap.size ≤ b) ∧ (segLoad (D.read (txt (segName no))).1).1.length ≤ 262144) := by
  refine L_segment_Load (PC.ok (seg_Name hw hn) ?_)
  rintro _ w1 ⟨rfl, k1⟩
  refine ⟨_, rfl, PC.ok (Disk_Read (hD.grew k1)) ?_⟩
  rintro _ w2 ⟨_, rfl, a2, n2, c2, F2, rfl, ho2, k2, hF2⟩
  have hlen := read_len hD.ok (txt (segName no))
  have hnil : (D.read (txt (segName no))).2 ≠ 0 → (D.read (txt (segName no))).1 = [] := by
    unfold DiskV.read
    split
    · intro _; rfl
    · split
      · intro _; rfl
      · intro h; exact absurd rfl h
  generalize D.read (txt (segName no)) = rd at ho2 hlen hnil
  obtain ⟨bs, er⟩ := rd
  simp only at ho2 hlen hnil ⊢
  refine ⟨_, _, _, _, rfl, PIf.neI (fun hne => ?_) (fun he => ?_)⟩
  · rw [hnil hne, segLoad_nil]
    exact Ok.mk ⟨none, 0, 0, fun _ => False, rfl, Lst.nil w2, k1.then k2, fun _ h => h.elim, by simp⟩
  have hn2 := ho2.len (by decide)
  have hc2 := ho2.cap_le
  have hrow2 : Row cU8 1 w2 F2 a2 n2 bs := ho2.row (by decide) (by unfold Big; omega)
  refine ⟨fun m oa on oc at' w' => ∃ (pos : Nat) (out : List EventV) (G : Nat → Prop), at' = pos ∧ pos ≤ bs.length ∧ m = bs.length - pos ∧ segLoad bs = (out ++ (segLoad (bs.drop pos)).1, pos + (segLoad (bs.drop pos)).2) ∧ out.length ≤ pos ∧
    Lst cEvO 39 G w' oa on oc out ∧ Grew w2 w' ∧ ∀ b, G b → w2.heap.size ≤ b, ⟨_, 0, [], fun _ => False, rfl, Nat.zero_le _, rfl, by simp, by simp, Lst.nil w2, Keep.refl _, fun _ h => h.elim⟩, ?_⟩
  rintro m oa on oc _ _ w3 ⟨pos, out, G, rfl, hpos, rfl, hseg, hout, ho3, k3, hG⟩
  refine ⟨by omega, by omega, ?_⟩
  have kk : Grew w w3 := (k1.then k2).then k3
  have hpart := (hrow2.grew k3).part (lo := pos) (hi := n2) (cap := c2) (by omega) (Nat.le_refl _) hc2
  rw [drop_sub hn2.symm] at hpart
  rw [Int.toNat_natCast]
  refine PC.ok (frame_Get (hw.grew kk).tabs hpart (by omega) fun b hb => by have := ho2.dom b hb; have := k3.size; omega) ?_
  rintro _ w4 ⟨a4, n4, c4, F4, rfl, ho4, k4, hF4⟩
  have stop : ¬ ((frGet (bs.drop pos)).no = 0 ∧ (frGet (bs.drop pos)).kind = 1 ∧ (evGet (frGet (bs.drop pos)).body).2 = 0) → ∀ w', Grew w4 w' →
      Ok (fun v w' => ∃ a n c G, v = .tuple #[.slice a n c, .int .i64 ((segLoad bs).2 : Int)] ∧ Lst cEvO 39 G w' a n c (segLoad bs).1 ∧ Grew w w' ∧ (∀ b, G b → w.heap.size ≤ b) ∧ (segLoad bs).1.length ≤ 262144) (.returned (.tuple #[.slice oa on oc, .int .i64 (pos : Int)])) w' := by
    intro h w' hk
    rw [hseg, segLoad_no h]
    refine Ok.mk ⟨oa, on, oc, G, by simp, by simpa using (ho3.grew k4).grew hk, (kk.then k4).then hk, fun b hb => ?_, by simp; omega⟩
    have := hG b hb; have := (k1.then k2).size; omega
  refine ⟨_, _, _, _, _, _, rfl, PA.mk fun w5 k5 s5 g5 => ?_⟩
  refine storeAll [.int .i64 (frGet (bs.drop pos)).kind, .slice a4 n4 c4] g5 rfl fun w6 k6 s6 g6 => ?_
  have k46 : Grew w4 w6 := k5.new k6 fun b hb => .inr (by omega)
  refine PIf.neI (fun hne => stop (fun h => hne h.1) w6 k46) (fun hno => ?_)
  refine ⟨_, cell_at g6 rfl, PIf.neI (fun hne => stop (fun h => hne h.2.1) w6 k46) (fun hkind => ?_)⟩
  obtain ⟨hle, h9, hbl⟩ := frGet_no hno
  rw [List.length_drop] at hle
  have ho6 := ho4.grew k46
  refine ⟨_, _, _, cell_at g6 rfl, PC.ok (event_Get (ho6.row (bytes := 1) (by decide) (by unfold Big; omega)) ho6.dom) ?_⟩
  rintro _ w7 ⟨a7, n7, c7, F7, rfl, ho7, k7, hF7⟩
  obtain ⟨hok, hdl⟩ := evGet_ok (frGet (bs.drop pos)).body
  generalize hE : evGet (frGet (bs.drop pos)).body = E at ho7 hok hdl
  obtain ⟨x, xe⟩ := E
  simp only at ho7 hok hdl
  refine ⟨_, _, _, _, _, _, _, _, _, _, _, _, _, rfl, PA.mk fun w8 k8 s8 g8 => ?_⟩
  refine storeAll (evCells x a7 n7 c7) g8 rfl fun w9 k9 s9 g9 => ?_
  have k79 : Grew w7 w9 := k8.new k9 fun b hb => .inr (by omega)
  have k49 : Grew w4 w9 := (k46.then k7).then k79
  refine PIf.neI (fun hne => stop (fun h => hne (by have := h.2.2; rw [hE] at this; exact this)) w9 k49) (fun hxe => ?_)
  refine ⟨_, _, _, _, _, _, _, _, _, _, _, _, cell_at g9 rfl, cell_at g9 rfl, cell_at g9 rfl, cell_at g9 rfl, cell_at g9 rfl, cell_at g9 rfl, cell_at g9 rfl, cell_at g9 rfl, cell_at g9 rfl, cell_at g9 rfl, ?_⟩
  have k39 : Grew w3 w9 := k4.then k49
  have ho9 := ho3.grew k39
  have ho79 := ho7.grew k79
  have hs67 := (k4.then k46).size
  refine papp ho9 slEv (x := x) (D := F7) ⟨a7, n7, c7, F7, rfl, ho79, fun _ h => h, hok, by unfold Big; omega⟩ (fun b hb => ⟨ho79.dom b hb, fun hc => ?_⟩) (by unfold Big; omega) (by unfold maxLen; omega) fun a' c' w10 F' ho10 hk10 hF10 _ => ?_
  · have h1 := ho3.dom b (ho3.self b hc)
    have h2 := hF7 b hb
    omega
  refine ⟨_, _, _, rfl, _, ?_, pos + (frGet (bs.drop pos)).n, out ++ [x], F', ?_, by omega, rfl, ?_, by simp; omega, ho10, ?_, ?_⟩
  · omega
  · rw [wrap_i64 (by unfold I64; omega)]; omega
  · rw [hseg, segLoad_yes ⟨hno, hkind, by rw [hE]; exact hxe⟩, hE, List.drop_drop]
    simp only [List.append_assoc, List.cons_append, List.nil_append, Nat.add_assoc]
  · exact (k3.then k39).new hk10 fun b hb => .inr (hG b (ho3.self b hb))
  · intro b hb
    have hz := (k3.then k39).size
    have hz3 := k3.size
    rcases hF10 b hb with h | h | h
    · exact hG b h
    · have := hF7 b h; omega
    · omega

theorem kit_CopyEvent {e : EventV} {a : Option Addr} {n c : Nat} {w : World} {D : Nat → Prop} (hd : Row cI64 8 w D a n e.deps) :
    Calls Tryz.prog F_kit_CopyEvent #[.agg (evCells e a n c).toArray] w (Ok fun v w' => ∃ a' n' c' F, v = .agg (evCells e a' n' c').toArray ∧ Lst cI64 3 F w' a' n' c' e.deps ∧ Grew w w' ∧ ∀ b, F b → w.heap.size ≤ b) := by
  refine L_kit_CopyEvent (PA.mk fun w1 k1 s1 g1 => PA.mk fun w2 k2 s2 g2 => ?_)
  have k02 : Grew w w2 := k1.then k2
  refine ⟨_, _, _, cell_at (k2.get g1 id) rfl, PC.ok (kit_CopyIntsR (hd.grew k02)) ?_⟩
  rintro _ w3 ⟨a3, n3, c3, F3, rfl, ho3, k3, hF3⟩
  have gE := k3.get (k2.get g1 id) id
  have gR := k3.get g2 id
  refine ⟨_, _, _, rfl, PS.mk gE (by simp) fun w4 k4 s4 g4 => ?_⟩
  have g4' : w4.heap[w.heap.size]? = some (.cells (evCells e a3 n3 c3).toArray 39 (0, 0)) := by rw [g4]; rfl
  have gR4 := k4.get gR (by omega)
  refine ⟨_, _, _, _, _, _, _, _, _, _, _, _, cell_at g4' rfl, cell_at g4' rfl, cell_at g4' rfl, cell_at g4' rfl, cell_at g4' rfl, cell_at g4' rfl, cell_at g4' rfl, cell_at g4' rfl, cell_at g4' rfl, cell_at g4' rfl, ?_⟩
  refine storeAll (evCells e a3 n3 c3) gR4 rfl fun w5 k5 s5 g5 => ?_
  refine ⟨_, _, _, _, _, _, _, _, _, _, _, _, cell_at g5 rfl, cell_at g5 rfl, cell_at g5 rfl, cell_at g5 rfl, cell_at g5 rfl, cell_at g5 rfl, cell_at g5 rfl, cell_at g5 rfl, cell_at g5 rfl, cell_at g5 rfl,
    Ok.mk ⟨a3, n3, c3, F3, rfl, ?_, ?_, fun b hb => by have := hF3 b hb; omega⟩⟩
  · exact (ho3.keep k4 fun b hb e => by have := hF3 b hb; omega).keep k5 fun b hb e => by have := hF3 b hb; omega
  · exact ((k02.then k3).new k4 fun b hb => .inr (by omega)).new k5 fun b hb => .inr (by omega)

theorem kit_CopyEvents {l : List EventV} {a : Option Addr} {n c : Nat} {w : World} {D : Nat → Prop} (ha : Row cEv 96 w D a n l) (hsm : ∀ e ∈ l, e.deps.length ≤ 100) :
    Calls Tryz.prog F_kit_CopyEvents #[.slice a n c] w (Ok (New cEvO 39 w l)) := by
  have ha0 := ha.len; have ha1 := ha.big
  unfold Big at ha1
  refine L_kit_CopyEvents ⟨fun k oa on oc i w' => i = (on : Int) ∧ on ≤ n ∧ k = n - on ∧ ∃ F, Lst cEvO 39 F w' oa on oc (l.take on) ∧ Grew w w' ∧ ∀ b, F b → w.heap.size ≤ b,
    ⟨_, rfl, Nat.zero_le _, rfl, fun _ => False, by simpa using Lst.nil w, Keep.refl _, fun _ h => h.elim⟩, ?_⟩
  rintro k oa on oc i _ w1 ⟨rfl, hj, rfl, F, ho, hk, hF⟩
  refine PIf.dec (fun h1 => ?_) (fun h1 => ?_)
  · obtain ⟨b, off, x, es, rfl, _, _, hx, hc, a1, n1, c1, rfl, hr, hok⟩ := (ha.grew hk).atN (i := on) (by omega)
    have htl : (l.take on).length = on := by simp; omega
    have e1 := fun i (hi : i < 10) => hc i hi
    refine ⟨b, off, rfl, by omega, by omega, _, _, _, _, _, _, _, _, _, _, _, _, e1 0 (by decide), e1 1 (by decide), e1 2 (by decide), e1 3 (by decide), e1 4 (by decide), e1 5 (by decide), e1 6 (by decide), e1 7 (by decide), e1 8 (by decide), e1 9 (by decide), ?_⟩
    refine PC.ok (kit_CopyEvent hr) ?_
    rintro _ w2 ⟨a2, n2, c2, F2, rfl, ho2, k2, hF2⟩
    have hdl := hsm x (List.mem_of_getElem? hx)
    refine ⟨_, _, _, _, _, _, _, _, _, _, _, _, rfl, papp (ho.grew k2) slEv (x := x) (D := F2) ⟨a2, n2, c2, F2, rfl, ho2, fun _ h => h, hok, by unfold Big; omega⟩ (fun b hb => ⟨ho2.dom b hb, fun hc => ?_⟩) (by rw [htl]; unfold Big; omega) (by rw [htl]; unfold maxLen; omega) fun a' c' w3 F' ho3 hk3 hF3 _ => ?_⟩
    · have h1 := ho.dom b (ho.self b hc); have h2 := hF2 b hb; omega
    refine ⟨_, _, _, rfl, n - (on + 1), by omega, wrap_succ (by omega), by omega, rfl, F', ?_, (hk.then k2).new hk3 fun b hb => .inr (hF b (ho.self b hb)), ?_⟩
    · rw [List.take_add_one, hx]; exact ho3
    · intro b hb
      have := hk.size; have := (hk.then k2).size
      rcases hF3 b hb with h | h | h
      · exact hF b h
      · have := hF2 b h; omega
      · omega
  · obtain rfl : on = n := by omega
    rw [List.take_of_length_le (by omega)] at ho
    exact Ok.mk ⟨_, _, _, F, rfl, ho, hk, hF⟩
end Go.Proofs.YtpbpjojdfcdbbaaGreatDoor

/- seglog: how a log lies; its name, its next number, its beginning of a segment -/
namespace Go.Proofs.YtpbpjojdfcdbbaaGreatDoor
open Go.Lift
set_option linter.unusedVariables false
set_option maxRecDepth 20000

theorem slices_Clone_I {a : Option Addr} {n c : Nat} {xs : List Int} {w : World} {D : Nat → Prop} (h : Row cI64 8 w D a n xs) (hD : ∀ b, D b → b < w.heap.size) :
    Calls Tryz.prog 58 #[.slice a n c] w (Ok (New cI64 3 w xs)) := by
  have hl := h.len; have hb := h.big
  refine L_slices_Clone_int_int (eq_nil_slice slI64.under ⟨_, rfl, PIf.mk (fun h1 => ?_) (fun h1 => PA.mk fun w1 hk1 hs1 hg1 => ?_)⟩)
  · have : xs = [] := by
      cases a with
      | none =>
        cases xs with
        | nil => rfl
        | cons x r => obtain ⟨b, off, es, ha, _⟩ := h.el 0 x rfl; cases ha
      | some p => cases h1
    subst this
    exact Ok.mk ⟨none, 0, 0, fun _ => False, rfl, Lst.nil w, Keep.refl _, fun _ h => h.elim⟩
  · cases a with
    | none => cases h1
    | some p =>
      have ho : Lst cI64 3 (· = w.heap.size) w1 (some ⟨w.heap.size, 0, none⟩) 0 0 [] :=
        ⟨⟨[], fun _ => False, Own.of_new (cur := #[]) hg1 rfl (Nat.zero_le _), rfl, fun _ h => h.elim⟩, fun b hb => by simpa [blk] using hb.symm, fun b hb => by omega⟩
      refine appRow ho slI64 (D := D) (h.grew hk1) (fun b hb => ⟨by have := hD b hb; omega, by have := hD b hb; simp only [blk]; intro e; cases e; omega⟩) (by simp; omega) (by unfold Big at hb; unfold maxLen; simp; omega) fun a' c' w2 F' ho2 hk2 _ hs2 => ?_
      refine ⟨_, _, _, rfl, Ok.mk ⟨a', _, c', fun b => blk a' = some b, rfl, by have h := ho2.alone; rw [List.nil_append] at h; exact h, hk1.new hk2 fun b hb => .inr ?_, fun b hb => ?_⟩⟩
      · simp only [blk, Option.some.injEq] at hb; omega
      · rcases hs2 b hb with h | h <;> omega

def nextStep (n : Int) (s : ByteArray) : Int := if (segNoV s).2 then max n ((segNoV s).1 + 1) else n
def nextL (l : List ByteArray) : Int := l.foldl nextStep 1
def nextV (D : DiskV) : Int := nextL D.list
theorem segNoV_lt (s : ByteArray) : 0 ≤ (segNoV s).1 ∧ (segNoV s).1 < 1000000000000 := by
  unfold segNoV
  split
  · rename_i k hk
    have := (segNo_some hk).2
    simp; omega
  · simp
theorem nextStep_rng {n : Int} (h : 1 ≤ n ∧ n ≤ 1000000000000) (s : ByteArray) : 1 ≤ nextStep n s ∧ nextStep n s ≤ 1000000000000 := by
  have := segNoV_lt s
  unfold nextStep
  split <;> omega
theorem fold_rng : ∀ (l : List ByteArray) (n : Int), (1 ≤ n ∧ n ≤ 1000000000000) → 1 ≤ l.foldl nextStep n ∧ l.foldl nextStep n ≤ 1000000000000
  | [], n, h => h
  | s :: l, n, h => fold_rng l _ (nextStep_rng h s)
theorem nextL_rng (l : List ByteArray) : 1 ≤ nextL l ∧ nextL l ≤ 1000000000000 := fold_rng l 1 (by omega)

theorem seglog_next {w : World} {p : Nat} {F : Nat → Prop} {D : DiskV} (hw : Laid w) (hD : DiskAt w p F D) :
    Calls Tryz.prog F_seglog_next #[.pointer (some ⟨p, 0, none⟩)] w (Ok fun v w' => v = .int .i64 (nextV D) ∧ Grew w w') := by
  refine L_seglog_next (PC.ok (Disk_List hD) ?_)
  rintro _ w1 ⟨a, n, c, G, rfl, ho, k1, hG⟩
  have hl : D.list.length ≤ 64 := by rw [list_length']; exact hD.ok.many
  have hn := ho.len (by decide)
  have hr : Row cStr 16 w1 G a n D.list := ho.row (by decide) (by unfold Big; omega)
  refine ⟨_, _, _, rfl, fun m x t w' => ∃ j : Nat, t = j ∧ j ≤ n ∧ m = n - j ∧ x = nextL (D.list.take j) ∧ Grew w1 w', ⟨_, 0, rfl, Nat.zero_le _, rfl, rfl, Keep.refl _⟩, ?_⟩
  rintro m x t _ w2 ⟨j, rfl, hj, rfl, rfl, k2⟩
  refine PIf.dec (fun hlt => ?_) (fun hge => ?_)
  · obtain ⟨b, off, s, rfl, hx, _, hc⟩ := (hr.grew k2).at1 (i := j) (by omega)
    refine ⟨b, off, rfl, by omega, by omega, _, hc, PC.ok (seg_Number (hw.grew (k1.then k2))) ?_⟩
    rintro _ w3 ⟨rfl, k3⟩
    have h1 := segNoV_lt s
    have h2 := nextL_rng (D.list.take j)
    have e : nextL (D.list.take (j + 1)) = nextStep (nextL (D.list.take j)) s := by
      unfold nextL
      rw [List.take_add_one, hx, List.foldl_append]; rfl
    refine ⟨_, _, rfl, PIf.mk (fun hb => ⟨_, ?_, j + 1, wrap_succ (by omega), by omega, rfl, ?_, k2.then k3⟩) (fun hb => ⟨_, ?_, j + 1, wrap_succ (by omega), by omega, rfl, ?_, k2.then k3⟩)⟩
    · omega
    · rw [e, wrap_i64 (by unfold I64; omega)]
      unfold nextStep
      rw [if_pos hb]; split <;> omega
    · omega
    · rw [e]; unfold nextStep; rw [if_neg (by simp [hb])]
  · obtain rfl : j = n := by omega
    rw [List.take_of_length_le (by omega)]
    exact Ok.mk ⟨rfl, k1.then k2⟩

structure LogV where
  size : Int
  segs : List Int
  bytes : Int
  next : Int

/-- block q is a log on the disk at p; its blocks: G -/
structure LogAt (w : World) (p q : Nat) (G : Nat → Prop) (V : LogV) : Prop where
  body : ∃ a n c E, w.heap[q]? = some (.cells #[.pointer (some ⟨p, 0, none⟩), .int .i64 V.size, .slice a n c, .int .i64 V.bytes, .int .i64 V.next] 83 (0, 0)) ∧ Lst cI64 3 E w a n c V.segs ∧ ∀ b, E b → G b ∧ b ≠ q
  self : G q
  dom : ∀ b, G b → b < w.heap.size
  many : V.segs.length ≤ 64
  nextR : I64 V.next

section
variable {w0 w w1 w' : World} {p q : Nat} {D D' : DiskV} {V V' : LogV} {X Y G S : Nat → Prop}
theorem LogAt.keep (h : LogAt w p q G V) (hk : Keep S w w') (hd : ∀ b, G b → ¬ S b) : LogAt w' p q G V := by
  obtain ⟨a, n, c, E, g, ho, hE⟩ := h.body
  exact ⟨⟨a, n, c, E, hk.get g (hd q h.self), ho.keep hk fun b hb => hd b (hE b hb).1, hE⟩, h.self, fun b hb => Nat.lt_of_lt_of_le (h.dom b hb) hk.size, h.many, h.nextR⟩
theorem LogAt.grew (h : LogAt w p q G V) (hk : Grew w w') : LogAt w' p q G V := h.keep hk fun _ _ h => h

/-- a log made behind w0, apart from blocks X, on a disk apart from both -/
def NLog (w0 w : World) (p q : Nat) (V : LogV) (D : DiskV) (X : Nat → Prop) : Prop := ∃ G, NDisk w0 w p D (fun b => X b ∨ G b) ∧ LogAt w p q G V ∧ ∀ b, G b → w0.heap.size ≤ b ∧ ¬ X b

theorem NLog.gr (h : NLog w0 w p q V D X) : Grew w0 w := by obtain ⟨G, h1, h2, h3⟩ := h; exact h1.gr
theorem NLog.ok (h : NLog w0 w p q V D X) : D.Ok := by obtain ⟨G, h1, h2, h3⟩ := h; exact h1.ok
theorem NLog.many (h : NLog w0 w p q V D X) : V.segs.length ≤ 64 := by obtain ⟨G, h1, h2, h3⟩ := h; exact h2.many
theorem NLog.nextR (h : NLog w0 w p q V D X) : I64 V.next := by obtain ⟨G, h1, h2, h3⟩ := h; exact h2.nextR
theorem NLog.dom (h : NLog w0 w p q V D X) : ∀ b, X b → b < w.heap.size := by obtain ⟨G, ⟨F, h1, h2, h3, h4⟩, h5, h6⟩ := h; exact fun b hb => h4 b (.inl hb)
theorem NLog.q_lt (h : NLog w0 w p q V D X) : q < w.heap.size ∧ w0.heap.size ≤ q ∧ ¬ X q := by obtain ⟨G, h1, h2, h3⟩ := h; exact ⟨h2.dom q h2.self, h3 q h2.self⟩
theorem NLog.disk (h : NLog w0 w p q V D X) : NDisk w0 w p D X := by obtain ⟨G, h1, h2, h3⟩ := h; exact h1.mono fun b hb => .inl hb
theorem NLog.grew (h : NLog w0 w p q V D X) (hk : Grew w w') : NLog w0 w' p q V D X := by
  obtain ⟨G, h1, h2, h3⟩ := h; exact ⟨G, h1.grew hk, h2.grew hk, h3⟩
theorem NLog.mono (h : NLog w0 w p q V D X) (hx : ∀ b, Y b → X b) : NLog w0 w p q V D Y := by
  obtain ⟨G, h1, h2, h3⟩ := h; exact ⟨G, h1.mono fun b hb => hb.imp (hx b) id, h2, fun b hb => ⟨(h3 b hb).1, fun hy => (h3 b hb).2 (hx b hy)⟩⟩
theorem NLog.add (h : NLog w0 w p q V D X) (hk : Grew w w') (hY : ∀ b, Y b → w.heap.size ≤ b ∧ b < w'.heap.size) : NLog w0 w' p q V D (fun b => X b ∨ Y b) := by
  obtain ⟨G, h1, h2, h3⟩ := h
  refine ⟨G, (h1.add hk hY).mono fun b hb => ?_, h2.grew hk, fun b hb => ⟨(h3 b hb).1, fun hx => hx.elim (h3 b hb).2 fun hy => by have := h2.dom b hb; have := (hY b hy).1; omega⟩⟩
  rcases hb with (hb | hb) | hb
  · exact .inl (.inl hb)
  · exact .inr hb
  · exact .inl (.inr hb)
/-- what others do, in blocks of X -/
theorem NLog.other (h : NLog w0 w p q V D X) (hk : Keep Y w w') (hY : ∀ b, Y b → X b ∧ w0.heap.size ≤ b) : NLog w0 w' p q V D X := by
  obtain ⟨G, ⟨F, h1, h2, h3, h4⟩, h5, h6⟩ := h
  exact ⟨G, ⟨F, h1.keep hk fun b hb hy => (h3 b hb).2 (.inl (hY b hy).1), h2.new hk fun b hb => .inr (hY b hb).2, h3, fun b hb => Nat.lt_of_lt_of_le (h4 b hb) hk.size⟩, h5.keep hk fun b hb hy => (h6 b hb).2 (hY b hy).1, h6⟩

/-- a call on the disk alone -/
theorem NLog.on {g : FuncId} {args : Array Value} {r : Int × DiskV} (h : NLog w0 w p q V D X)
    (hc : ∀ Z, (∀ b, X b → Z b) → NDisk w0 w p D Z → Calls Tryz.prog g args w (Ok (Does2 w0 w p Z r))) : Calls Tryz.prog g args w (Ok fun v w' => v = .int .i64 r.1 ∧ NLog w0 w' p q V r.2 X ∧ Keep (Not' X) w w') := by
  obtain ⟨G, h1, h2, h3⟩ := h
  refine Calls.ok (hc _ (fun b hb => .inl hb) h1) ?_
  rintro v w' ⟨hv, hD, hk⟩
  exact ⟨hv, ⟨G, hD, h2.keep hk fun b hb hn => hn (.inr hb), h3⟩, hk.mono fun b _ hb hx => hb (.inl hx)⟩

def LogV.last (V : LogV) : ByteArray := txt (segName (V.segs.getLast?.getD 0))

theorem LogAt.row (h : LogAt w p q G V) : ∃ a n c E, w.heap[q]? = some (.cells #[.pointer (some ⟨p, 0, none⟩), .int .i64 V.size, .slice a n c, .int .i64 V.bytes, .int .i64 V.next] 83 (0, 0)) ∧ Row cI64 8 w E a n V.segs ∧ (∀ b, E b → G b ∧ b ≠ q) ∧ n = V.segs.length := by
  obtain ⟨a, n, c, E, g, ho, hE⟩ := h.body
  have := h.many
  exact ⟨a, n, c, E, g, ho.row (by decide) (by unfold Big; omega), hE, ho.len (by decide)⟩

theorem log_name (hw : Laid w) (h : LogAt w p q G V) (hne : V.segs ≠ []) : Calls Tryz.prog F_seglog_Log_name #[.pointer (some ⟨q, 0, none⟩)] w (Ok fun v w' => v = .string V.last ∧ Grew w w') := by
  obtain ⟨a, n, c, E, g, hr, hE, hn⟩ := h.row
  have hpos : 0 < V.segs.length := List.length_pos_iff.2 hne
  have hm := h.many
  refine L_seglog_Log_name fun w1 d1 => ?_
  have k1 : Grew w w1 := d1.keep
  have g1 := k1.get g id
  have hi : IntKind.wrap .i64 ((n : Int) - 1) = ((n - 1 : Nat) : Int) := by rw [wrap_i64 (by unfold I64; omega)]; omega
  obtain ⟨b, off, x, rfl, hx, hxr, hc⟩ := (hr.grew k1).at1 (i := n - 1) (by omega)
  refine ⟨q, 0, rfl, _, _, _, cell_at g1 rfl, q, 0, rfl, _, _, _, cell_at g1 rfl, b, off, rfl, ?_⟩
  rw [hi]
  refine ⟨by omega, by omega, x, hc, PC.ok (seg_Name (hw.grew k1) hxr) ?_⟩
  rintro _ w2 ⟨rfl, k2⟩
  refine ⟨_, rfl, Ok.mk ⟨?_, k1.then k2⟩⟩
  unfold LogV.last
  rw [List.getLast?_eq_getElem?, ← hn, hx]; rfl

theorem log_Sync (hL : Laid w0) (h : NLog w0 w p q V D X) (hne : V.segs ≠ []) : Calls Tryz.prog F_seglog_Log_Sync #[.pointer (some ⟨q, 0, none⟩)] w (Ok fun v w' => v = .int .i64 (D.sync V.last).1 ∧ NLog w0 w' p q V (D.sync V.last).2 X ∧ Keep (Not' X) w w') := by
  refine L_seglog_Log_Sync fun w1 d1 => ?_
  have k1 : Grew w w1 := d1.keep
  have h1 := h.grew k1
  obtain ⟨G, hD, hl, hG⟩ := h1
  obtain ⟨a, n, c, E, g, hr, hE, hn⟩ := hl.row
  have hq := hG q hl.self
  have hq1 := hl.dom q hl.self
  refine ⟨fun b => b ≠ q ∧ ¬ X b, q, 0, rfl, fun hs => hs.1 rfl, _, cell_at g rfl, PC.ok (log_name (hL.grew (h.gr.then k1)) hl hne) ?_⟩
  rintro _ w2 ⟨rfl, k2⟩
  have hd2 := hl.grew k2
  have hD2 := hD.grew k2
  refine ⟨_, rfl, k2.keep, PC.ok hD2.sync ?_⟩
  rintro _ w3 ⟨rfl, hD3, k3⟩
  refine ⟨_, rfl, k3.mono fun b _ hb => ⟨fun e => hb (.inr (e ▸ hl.self)), fun hx => hb (.inl hx)⟩, Ok.mk ⟨rfl, ⟨G, hD3, hd2.keep k3 fun b hb hn => hn (.inr hb), hG⟩, ?_⟩⟩
  exact (Grew.keep (k1.then k2)).then (k3.mono fun b _ hb hx => hb (.inl hx))

theorem log_Segments (h : LogAt w p q G V) : Calls Tryz.prog F_seglog_Log_Segments #[.pointer (some ⟨q, 0, none⟩)] w (Ok (New cI64 3 w V.segs)) := by
  obtain ⟨a, n, c, E, g, hr, hE, hn⟩ := h.row
  refine L_seglog_Log_Segments ⟨q, 0, rfl, _, _, _, cell_at g rfl, PC.ok (slices_Clone_I hr fun b hb => h.dom b (hE b hb).1) ?_⟩
  rintro _ w1 ⟨a1, n1, c1, F1, rfl, ho, hk, hF⟩
  exact ⟨_, _, _, rfl, Ok.mk ⟨_, _, _, F1, rfl, ho, hk, hF⟩⟩
theorem log_Next (h : LogAt w p q G V) : Calls Tryz.prog F_seglog_Log_Next #[.pointer (some ⟨q, 0, none⟩)] w (Ok fun v w' => v = .int .i64 V.next ∧ w = w') := by
  obtain ⟨a, n, c, E, g, hr, hE, hn⟩ := h.row
  exact L_seglog_Log_Next ⟨q, 0, rfl, _, cell_at g rfl, Ok.mk ⟨rfl, rfl⟩⟩
end
end Go.Proofs.YtpbpjojdfcdbbaaGreatDoor

/- seglog: a segment begun -/
namespace Go.Proofs.YtpbpjojdfcdbbaaGreatDoor
open Go.Lift
set_option linter.unusedVariables false
set_option maxRecDepth 20000

/-- the new segment's file is there: it is synced, and the manifest written -/
def begin3 (V : LogV) (D : DiskV) : Int × LogV × DiskV :=
  let nm := txt (segName V.next)
  let s := D.sync nm
  if s.1 ≠ 0 then (s.1, V, (s.2.delete nm).2) else
  let m := mfWrite s.2 (V.segs ++ [V.next])
  if m.1 ≠ 0 then (m.1, V, (m.2.delete nm).2) else
  (0, ⟨V.size, V.segs ++ [V.next], 0, IntKind.wrap .i64 (V.next + 1)⟩, m.2)
def begin2 (V : LogV) (D : DiskV) : Int × LogV × DiskV :=
  let c := D.create (txt (segName V.next))
  if c.1 ≠ 0 then (c.1, V, c.2) else begin3 V c.2
def logBegin (V : LogV) (D : DiskV) : Int × LogV × DiskV :=
  if V.segs = [] then begin2 V D else
  let s := D.sync V.last
  if s.1 ≠ 0 then (s.1, V, s.2) else begin2 V s.2

/-- what a call on a log hands back -/
def Does3 (w0 w : World) (p q : Nat) (X : Nat → Prop) (r : Int × LogV × DiskV) (v : Value) (w' : World) : Prop := v = .int .i64 r.1 ∧ NLog w0 w' p q r.2.1 r.2.2 X ∧ Keep (Not' X) w w'

theorem i64_wrap (x : Int) : I64 (IntKind.wrap .i64 x) := by
  unfold I64 IntKind.wrap
  simp [IntKind.signed, IntKind.bits]
  omega
theorem mfWrite_long {D : DiskV} {l : List Int} (h : (mfWrite D l).1 = 0) : l.length ≤ 64 := by
  unfold mfWrite at h
  split at h
  · cases h
  · omega

theorem log_begin {w0 w : World} {p q : Nat} {V : LogV} {D : DiskV} {X : Nat → Prop} (hL : Laid w0) (h : NLog w0 w p q V D X) :
    Calls Tryz.prog F_seglog_Log_begin #[.pointer (some ⟨q, 0, none⟩)] w (Ok (Does3 w0 w p q X (logBegin V D))) := by
  have hXd := h.dom
  obtain ⟨hq1, hq2, hq3⟩ := h.q_lt
  have hg0 := h.gr.size
  have hnR := h.nextR
  have hmany := h.many
  refine L_seglog_Log_begin (PA.mk fun w1 k1 s1 g1 => PA.mk fun w2 k2 s2 g2 => ?_)
  have k02 : Grew w w2 := k1.then k2
  let Y : Nat → Prop := fun b => X b ∨ (b = w.heap.size ∨ b = w1.heap.size)
  have hY : NLog w0 w2 p q V D Y := h.add k02 fun b hb => by omega
  have gl2 := k2.get g1 id
  /- a state: the log and the disk, in front of the deferred call -/
  refine ⟨fun w' => ∃ D1, NLog w0 w' p q V D1 Y ∧ Keep (Not' X) w w' ∧ w2.heap.size ≤ w'.heap.size ∧ w'.heap[w.heap.size]? = some (.cells #[.pointer (some ⟨q, 0, none⟩)] 30 (0, 0)) ∧ w'.heap[w1.heap.size]? = some (.cells #[.int .i64 0] 26 (0, 0)) ∧ logBegin V D = begin2 V D1, ?_, ?_⟩
  · obtain ⟨G, hD, hl, hG⟩ := id hY
    obtain ⟨a, n, c, E, g, hr, hE, hn⟩ := hl.row
    refine ⟨_, cell_at gl2 rfl, q, 0, rfl, _, _, _, cell_at g rfl, PIf.dec (fun hpos => ?_) (fun hz => ?_)⟩
    · have hne : V.segs ≠ [] := fun e => by rw [e] at hn; simp at hn; omega
      refine ⟨_, cell_at gl2 rfl, PC.ok (log_Sync hL hY hne) ?_⟩
      rintro _ w3 ⟨rfl, hN3, k3⟩
      have kX : Keep (Not' X) w w3 := (Grew.keep k02).then (k3.mono fun b _ hb hx => hb (.inl hx))
      have gl3 := k3.get gl2 fun hn => hn (.inr (.inl rfl))
      have gn3 := k3.get g2 fun hn => hn (.inr (.inr rfl))
      have hB : logBegin V D = if (D.sync V.last).1 ≠ 0 then ((D.sync V.last).1, V, (D.sync V.last).2) else begin2 V (D.sync V.last).2 := by unfold logBegin; rw [if_neg hne]
      refine ⟨_, rfl, PIf.neI (fun hne2 => ?_) (fun h0 => ⟨_, hN3, kX, k3.size, gl3, gn3, by rw [hB, if_neg (by simpa using h0)]⟩)⟩
      refine PS.mk gn3 (by simp) fun w4 k4 s4 g4 => ⟨_, cell_at g4 rfl, Ok.mk ?_⟩
      rw [hB, if_pos hne2]
      exact ⟨rfl, (hN3.other k4 fun b hb => ⟨hb ▸ .inr (.inr rfl), by omega⟩).mono fun b hb => .inl hb, kX.then (k4.mono fun b _ hb hx => by have := hXd b hx; omega)⟩
    · have he : V.segs = [] := List.eq_nil_of_length_eq_zero (by omega)
      exact ⟨D, hY, Grew.keep k02, Nat.le_refl _, gl2, g2, by unfold logBegin; rw [if_pos he]⟩
  rintro _ w3 ⟨D1, hN3, kX3, hsz3, gl3, gn3, hB⟩
  rw [hB]
  obtain ⟨G3, hD3, hl3, hG3⟩ := id hN3
  obtain ⟨a3, n3, c3, E3, gq3, -, -, -⟩ := hl3.row
  refine ⟨_, cell_at gl3 rfl, q, 0, rfl, _, cell_at gq3 rfl, PC.ok (seg_Name (hL.grew hN3.gr) hnR) ?_⟩
  rintro _ w4 ⟨rfl, k4⟩
  refine ⟨_, rfl, PA.mk fun w5 k5 s5 g5 => PS.mk g5 (by simp) fun w6 k6 s6 g6 => ?_⟩
  let Z : Nat → Prop := fun b => Y b ∨ b = w4.heap.size
  have hN4 := hN3.grew k4
  have hg4 := hN4.gr.size
  have h24 := k4.size
  have hN6 : NLog w0 w6 p q V D1 Z := (hN4.add (Y := (· = w4.heap.size)) k5 fun b hb => by omega).other k6 fun b hb => ⟨.inr hb, by omega⟩
  have kX6 : Keep (Not' X) w w6 := ((kX3.grew k4).grew k5).then (k6.mono fun b _ hb hx => by have := hXd b hx; have := kX3.size; omega)
  have hzX : ∀ {b}, X b → Z b := fun hx => .inl (.inl hx)
  intro w7 d7
  have k7 : Grew w6 w7 := d7.keep
  have hN7 := hN6.grew k7
  have gn : w6.heap[w4.heap.size]? = some (.cells #[.string (txt (segName V.next))] 9 (0, 0)) := g6
  have gl6 := k6.get (k5.get (k4.get gl3 id) id) (by omega)
  have gno6 := k6.get (k5.get (k4.get gn3 id) id) (by omega)
  /- the three cells -/
  let C : World → Int → Prop := fun w' e => w'.heap[w.heap.size]? = some (.cells #[.pointer (some ⟨q, 0, none⟩)] 30 (0, 0)) ∧ w'.heap[w1.heap.size]? = some (.cells #[.int .i64 e] 26 (0, 0)) ∧ w'.heap[w4.heap.size]? = some (.cells #[.string (txt (segName V.next))] 9 (0, 0))
  have C6 : C w6 0 := ⟨gl6, gno6, gn⟩
  have keepC : ∀ {w' w'' : World} {e : Int} {S : Nat → Prop}, C w' e → Keep S w' w'' → (∀ b, S b → ¬ (b = w.heap.size ∨ b = w1.heap.size ∨ b = w4.heap.size)) → C w'' e := fun hC hk hS =>
    ⟨hk.get hC.1 fun hs => hS _ hs (.inl rfl), hk.get hC.2.1 fun hs => hS _ hs (.inr (.inl rfl)), hk.get hC.2.2 fun hs => hS _ hs (.inr (.inr rfl))⟩
  have keepZ : ∀ {w' w'' : World} {e : Int}, C w' e → Keep (Not' Z) w' w'' → C w'' e := fun hC hk => keepC hC hk fun b hb hc => hb (by
    rcases hc with rfl | rfl | rfl
    · exact .inl (.inr (.inl rfl))
    · exact .inl (.inr (.inr rfl))
    · exact .inr rfl)
  have toX : ∀ {w' w'' : World}, Keep (Not' X) w w' → Keep (Not' Z) w' w'' → Keep (Not' X) w w'' := fun a b => a.then (b.mono fun b _ hb hx => hb (hzX hx))
  have C7 : C w7 0 := keepC C6 k7 fun b hb => hb.elim
  obtain ⟨G7, hD7, hl7, hG7⟩ := id hN7
  obtain ⟨a7, n7, c7, E7, gq7, -, -, -⟩ := hl7.row
  refine ⟨_, cell_at C7.1 rfl, q, 0, rfl, _, cell_at gq7 rfl, _, cell_at C7.2.2 rfl, PC.ok (hN7.on (fun Z hZ hd => hd.create)) ?_⟩
  rintro _ w8 ⟨rfl, hN8, k8⟩
  have C8 := keepZ C7 k8
  have kX8 := toX (kX6.grew k7) k8
  have hB2 : begin2 V D1 = if (D1.create (txt (segName V.next))).1 ≠ 0 then ((D1.create (txt (segName V.next))).1, V, (D1.create (txt (segName V.next))).2) else begin3 V (D1.create (txt (segName V.next))).2 := rfl
  rw [hB2]
  generalize hcr : D1.create (txt (segName V.next)) = cr at hN8 ⊢
  obtain ⟨e8, D8⟩ := cr
  simp only at hN8 ⊢
  have hz1 : w1.heap.size < w2.heap.size := by omega
  have hXw : ∀ {w' : World} {r : Int × LogV × DiskV} {e : Int} {w'' : World}, NLog w0 w' p q r.2.1 r.2.2 Z → Keep (Not' X) w w' → Keep (· = w1.heap.size) w' w'' → e = r.1 → Does3 w0 w p q X r (.int .i64 e) w'' := by
    intro w' r e w'' hn hk hs he
    exact ⟨by rw [he], (hn.other hs fun b hb => ⟨hb ▸ .inl (.inr (.inr rfl)), by omega⟩).mono fun b hb => hzX hb, hk.then (hs.mono fun b _ hb hx => by have := hXd b hx; omega)⟩
  refine ⟨_, rfl, PIf.neI (fun hne => ?_) (fun h0 => ?_)⟩
  · refine PS.mk C8.2.1 (by simp) fun w9 k9 s9 g9 => ⟨_, cell_at g9 rfl, Ok.mk ?_⟩
    rw [if_pos hne]
    exact hXw hN8 kX8 k9 rfl
  rw [if_neg (by simpa using h0)]
  /- what leaves by an error: the file is deleted -/
  have leave : ∀ {r : Int × LogV × DiskV} (e : Int) (E : DiskV) (w' : World), NLog w0 w' p q V E Z → Keep (Not' X) w w' → C w' e → e ≠ 0 → r = (e, V, (E.delete (txt (segName V.next))).2) →
      Lv Tryz.prog (fun w49 => ∃ r50 : Int, w49.cell? ⟨w1.heap.size, 0, none⟩ = some (.int .i64 r50) ∧ Ok (Does3 w0 w p q X r) (.returned (.int .i64 r50)) w49) (fun ch w' => Ok (Does3 w0 w p q X r) (.panicked ch) w')
        ([{ target := .fn (.func 85) #[.pointer (some ⟨w1.heap.size, 0, none⟩), .pointer (some ⟨w.heap.size, 0, none⟩), .pointer (some ⟨w4.heap.size, 0, none⟩)], args := #[] }] : List Deferred) .returning w' := by
    intro r e E w' hn hk hC hne hr
    refine Lv.one (by simp) (by kernel_rfl) (CallsD.mono (LD_seglog_Log_begin_1 (R := fun e' w7 => e' = .returned (.tuple #[]) ∧ ∃ r37 : Int, w7.cell? ⟨w1.heap.size, 0, none⟩ = some (.int .i64 r37) ∧ Ok (Does3 w0 w p q X r) (.returned (.int .i64 r37)) w7) ⟨_, cell_at hC.2.1 rfl, PIf.neI (fun _ => ?_) (fun h0 => absurd h0 hne)⟩) ?_)
    · intro wa da
      have ka : Grew w' wa := da.keep
      have hna := hn.grew ka
      have hCa : C wa e := keepC hC ka fun b hb => hb.elim
      obtain ⟨Ga, hDa, hla, hGa⟩ := id hna
      obtain ⟨aa, na, ca, Ea, gqa, -, -, -⟩ := hla.row
      refine ⟨_, cell_at hCa.1 rfl, q, 0, rfl, _, cell_at gqa rfl, _, cell_at hCa.2.2 rfl, PC.ok (hna.on (fun Z hZ hd => hd.delete)) ?_⟩
      rintro _ wb ⟨rfl, hnb, kb⟩
      have hCb := keepZ hCa kb
      refine ⟨_, rfl, rfl, _, cell_at hCb.2.1 rfl, Ok.mk ?_⟩
      rw [hr]
      exact ⟨rfl, hnb.mono fun b hb => hzX hb, toX (hk.grew ka) kb⟩
    · rintro e' u' w7 ⟨rfl, rfl, hX⟩
      exact Lv.ret rfl hX
  intro w9 d9
  have k9 : Grew w8 w9 := d9.keep
  have hN9 := hN8.grew k9
  have C9 : C w9 0 := keepC C8 k9 fun b hb => hb.elim
  obtain ⟨G9, hD9, hl9, hG9⟩ := id hN9
  obtain ⟨a9, n9, c9, E9, gq9, -, -, -⟩ := hl9.row
  refine ⟨_, cell_at C9.1 rfl, q, 0, rfl, _, cell_at gq9 rfl, _, cell_at C9.2.2 rfl, PC.ok (hN9.on (fun Z hZ hd => hd.sync)) ?_⟩
  rintro _ w10 ⟨rfl, hN10, k10⟩
  have C10 := keepZ C9 k10
  have kX10 := toX (kX8.grew k9) k10
  have hB3 : begin3 V D8 = if (D8.sync (txt (segName V.next))).1 ≠ 0 then ((D8.sync (txt (segName V.next))).1, V, ((D8.sync (txt (segName V.next))).2.delete (txt (segName V.next))).2) else
      if (mfWrite (D8.sync (txt (segName V.next))).2 (V.segs ++ [V.next])).1 ≠ 0 then ((mfWrite (D8.sync (txt (segName V.next))).2 (V.segs ++ [V.next])).1, V, ((mfWrite (D8.sync (txt (segName V.next))).2 (V.segs ++ [V.next])).2.delete (txt (segName V.next))).2) else
      (0, ⟨V.size, V.segs ++ [V.next], 0, IntKind.wrap .i64 (V.next + 1)⟩, (mfWrite (D8.sync (txt (segName V.next))).2 (V.segs ++ [V.next])).2) := rfl
  rw [hB3]
  generalize hsy : D8.sync (txt (segName V.next)) = sy at hN10 ⊢
  obtain ⟨e10, D10⟩ := sy
  dsimp only at hN10
  refine ⟨_, rfl, PIf.neI (fun hne => ?_) (fun h0 => ?_)⟩
  · refine PS.mk C10.2.1 (by simp) fun w11 k11 s11 g11 => ?_
    rw [if_pos hne]
    exact leave _ D10 w11 (hN10.other k11 fun b hb => ⟨hb ▸ .inl (.inr (.inr rfl)), by omega⟩) (kX10.then (k11.mono fun b _ hb hx => by have := hXd b hx; omega)) ⟨k11.get C10.1 (by omega), g11, k11.get C10.2.2 (by have := kX3.size; omega)⟩ hne rfl
  rw [if_neg (by simpa using h0)]
  have hz10 : w4.heap.size < w10.heap.size := lt_of_get C10.2.2
  refine ⟨fun a n c w' => ∃ E, Lst cI64 3 E w' a n c (V.segs ++ [V.next]) ∧ (∀ b, E b → w10.heap.size ≤ b) ∧ Grew w10 w', ?_, ?_⟩
  · intro w11 d11
    have k11 : Grew w10 w11 := d11.keep
    have hN11 := hN10.grew k11
    have C11 : C w11 0 := keepC C10 k11 fun b hb => hb.elim
    obtain ⟨G11, hD11, hl11, hG11⟩ := id hN11
    obtain ⟨a11, n11, c11, E11, gq11, hr11, hE11, hn11⟩ := hl11.row
    have hq11 := hl11.dom q hl11.self
    have fin : ∀ {wa wb wc : World} {g : Nat} {a n c : _} {F : Nat → Prop}, Lst cI64 3 F wb a n c V.segs → (∀ b, F b → w11.heap.size ≤ b ∧ b ≠ g) → wb.heap[g]? = some (.cells #[.int .i64 V.next] 3 (0, 0)) → Grew w11 wb →
        ∀ κ ε, (∀ a' n' c' w', (∃ E, Lst cI64 3 E w' a' n' c' (V.segs ++ [V.next]) ∧ (∀ b, E b → w10.heap.size ≤ b) ∧ Grew w10 w') → Keep (fun b => w11.heap.size ≤ b) wb w' → κ (.slice a' n' c') w') →
        PRun Tryz.prog (Builtin.append_ #[37, 37] 37 #[.slice a n c, .slice (some ⟨g, 0, none⟩) 1 1]) wb κ ε := by
      intro wa wb wc g a n c F ho hF hg hk κ ε hκ
      refine appRow ho slI64 (D := (· = g)) (Row.lit hg [V.next] rfl (fun x hx => by simp at hx; subst hx; exact hnR) (by unfold Big; simp)) (fun b e => ⟨e ▸ lt_of_get hg, fun e2 => (hF b (ho.self b e2)).2 e⟩) (by unfold Big; simp; omega) (by unfold maxLen; simp; omega) fun a' c' w' F' ho' hk' _ hs' => ?_
      refine hκ a' _ c' w' ⟨fun b => blk a' = some b, ho'.alone, fun b hb => ?_, ?_⟩ (hk'.mono fun b _ hb => (hF b (ho.self b hb)).1)
      · have := k11.size; have := hk.size
        rcases hs' b hb with h | h
        · have := (hF b h).1; omega
        · omega
      · exact (k11.then hk).new hk' fun b hb => .inr (by have := (hF b (ho.self b hb)).1; have := k11.size; omega)
    have hzl : w.heap.size < w11.heap.size := lt_of_get C11.1
    refine ⟨fun b => w11.heap.size ≤ b, by omega, _, cell_at C11.1 rfl, q, 0, rfl, by omega, _, _, _, cell_at gq11 rfl, by omega, _, cell_at C11.1 rfl, q, 0, rfl, by omega, _, cell_at gq11 rfl, ?_, ?_⟩
    · refine PC.ok (slices_Clone_I hr11 fun b hb => hl11.dom b (hE11 b hb).1) ?_
      rintro _ w12 ⟨a12, n12, c12, F12, rfl, ho12, k12, hF12⟩
      refine ⟨_, _, _, rfl, k12.keep, PA.mk fun w13 k13 s13 g13 => ⟨k13.keep, fin (wa := w13) (wc := w13) (ho12.grew k13) (fun b hb => ⟨hF12 b hb, by have := ho12.dom b hb; omega⟩) g13 (k12.then k13) _ _ fun a' n' c' w' hJ hk => ⟨_, _, _, rfl, hk, trivial, hJ⟩⟩⟩
    · refine PA.mk fun w12 k12 s12 g12 => ⟨k12.keep, PC.ok (slices_Clone_I (hr11.grew k12) fun b hb => by have := hl11.dom b (hE11 b hb).1; have := k12.size; omega) ?_⟩
      rintro _ w13 ⟨a13, n13, c13, F13, rfl, ho13, k13, hF13⟩
      exact ⟨_, _, _, rfl, k13.keep, fin (wa := w13) (wc := w13) ho13 (fun b hb => ⟨by have := hF13 b hb; omega, by have := hF13 b hb; omega⟩) (k13.get g12 id) (k12.then k13) _ _ fun a' n' c' w' hJ hk => ⟨_, _, _, rfl, hk, trivial, hJ⟩⟩
  rintro a n c _ w11 ⟨E, ho, hE, k11⟩
  have hlen : (V.segs ++ [V.next]).length ≤ 65 := by simp; omega
  have hN11 : NLog w0 w11 p q V D10 (fun b => Z b ∨ E b) := hN10.add k11 fun b hb => ⟨hE b hb, ho.dom b hb⟩
  have C11 : C w11 0 := keepC C10 k11 fun b hb => hb.elim
  have hrow : Row cI64 8 w11 E a n (V.segs ++ [V.next]) := ho.row (by decide) (by unfold Big; omega)
  have hsegR : ∀ x ∈ V.segs ++ [V.next], I64 x := row_i64 hrow
  obtain ⟨G11, hD11, hl11, hG11⟩ := id hN11
  obtain ⟨a11, n11, c11, E11, gq11, -, -, -⟩ := hl11.row
  refine ⟨_, cell_at C11.1 rfl, q, 0, rfl, _, cell_at gq11 rfl, PC.ok (hN11.on fun Z' hZ' hd => hd.mfWrite hL.tabs hrow hsegR fun b hb => .inr (hZ' b (.inr hb))) ?_⟩
  rintro _ w12 ⟨rfl, hN12, k12⟩
  have k12Z : Keep (Not' Z) w11 w12 := k12.mono fun b _ hb hz => hb (.inl hz)
  have C12 := keepZ C11 k12Z
  have kX12 := toX (kX10.grew k11) k12Z
  have ho12 := ho.keep k12 fun b hb hn => hn (.inr hb)
  have hml := @mfWrite_long D10 (V.segs ++ [V.next])
  have hB4 : True := trivial
  generalize hmw : mfWrite D10 (V.segs ++ [V.next]) = mw at hN12 hml hB4 ⊢
  obtain ⟨e12, D12⟩ := mw
  dsimp only at hN12 hml hB4 ⊢
  refine ⟨_, rfl, PIf.neI (fun hne => ?_) (fun h0 => ?_)⟩
  · refine PS.mk C12.2.1 (by simp) fun w13 k13 s13 g13 => ?_
    rw [if_pos hne]
    have hN12' : NLog w0 w12 p q V D12 Z := hN12.mono fun b hb => .inl hb
    exact leave _ D12 w13 (hN12'.other k13 fun b hb => ⟨hb ▸ .inl (.inr (.inr rfl)), by omega⟩) (kX12.then (k13.mono fun b _ hb hx => by have := hXd b hx; omega)) ⟨k13.get C12.1 (by omega), g13, k13.get C12.2.2 (by have := kX3.size; omega)⟩ hne rfl
  rw [if_neg (by simpa using h0)]
  have hml := hml h0
  intro w13 d13
  have k13 : Grew w12 w13 := d13.keep
  have hN13 := hN12.grew k13
  have C13 : C w13 0 := keepC C12 k13 fun b hb => hb.elim
  have ho13 := ho12.grew k13
  obtain ⟨G13, hD13, hl13, hG13⟩ := id hN13
  obtain ⟨a13, n13, c13, E13, gq13, -, -, -⟩ := hl13.row
  have hEq : ∀ b, E b → b ≠ q := fun b hb e => by have := hE b hb; omega
  have hqw : q ≠ w.heap.size ∧ q ≠ w1.heap.size ∧ q ≠ w4.heap.size := by have := kX3.size; omega
  refine ⟨(· = q), _, cell_at C13.1 rfl, fun e => hqw.1 e.symm, _, cell_at C13.1 rfl, q, 0, rfl, PS.mk gq13 (by simp) fun w14 k14 s14 g14 => ⟨k14, q, 0, rfl, PS.mk g14 (by simp) fun w15 k15 s15 g15 => ⟨k15, ?_⟩⟩⟩
  have k1315 := k14.then k15
  have C15 : C w15 0 := keepC C13 k1315 fun b hb hc => by subst hb; omega
  refine ⟨_, cell_at C15.1 rfl, q, 0, rfl, _, cell_at g15 rfl, q, 0, rfl, PS.mk g15 (by simp) fun w16 k16 s16 g16 => ?_⟩
  have C16 : C w16 0 := keepC C15 k16 fun b hb hc => by subst hb; omega
  have k1316 : Keep (· = q) w13 w16 := k1315.then k16
  refine PS.mk C16.2.1 (by simp) fun w17 k17 s17 g17 => Lv.one (by simp) (by kernel_rfl) (CallsD.mono (LD_seglog_Log_begin_1 (R := fun e' w7 => e' = .returned (.tuple #[]) ∧ w7 = w17) ⟨_, cell_at g17 rfl, PIf.neI (fun hc => absurd rfl hc) (fun _ => ⟨rfl, rfl⟩)⟩) ?_)
  rintro e' u' _ ⟨rfl, rfl, rfl⟩
  refine Lv.ret rfl ⟨_, cell_at g17 rfl, Ok.mk ?_⟩
  have g16' : w16.heap[q]? = some (.cells #[.pointer (some ⟨p, 0, none⟩), .int .i64 V.size, .slice a n c, .int .i64 0, .int .i64 (IntKind.wrap .i64 (V.next + 1))] 83 (0, 0)) := g16
  have hnew : NLog w0 w16 p q ⟨V.size, V.segs ++ [V.next], 0, IntKind.wrap .i64 (V.next + 1)⟩ D12 Z := by
    refine ⟨fun b => b = q ∨ E b, ?_, ⟨⟨a, n, c, E, g16', ho13.keep k1316 fun b hb e => hEq b hb e, fun b hb => ⟨.inr hb, hEq b hb⟩⟩, .inl rfl, ?_, hml, ?_⟩, ?_⟩
    · have h1 : NDisk w0 w13 p D12 (fun b => Z b ∨ (b = q ∨ E b)) := hD13.mono fun b hb => by
        rcases hb with hb | hb | hb
        · exact .inl (.inl hb)
        · exact .inr (hb ▸ hl13.self)
        · exact .inl (.inr hb)
      obtain ⟨F, f1, f2, f3, f4⟩ := h1
      exact ⟨F, f1.keep k1316 fun b hb e => (f3 b hb).2 (.inr (.inl e)), f2.new k1316 fun b hb => .inr (by omega), f3, fun b hb => Nat.lt_of_lt_of_le (f4 b hb) k1316.size⟩
    · rintro b (rfl | hb)
      · exact lt_of_get g16
      · exact Nat.lt_of_lt_of_le (ho13.dom b hb) k1316.size
    · show I64 (IntKind.wrap .i64 (V.next + 1))
      exact i64_wrap _
    · rintro b (rfl | hb)
      · exact ⟨hq2, fun hz => by
          rcases hz with (hz | hz | hz) | hz
          · exact hq3 hz
          · omega
          · omega
          · omega⟩
      · have := hE b hb
        exact ⟨by have := hN10.gr.size; omega, fun hz => by have := hN10.dom b hz; omega⟩
  exact hXw hnew ((kX12.grew k13).then (k1316.mono fun b _ hb hx => hq3 (hb ▸ hx))) k17 rfl
end Go.Proofs.YtpbpjojdfcdbbaaGreatDoor

/- seglog: the segments of a manifest loaded; a log opened -/
namespace Go.Proofs.YtpbpjojdfcdbbaaGreatDoor
open Go.Lift
set_option linter.unusedVariables false
set_option maxRecDepth 20000

def segNm (no : Int) : ByteArray := txt (segName no)
structure Loaded where
  no : Int
  out : List EventV
  V : LogV
  D : DiskV
def loadGo : List Int → List EventV → LogV → DiskV → Loaded
  | [], out, V, D => ⟨0, out, V, D⟩
  | no :: l, out, V, D =>
    if (D.read (segNm no)).2 ≠ 0 then ⟨0, out, V, D⟩ else
    if (segLoad (D.read (segNm no)).1).2 < (D.read (segNm no)).1.length then
      ⟨(D.cutF (segNm no) (segLoad (D.read (segNm no)).1).2).1, out ++ (segLoad (D.read (segNm no)).1).1, ⟨V.size, V.segs ++ [no], (segLoad (D.read (segNm no)).1).2, V.next⟩, (D.cutF (segNm no) (segLoad (D.read (segNm no)).1).2).2⟩
    else loadGo l (out ++ (segLoad (D.read (segNm no)).1).1) ⟨V.size, V.segs ++ [no], (segLoad (D.read (segNm no)).1).2, V.next⟩ D

section
variable {w0 w w1 w' : World} {p q : Nat} {D D' : DiskV} {V V' : LogV} {X Y Z G S : Nat → Prop}
theorem NDisk.turn (h : NDisk w0 w p D X) (hk : Keep Y w w') (hY : ∀ b, Y b → X b ∧ w0.heap.size ≤ b) (hZ : ∀ b, Z b → (X b ∨ w.heap.size ≤ b) ∧ b < w'.heap.size) : NDisk w0 w' p D Z := by
  obtain ⟨F, h1, h2, h3, h4⟩ := h
  exact ⟨F, h1.keep hk fun b hb hy => (h3 b hb).2 (hY b hy).1, h2.new hk fun b hb => .inr (hY b hb).2, fun b hb => ⟨(h3 b hb).1, fun hz => (hZ b hz).1.elim (h3 b hb).2 fun h => by have := h1.dom b hb; omega⟩, fun b hb => (hZ b hb).2⟩
theorem NLog.turn (h : NLog w0 w p q V D X) (hk : Keep Y w w') (hY : ∀ b, Y b → X b ∧ w0.heap.size ≤ b) (hZ : ∀ b, Z b → (X b ∨ w.heap.size ≤ b) ∧ b < w'.heap.size) : NLog w0 w' p q V D Z := by
  obtain ⟨G, h1, h2, h3⟩ := h
  refine ⟨G, h1.turn hk (fun b hb => ⟨.inl (hY b hb).1, (hY b hb).2⟩) fun b hb => ?_, h2.keep hk fun b hb hy => (h3 b hb).2 (hY b hy).1, fun b hb => ⟨(h3 b hb).1, fun hz => (hZ b hz).1.elim (h3 b hb).2 fun h => by have := h2.dom b hb; omega⟩⟩
  rcases hb with hb | hb
  · exact ⟨(hZ b hb).1.imp .inl id, (hZ b hb).2⟩
  · exact ⟨.inl (.inr hb), Nat.lt_of_lt_of_le (h2.dom b hb) hk.size⟩

/-- one segment more -/
theorem log_push {no nb : Int} (h : NLog w0 w p q V D X) (hno : I64 no) (hlen : V.segs.length + 1 ≤ 64) {κ : World → Prop} {ε : Value → World → Prop}
    (hκ : ∀ w', NLog w0 w' p q ⟨V.size, V.segs ++ [no], nb, V.next⟩ D X → Keep (Not' X) w w' → κ w') :
    ∃ b39 o40, (some ⟨q, 0, none⟩ : Option Addr) = some ⟨b39, o40, none⟩ ∧ ∃ (a : Option Addr) (n c : Nat), w.cell? ⟨b39, o40 + 2, none⟩ = some (.slice a n c) ∧
      PA w (.cells #[.int .i64 no] 3) fun w42 => PRun Tryz.prog (Builtin.append_ #[37, 37] 37 #[.slice a n c, .slice (some ⟨w.heap.size, 0, none⟩) 1 1]) w42 (fun v43 w44 =>
        ∃ (a' : Option Addr) (n' c' : Nat), v43 = .slice a' n' c' ∧ ∃ b46 o47, (some ⟨q, 0, none⟩ : Option Addr) = some ⟨b46, o47, none⟩ ∧ PS w44 ⟨b46, o47 + 2, none⟩ (.slice a' n' c') fun w48 =>
          ∃ b49 o50, (some ⟨q, 0, none⟩ : Option Addr) = some ⟨b49, o50, none⟩ ∧ PS w48 ⟨b49, o50 + 3, none⟩ (.int .i64 nb) κ) ε := by
  obtain ⟨G, hD, hl, hG⟩ := id h
  obtain ⟨a, n, c, E, g, ho, hE⟩ := hl.body
  have hqlt := hl.dom q hl.self
  refine ⟨q, 0, rfl, _, _, _, cell_at g rfl, PA.mk fun w1 k1 s1 g1 => ?_⟩
  refine appRow (ho.grew k1) slI64 (D := (· = w.heap.size)) (Row.lit g1 [no] rfl (fun x hx => by simp at hx; subst hx; exact hno) (by unfold Big; simp)) (fun b e => ⟨by omega, fun e2 => by have := ho.dom b (ho.self b e2); omega⟩) (by unfold Big; simp; omega) (by unfold maxLen; simp; omega) fun a' c' w2 F' ho2 hk2 _ hs2 => ?_
  replace ho2 := ho2.alone
  have hbq : ¬ blk a = some q := fun e => (hE q (ho.self q e)).2 rfl
  have g2 := hk2.get (k1.get g id) hbq
  have z2 := hk2.size
  have hnq : ¬ blk a' = some q := fun e => by
    rcases hs2 q e with h | h
    · exact (hE q h).2 rfl
    · omega
  refine ⟨_, _, _, rfl, q, 0, rfl, PS.mk g2 (by simp) fun w3 k3 s3 g3 => ⟨q, 0, rfl, PS.mk g3 (by simp) fun w4 k4 s4 g4 => hκ w4 ?_ ?_⟩⟩
  · have k14 : Keep (fun b => blk a = some b ∨ b = q) w1 w4 := ((hk2.mono fun b _ hb => .inl hb).then (k3.mono fun b _ hb => .inr hb)).then (k4.mono fun b _ hb => .inr hb)
    have kG : Keep G w w4 := (Grew.keep k1).then (k14.mono fun b _ hb => hb.elim (fun h => (hE b (ho.self b h)).1) fun h => h ▸ hl.self)
    have hdom : ∀ b, blk a' = some b → b < w4.heap.size := fun b hb => by have := ho2.dom b hb; omega
    refine ⟨fun b => b = q ∨ blk a' = some b, hD.turn kG (fun b hb => ⟨.inr hb, (hG b hb).1⟩) fun b hb => ?_, ⟨⟨a', _, c', (fun b => blk a' = some b), g4, ?_, fun b hb => ⟨.inr hb, fun e => hnq (e ▸ hb)⟩⟩, .inl rfl, ?_, by simpa using hlen, hl.nextR⟩, ?_⟩
    · rcases hb with hb | rfl | hb
      · exact ⟨.inl (.inl hb), by have := h.dom b hb; omega⟩
      · exact ⟨.inl (.inr hl.self), by omega⟩
      · refine ⟨?_, hdom b hb⟩
        rcases hs2 b hb with h | h
        · exact .inl (.inr (hE b h).1)
        · exact .inr (by omega)
    · exact (ho2.keep k3 fun b hb e => hnq (e ▸ hb)).keep k4 fun b hb e => hnq (e ▸ hb)
    · rintro b (rfl | hb)
      · omega
      · exact hdom b hb
    · rintro b (rfl | hb)
      · exact hG _ hl.self
      · rcases hs2 b hb with h' | h'
        · exact hG b (hE b h').1
        · exact ⟨by have := h.gr.size; omega, fun hx => by have := h.dom b hx; omega⟩
  · refine (((Grew.keep k1).then (hk2.mono fun b _ hb => ?_)).then (k3.mono fun b _ hb => ?_)).then (k4.mono fun b _ hb => ?_)
    · exact (hG b (hE b (ho.self b hb)).1).2
    · exact (hG b (hb ▸ hl.self)).2
    · exact (hG b (hb ▸ hl.self)).2

theorem le64 {j x : Nat} (hj : j ≤ 64) (h : x ≤ j * 262144) : x ≤ 16777216 := by omega
/-- what load hands back -/
def LoadDid (w0 w : World) (p q : Nat) (X : Nat → Prop) (r : Loaded) (v : Value) (w' : World) : Prop :=
  ∃ a n c G, v = .tuple #[.slice a n c, .int .i64 r.no] ∧ Lst cEvO 39 G w' a n c r.out ∧ NLog w0 w' p q r.V r.D (fun b => X b ∨ G b) ∧ Keep (Not' X) w w' ∧ (∀ b, G b → w.heap.size ≤ b) ∧ r.out.length ≤ 16777216

theorem log_load {a : Option Addr} {n c : Nat} {l : List Int} {Dm : Nat → Prop} (hL : Laid w0) (h : NLog w0 w p q V D X) (hm : Row cI64 8 w Dm a n l) (hDm : ∀ b, Dm b → X b) (hlen : V.segs.length + l.length ≤ 64) :
    Calls Tryz.prog F_seglog_Log_load #[.pointer (some ⟨q, 0, none⟩), .agg #[.slice a n c]] w (Ok (LoadDid w0 w p q X (loadGo l [] V D))) := by
  have hn := hm.len
  have hXd := h.dom
  have hg0 := h.gr.size
  refine L_seglog_Log_load (PA.mk fun w1 k1 s1 g1 => ⟨_, _, _, cell_at g1 rfl, fun m oa on oc t w' => ∃ (j : Nat) (Vj : LogV) (out : List EventV) (G : Nat → Prop), t = j ∧ j ≤ l.length ∧ m = l.length - j ∧ loadGo l [] V D = loadGo (l.drop j) out Vj D ∧ Vj.segs.length = V.segs.length + j ∧ out.length ≤ j * 262144 ∧
    Lst cEvO 39 G w' oa on oc out ∧ NLog w0 w' p q Vj D (fun b => X b ∨ G b) ∧ Keep (Not' X) w w' ∧ ∀ b, G b → w.heap.size ≤ b,
    ⟨_, 0, V, [], fun _ => False, rfl, Nat.zero_le _, rfl, rfl, rfl, Nat.zero_le _, Lst.nil w1, (h.grew k1).mono fun b hb => hb.elim id fun h => h.elim, Grew.keep k1, fun _ h => h.elim⟩, ?_⟩)
  rintro m oa on oc t _ w2 ⟨j, Vj, out, G, rfl, hj, rfl, hgo, hVj, hout, ho, hN, kX, hG⟩
  rw [hgo]
  refine PIf.dec (fun hlt => ?_) (fun hge => ?_)
  rotate_left
  · obtain rfl : j = l.length := by omega
    rw [List.drop_of_length_le (Nat.le_refl _)]
    exact Ok.mk ⟨_, _, _, G, rfl, ho, hN, kX, hG, le64 (by omega) hout⟩
  obtain ⟨b, off, no, rfl, hx, hnoR, hc⟩ := (hm.keep kX fun b hb hn => hn (hDm b hb)).at1 (i := j) (by omega)
  have hdrop : l.drop j = no :: l.drop (j + 1) := by
    obtain ⟨hj2, rfl⟩ := List.getElem?_eq_some_iff.1 hx
    exact List.drop_eq_getElem_cons hj2
  rw [hdrop] at hgo ⊢
  refine ⟨b, off, rfl, by omega, by omega, no, hc, fun w3 d3 => ?_⟩
  have k3 : Grew w2 w3 := d3.keep
  have hN3 := hN.grew k3
  obtain ⟨G3, hD3, hl3, hG3⟩ := id hN3
  obtain ⟨a3, n3, c3, E3, gq3, -, -, -⟩ := hl3.row
  refine ⟨fun _ => False, q, 0, rfl, id, _, cell_at gq3 rfl, PC.ok (seg_Name (hL.grew hN3.gr) hnoR) ?_⟩
  rintro _ w4 ⟨rfl, k4⟩
  have hN4 := hN3.grew k4
  refine ⟨_, rfl, k4, PC.ok ((hD3.grew k4).read (k := segNm no)) ?_⟩
  rintro _ w5 ⟨a5, n5, c5, F5, rfl, ho5, hF5, -, k5⟩
  have hN5 := hN4.grew k5
  have k25 : Grew w2 w5 := (k3.then k4).then k5
  have hn5 := ho5.len (by decide)
  have hrl := read_len hN5.ok (segNm no)
  refine ⟨_, _, _, _, rfl, k5, PIf.neI (fun hne => ?_) (fun he => ?_)⟩
  · rw [show loadGo (no :: l.drop (j + 1)) out Vj D = ⟨0, out, Vj, D⟩ by unfold loadGo; rw [if_pos hne]]
    exact Ok.mk ⟨_, _, _, G, rfl, ho.grew k25, hN5, kX.grew k25, hG, le64 (by omega) hout⟩
  obtain ⟨G5, hD5, hl5, hG5⟩ := id hN5
  obtain ⟨a5', n5', c5', E5, gq5, -, -, -⟩ := hl5.row
  obtain ⟨F, hDk, -, -, -⟩ := id hD5
  refine ⟨q, 0, rfl, _, cell_at gq5 rfl, PC.ok (seg_Load (hL.grew hN5.gr) hDk hnoR) ?_⟩
  rintro _ w6 ⟨a6, n6, c6, F6, rfl, ho6, k6, hF6, hl6⟩
  have hN6 : NLog w0 w6 p q Vj D (fun b => (X b ∨ G b) ∨ F6 b) := hN5.add k6 fun b hb => ⟨hF6 b hb, ho6.dom b hb⟩
  have k26 := k25.then k6
  have hGd := ho.dom
  generalize hsl : segLoad (D.read (txt (segName no))).1 = sl at ho6 hl6
  obtain ⟨evs, nb⟩ := sl
  dsimp only at ho6 hl6
  have hsl' : segLoad (D.read (segNm no)).1 = (evs, nb) := hsl
  have ho6r : Row cEvO 96 w6 F6 a6 n6 evs := ho6.row (by decide) (by unfold Big; omega)
  refine ⟨_, _, _, _, rfl, appRow' (ho.grew k26) slEv ho6r (fun e => ho6.nil0 e) (fun b hb => ⟨ho6.dom b hb, fun hc => by have := hGd b (ho.self b hc); have := hF6 b hb; have := k25.size; omega⟩) (by unfold Big; omega) (by unfold maxLen; omega) fun a7 c7 w7 F7 ho7 hk7 hF7 _ => ?_⟩
  have z25 := k25.size; have z6 := k6.size
  have hF7d := ho7.dom
  have hN7 : NLog w0 w7 p q Vj D (fun b => X b ∨ F7 b) := hN6.turn hk7 (fun b hb => ⟨.inl (.inr (ho.self b hb)), by have := hG b (ho.self b hb); omega⟩) fun b hb => by
    rcases hb with hb | hb
    · exact ⟨.inl (.inl (.inl hb)), by have := hXd b hb; have := kX.size; have := hk7.size; omega⟩
    · refine ⟨?_, hF7d b hb⟩
      rcases hF7 b hb with h | h | h
      · exact .inl (.inl (.inr h))
      · exact .inl (.inr h)
      · exact .inr h
  have kX7 : Keep (Not' X) w w7 := (kX.grew k26).then (hk7.mono fun b _ hb hx => by have := hG b (ho.self b hb); have := hXd b hx; omega)
  have hG7 : ∀ b, F7 b → w.heap.size ≤ b := fun b hb => by
    have := kX.size
    rcases hF7 b hb with h | h | h
    · exact hG b h
    · have := hF6 b h; omega
    · omega
  refine ⟨_, _, _, rfl, log_push hN7 hnoR (by omega) fun w8 hN8 k8 => ?_⟩
  have kX8 : Keep (Not' X) w w8 := kX7.then (k8.mono fun b _ hb hx => hb (.inl hx))
  have ho8 := ho7.keep k8 fun b hb hn => hn (.inr hb)
  refine PIf.dec (fun hcut => ?_) (fun hall => ?_)
  · rw [show loadGo (no :: l.drop (j + 1)) out Vj D = ⟨(D.cutF (segNm no) nb).1, out ++ evs, ⟨Vj.size, Vj.segs ++ [no], nb, Vj.next⟩, (D.cutF (segNm no) nb).2⟩ by
      unfold loadGo; rw [hsl', if_neg (by simpa using he), if_pos (by show nb < _; omega)]]
    intro w9 d9
    have k9 : Grew w8 w9 := d9.keep
    have hN9 := hN8.grew k9
    obtain ⟨G9, hD9, hl9, hG9⟩ := id hN9
    obtain ⟨a9, n9, c9, E9, gq9, -, -, -⟩ := hl9.row
    refine ⟨fun b => b ≠ q, q, 0, rfl, fun hs => hs rfl, _, cell_at gq9 rfl, PC.ok (seg_Name (hL.grew hN9.gr) hnoR) ?_⟩
    rintro _ w10 ⟨rfl, k10⟩
    refine ⟨_, rfl, k10.keep, PC.ok ((hD9.grew k10).cutF (k := segNm no)) ?_⟩
    rintro _ w11 ⟨rfl, hD11, k11⟩
    have k11' : Keep (Not' X) w10 w11 := k11.mono fun b _ hb hx => hb (.inl (.inl hx))
    refine ⟨_, rfl, k11.mono fun b _ hb e => hb (.inr (e ▸ hl9.self)), Ok.mk ⟨_, _, _, F7, rfl, ?_, ⟨G9, hD11, (hl9.grew k10).keep k11 fun b hb hn => hn (.inr hb), hG9⟩, ((kX8.grew k9).grew k10).then k11', hG7, ?_⟩⟩
    · exact ((ho8.grew k9).grew k10).keep k11 fun b hb hn => hn (.inl (.inr hb))
    · exact le64 (j := j + 1) (by omega) (by simp; omega)
  · refine ⟨_, ?_, j + 1, ⟨Vj.size, Vj.segs ++ [no], nb, Vj.next⟩, out ++ evs, F7, wrap_succ (by omega), by omega, rfl, ?_, by simp; omega, by simp; omega, ho8, hN8, kX8, hG7⟩
    · omega
    · conv => lhs; unfold loadGo
      rw [hsl', if_neg (by simpa using he), if_neg (by show ¬ nb < _; omega)]
end
end Go.Proofs.YtpbpjojdfcdbbaaGreatDoor

/- seglog: a log opened; events laid -/
namespace Go.Proofs.YtpbpjojdfcdbbaaGreatDoor
open Go.Lift
set_option linter.unusedVariables false
set_option maxRecDepth 20000

def logStart (D : DiskV) (size : Int) : LogV := ⟨size, [], 0, nextV D⟩
def told (D : DiskV) : List Int := (mfTell D).getD []
/-- behind the loading: a first segment, or a manifest of what is there -/
def openEnd (m : Nat) (r : Loaded) : Loaded :=
  if r.no ≠ 0 then r else
  if r.V.segs = [] then ⟨(logBegin r.V r.D).1, r.out, (logBegin r.V r.D).2.1, (logBegin r.V r.D).2.2⟩ else
  if r.V.segs.length < m then ⟨(mfWrite r.D r.V.segs).1, r.out, r.V, (mfWrite r.D r.V.segs).2⟩ else r
def logOpen (D : DiskV) (size : Int) : Loaded := openEnd (told D).length (loadGo (told D) [] (logStart D size) D)

/-- what Open hands back -/
def OpenDid (w0 w : World) (p : Nat) (X : Nat → Prop) (r : Loaded) (v : Value) (w' : World) : Prop :=
  (r.no ≠ 0 ∧ v = .tuple #[.pointer none, .slice none 0 0, .int .i64 r.no] ∧ NDisk w0 w' p r.D X ∧ Keep (Not' X) w w') ∨
  (r.no = 0 ∧ ∃ q a n c G, v = .tuple #[.pointer (some ⟨q, 0, none⟩), .slice a n c, .int .i64 0] ∧ Lst cEvO 39 G w' a n c r.out ∧ NLog w0 w' p q r.V r.D (fun b => X b ∨ G b) ∧ Keep (Not' X) w w' ∧ (∀ b, G b → w.heap.size ≤ b) ∧ w.heap.size ≤ q ∧ r.out.length ≤ 16777216)

theorem log_Open {w0 w : World} {p : Nat} {D : DiskV} {X : Nat → Prop} {size : Int} (hL : Laid w0) (h : NDisk w0 w p D X) :
    Calls Tryz.prog F_seglog_Open #[.pointer (some ⟨p, 0, none⟩), .int .i64 size] w (Ok (OpenDid w0 w p X (logOpen D size))) := by
  have hXd : ∀ b, X b → b < w.heap.size := by obtain ⟨F, h1, h2, h3, h4⟩ := h; exact h4
  have hg0 := h.gr.size
  obtain ⟨F, hF, -, -, -⟩ := id h
  refine L_seglog_Open (PC.ok (seglog_next (hL.grew h.gr) hF) ?_)
  rintro _ w1 ⟨rfl, k1⟩
  have hD1 := h.grew k1
  have hnx := nextL_rng D.list
  refine ⟨_, rfl, PA.mk fun w2 k2 s2 g2 => PC.ok ((hD1.grew k2).mfRead hL.tabs) ?_⟩
  rintro _ w3 ⟨a3, n3, c3, F3, rfl, ho3, hF3, -, k3⟩
  have z1 := k1.size; have z3 := k3.size
  change Lst cI64 3 F3 w3 a3 n3 c3 (told D) at ho3
  have hml : (told D).length ≤ 64 := mfTell_le
  have k13 : Grew w1 w3 := k2.then k3
  refine ⟨_, _, _, _, rfl, PA.mk fun w4 k4 s4 g4 => PS.mk g4 (by simp) fun w5 k5 s5 g5 => ⟨_, _, _, cell_at g5 rfl, ?_⟩⟩
  have g5' : w5.heap[w3.heap.size]? = some (.cells #[.slice a3 n3 c3] 56 (0, 0)) := g5
  have k35 : Grew w3 w5 := k4.new k5 fun b hb => .inr (by omega)
  have k15 : Grew w1 w5 := k13.then k35
  have k05 : Grew w w5 := k1.then k15
  have gq5 := k35.get (k3.get g2 id) id
  have ho5 := ho3.grew k35
  /- the log -/
  let X5 : Nat → Prop := fun b => X b ∨ (F3 b ∨ b = w3.heap.size)
  have hN5 : NLog w0 w5 p w1.heap.size (logStart D size) D X5 := by
    refine ⟨(· = w1.heap.size), hD1.turn k15 (Y := fun _ => False) (fun b hb => hb.elim) fun b hb => ?_, ⟨⟨none, 0, 0, fun _ => False, gq5, Lst.nil w5, fun _ h => h.elim⟩, rfl, fun b hb => by omega, Nat.zero_le _, ?_⟩, fun b hb => ⟨by omega, fun hx => ?_⟩⟩
    · rcases hb with (hb | hb | hb) | hb
      · exact ⟨.inl hb, by have := hXd b hb; omega⟩
      · exact ⟨.inr (by have := hF3 b hb; omega), ho5.dom b hb⟩
      · exact ⟨.inr (by omega), by omega⟩
      · exact ⟨.inr (by omega), by omega⟩
    · show I64 (nextL D.list); unfold I64; omega
    · subst hb
      rcases hx with hx | hx | hx
      · have := hXd _ hx; omega
      · have := hF3 _ hx; omega
      · omega
  have hrow5 : Row cI64 8 w5 F3 a3 n3 (told D) := ho5.row (by decide) (by unfold Big; omega)
  refine PC.ok (log_load hL hN5 hrow5 (fun b hb => .inr (.inl hb)) (by show 0 + _ ≤ _; omega)) ?_
  rintro _ w6 ⟨a6, n6, c6, G6, rfl, ho6, hN6, k6, hG6, hl6⟩
  have z5 := k05.size
  have hq : w.heap.size ≤ w1.heap.size := z1
  have kX6 : Keep (Not' X) w w6 := (Grew.keep k05).then (k6.mono fun b _ hb hx => hb (.inl hx))
  have g6 := k6.get g5' fun hn => hn (.inr (.inr rfl))
  have hrow6 : Row cI64 8 w6 F3 a3 n3 (told D) := hrow5.keep k6 fun b hb hn => hn (.inr (.inl hb))
  have hn3 := hrow5.len
  show _
  unfold logOpen
  generalize loadGo (told D) [] (logStart D size) D = r at ho6 hN6 hl6
  have hG6' : ∀ b, G6 b → w.heap.size ≤ b := fun b hb => by have := hG6 b hb; omega
  refine ⟨_, _, _, _, rfl, fun no w' => ∃ V' D', openEnd (told D).length r = ⟨no, r.out, V', D'⟩ ∧ Lst cEvO 39 G6 w' a6 n6 c6 r.out ∧ NLog w0 w' p w1.heap.size V' D' (fun b => X b ∨ G6 b) ∧ Keep (Not' X) w w', ?_, ?_⟩
  · have toXG : ∀ {w' V' D'}, NLog w0 w' p w1.heap.size V' D' (fun b => X5 b ∨ G6 b) → NLog w0 w' p w1.heap.size V' D' (fun b => X b ∨ G6 b) := fun h => h.mono fun b hb => hb.imp .inl id
    refine PIf.neI (fun hne => ⟨r.V, r.D, by unfold openEnd; rw [if_pos hne], ho6, toXG hN6, kX6⟩) (fun h0 => ?_)
    obtain ⟨GL, hDL, hlL, hGL⟩ := id hN6
    obtain ⟨aL, nL, cL, EL, gL, hrL, hEL, hnL⟩ := hlL.row
    refine ⟨_, _, rfl, _, _, _, cell_at gL rfl, PIf.eqI (fun hz => ?_) (fun hnz => ?_)⟩
    · have he : r.V.segs = [] := List.eq_nil_of_length_eq_zero (by omega)
      refine PC.ok (log_begin hL hN6) ?_
      rintro _ w7 ⟨rfl, hN7, k7⟩
      exact ⟨_, rfl, _, _, by unfold openEnd; rw [if_neg (by simpa using h0), if_pos he], ho6.keep k7 fun b hb hn => hn (.inr hb), toXG hN7, kX6.then (k7.mono fun b _ hb hx => hb (.inl (.inl hx)))⟩
    · have hne : ¬ r.V.segs = [] := fun e => hnz (by rw [hnL, e]; rfl)
      refine ⟨_, _, rfl, _, _, _, cell_at gL rfl, _, _, _, cell_at g6 rfl, fun w7 d7 => ?_⟩
      have k7 : Grew w6 w7 := d7.keep
      have hN7 := hN6.grew k7
      have ho7 := ho6.grew k7
      have kX7 : Keep (Not' X) w w7 := kX6.grew k7
      refine PIf.dec (fun hlt => ?_) (fun hge => ⟨_, _, by unfold openEnd; rw [if_neg (by simpa using h0), if_neg hne, if_neg (by omega)], ho7, toXG hN7, kX7⟩)
      have gL7 := k7.get gL id
      refine ⟨_, _, rfl, _, _, _, cell_at gL7 rfl, PC.ok ((hDL.grew k7).mfWrite hL.tabs (hrL.grew k7) (row_i64 hrL) fun b hb => .inr (.inr (hEL b hb).1)) ?_⟩
      rintro _ w8 ⟨rfl, hD8, k8⟩
      have hN8 : NLog w0 w8 p w1.heap.size r.V (mfWrite r.D r.V.segs).2 (fun b => X5 b ∨ G6 b) := ⟨GL, hD8, (hlL.grew k7).keep k8 fun b hb hn => hn (.inr hb), hGL⟩
      exact ⟨_, rfl, _, _, by unfold openEnd; rw [if_neg (by simpa using h0), if_neg hne, if_pos (by omega)], ho7.keep k8 fun b hb hn => hn (.inl (.inr hb)), toXG hN8, kX7.then (k8.mono fun b _ hb hx => hb (.inl (.inl (.inl hx))))⟩
  · rintro no _ w7 ⟨V', D', he, ho7, hN7, kX7⟩
    rw [he]
    refine PIf.neI (fun hne => Ok.mk (.inl ⟨hne, rfl, hN7.disk.mono fun b hb => .inl hb, kX7⟩)) (fun h0 => Ok.mk (.inr ⟨h0, w1.heap.size, a6, n6, c6, G6, by rfl, ho7, hN7, kX7, hG6', hq, hl6⟩))
end Go.Proofs.YtpbpjojdfcdbbaaGreatDoor

/- seglog: events laid -/
namespace Go.Proofs.YtpbpjojdfcdbbaaGreatDoor
open Go.Lift
set_option linter.unusedVariables false
set_option maxRecDepth 20000

def tooLong (e : EventV) : Bool := decide (64 < e.deps.length)
def logAppend (V : LogV) (D : DiskV) (l : List EventV) : Int × LogV × DiskV :=
  if l.any tooLong then (3, V, D) else if l = [] then (0, V, D) else
  let r := if V.size ≤ V.bytes then logBegin V D else (0, V, D)
  if r.1 ≠ 0 then r else
  let a := r.2.2.append r.2.1.last (evFrs l)
  if a.1 ≠ 0 then (a.1, r.2.1, a.2) else (0, ⟨r.2.1.size, r.2.1.segs, IntKind.wrap .i64 (r.2.1.bytes + ((evFrs l).length : Nat)), r.2.1.next⟩, a.2)

theorem logBegin_segs {V : LogV} {D : DiskV} (h : (logBegin V D).1 = 0) : (logBegin V D).2.1.segs ≠ [] := by
  have h3 : ∀ E : DiskV, (begin3 V E).1 = 0 → (begin3 V E).2.1.segs ≠ [] := by
    intro E
    unfold begin3
    dsimp only
    split
    · rename_i hne; intro h; exact absurd h hne
    · split
      · rename_i hne; intro h; exact absurd h hne
      · intro _; simp
  have h2 : ∀ E : DiskV, (begin2 V E).1 = 0 → (begin2 V E).2.1.segs ≠ [] := by
    intro E
    unfold begin2
    dsimp only
    split
    · rename_i hne; intro h; exact absurd h hne
    · exact h3 _
  revert h
  unfold logBegin
  dsimp only
  split
  · exact h2 D
  · split
    · rename_i hne; intro h; exact absurd h hne
    · exact h2 _

theorem evFr_le {e : EventV} (he : e.Ok) (hd : e.deps.length ≤ 64) : (evFr e).length ≤ 675 := by
  have := ev_le he hd
  have h2 := segFrame_ok he hd
  unfold evFr at *
  rw [frBytes_length]
  omega
theorem evFrs_snoc (l : List EventV) (e : EventV) : evFrs (l ++ [e]) = evFrs l ++ evFr e := by simp [evFrs]

theorem log_Append {w0 w : World} {p q : Nat} {V : LogV} {D : DiskV} {X De : Nat → Prop} {a : Option Addr} {n c : Nat} {l : List EventV} (hL : Laid w0) (h : NLog w0 w p q V D X) (hne : V.segs ≠ []) (hr : Row cEv 96 w De a n l) (hDe : ∀ b, De b → b < w.heap.size) (hl : l.length ≤ 1000) :
    Calls Tryz.prog F_seglog_Log_Append #[.pointer (some ⟨q, 0, none⟩), .slice a n c] w (Ok (Does3 w0 w p q X (logAppend V D l))) := by
  have hn := hr.len
  have hXd := h.dom
  refine L_seglog_Log_Append ⟨fun m ba bn bc t w' => ∃ (j : Nat) (F : Nat → Prop), t = j ∧ j ≤ n ∧ m = n - j ∧ (∀ e ∈ l.take j, e.Ok ∧ e.deps.length ≤ 64) ∧ (evFrs (l.take j)).length ≤ 675 * j ∧ Lst cU8 5 F w' ba bn bc (evFrs (l.take j)) ∧ Grew w w' ∧ ∀ b, F b → w.heap.size ≤ b,
    ⟨_, 0, fun _ => False, rfl, Nat.zero_le _, rfl, by simp, by simp [evFrs], Lst.nil w, Keep.refl _, fun _ h => h.elim⟩, ?_⟩
  rintro m ba bn bc t _ w1 ⟨j, F, rfl, hj, rfl, hok, hfl, ho, k1, hF⟩
  have hbn := ho.len (by decide)
  refine PIf.dec (fun hlt => ?_) (fun hge => ?_)
  · obtain ⟨b, off, e, es, rfl, _, _, hx, hc, a1, n1, c1, rfl, hd, heok⟩ := (hr.grew k1).atN (i := j) (by omega)
    have e1 := fun i (hi : i < 10) => hc i hi
    refine ⟨b, off, rfl, by omega, by omega, _, _, _, _, _, _, _, _, _, _, _, _, e1 0 (by decide), e1 1 (by decide), e1 2 (by decide), e1 3 (by decide), e1 4 (by decide), e1 5 (by decide), e1 6 (by decide), e1 7 (by decide), e1 8 (by decide), e1 9 (by decide), PA.mk fun w2 k2 s2 g2 => ?_⟩
    refine storeAll (evCells e a1 n1 c1) g2 rfl fun w3 k3 s3 g3 => ?_
    have k13 : Grew w1 w3 := k2.new k3 fun b hb => .inr (by omega)
    refine ⟨_, _, _, _, _, _, _, _, _, _, _, _, cell_at g3 rfl, cell_at g3 rfl, cell_at g3 rfl, cell_at g3 rfl, cell_at g3 rfl, cell_at g3 rfl, cell_at g3 rfl, cell_at g3 rfl, cell_at g3 rfl, cell_at g3 rfl, ?_⟩
    refine PC.ok (seg_Frame (hL.grew ((h.gr.then k1).then k13)) (hd.grew k13) heok fun b hb => by have := hDe b hb; have := (k1.then k13).size; omega) ?_
    rintro _ w4 ⟨a4, n4, c4, F4, rfl, ho4, k4, hF4⟩
    by_cases hd64 : e.deps.length ≤ 64
    · have hsf := segFrame_ok heok hd64
      rw [hsf] at ho4 ⊢
      have hel := evFr_le heok hd64
      refine ⟨_, _, _, _, rfl, PIf.neI (fun hc => absurd rfl hc) (fun _ => ?_)⟩
      have k14 := k13.then k4
      have ho4r : Row cU8 1 w4 F4 a4 n4 (evFr e) := ho4.row (bytes := 1) (by decide) (by unfold Big; dsimp only; omega)
      have z14 := k14.size; have z13 := k13.size
      refine appRow' (ho.grew k14) slU8 ho4r (fun e => ho4.nil0 e) (fun b hb => ⟨ho4.dom b hb, fun hc => by have := ho.dom b (ho.self b hc); have := hF4 b hb; omega⟩) (by unfold Big; omega) (by unfold maxLen; omega) fun a5 c5 w5 F5 ho5 hk5 hF5 _ => ?_
      have htk : l.take (j + 1) = l.take j ++ [e] := by rw [List.take_add_one, hx]; rfl
      refine ⟨_, _, _, rfl, n - (j + 1), by omega, j + 1, F5, wrap_succ (by omega), by omega, rfl, ?_, ?_, ?_, (k1.then k14).new hk5 fun b hb => .inr (by have := hF b (ho.self b hb); omega), ?_⟩
      · rw [htk]
        intro x hx'
        rcases List.mem_append.1 hx' with h' | h'
        · exact hok x h'
        · simp at h'; subst h'; exact ⟨heok, hd64⟩
      · rw [htk, evFrs_snoc]; simp; omega
      · rw [htk, evFrs_snoc]; exact ho5
      · intro b hb
        have := k1.size
        rcases hF5 b hb with h' | h' | h'
        · exact hF b h'
        · have := hF4 b h'; omega
        · omega
    · have hsf := segFrame_no hd64
      rw [hsf] at ho4 ⊢
      refine ⟨_, _, _, _, rfl, PIf.neI (fun _ => ?_) (fun hc => absurd hc (by decide))⟩
      have hany : l.any tooLong = true := List.any_eq_true.2 ⟨e, List.mem_of_getElem? hx, by unfold tooLong; simp; omega⟩
      refine Ok.mk ?_
      rw [show logAppend V D l = (3, V, D) by unfold logAppend; rw [if_pos hany]]
      have k04 := (k1.then k13).then k4
      exact ⟨rfl, h.grew k04, Grew.keep k04⟩
  · obtain rfl : j = n := by omega
    rw [List.take_of_length_le (by omega)] at hok hfl ho hbn
    have hno : l.any tooLong = false := by
      rw [← Bool.not_eq_true]
      intro hc
      obtain ⟨e, he, h2⟩ := List.any_eq_true.1 hc
      have := (hok e he).2
      unfold tooLong at h2
      simp at h2
      omega
    refine PIf.eqI (fun hz => ?_) (fun hnz => ?_)
    · have he : l = [] := List.eq_nil_of_length_eq_zero (by omega)
      refine Ok.mk ?_
      rw [show logAppend V D l = (0, V, D) by unfold logAppend; rw [if_neg (by simp [hno]), if_pos he]]
      exact ⟨rfl, h.grew k1, Grew.keep k1⟩
    have hle : l ≠ [] := fun e => hnz (by rw [hn, e]; rfl)
    let X1 : Nat → Prop := fun b => X b ∨ F b
    have hN1 : NLog w0 w1 p q V D X1 := h.add k1 fun b hb => ⟨hF b hb, ho.dom b hb⟩
    have hApp : logAppend V D l = if (if V.size ≤ V.bytes then logBegin V D else (0, V, D)).1 ≠ 0 then (if V.size ≤ V.bytes then logBegin V D else (0, V, D)) else
        if ((if V.size ≤ V.bytes then logBegin V D else (0, V, D)).2.2.append (if V.size ≤ V.bytes then logBegin V D else (0, V, D)).2.1.last (evFrs l)).1 ≠ 0 then (((if V.size ≤ V.bytes then logBegin V D else (0, V, D)).2.2.append (if V.size ≤ V.bytes then logBegin V D else (0, V, D)).2.1.last (evFrs l)).1, (if V.size ≤ V.bytes then logBegin V D else (0, V, D)).2.1, ((if V.size ≤ V.bytes then logBegin V D else (0, V, D)).2.2.append (if V.size ≤ V.bytes then logBegin V D else (0, V, D)).2.1.last (evFrs l)).2)
        else (0, ⟨(if V.size ≤ V.bytes then logBegin V D else (0, V, D)).2.1.size, (if V.size ≤ V.bytes then logBegin V D else (0, V, D)).2.1.segs, IntKind.wrap .i64 ((if V.size ≤ V.bytes then logBegin V D else (0, V, D)).2.1.bytes + ((evFrs l).length : Nat)), (if V.size ≤ V.bytes then logBegin V D else (0, V, D)).2.1.next⟩, ((if V.size ≤ V.bytes then logBegin V D else (0, V, D)).2.2.append (if V.size ≤ V.bytes then logBegin V D else (0, V, D)).2.1.last (evFrs l)).2) := by
      unfold logAppend; rw [if_neg (by simp [hno]), if_neg hle]
    obtain ⟨GL, hDL, hlL, hGL⟩ := id hN1
    obtain ⟨aL, nL, cL, EL, gL, hrL, hEL, hnL⟩ := hlL.row
    rw [hApp]
    refine ⟨fun w' => ∃ V' D', (if V.size ≤ V.bytes then logBegin V D else (0, V, D)) = (0, V', D') ∧ V'.segs ≠ [] ∧ NLog w0 w' p q V' D' X1 ∧ Keep (Not' X) w w' ∧ Lst cU8 5 F w' ba bn bc (evFrs l), ?_, ?_⟩
    · refine ⟨q, 0, rfl, _, cell_at gL rfl, q, 0, rfl, _, cell_at gL rfl, fun w2 d2 => ?_⟩
      have k2 : Grew w1 w2 := d2.keep
      have hN2 := hN1.grew k2
      have ho2 := ho.grew k2
      have kX2 : Keep (Not' X) w w2 := Grew.keep (k1.then k2)
      refine PIf.dec (fun hge => ?_) (fun hlt => ⟨V, D, by rw [if_neg (by omega)], hne, hN2, kX2, ho2⟩)
      refine PC.ok (log_begin hL hN2) ?_
      rintro _ w3 ⟨rfl, hN3, k3⟩
      have kX3 : Keep (Not' X) w w3 := kX2.then (k3.mono fun b _ hb hx => hb (.inl hx))
      have hcond : (if V.size ≤ V.bytes then logBegin V D else (0, V, D)) = logBegin V D := if_pos (by omega)
      rw [hcond]
      refine ⟨_, rfl, PIf.neI (fun hne2 => ?_) (fun h0 => ⟨_, _, by rw [← h0], logBegin_segs h0, hN3, kX3, ho2.keep k3 fun b hb hn => hn (.inr hb)⟩)⟩
      rw [if_pos hne2]
      exact Ok.mk ⟨rfl, hN3.mono fun b hb => .inl hb, kX3⟩
    · rintro _ w2 ⟨V', D', hcond, hne', hN2, kX2, ho2⟩ w3 d3
      rw [hcond]
      have k3 : Grew w2 w3 := d3.keep
      have hN3 := hN2.grew k3
      have ho3 := ho2.grew k3
      obtain ⟨G3, hD3, hl3, hG3⟩ := id hN3
      obtain ⟨a3, n3, c3, E3, gq3, -, -, -⟩ := hl3.row
      refine ⟨fun b => b ≠ q, q, 0, rfl, fun hs => hs rfl, _, cell_at gq3 rfl, PC.ok (log_name (hL.grew hN3.gr) hl3 hne') ?_⟩
      rintro _ w4 ⟨rfl, k4⟩
      have ho4 := ho3.grew k4
      have hr4 : Row cU8 1 w4 F ba bn (evFrs l) := ho4.row (bytes := 1) (by decide) (by unfold Big; omega)
      refine ⟨_, rfl, k4.keep, PC.ok ((hD3.grew k4).append hr4 (fun e => ho4.nil0 e) fun b hb => .inr (.inl (.inr hb))) ?_⟩
      rintro _ w5 ⟨rfl, hD5, k5⟩
      have hl5 := (hl3.grew k4).keep k5 fun b hb hn => hn (.inr hb)
      have kX5 : Keep (Not' X) w w5 := ((kX2.grew k3).grew k4).then (k5.mono fun b _ hb hx => hb (.inl (.inl hx)))
      refine ⟨_, rfl, k5.mono fun b _ hb e => hb (.inr (e ▸ hl3.self)), ?_⟩
      rw [if_neg (fun hc : ((0, V', D') : Int × LogV × DiskV).1 ≠ 0 => hc rfl)]
      refine PIf.neI (fun hne2 => ?_) (fun h0 => ?_)
      · rw [if_pos hne2]
        exact Ok.mk ⟨rfl, NLog.mono (X := X1) ⟨G3, hD5, hl5, hG3⟩ fun b hb => .inl hb, kX5⟩
      · rw [if_neg (by simpa using h0)]
        obtain ⟨a5, n5, c5, E5, gq5, ho5, hE5⟩ := hl5.body
        refine ⟨q, 0, rfl, _, cell_at gq5 rfl, q, 0, rfl, PS.mk gq5 (by simp) fun w6 k6 s6 g6 => Ok.mk ⟨rfl, ?_, kX5.then (k6.mono fun b _ hb hx => (hG3 b (hb ▸ hl5.self)).2 (.inl hx))⟩⟩
        rw [hbn] at g6
        refine NLog.mono (X := X1) ⟨G3, hD5.turn k6 (fun b hb => ⟨.inr (hb ▸ hl5.self), (hG3 b (hb ▸ hl5.self)).1⟩) (fun b hb => ⟨.inl hb, by have := (hb.elim (NLog.dom (X := X1) ⟨G3, hD5, hl5, hG3⟩ b) (hl5.dom b) : b < w5.heap.size); omega⟩), ⟨⟨a5, n5, c5, E5, g6, ho5.keep k6 fun b hb e => (hE5 b hb).2 e, hE5⟩, hl5.self, fun b hb => by have := hl5.dom b hb; omega, hl5.many, hl5.nextR⟩, hG3⟩ fun b hb => .inl hb
end Go.Proofs.YtpbpjojdfcdbbaaGreatDoor

/- the document's numbers: laid, and read -/
namespace Go.Lift
open Go
set_option linter.unusedVariables false
theorem rdNum_fail {l : List UInt8} (h : (rdNum l).1 ≠ 0) : (rdNum l).2 = (0, 0) := by
  cases l with
  | nil => rfl
  | cons x t =>
    by_cases hk : kOf x ≤ 8
    · by_cases hs : t.length < kOf x
      · rw [rdNum_short hk hs]
      · by_cases hb : (0 < kOf x ∧ t.head? = some 0) ∨ (¬ 16 < x.toNat ∧ 2 ^ 63 ≤ valB (t.take (kOf x))) ∨ (16 < x.toNat ∧ 2 ^ 63 < valB (t.take (kOf x)))
        · rw [rdNum_bad hk hs hb]
        · rw [rdNum_good hk hs hb] at h; exact absurd rfl h
    · rw [rdNum_long hk]
theorem rdInt_eq {r : RdV} (h : r.why = 0) : rdInt r = (r.num.2.1, ⟨r.bytes, r.pos + r.num.2.2, r.num.1⟩) := by
  unfold rdInt
  rw [if_neg (by simp [h])]
  split
  · rename_i h0; rw [h0]
  · rename_i h0
    have := rdNum_fail (l := r.bytes.drop r.pos) h0
    rw [show r.num.2 = (0, 0) from this]; rfl
end Go.Lift
namespace Go.Proofs.YtpbpjojdfcdbbaaGreatDoor
open Go.Lift
set_option linter.unusedVariables false
set_option maxRecDepth 20000

theorem ref01_size {n : Int} {w : World} (hn : I64 n) : Calls Tryz.prog F_ref01_size #[.int .i64 n] w (Ok fun v w' => v = .int .u64 (n.natAbs : Int) ∧ w = w') := by
  unfold I64 at hn
  refine L_ref01_size (PIf.dec (fun h => ?_) (fun h => ?_))
  · refine Ok.mk ⟨?_, rfl⟩
    rw [wrap_u64, wrap_u64]
    have e : (0 - n % 18446744073709551616) % 18446744073709551616 = (n.natAbs : Int) := by omega
    rw [e]
  · refine Ok.mk ⟨?_, rfl⟩
    rw [wrap_u64]
    have e : n % 18446744073709551616 = (n.natAbs : Int) := by omega
    rw [e]

theorem ref01_Int {a : Option Addr} {n c : Nat} {bs : List UInt8} {m : Int} {w : World} {D : Nat → Prop} (hm : I64 m) (hb : Row cU8 1 w D a n bs) (hbig : n + 9 ≤ Big) (hD : ∀ b, D b → b < w.heap.size) :
    Calls Tryz.prog F_ref01_Int #[.slice a n c, .int .i64 m] w (Ok (New cU8 5 w (bs ++ encInt m))) := by
  have hl := hb.len
  have hm' := hm
  unfold I64 at hm'
  have hbig' := hbig
  unfold Big at hbig'
  have hu : m.natAbs < 2 ^ 64 := by omega
  have hk8 := lowB_le8 hu
  refine L_ref01_Int (PC.ok (ref01_size hm) ?_)
  rintro _ _ ⟨rfl, rfl⟩
  refine ⟨_, rfl, fun q la ln lc u w' => ∃ (U : Nat) (d : List UInt8) (F : Nat → Prop), u = U ∧ q = U ∧ U < 2 ^ 64 ∧ lowB m.natAbs = d ++ lowB U ∧ Lst cU8 5 F w' la ln lc d ∧ Grew w w' ∧ ∀ b, F b → w.heap.size ≤ b,
    ⟨_, m.natAbs, [], fun _ => False, rfl, rfl, hu, by simp, Lst.nil w, Keep.refl w, fun _ h => h.elim⟩, ?_⟩
  rintro U la ln lc u _ w1 ⟨_, d, F, rfl, rfl, hU, hd, ho, k1, hF⟩
  have hln := ho.len (by decide)
  have hdl : d.length + (lowB U).length = (lowB m.natAbs).length := by rw [hd, List.length_append]
  refine PIf.dec (fun hpos => ?_) (fun hz => ?_)
  · have hU0 : U ≠ 0 := by omega
    have hlow := lowB_pos hU0
    have hll : (lowB U).length = (lowB (U / 256)).length + 1 := by rw [hlow]; rfl
    have ex : IntKind.wrap .u8 (Int.tmod (U : Int) 256) = (((UInt8.ofNat (U % 256)).toNat : Nat) : Int) := by
      have h1 : Int.tmod (U : Int) 256 = ((U % 256 : Nat) : Int) := by rw [Int.tmod_eq_emod_of_nonneg (by omega)]; omega
      rw [h1, wrap_u8, UInt8.toNat_ofNat']
    have ed : IntKind.wrap .u64 (Int.tdiv (U : Int) 256) = ((U / 256 : Nat) : Int) := by
      have h1 : Int.tdiv (U : Int) 256 = ((U / 256 : Nat) : Int) := by rw [Int.tdiv_eq_ediv_of_nonneg (by omega)]; omega
      rw [h1, wrap_u64n (by omega)]
    rw [ed]
    refine papp ho slU8 (x := UInt8.ofNat (U % 256)) (D := fun _ => False) ⟨by rw [ex], trivial⟩ (fun _ h => h.elim) (by unfold Big; omega) (by unfold maxLen; omega) fun a2 c2 w2 F2 ho2 hk2 hF2 _ => ?_
    refine ⟨_, _, _, rfl, U / 256, by omega, U / 256, d ++ [UInt8.ofNat (U % 256)], F2, rfl, rfl, by omega, ?_, ho2, k1.new hk2 fun b hb => .inr (hF b (ho.self b hb)), fun b hb => ?_⟩
    · rw [hd, hlow]; simp
    · rcases hF2 b hb with h | h | h
      · exact hF b h
      · exact h.elim
      · have := k1.size; omega
  · obtain rfl : U = 0 := by omega
    rw [lowB_zero, List.append_nil] at hd
    subst hd
    have hlk : ln = (lowB m.natAbs).length := hln
    refine ⟨fun hd w' => hd = (((lowB m.natAbs).length + if m < 0 then 16 else 0 : Nat) : Int) ∧ w1 = w', PIf.dec (fun h => ⟨?_, rfl⟩) (fun h => ⟨?_, rfl⟩), ?_⟩
    · rw [if_pos h, wrap_i64 (by unfold I64; omega)]; omega
    · rw [if_neg h]; omega
    · rintro hd _ _ ⟨rfl, rfl⟩
      refine appRow0 (Lst.nil w1) slU8 (hb.grew k1) (fun b h => ⟨by have := hD b h; have := k1.size; omega, by simp [blk]⟩) (by unfold Big; simp; omega) (by unfold maxLen; simp; omega) fun a2 c2 w2 F2 ho2 hk2 _ hs2 => ?_
      have k2 : Grew w1 w2 := hk2.mono fun b _ hb => by simp [blk] at hb
      replace ho2 := ho2.alone
      rw [List.nil_append, Nat.zero_add] at ho2
      have hself : ∀ b, blk a2 = some b → w1.heap.size ≤ b := fun b hb => (hs2 b hb).elim (fun h => h.elim) id
      rw [Nat.zero_add]
      have ehd : IntKind.wrap .u8 (((lowB m.natAbs).length + if m < 0 then 16 else 0 : Nat) : Int) = (((UInt8.ofNat ((lowB m.natAbs).length + if m < 0 then 16 else 0)).toNat : Nat) : Int) := by
        rw [wrap_u8, UInt8.toNat_ofNat']
      refine ⟨_, _, _, rfl, papp ho2 slU8 (x := UInt8.ofNat ((lowB m.natAbs).length + if m < 0 then 16 else 0)) (D := fun _ => False) ⟨by rw [ehd], trivial⟩ (fun _ h => h.elim) (by unfold Big; omega) (by unfold maxLen; omega) fun a3 c3 w3 F3 ho3 hk3 hF3 hs3 => ?_⟩
      have k13 : Grew w1 w3 := k2.new hk3 fun b hb => .inr (hself b hb)
      have k3 : Grew w w3 := k1.then k13
      have henc : bs ++ encInt m = (bs ++ [UInt8.ofNat ((lowB m.natAbs).length + if m < 0 then 16 else 0)]) ++ (lowB m.natAbs).reverse := by rw [List.append_assoc]; rfl
      rw [henc]
      have hlen3 : (bs ++ [UInt8.ofNat ((lowB m.natAbs).length + if m < 0 then 16 else 0)]).length = n + 1 := by simp [hl]
      generalize bs ++ [UInt8.ofNat ((lowB m.natAbs).length + if m < 0 then 16 else 0)] = hdl at ho3 hlen3
      generalize lowB m.natAbs = lw at hk8 ho hlk ⊢
      refine ⟨_, _, _, rfl, fun q oa on oc i w' => ∃ j : Nat, j ≤ ln ∧ i = (ln : Int) - 1 - j ∧ q = ln - j ∧ ∃ F, Lst cU8 5 F w' oa on oc (hdl ++ lw.reverse.take j) ∧ Grew w1 w' ∧ ∀ b, F b → w1.heap.size ≤ b,
        ⟨_, 0, Nat.zero_le _, by rw [wrap_i64 (by unfold I64; omega)]; omega, rfl, F3, by rw [List.take_zero, List.append_nil]; exact ho3, k13, fun b hb => ?_⟩, ?_⟩
      · rcases hF3 b hb with h | h | h
        · exact hself b h
        · exact h.elim
        · have := k2.size; omega
      · rintro q oa on oc i _ w4 ⟨j, hj, rfl, rfl, F4, ho4, k4, hF4⟩
        have htk : (lw.reverse.take j).length = j := by simp; omega
        refine PIf.dec (fun hge => ?_) (fun hlt => ?_)
        · have ei : Int.toNat ((ln : Int) - 1 - j) = ln - 1 - j := by omega
          obtain ⟨b, off, x, rfl, hx, -, hc⟩ := ((ho.grew k4).row (bytes := 1) (by decide) (by unfold Big; omega)).at1 (i := ln - 1 - j) (by omega)
          have hxr : lw.reverse[j]? = some x := by
            rw [List.getElem?_reverse (by omega), ← hlk]; exact hx
          rw [ei]
          refine ⟨b, off, rfl, by omega, by omega, _, hc, papp ho4 slU8 (x := x) (D := fun _ => False) ⟨rfl, trivial⟩ (fun _ h => h.elim) (by rw [List.length_append, htk]; unfold Big; omega) (by rw [List.length_append, htk]; unfold maxLen; omega) fun a5 c5 w5 F5 ho5 hk5 hF5 _ => ?_⟩
          refine ⟨_, _, _, rfl, _, ?_, j + 1, by omega, ?_, rfl, F5, ?_, k4.new hk5 fun b hb => .inr (hF4 b (ho4.self b hb)), fun b hb => ?_⟩
          · omega
          · rw [wrap_i64 (by unfold I64; omega)]; omega
          · rw [List.take_add_one, hxr, ← List.append_assoc]; exact ho5
          · rcases hF5 b hb with h | h | h
            · exact hF4 b h
            · exact h.elim
            · have := k4.size; omega
        · obtain rfl : j = ln := by omega
          rw [List.take_of_length_le (by simp; omega)] at ho4
          exact Ok.mk ⟨_, _, _, F4, rfl, ho4, k1.then k4, fun b hb => by have := hF4 b hb; have := k1.size; omega⟩

/-- block p is a reader of the document's -/
structure RdR (w : World) (p : Nat) (F : Nat → Prop) (r : RdV) : Prop where
  body : ∃ a n cap G, w.heap[p]? = some (.cells #[.slice a n cap, .int .i64 (r.pos : Int), .int .i64 r.why] 212 (0, 0)) ∧ Lst cU8 5 G w a n cap r.bytes ∧ (∀ b, G b → F b ∧ b ≠ p)
  self : F p
  dom : ∀ b, F b → b < w.heap.size
  fit : r.Fit
  big : r.bytes.length ≤ Big

theorem RdR.keep {S F : Nat → Prop} {w w' : World} {p : Nat} {r : RdV} (h : RdR w p F r) (hk : Keep S w w') (hd : ∀ b, F b → ¬ S b) : RdR w' p F r := by
  obtain ⟨a, n, cap, G, h1, h2, h3⟩ := h.body
  exact ⟨⟨a, n, cap, G, hk.get h1 (hd _ h.self), h2.keep hk (fun b hb => hd b (h3 b hb).1), h3⟩, h.self, fun b hb => Nat.lt_of_lt_of_le (h.dom b hb) hk.size, h.fit, h.big⟩
theorem RdR.grew {F : Nat → Prop} {w w' : World} {p : Nat} {r : RdV} (h : RdR w p F r) (hk : Grew w w') : RdR w' p F r := h.keep hk fun _ _ h => h
theorem RdR.turn {F : Nat → Prop} {w w' : World} {p : Nat} {r r' : RdV} (h : RdR w p F r) {a : Option Addr} {n cap : Nat} {G : Nat → Prop} (hl : Lst cU8 5 G w a n cap r.bytes) (hG : ∀ b, G b → F b ∧ b ≠ p) (hk : Keep (· = p) w w')
    (hg : w'.heap[p]? = some (.cells #[.slice a n cap, .int .i64 (r'.pos : Int), .int .i64 r'.why] 212 (0, 0))) (hb : r'.bytes = r.bytes) (hf : r'.Fit) : RdR w' p F r' :=
  ⟨⟨a, n, cap, G, hg, by rw [hb]; exact hl.keep hk fun b hb => (hG b hb).2, hG⟩, h.self, fun b hb => Nat.lt_of_lt_of_le (h.dom b hb) hk.size, hf, by rw [hb]; exact h.big⟩

theorem ref01_From {a : Option Addr} {n c : Nat} {bs : List UInt8} {w : World} {D : Nat → Prop} (hb : Row cU8 1 w D a n bs) (hD : ∀ b, D b → b < w.heap.size) :
    Calls Tryz.prog F_ref01_From #[.slice a n c] w (Ok fun v w' => ∃ p F, v = .pointer (some ⟨p, 0, none⟩) ∧ RdR w' p F ⟨bs, 0, 0⟩ ∧ Grew w w' ∧ ∀ b, F b → w.heap.size ≤ b) := by
  have hl := hb.len
  have hbig := hb.big
  refine L_ref01_From (appRow0 (Lst.nil w) slU8 hb (fun b h => ⟨hD b h, by simp [blk]⟩) (by simp; omega) (by unfold Big at hbig; unfold maxLen; simp; omega) fun a1 c1 w1 F1 ho1 hk1 _ hs1 => ?_)
  refine ⟨_, _, _, rfl, PA.mk fun w2 k2 s2 g2 => ?_⟩
  have hk : Grew w w1 := hk1.mono fun b _ hb => by simp [blk] at hb
  have ho := ho1.alone
  rw [List.nil_append] at ho
  have hself : ∀ b, blk a1 = some b → w.heap.size ≤ b := fun b hb => (hs1 b hb).elim (fun h => h.elim) id
  refine Ok.mk ⟨w1.heap.size, fun b => b = w1.heap.size ∨ blk a1 = some b, rfl, ⟨⟨a1, _, c1, fun b => blk a1 = some b, g2, ho.grew k2, fun b hb => ⟨.inr hb, ?_⟩⟩, .inl rfl, ?_, ⟨Nat.zero_le _, .inl rfl⟩, by rw [← hl]; omega⟩, hk.then k2, ?_⟩
  · have := ho.dom b hb; omega
  · rintro b (rfl | hb)
    · omega
    · have := ho.dom b hb; have := k2.size; omega
  · rintro b (rfl | hb)
    · exact hk.size
    · exact hself b hb

theorem ref01_number {w : World} {p : Nat} {F : Nat → Prop} {r : RdV} (h : RdR w p F r) :
    Calls Tryz.prog F_ref01_Reader_number #[.pointer (some ⟨p, 0, none⟩), .int .i64 (r.pos : Int)] w (Ok fun v w' => v = .tuple #[.int .i64 r.num.2.1, .int .i64 (r.num.2.2 : Int), .int .i64 r.num.1] ∧ w = w') := by
  obtain ⟨a, n, cap, G, h1, h2, h3⟩ := h.body
  have hn := h2.len (by decide)
  have hbig := h.big
  have hpos := h.fit.pos
  unfold Big at hbig
  have hrow : Row cU8 1 w G a n r.bytes := h2.row (by decide) (by unfold Big; omega)
  refine L_ref01_Reader_number ⟨p, 0, rfl, _, _, _, cell_at h1 rfl, PIf.dec (fun hge => ?_) (fun hlt => ?_)⟩
  · have e : r.num = (4, 0, 0) := by unfold RdV.num; rw [List.drop_of_length_le (by omega)]; rfl
    rw [e]; exact Ok.mk ⟨rfl, rfl⟩
  obtain ⟨b, off, hd, rfl, hx, -, hc⟩ := hrow.at1 (i := r.pos) (by omega)
  have hdrop : r.bytes.drop r.pos = hd :: r.bytes.drop (r.pos + 1) := by
    have hl : r.pos < r.bytes.length := by omega
    rw [List.drop_eq_getElem_cons hl]; rw [List.getElem?_eq_getElem hl] at hx; cases hx; rfl
  have htl : (r.bytes.drop (r.pos + 1)).length = n - r.pos - 1 := by simp; omega
  generalize ht : r.bytes.drop (r.pos + 1) = t at hdrop htl
  have hget : ∀ j, j < t.length → ∃ x, t[j]? = some x ∧ w.cell? ⟨b, off + (r.pos + 1 + j), none⟩ = some (.int .u8 (x.toNat : Int)) := fun j hj => by
    obtain ⟨b', off', x, hab, hx', -, hc'⟩ := hrow.at1 (i := r.pos + 1 + j) (by omega)
    cases hab
    exact ⟨x, by rw [← ht, List.getElem?_drop]; exact hx', hc'⟩
  have hnum : r.num = rdNum (hd :: t) := by unfold RdV.num; rw [hdrop]
  rw [hnum]
  have hdlt := hd.toNat_lt
  have e1 : IntKind.wrap .i64 ((r.pos : Int) + 1) = ((r.pos + 1 : Nat) : Int) := wrap_succ (by omega)
  refine ⟨p, 0, rfl, _, _, _, cell_at h1 rfl, b, off, rfl, by omega, by omega, _, by rw [Int.toNat_natCast]; exact hc, ?_⟩
  rw [wrap_i64u8]
  refine ⟨fun x w' => x = (kOf hd : Int) ∧ w = w', PIf.dec (fun h16 => ⟨?_, rfl⟩) (fun h16 => ⟨?_, rfl⟩), ?_⟩
  · unfold kOf; rw [if_pos (by omega), wrap_i64 (by unfold I64; omega)]; omega
  · unfold kOf; rw [if_neg (by omega)]
  rintro x _ _ ⟨rfl, rfl⟩
  refine ⟨fun w' => w = w' ∧ kOf hd ≤ 8, PIf.dec (fun h8 => ?_) (fun h8 => PIf.dec (fun h16 => PIf.eqI (fun h0 => ?_) (fun _ => ⟨rfl, by omega⟩)) (fun _ => ⟨rfl, by omega⟩)), ?_⟩
  · rw [rdNum_long (by omega)]; exact Ok.mk ⟨rfl, rfl⟩
  · unfold kOf at h0; rw [if_pos (by omega)] at h0; omega
  rintro _ _ ⟨rfl, hk8⟩
  refine ⟨p, 0, rfl, _, _, _, cell_at h1 rfl, ?_⟩
  dsimp only; rw [wrap_i64 (x := ((n : Nat) : Int) - (r.pos : Int)) (by unfold I64; omega), wrap_i64 (x := ((n : Nat) : Int) - (r.pos : Int) - 1) (by unfold I64; omega)]
  refine PIf.dec (fun hs => ?_) (fun hs => ?_)
  · rw [rdNum_short hk8 (by omega)]; exact Ok.mk ⟨rfl, rfl⟩
  have hsl : ¬ t.length < kOf hd := by omega
  refine ⟨fun m u i w' => w = w' ∧ ∃ j : Nat, i = j ∧ j ≤ kOf hd ∧ m = kOf hd - j ∧ u = (valB (t.take j) : Int), ⟨_, rfl, 0, rfl, Nat.zero_le _, rfl, rfl⟩, ?_⟩
  rintro m u i _ _ ⟨rfl, j, rfl, hj, rfl, rfl⟩
  refine PIf.dec (fun hlt2 => ?_) (fun hge2 => ?_)
  · obtain ⟨x, hx2, hc2⟩ := hget j (by omega)
    have hv := valB_take_lt t (j := j) (m := 7) (by omega)
    have hxl := x.toNat_lt
    have e256 : (256 : Nat) ^ 7 = 72057594037927936 := by decide
    have e2 : IntKind.wrap .i64 (((r.pos + 1 : Nat) : Int) + (j : Int)) = ((r.pos + 1 + j : Nat) : Int) := by rw [wrap_i64 (by unfold I64; omega)]; omega
    rw [e1, e2, Int.toNat_natCast]
    refine ⟨p, 0, rfl, _, _, _, cell_at h1 rfl, b, off, rfl, by omega, by omega, _, hc2, _, ?_, rfl, j + 1, wrap_succ (by omega), by omega, rfl, ?_⟩
    · omega
    · rw [valB_take hx2, wrap_u64n (n := x.toNat) (by omega), show (((valB (t.take j) : Nat) : Int) * 256) = ((valB (t.take j) * 256 : Nat) : Int) by omega, wrap_u64n (by omega), show ((valB (t.take j) * 256 : Nat) : Int) + (x.toNat : Int) = ((valB (t.take j) * 256 + x.toNat : Nat) : Int) by omega, wrap_u64n (by omega)]
  · obtain rfl : j = kOf hd := by omega
    have hv := valB_take_lt t (j := kOf hd) (m := 8) (by omega)
    have e256 : (256 : Nat) ^ 8 = 18446744073709551616 := by decide
    have stop : ((0 < kOf hd ∧ t.head? = some 0) ∨ (¬ 16 < hd.toNat ∧ 2 ^ 63 ≤ valB (t.take (kOf hd))) ∨ (16 < hd.toNat ∧ 2 ^ 63 < valB (t.take (kOf hd)))) → Ok (fun v w' => v = .tuple #[.int .i64 (rdNum (hd :: t)).2.1, .int .i64 ((rdNum (hd :: t)).2.2 : Int), .int .i64 (rdNum (hd :: t)).1] ∧ w = w') (.returned (.tuple #[.int .i64 0, .int .i64 0, .int .i64 5])) w := fun hb => by
      rw [rdNum_bad hk8 hsl hb]; exact Ok.mk ⟨rfl, rfl⟩
    refine ⟨fun w' => w = w' ∧ ¬ ((0 < kOf hd ∧ t.head? = some 0) ∨ (¬ 16 < hd.toNat ∧ 2 ^ 63 ≤ valB (t.take (kOf hd))) ∨ (16 < hd.toNat ∧ 2 ^ 63 < valB (t.take (kOf hd)))), PIf.dec (fun hk0 => ?_) (fun hk0 => ?_), ?_⟩
    · obtain ⟨x, hx2, hc2⟩ := hget 0 (by omega)
      rw [e1, Int.toNat_natCast]
      have hh : t.head? = some x := by rw [List.head?_eq_getElem?]; exact hx2
      refine ⟨p, 0, rfl, _, _, _, cell_at h1 rfl, b, off, rfl, by omega, by omega, _, hc2, PIf.eqI (fun h0 => stop (.inl ⟨by omega, ?_⟩)) (fun h0 => ?_)⟩
      · rw [hh]; congr 1; exact UInt8.toNat_inj.1 (by show _ = 0; omega)
      · have hno : ¬ (0 < kOf hd ∧ t.head? = some 0) := fun hc => by
          rw [hh] at hc
          have := Option.some.inj hc.2
          rw [this] at h0
          exact h0 rfl
        exact PIf.not (PIf.dec (fun hb => PIf.dec (fun _ => PIf.dec (fun hu => stop (.inr (.inr ⟨by omega, by omega⟩))) (fun hu => ⟨rfl, fun hc => hc.elim hno fun hc => hc.elim (fun hc => by omega) (fun hc => by omega)⟩)) (fun hb' => absurd hb hb')) (fun hb => PIf.dec (fun hu => stop (.inr (.inl ⟨by omega, by omega⟩))) (fun hu => PIf.dec (fun hb' => absurd hb' hb) (fun _ => ⟨rfl, fun hc => hc.elim hno fun hc => hc.elim (fun hc => by omega) (fun hc => by omega)⟩))))
    · have hno : ¬ (0 < kOf hd ∧ t.head? = some 0) := fun hc => by omega
      exact PIf.not (PIf.dec (fun hb => PIf.dec (fun _ => PIf.dec (fun hu => stop (.inr (.inr ⟨by omega, by omega⟩))) (fun hu => ⟨rfl, fun hc => hc.elim hno fun hc => hc.elim (fun hc => by omega) (fun hc => by omega)⟩)) (fun hb' => absurd hb hb')) (fun hb => PIf.dec (fun hu => stop (.inr (.inl ⟨by omega, by omega⟩))) (fun hu => PIf.dec (fun hb' => absurd hb' hb) (fun _ => ⟨rfl, fun hc => hc.elim hno fun hc => hc.elim (fun hc => by omega) (fun hc => by omega)⟩))))
    · rintro _ _ ⟨rfl, hgood⟩
      rw [rdNum_good hk8 hsl hgood]
      have ek : IntKind.wrap .i64 ((kOf hd : Int) + 1) = ((kOf hd + 1 : Nat) : Int) := wrap_succ (by omega)
      rw [ek]
      refine PIf.dec (fun hb => Ok.mk ⟨?_, rfl⟩) (fun hb => Ok.mk ⟨?_, rfl⟩)
      · rw [if_pos (by omega)]
        have hle : valB (t.take (kOf hd)) ≤ 2 ^ 63 := Nat.le_of_not_lt fun h => hgood (.inr (.inr ⟨by omega, h⟩))
        generalize valB (t.take (kOf hd)) = u at hle
        have e : IntKind.wrap .i64 (IntKind.wrap .u64 (0 - (u : Int))) = -(u : Int) := by
          rw [wrap_u64]; unfold IntKind.wrap; simp [IntKind.signed, IntKind.bits]; omega
        rw [e]
      · rw [if_neg (by omega)]
        have hlt3 : valB (t.take (kOf hd)) < 2 ^ 63 := Nat.lt_of_not_le fun h => hgood (.inr (.inl ⟨by omega, h⟩))
        rw [wrap_i64 (by unfold I64; omega)]

theorem ref01_rdInt {w : World} {p : Nat} {F : Nat → Prop} {r : RdV} (h : RdR w p F r) :
    Calls Tryz.prog F_ref01_Reader_Int #[.pointer (some ⟨p, 0, none⟩)] w (Ok fun v w' => v = .int .i64 (rdInt r).1 ∧ RdR w' p F (rdInt r).2 ∧ Keep (· = p) w w') := by
  obtain ⟨a, n, cap, G, h1, h2, h3⟩ := h.body
  refine L_ref01_Reader_Int ⟨p, 0, rfl, _, cell_at h1 rfl, PIf.neI (fun hne => ?_) (fun h0 => ?_)⟩
  · rw [show rdInt r = (0, r) by unfold rdInt; exact if_pos hne]
    exact Ok.mk ⟨rfl, h, Keep.refl _⟩
  have hf := h.fit.int
  rw [rdInt_eq h0] at hf ⊢
  have hpos := hf.1.pos
  have hbig := h.big
  unfold Big at hbig
  simp only at hpos
  refine ⟨p, 0, rfl, _, cell_at h1 rfl, PC.ok (ref01_number h) ?_⟩
  rintro _ _ ⟨rfl, rfl⟩
  have ew : IntKind.wrap .i64 ((r.pos : Int) + (r.num.2.2 : Int)) = ((r.pos + r.num.2.2 : Nat) : Int) := by rw [wrap_i64 (by unfold I64; omega)]; omega
  refine ⟨_, _, _, rfl, p, 0, rfl, _, cell_at h1 rfl, p, 0, rfl, PS.mk h1 (by simp) fun w1 k1 s1 g1 => ⟨p, 0, rfl, PS.mk g1 (by simp) fun w2 k2 s2 g2 => Ok.mk ⟨rfl, ?_, k1.then k2⟩⟩⟩
  exact h.turn h2 h3 (k1.then k2) (by rw [g2, ew]; rfl) rfl hf.1

theorem ref01_rdCount {w : World} {p : Nat} {F : Nat → Prop} {r : RdV} {m : Int} (h : RdR w p F r) (hm : 0 ≤ m) :
    Calls Tryz.prog F_ref01_Reader_Count #[.pointer (some ⟨p, 0, none⟩), .int .i64 m] w (Ok fun v w' => v = .int .i64 (rdCount m r).1 ∧ RdR w' p F (rdCount m r).2 ∧ Keep (· = p) w w') := by
  obtain ⟨a, n, cap, G, h1, h2, h3⟩ := h.body
  refine L_ref01_Reader_Count ⟨p, 0, rfl, _, cell_at h1 rfl, PIf.neI (fun hne => ?_) (fun h0 => ?_)⟩
  · rw [show rdCount m r = (0, r) by unfold rdCount; exact if_pos hne]
    exact Ok.mk ⟨rfl, h, Keep.refl _⟩
  have hf := (h.fit.count hm).1
  have hbig := h.big
  have hpos0 := h.fit.pos
  unfold Big at hbig
  have hcd : Calls Tryz.prog F_ref01_Reader_counted #[.pointer (some ⟨p, 0, none⟩), .int .i64 m] w (Ok fun v w' => ∃ k : Nat, v = .tuple #[.int .i64 (rdCount m r).1, .int .i64 (k : Int), .int .i64 (rdCount m r).2.why] ∧ r.pos + k = (rdCount m r).2.pos ∧ (rdCount m r).2.bytes = r.bytes ∧ w = w') := by
    have hc : rdCount m r = if r.num.1 = 0 then (if r.num.2.1 < 0 ∨ m < r.num.2.1 then (0, ⟨r.bytes, r.pos, 3⟩) else (r.num.2.1, ⟨r.bytes, r.pos + r.num.2.2, 0⟩)) else (0, ⟨r.bytes, r.pos, r.num.1⟩) := by unfold rdCount; exact if_neg fun h => h h0
    rw [hc]
    refine L_ref01_Reader_counted ⟨p, 0, rfl, _, cell_at h1 rfl, PC.ok (ref01_number h) ?_⟩
    rintro _ _ ⟨rfl, rfl⟩
    refine ⟨_, _, _, rfl, PIf.eqI (fun he => ?_) (fun he => ?_)⟩
    · rw [if_pos he]
      refine PIf.dec (fun hl => ?_) (fun hl => PIf.dec (fun hg => ?_) (fun hg => ?_))
      · rw [if_pos (.inl hl)]; exact Ok.mk ⟨0, rfl, rfl, rfl, rfl⟩
      · rw [if_pos (.inr hg)]; exact Ok.mk ⟨0, rfl, rfl, rfl, rfl⟩
      · rw [if_neg (by omega), he]; exact Ok.mk ⟨r.num.2.2, rfl, rfl, rfl, rfl⟩
    · rw [if_neg he]
      have := rdNum_fail (l := r.bytes.drop r.pos) he
      rw [show r.num.2 = (0, 0) from this]
      exact Ok.mk ⟨0, rfl, rfl, rfl, rfl⟩
  refine PC.ok hcd ?_
  rintro _ _ ⟨k, rfl, hk, hby, rfl⟩
  have hpos := hf.pos
  rw [hby] at hpos
  have ew : IntKind.wrap .i64 ((r.pos : Int) + (k : Int)) = ((rdCount m r).2.pos : Int) := by rw [wrap_i64 (by unfold I64; omega)]; omega
  refine ⟨_, _, _, rfl, p, 0, rfl, _, cell_at h1 rfl, p, 0, rfl, PS.mk h1 (by simp) fun w1 k1 s1 g1 => ⟨p, 0, rfl, PS.mk g1 (by simp) fun w2 k2 s2 g2 => Ok.mk ⟨rfl, ?_, k1.then k2⟩⟩⟩
  exact h.turn h2 h3 (k1.then k2) (by rw [g2, ew]; rfl) hby hf

theorem ref01_rdDone {w : World} {p : Nat} {F : Nat → Prop} {r : RdV} (h : RdR w p F r) :
    Calls Tryz.prog F_ref01_Reader_Done #[.pointer (some ⟨p, 0, none⟩)] w (Ok fun v w' => v = .int .i64 (rdDone r) ∧ Drew w w') := by
  obtain ⟨a, n, cap, G, h1, h2, h3⟩ := h.body
  have hn := h2.len (by decide)
  refine L_ref01_Reader_Done ⟨p, 0, rfl, _, cell_at h1 rfl, PIf.eqI (fun h0 => ?_) (fun h0 => ?_)⟩
  · refine ⟨p, 0, rfl, _, cell_at h1 rfl, p, 0, rfl, _, _, _, cell_at h1 rfl, fun w2 d2 => ?_⟩
    have g2 := (d2.keep (S := fun _ => False)).get h1 id
    refine PIf.dec (fun hlt => Ok.mk ⟨?_, d2⟩) (fun hge => ⟨p, 0, rfl, _, cell_at g2 rfl, Ok.mk ⟨?_, d2⟩⟩)
    · unfold rdDone; rw [if_pos ⟨h0, by omega⟩]
    · unfold rdDone; rw [if_neg (by omega)]
  · intro w2 d2
    have g2 := (d2.keep (S := fun _ => False)).get h1 id
    refine ⟨p, 0, rfl, _, cell_at g2 rfl, Ok.mk ⟨?_, d2⟩⟩
    unfold rdDone; rw [if_neg fun hc => h0 hc.1]
end Go.Proofs.YtpbpjojdfcdbbaaGreatDoor

/- a block that was laid just now, as a slice that is built -/
namespace Go.Lift
open Go
set_option linter.unusedVariables false
theorem Reps.map {α : Type} {enc : α → Value} {ok : α → Prop} {hl h1} {w : World} {D : Nat → Prop} : ∀ {l : List α}, (∀ x ∈ l, ok x) → Reps (flat 1 (fun x => [enc x]) ok hl h1) w D l (l.map enc)
  | [], _ => rfl
  | x :: l, h => ⟨[enc x], l.map enc, rfl, ⟨rfl, h x (List.mem_cons_self ..)⟩, Reps.map fun y hy => h y (List.mem_cons_of_mem _ hy)⟩
theorem Lst.of_block {α : Type} {enc : α → Value} {ok : α → Prop} {hl h1} {e : TypeId} {w : World} {g : Nat} {cs : Array Value} (hg : w.heap[g]? = some (.cells cs e (0, 0))) (l : List α) (hc : cs.toList = l.map enc) (hok : ∀ x ∈ l, ok x) (hb : l.length ≤ maxLen) :
    Lst (flat 1 (fun x => [enc x]) ok hl h1) e (· = g) w (some ⟨g, 0, none⟩) l.length l.length l :=
  ⟨⟨l.map enc, fun _ => False, hc ▸ Own.of_new (k := 1) hg (by have := congrArg List.length hc; simp at this; omega) hb, Reps.map hok, fun _ h => h.elim⟩, fun b hb => by simpa [blk] using hb.symm, fun b hb => by subst hb; exact lt_of_get hg⟩
end Go.Lift

/- the document's events: laid, and read -/
namespace Go.Proofs.YtpbpjojdfcdbbaaGreatDoor
open Go.Lift
set_option linter.unusedVariables false
set_option maxRecDepth 20000

theorem ref05_Put {w : World} {D : Nat → Prop} {e : EventV} {a : Option Addr} {n c : Nat} (hd : Row cI64 8 w D a n e.deps) (he : e.Ok) (hD : ∀ b, D b → b < w.heap.size) :
    Calls Tryz.prog F_ref05_Put #[.agg (evCells e a n c).toArray] w (Ok fun v w' => ∃ u, v = .tuple #[u, .int .i64 (evPut e).2] ∧ New cU8 5 w (evPut e).1 u w') := by
  have hn := hd.len
  refine L_ref05_Put (PA.mk fun w1 k1 s1 g1 => ⟨_, _, _, cell_at g1 rfl, PIf.dec (fun h => ?_) (fun h => ?_)⟩)
  · rw [show evPut e = ([], 3) by unfold evPut; rw [if_pos (by omega)]]
    exact Ok.mk ⟨_, rfl, none, 0, 0, fun _ => False, rfl, Lst.nil _, k1, fun _ h => h.elim⟩
  rw [show evPut e = (encInts (evInts e), 0) by unfold evPut; rw [if_neg (by omega)]]
  refine ⟨_, cell_at g1 rfl, _, cell_at g1 rfl, _, cell_at g1 rfl, _, _, _, cell_at g1 rfl, PA.mk fun w2 k2 s2 g2 => ⟨_, _, _, cell_at (k2.get g1 id) rfl, ?_⟩⟩
  have hints := he.ints (by omega)
  have hlen : (evInts e).length = 10 + n := by simp [evInts]; omega
  have ho2 : Lst cI64 3 (· = w1.heap.size) w2 (some ⟨w1.heap.size, 0, none⟩) 4 4 [e.origin, e.seq, e.lamport, (n : Int)] :=
    Lst.of_block g2 [e.origin, e.seq, e.lamport, (n : Int)] rfl (by
      intro x hx
      simp only [List.mem_cons, List.not_mem_nil, or_false] at hx
      rcases hx with rfl | rfl | rfl | rfl
      · exact he.origin
      · exact he.seq
      · exact he.lamport
      · unfold I64; omega) (by unfold maxLen; simp)
  refine appRow0 ho2 slI64 ((hd.grew k1).grew k2) (fun b hb => ⟨by have := hD b hb; omega, fun e2 => by have := hD b hb; have := ho2.self b e2; omega⟩) (by unfold Big; simp; omega) (by unfold maxLen; simp; omega) fun a3 c3 w3 F3 ho3 hk3 _ hs3 => ?_
  replace ho3 := ho3.alone
  have hs3' : ∀ b, blk a3 = some b → w1.heap.size ≤ b := fun b hb => (hs3 b hb).elim (fun h => by omega) (fun h => by omega)
  have k23 : Keep (fun b => blk (some (⟨w1.heap.size, 0, none⟩ : Addr)) = some b) w2 w3 := hk3
  have g3 := k23.get (k2.get g1 id) (fun h => by simp only [blk, Option.some.injEq] at h; omega)
  have k03 : Grew w w3 := (k1.then k2).new k23 fun b hb => .inr (by simp only [blk, Option.some.injEq] at hb; omega)
  refine ⟨_, _, _, rfl, _, cell_at g3 rfl, _, cell_at g3 rfl, _, cell_at g3 rfl, _, cell_at g3 rfl, _, cell_at g3 rfl, _, cell_at g3 rfl, PA.mk fun w4 k4 s4 g4 => ?_⟩
  have hrow4 : Row cI64 8 w4 (· = w3.heap.size) (some ⟨w3.heap.size, 0, none⟩) 6 [e.typ, e.agg, e.field, e.op, e.arg, e.key] := Row.lit g4 [e.typ, e.agg, e.field, e.op, e.arg, e.key] rfl (by
      intro x hx
      simp only [List.mem_cons, List.not_mem_nil, or_false] at hx
      rcases hx with rfl | rfl | rfl | rfl | rfl | rfl
      · exact he.typ
      · exact he.agg
      · exact he.field
      · exact he.op
      · exact he.arg
      · exact he.key) (by unfold Big; simp)
  refine appRow (ho3.grew k4) slI64 hrow4 (fun b e2 => ⟨by omega, fun e3 => by have := ho3.dom b (ho3.self b e3); omega⟩) (by unfold Big; simp; omega) (by unfold maxLen; simp; omega) fun a5 c5 w5 F5 ho5 hk5 _ hs5 => ?_
  replace ho5 := ho5.alone
  have hs5' : ∀ b, blk a5 = some b → w1.heap.size ≤ b := fun b hb => (hs5 b hb).elim (hs3' b) (fun h => by have := k23.size; omega)
  have k05 : Grew w w5 := (k03.then k4).new hk5 fun b hb => .inr (by have := hs3' b hb; omega)
  have hev : [e.origin, e.seq, e.lamport, (n : Int)] ++ e.deps ++ [e.typ, e.agg, e.field, e.op, e.arg, e.key] = evInts e := by unfold evInts; rw [hn]
  rw [hev] at ho5
  have hn5 := ho5.len (by decide)
  generalize evInts e = l at ho5 hints hlen hn5 ⊢
  refine ⟨_, _, _, rfl, fun m ba bn bc i w' => ∃ j : Nat, i = j ∧ j ≤ 10 + n ∧ m = 10 + n - j ∧ ∃ F, Lst cU8 5 F w' ba bn bc (encInts (l.take j)) ∧ Grew w5 w' ∧ ∀ b, F b → w5.heap.size ≤ b,
    ⟨_, 0, rfl, Nat.zero_le _, rfl, fun _ => False, by simpa [encInts] using Lst.nil w5, Keep.refl _, fun _ h => h.elim⟩, ?_⟩
  rintro m ba bn bc i _ w6 ⟨j, rfl, hj, rfl, F6, ho6, k6, hF6⟩
  have hle : (encInts (l.take j)).length ≤ 9 * j := by
    have h1 := encInts_le (l := l.take j) fun x hx => hints x (List.mem_of_mem_take hx)
    have h2 : (l.take j).length = j := by simp; omega
    omega
  have hbn := ho6.len (by decide)
  refine PIf.dec (fun hlt => ?_) (fun hge => ?_)
  · obtain ⟨b, off, x, hab, hx, hxr, hc⟩ := ((ho5.grew k6).row (bytes := 8) (by decide) (by unfold Big; omega)).at1 (i := j) (by omega)
    refine ⟨b, off, hab, by omega, by omega, _, by rw [Int.toNat_natCast]; exact hc, PC.ok (ref01_Int hxr (ho6.row (bytes := 1) (by decide) (by unfold Big; omega)) (by unfold Big; omega) ho6.dom) ?_⟩
    rintro _ w7 ⟨a7, n7, c7, F7, rfl, ho7, k7, hF7⟩
    refine ⟨_, _, _, rfl, 10 + n - (j + 1), by omega, j + 1, wrap_succ (by omega), by omega, rfl, F7, ?_, k6.then k7, fun b hb => by have := hF7 b hb; have := k6.size; omega⟩
    have e2 : encInts (l.take (j + 1)) = encInts (l.take j) ++ encInt x := by
      rw [List.take_add_one, hx, encInts_append]
      congr 1
      simp [encInts]
    rw [e2]; exact ho7
  · obtain rfl : j = 10 + n := by omega
    rw [List.take_of_length_le (by omega)] at ho6
    exact Ok.mk ⟨_, rfl, _, _, _, F6, rfl, ho6, k05.then k6, fun b hb => by have := hF6 b hb; have := k05.size; omega⟩

section
variable {w : World} {e q j off : Nat} {P : Nat → Prop} {r : RdV} {xs ys : List Int} {a : Option Addr} {n c : Nat} {κ : World → Prop} {ε : List PanicEntry → World → Prop}
theorem rstep1 (hg : w.heap[e]? = some (.cells (evMid xs a n c ys).toArray 39 (0, 0))) (hr : RdR w q P r) (he : ¬ P e) (hx : xs.length = j) (hj : j < 3) (ho : off = j)
    (hκ : ∀ w', w'.heap[e]? = some (.cells (evMid (xs ++ [(rdInt r).1]) a n c ys).toArray 39 (0, 0)) → RdR w' q P (rdInt r).2 → Keep (fun b => b = e ∨ b = q) w w' → κ w') :
    PC Tryz.prog F_ref01_Reader_Int #[.pointer (some ⟨q, 0, none⟩)] w (fun v w1 => ∃ t : Int, v = .int .i64 t ∧ PS w1 ⟨e, off, none⟩ (.int .i64 t) κ) ε := by
  subst ho
  refine PC.ok (ref01_rdInt hr) ?_
  rintro _ w1 ⟨rfl, hr1, k1⟩
  have hq := hr.self
  have hne : e ≠ q := fun h => he (h ▸ hq)
  refine ⟨_, rfl, PS.mk (k1.get hg hne) (by simp [evMid]; omega) fun w2 k2 s2 g2 => hκ w2 ?_ (hr1.keep k2 fun b hb h => he (h ▸ hb)) ((k1.mono fun _ _ h => .inr h).then (k2.mono fun _ _ h => .inl h))⟩
  rw [g2, evMid_set1 hx hj]
theorem rstep2 (hg : w.heap[e]? = some (.cells (evMid xs a n c ys).toArray 39 (0, 0))) (hr : RdR w q P r) (he : ¬ P e) (hx : ys.length = j) (hj : j < 6) (ho : off = 4 + j)
    (hκ : ∀ w', w'.heap[e]? = some (.cells (evMid xs a n c (ys ++ [(rdInt r).1])).toArray 39 (0, 0)) → RdR w' q P (rdInt r).2 → Keep (fun b => b = e ∨ b = q) w w' → κ w') :
    PC Tryz.prog F_ref01_Reader_Int #[.pointer (some ⟨q, 0, none⟩)] w (fun v w1 => ∃ t : Int, v = .int .i64 t ∧ PS w1 ⟨e, off, none⟩ (.int .i64 t) κ) ε := by
  subst ho
  refine PC.ok (ref01_rdInt hr) ?_
  rintro _ w1 ⟨rfl, hr1, k1⟩
  have hq := hr.self
  have hne : e ≠ q := fun h => he (h ▸ hq)
  refine ⟨_, rfl, PS.mk (k1.get hg hne) (by simp [evMid]; omega) fun w2 k2 s2 g2 => hκ w2 ?_ (hr1.keep k2 fun b hb h => he (h ▸ hb)) ((k1.mono fun _ _ h => .inr h).then (k2.mono fun _ _ h => .inl h))⟩
  rw [g2, evMid_set2 hx hj]
end

theorem ref05_Read {w : World} {q : Nat} {P : Nat → Prop} {r : RdV} (hr : RdR w q P r) :
    Calls Tryz.prog F_ref05_Read #[.pointer (some ⟨q, 0, none⟩)] w (Ok fun v w' => ∃ a n c G, v = .agg (evCells (evRead r).1 a n c).toArray ∧ Lst cI64 3 G w' a n c (evRead r).1.deps ∧ RdR w' q P (evRead r).2 ∧ Keep (· = q) w w' ∧ ∀ b, G b → w.heap.size ≤ b) := by
  have hPd := hr.dom
  have hq := hPd q hr.self
  refine L_ref05_Read (PA.mk fun w1 k1 s1 g1 => PA.mk fun w2 k2 s2 g2 => storeAll (evCells zeroEv none 0 0) g2 rfl fun w3 k3 s3 g3 => ?_)
  have gE3 : w3.heap[w1.heap.size]? = some (.cells (evMid [] none 0 0 []).toArray 39 (0, 0)) := g3
  have nE : ¬ P w1.heap.size := fun h => by have := hPd _ h; omega
  have hr3 : RdR w3 q P r := ((hr.grew k1).grew k2).keep k3 fun b hb e => by have := hPd b hb; omega
  have gR3 := k3.get (k2.get g1 id) (by omega)
  have k03 : Grew w w3 := (k1.then k2).new k3 fun b hb => .inr (by omega)
  refine rstep1 (j := 0) gE3 hr3 nE rfl (by decide) rfl fun w4 g4 hr4 k4 => rstep1 (j := 1) g4 hr4 nE rfl (by decide) rfl fun w5 g5 hr5 k5 => rstep1 (j := 2) g5 hr5 nE rfl (by decide) rfl fun w6 g6 hr6 k6 => ?_
  change w6.heap[w1.heap.size]? = some (.cells (evMid (rdInts 3 r).1 none 0 0 []).toArray 39 (0, 0)) at g6
  change RdR w6 q P (rdInts 3 r).2 at hr6
  have k36 : Keep (fun b => b = w1.heap.size ∨ b = q) w3 w6 := (k4.then k5).then k6
  obtain ⟨hf3, hl3, hn3, _⟩ := hr.fit.ints 3
  refine PC.ok (ref01_rdCount (m := 64) hr6 (by omega)) ?_
  rintro _ w7 ⟨rfl, hr7, k7⟩
  have g7 := k7.get g6 (by omega)
  have k37 : Keep (fun b => b = w1.heap.size ∨ b = q) w3 w7 := k36.then (k7.mono fun _ _ h => .inr h)
  have hev : evRead r = (⟨(rdInts 3 r).1.getD 0 0, (rdInts 3 r).1.getD 1 0, (rdInts 3 r).1.getD 2 0, (rdInts (rdCount 64 (rdInts 3 r).2).1.toNat (rdCount 64 (rdInts 3 r).2).2).1,
      (rdInts 6 (rdInts (rdCount 64 (rdInts 3 r).2).1.toNat (rdCount 64 (rdInts 3 r).2).2).2).1.getD 0 0, (rdInts 6 (rdInts (rdCount 64 (rdInts 3 r).2).1.toNat (rdCount 64 (rdInts 3 r).2).2).2).1.getD 1 0, (rdInts 6 (rdInts (rdCount 64 (rdInts 3 r).2).1.toNat (rdCount 64 (rdInts 3 r).2).2).2).1.getD 2 0,
      (rdInts 6 (rdInts (rdCount 64 (rdInts 3 r).2).1.toNat (rdCount 64 (rdInts 3 r).2).2).2).1.getD 3 0, (rdInts 6 (rdInts (rdCount 64 (rdInts 3 r).2).1.toNat (rdCount 64 (rdInts 3 r).2).2).2).1.getD 4 0, (rdInts 6 (rdInts (rdCount 64 (rdInts 3 r).2).1.toNat (rdCount 64 (rdInts 3 r).2).2).2).1.getD 5 0⟩,
      (rdInts 6 (rdInts (rdCount 64 (rdInts 3 r).2).1.toNat (rdCount 64 (rdInts 3 r).2).2).2).2) := rfl
  rw [hev]
  generalize (rdInts 3 r).1 = L at g7 ⊢
  generalize (rdInts 3 r).2 = R at hr7 hf3 ⊢
  obtain ⟨hfc, hc0, hc64, _⟩ := hf3.count (m := 64) (by omega)
  generalize (rdCount 64 R).1 = C at hc0 hc64 ⊢
  generalize (rdCount 64 R).2 = Rc at hr7 hfc ⊢
  have h37 := k37.size
  refine ⟨_, rfl, fun m i w' => ∃ j : Nat, i = j ∧ j ≤ C.toNat ∧ m = C.toNat - j ∧ ∃ da dn dc F, w'.heap[w1.heap.size]? = some (.cells (evMid L da dn dc []).toArray 39 (0, 0)) ∧ RdR w' q P (rdInts j Rc).2 ∧
      Lst cI64 3 F w' da dn dc (rdInts j Rc).1 ∧ (∀ b, F b → w3.heap.size ≤ b) ∧ Keep (fun b => b = w1.heap.size ∨ b = q) w3 w',
    ⟨_, 0, rfl, by omega, rfl, none, 0, 0, fun _ => False, g7, hr7, Lst.nil w7, fun _ h => h.elim, k37⟩, ?_⟩
  rintro m i _ w8 ⟨j, rfl, hj, rfl, da, dn, dc, F, g8, hr8, ho8, hF8, k8⟩
  have hs8 := k8.size
  have hP3 : ∀ b, P b → b < w3.heap.size := fun b hb => by have := hPd b hb; omega
  refine PIf.dec (fun h1 => ?_) (fun h1 => ?_)
  · intro w9 d9
    have k9 : Grew w8 w9 := d9.keep
    refine ⟨fun b => b ≠ w1.heap.size, by simp, da, dn, dc, cell_at (k9.get g8 id) rfl, PC.ok (ref01_rdInt (hr8.grew k9)) ?_⟩
    rintro _ w10 ⟨rfl, hr10, k10⟩
    have hlen := (hfc.ints j).2.2.1
    refine ⟨_, rfl, k10.mono (fun b _ h => by omega), PA.mk fun w11 k11 s11 g11 => ⟨k11.keep, ?_⟩⟩
    have ho10 : Lst cI64 3 F w10 da dn dc (rdInts j Rc).1 := (ho8.grew k9).keep k10 fun b hb e => by have := hF8 b hb; omega
    have ho11 := ho10.grew k11
    have gE11 := k11.get (k10.get (k9.get g8 id) (by omega)) id
    have hxr := ((hfc.ints j).1.int).2.1
    have z9 := k9.size; have z10 := k10.size; have z11 := k11.size
    have hrow : Row cI64 8 w11 (· = w10.heap.size) (some ⟨w10.heap.size, 0, none⟩) 1 [(rdInt (rdInts j Rc).2).1] := Row.lit g11 [(rdInt (rdInts j Rc).2).1] rfl (fun x hx => by simp at hx; subst hx; exact hxr) (by unfold Big; simp)
    refine appRow ho11 slI64 hrow (fun b e => ⟨by omega, fun e2 => by have := ho10.dom b (ho10.self b e2); omega⟩) (by rw [hlen]; unfold Big; simp; omega) (by rw [hlen]; unfold maxLen; simp; omega) fun a12 c12 w12 F12 ho12 hk12 _ hs12 => ?_
    have ho12' := ho12.alone
    have hnb : ∀ b, blk da = some b → w3.heap.size ≤ b := fun b hb => hF8 b (ho8.self b hb)
    have hs12' : ∀ b, blk a12 = some b → w3.heap.size ≤ b := fun b hb => (hs12 b hb).elim (hF8 b) (fun h => by omega)
    refine ⟨_, _, _, rfl, PS.mk (hk12.get gE11 fun e => by have := hnb _ e; omega) (by simp [evMid]) fun w13 k13 s13 g13 => ⟨C.toNat - (j + 1), by omega, j + 1, wrap_succ (by omega), by omega, rfl, a12, dn + 1, c12, fun b => blk a12 = some b, ?_, ?_, ?_, hs12', ?_⟩⟩
    · rw [g13]; rfl
    · rw [rdInts_succ]
      exact ((hr10.grew k11).keep hk12 fun b hb e => by have := hP3 b hb; have := hnb b e; omega).keep k13 fun b hb e => nE (e ▸ hb)
    · rw [rdInts_succ]
      exact ho12'.keep k13 fun b hb e => by have := hs12' b hb; omega
    · have ka : Keep (fun b => b = w1.heap.size ∨ b = q) w3 w11 := ((k8.grew k9).then (k10.mono fun _ _ h => .inr h)).grew k11
      exact (ka.new hk12 fun b hb => .inr (hnb b hb)).then (k13.mono fun _ _ h => .inl h)
  obtain rfl : j = C.toNat := by omega
  obtain ⟨hfd, hdl, hdn, _⟩ := hfc.ints C.toNat
  generalize (rdInts C.toNat Rc).1 = dps at ho8 hdl hdn ⊢
  generalize (rdInts C.toNat Rc).2 = Rd at hr8 hfd ⊢
  refine rstep2 (j := 0) g8 hr8 nE rfl (by decide) rfl fun w9 g9 hr9 k9 => rstep2 (j := 1) g9 hr9 nE rfl (by decide) rfl fun w10 g10 hr10 k10 => rstep2 (j := 2) g10 hr10 nE rfl (by decide) rfl fun w11 g11 hr11 k11 => rstep2 (j := 3) g11 hr11 nE rfl (by decide) rfl fun w12 g12 hr12 k12 => rstep2 (j := 4) g12 hr12 nE rfl (by decide) rfl fun w13 g13 hr13 k13 => rstep2 (j := 5) g13 hr13 nE rfl (by decide) rfl fun w14 g14 hr14 k14 => ?_
  change w14.heap[w1.heap.size]? = some (.cells (evMid L da dn dc (rdInts 6 Rd).1).toArray 39 (0, 0)) at g14
  change RdR w14 q P (rdInts 6 Rd).2 at hr14
  generalize (rdInts 6 Rd).1 = Y at g14 ⊢
  generalize (rdInts 6 Rd).2 = Re at hr14 ⊢
  have k814 : Keep (fun b => b = w1.heap.size ∨ b = q) w8 w14 := ((((k9.then k10).then k11).then k12).then k13).then k14
  have k314 : Keep (fun b => b = w1.heap.size ∨ b = q) w3 w14 := k8.then k814
  have gR14 := k314.get gR3 (by omega)
  refine ⟨_, _, _, _, _, _, _, _, _, _, _, _, cell_at g14 rfl, cell_at g14 rfl, cell_at g14 rfl, cell_at g14 rfl, cell_at g14 rfl, cell_at g14 rfl, cell_at g14 rfl, cell_at g14 rfl, cell_at g14 rfl, cell_at g14 rfl, ?_⟩
  refine storeAll (evMid L da dn dc Y) gR14 rfl fun w15 k15 s15 g15 => ?_
  refine ⟨_, _, _, _, _, _, _, _, _, _, _, _, cell_at g15 rfl, cell_at g15 rfl, cell_at g15 rfl, cell_at g15 rfl, cell_at g15 rfl, cell_at g15 rfl, cell_at g15 rfl, cell_at g15 rfl, cell_at g15 rfl, cell_at g15 rfl, Ok.mk ⟨da, dn, dc, F, rfl, ?_, ?_, ?_, ?_⟩⟩
  · exact (ho8.keep k814 fun b hb hs => by have := hF8 b hb; omega).keep k15 fun b hb e => by have := hF8 b hb; omega
  · exact hr14.keep k15 fun b hb e => by have := hPd b hb; omega
  · have ka : Keep (· = q) w w14 := k03.keep.new k314 fun b hb => hb.elim (fun h => .inr (by omega)) .inl
    exact ka.new k15 fun b hb => .inr (by omega)
  · intro b hb; have := hF8 b hb; have := k03.size; omega

theorem ref05_Get {w : World} {a : Option Addr} {n c : Nat} {bs : List UInt8} {D : Nat → Prop} (hb : Row cU8 1 w D a n bs) (hD : ∀ b, D b → b < w.heap.size) :
    Calls Tryz.prog F_ref05_Get #[.slice a n c] w (Ok fun v w' => ∃ a' n' c' F, v = .tuple #[.agg (evCells (evGet bs).1 a' n' c').toArray, .int .i64 (evGet bs).2] ∧ Lst cI64 3 F w' a' n' c' (evGet bs).1.deps ∧ Grew w w' ∧ ∀ b, F b → w.heap.size ≤ b) := by
  refine L_ref05_Get (PA.mk fun w1 k1 s1 g1 => PC.ok (ref01_From (hb.grew k1) (fun b h => by have := hD b h; omega)) ?_)
  rintro _ w2 ⟨q, P, rfl, hr2, k2, hP⟩
  have hq2 := hr2.dom q hr2.self
  have hq1 := hP q hr2.self
  refine ⟨_, rfl, PC.ok (ref05_Read hr2) ?_⟩
  rintro _ w3 ⟨a3, n3, c3, G3, rfl, ho3, hr3, k3, hG3⟩
  have hz := k1.size; have hz2 := k2.size; have hz3 := k3.size
  refine ⟨_, _, _, _, _, _, _, _, _, _, _, _, rfl, PA.mk fun w4 k4 s4 g4 => storeAll (evCells (evRead ⟨bs, 0, 0⟩).1 a3 n3 c3) g4 rfl fun w5 k5 s5 g5 => ?_⟩
  have k35 : Grew w3 w5 := k4.new k5 fun b hb => .inr (by omega)
  have gR5 := k35.get (k3.get (k2.get g1 id) (by omega)) id
  have k05 : Grew w w5 := (((k1.then k2).new k3 fun b hb => .inr (by omega)).then k35)
  refine PC.ok (ref01_rdDone (hr3.grew k35)) ?_
  rintro _ w6 ⟨rfl, d6⟩
  have k6 : Grew w5 w6 := d6.keep
  refine ⟨_, rfl, PIf.neI (fun hne => PC.ok (ref01_rdDone ((hr3.grew k35).grew k6)) ?_) (fun h0 => ?_)⟩
  · rintro _ w7 ⟨rfl, d7⟩
    have k7 : Grew w6 w7 := d7.keep
    have gR7 := (k6.then k7).get gR5 id
    have eg : evGet bs = (zeroEv, rdDone (evRead ⟨bs, 0, 0⟩).2) := by unfold evGet; exact if_pos hne
    refine ⟨_, rfl, storeAll (evCells zeroEv none 0 0) gR7 rfl fun w8 k8 s8 g8 => ?_⟩
    refine ⟨_, _, _, _, _, _, _, _, _, _, _, _, cell_at g8 rfl, cell_at g8 rfl, cell_at g8 rfl, cell_at g8 rfl, cell_at g8 rfl, cell_at g8 rfl, cell_at g8 rfl, cell_at g8 rfl, cell_at g8 rfl, cell_at g8 rfl, ?_⟩
    rw [eg]
    exact Ok.mk ⟨none, 0, 0, fun _ => False, rfl, Lst.nil _, ((k05.then k6).then k7).new k8 fun b hb => .inr (by omega), fun _ h => h.elim⟩
  · have g6 := k6.get g5 id
    have eg : evGet bs = ((evRead ⟨bs, 0, 0⟩).1, 0) := by unfold evGet; exact if_neg fun h => h h0
    refine ⟨_, _, _, _, _, _, _, _, _, _, _, _, cell_at g6 rfl, cell_at g6 rfl, cell_at g6 rfl, cell_at g6 rfl, cell_at g6 rfl, cell_at g6 rfl, cell_at g6 rfl, cell_at g6 rfl, cell_at g6 rfl, cell_at g6 rfl, ?_⟩
    refine storeAll (evCells (evRead ⟨bs, 0, 0⟩).1 a3 n3 c3) (k6.get gR5 id) rfl fun w7 k7 s7 g7 => ?_
    refine ⟨_, _, _, _, _, _, _, _, _, _, _, _, cell_at g7 rfl, cell_at g7 rfl, cell_at g7 rfl, cell_at g7 rfl, cell_at g7 rfl, cell_at g7 rfl, cell_at g7 rfl, cell_at g7 rfl, cell_at g7 rfl, cell_at g7 rfl, ?_⟩
    rw [eg]
    refine Ok.mk ⟨a3, n3, c3, G3, rfl, ?_, ?_, ?_⟩
    · exact ((ho3.grew k35).grew k6).keep k7 fun b hb e => by have := hG3 b hb; omega
    · exact (k05.then k6).new k7 fun b hb => .inr (by omega)
    · intro b hb; have := hG3 b hb; omega
end Go.Proofs.YtpbpjojdfcdbbaaGreatDoor

/- the document's sums and frames -/
namespace Go.Lift
open Go
set_option linter.unusedVariables false
def bitsOf (x : UInt8) : List Bool := (List.range 8).map fun k => x.toNat.testBit k
def bitsL (l : List UInt8) : List Bool := l.flatMap bitsOf
theorem bitsOf_length (x : UInt8) : (bitsOf x).length = 8 := by simp [bitsOf]
theorem bitsL_length (l : List UInt8) : (bitsL l).length = 8 * l.length := by
  induction l with
  | nil => rfl
  | cons x l ih => show ((bitsOf x) ++ bitsL l).length = _; rw [List.length_append, bitsOf_length, ih, List.length_cons]; omega
theorem bitsL_snoc (l : List UInt8) (x : UInt8) : bitsL (l ++ [x]) = bitsL l ++ bitsOf x := by simp [bitsL]
theorem crc_bitsL (l : List UInt8) : ∀ r, (bitsL l).foldl crcBit r = l.foldl crcByte r := by
  induction l with
  | nil => intro r; rfl
  | cons x l ih =>
    intro r
    show ((bitsOf x) ++ bitsL l).foldl crcBit r = _
    rw [List.foldl_append, ih, List.foldl_cons]
    unfold bitsOf crcByte
    rw [List.foldl_map]
theorem testBit_div (x k : Nat) : decide (x / 2 ^ k % 2 = 1) = x.testBit k := by rw [Nat.testBit_eq_decide_div_mod_eq]
theorem crcBit_no {r : W32} {b : Bool} (h : (r.getLsbD 0 != b) = false) : crcBit r b = r >>> 1 := by unfold crcBit; rw [h]; simp
theorem crcBit_yes {r : W32} {b : Bool} (h : (r.getLsbD 0 != b) = true) : crcBit r b = (r >>> 1) ^^^ poly := by unfold crcBit; rw [h]; simp
theorem lsb_mod (r : W32) : r.getLsbD 0 = decide (r.toNat % 2 = 1) := by
  show r.toNat.testBit 0 = _
  rw [Nat.testBit_zero]
theorem half32 (r : W32) : IntKind.wrap .u32 (Int.tdiv ((r.toNat : Nat) : Int) 2) = (((r >>> 1).toNat : Nat) : Int) := by
  have h1 : Int.tdiv ((r.toNat : Nat) : Int) 2 = ((r.toNat / 2 : Nat) : Int) := by rw [Int.tdiv_eq_ediv_of_nonneg (by omega)]; omega
  have hlt := r.isLt
  rw [h1, wrap_u32 _ (by omega), BitVec.toNat_ushiftRight, Nat.shiftRight_eq_div_pow]
theorem be_at (s : Nat) (hs : s < 2 ^ 32) : IntKind.wrap .u8 (IntKind.wrap .u32 (Int.tdiv (s : Int) 16777216)) = (((UInt8.ofNat (s / 16777216)).toNat : Nat) : Int) ∧ IntKind.wrap .u8 (Int.tmod (IntKind.wrap .u32 (Int.tdiv (s : Int) 65536)) 256) = (((UInt8.ofNat (s / 65536)).toNat : Nat) : Int) ∧
    IntKind.wrap .u8 (Int.tmod (IntKind.wrap .u32 (Int.tdiv (s : Int) 256)) 256) = (((UInt8.ofNat (s / 256)).toNat : Nat) : Int) ∧ IntKind.wrap .u8 (Int.tmod (s : Int) 256) = (((UInt8.ofNat s).toNat : Nat) : Int) := by
  have d : ∀ m : Nat, 0 < m → IntKind.wrap .u32 (Int.tdiv (s : Int) (m : Int)) = ((s / m : Nat) : Int) := fun m hm => by
    have h1 : Int.tdiv (s : Int) (m : Int) = ((s / m : Nat) : Int) := by rw [Int.tdiv_eq_ediv_of_nonneg (by omega)]; rfl
    have h2 : s / m ≤ s := Nat.div_le_self _ _
    rw [h1, wrap_u32 _ (by omega)]
  have t : ∀ m : Nat, Int.tmod (m : Int) 256 = ((m % 256 : Nat) : Int) := fun m => by rw [Int.tmod_eq_emod_of_nonneg (by omega)]; omega
  refine ⟨?_, ?_, ?_, ?_⟩
  · rw [show (16777216 : Int) = ((16777216 : Nat) : Int) from rfl, d _ (by omega), wrap_u8, UInt8.toNat_ofNat']
  · rw [show (65536 : Int) = ((65536 : Nat) : Int) from rfl, d _ (by omega), t, wrap_u8, UInt8.toNat_ofNat', Nat.mod_mod]
  · rw [show Int.tdiv (s : Int) 256 = Int.tdiv (s : Int) ((256 : Nat) : Int) from rfl, d _ (by omega), t, wrap_u8, UInt8.toNat_ofNat', Nat.mod_mod]
  · rw [t, wrap_u8, UInt8.toNat_ofNat', Nat.mod_mod]
theorem hd_at (n : Nat) (hn : n ≤ 65536) : IntKind.wrap .u8 (IntKind.wrap .i64 (Int.tdiv (n : Int) 65536)) = (((UInt8.ofNat (n / 65536)).toNat : Nat) : Int) ∧ IntKind.wrap .u8 (Int.tmod (IntKind.wrap .i64 (Int.tdiv (n : Int) 256)) 256) = (((UInt8.ofNat (n / 256)).toNat : Nat) : Int) ∧ IntKind.wrap .u8 (Int.tmod (n : Int) 256) = (((UInt8.ofNat n).toNat : Nat) : Int) := by
  have d : ∀ m : Nat, 0 < m → IntKind.wrap .i64 (Int.tdiv (n : Int) (m : Int)) = ((n / m : Nat) : Int) := fun m hm => by
    have h1 : Int.tdiv (n : Int) (m : Int) = ((n / m : Nat) : Int) := by rw [Int.tdiv_eq_ediv_of_nonneg (by omega)]; rfl
    have h2 : n / m ≤ n := Nat.div_le_self _ _
    rw [h1]
    generalize n / m = z at h2
    rw [wrap_i64 (by unfold I64; omega)]
  have t : ∀ m : Nat, Int.tmod (m : Int) 256 = ((m % 256 : Nat) : Int) := fun m => by rw [Int.tmod_eq_emod_of_nonneg (by omega)]; omega
  refine ⟨?_, ?_, ?_⟩
  · rw [show (65536 : Int) = ((65536 : Nat) : Int) from rfl, d _ (by omega), wrap_u8, UInt8.toNat_ofNat']
  · rw [show Int.tdiv (n : Int) 256 = Int.tdiv (n : Int) ((256 : Nat) : Int) from rfl, d _ (by omega), t, wrap_u8, UInt8.toNat_ofNat', Nat.mod_mod]
  · rw [t, wrap_u8, UInt8.toNat_ofNat', Nat.mod_mod]
end Go.Lift
namespace Go.Proofs.YtpbpjojdfcdbbaaGreatDoor
open Go.Lift
set_option linter.unusedVariables false
set_option maxRecDepth 20000

theorem slBool : SlT Tryz.prog 229 4 1 1 := ⟨by kernel_rfl, by kernel_rfl, by decide⟩

theorem ref02_bits {a : Option Addr} {n c : Nat} {bs : List UInt8} {w : World} {D : Nat → Prop} (hb : Row cU8 1 w D a n bs) (hbig : bs.length ≤ 1000000) :
    Calls Tryz.prog F_ref02_bits #[.slice a n c] w (Ok (New cBool 4 w (bitsL bs))) := by
  have hn := hb.len
  refine L_ref02_bits ⟨fun m oa on oc i w' => ∃ j : Nat, i = j ∧ j ≤ n ∧ m = n - j ∧ ∃ F, Lst cBool 4 F w' oa on oc (bitsL (bs.take j)) ∧ Grew w w' ∧ ∀ b, F b → w.heap.size ≤ b,
    ⟨_, 0, rfl, Nat.zero_le _, rfl, fun _ => False, by simpa [bitsL] using Lst.nil w, Keep.refl w, fun _ h => h.elim⟩, ?_⟩
  rintro m oa on oc i _ w1 ⟨j, rfl, hj, rfl, F, ho, k1, hF⟩
  refine PIf.dec (fun hlt => ?_) (fun hge => ?_)
  · obtain ⟨b0, off0, x, ha0, hx, -, -⟩ := hb.at1 (i := j) (by omega)
    have hsn : bitsL (bs.take (j + 1)) = bitsL (bs.take j) ++ (bitsOf x).take 8 := by
      rw [List.take_add_one, hx, Option.toList_some, bitsL_snoc, List.take_of_length_le (l := bitsOf x) (by rw [bitsOf_length]; omega)]
    have hlen : (bitsL (bs.take j)).length = 8 * j := by rw [bitsL_length]; simp; omega
    refine ⟨fun q oa on oc k w' => ∃ i : Nat, k = i ∧ i ≤ 8 ∧ q = 8 - i ∧ ∃ F, Lst cBool 4 F w' oa on oc (bitsL (bs.take j) ++ (bitsOf x).take i) ∧ Grew w w' ∧ ∀ b, F b → w.heap.size ≤ b,
      ⟨_, 0, rfl, by omega, rfl, F, by rw [List.take_zero, List.append_nil]; exact ho, k1, hF⟩, ?_⟩
    rintro q oa on oc k _ w2 ⟨i, rfl, hi, rfl, F2, ho2, k2, hF2⟩
    have hlen2 : (bitsL (bs.take j) ++ (bitsOf x).take i).length = 8 * j + i := by rw [List.length_append, hlen, List.length_take, bitsOf_length]; omega
    refine PIf.dec (fun hlt2 => ?_) (fun hge2 => ?_)
    · obtain ⟨b, off, x', rfl, hx', -, hc⟩ := (hb.grew k2).at1 (i := j) (by omega)
      rw [hx] at hx'
      cases hx'
      have hrun : ∀ y z, (do eqGuard .shr 5 y z (.int .u8 (x.toNat : Int)) (.int .u64 (IntKind.wrap .u64 (i : Int))); binOp .shr 5 (.int .u8 (x.toNat : Int)) (.int .u64 (IntKind.wrap .u64 (i : Int))) : Sem Value).run Tryz.prog w2 = .ok (.int .u8 ((x.toNat / 2 ^ i : Nat) : Int)) w2 := fun y z => by
        rw [wrap_u64n (by omega)]
        have h0 := shift_shr .u8 .u64 (x.toNat : Int) (i : Int) (by omega) (by show _ ≤ ((8 : Nat) : Int); omega)
        have e1 : (x.toNat : Int) / 2 ^ (Int.toNat (i : Int)) = ((x.toNat / 2 ^ i : Nat) : Int) := by rw [Int.toNat_natCast]; simp
        show (Op.shift .shr .u8 (x.toNat : Int) .u64 (i : Int)).run Tryz.prog w2 = _
        rw [h0, e1]
        rfl
      have hb2 : ∀ z : Nat, ((Int.tmod (z : Int) 2 : Int) == 1) = decide (z % 2 = 1) := fun z => by
        rw [Int.tmod_eq_emod_of_nonneg (by omega)]
        by_cases h : z % 2 = 1
        · rw [decide_eq_true h, beq_iff_eq]; omega
        · rw [decide_eq_false h, beq_eq_false_iff_ne]; omega
      have hbit : ((Int.tmod ((x.toNat / 2 ^ i : Nat) : Int) 2 : Int) == 1) = x.toNat.testBit i := by rw [hb2, testBit_div]
      have hi8 : i < 8 := by omega
      have hget : (bitsOf x)[i]? = some (x.toNat.testBit i) := by simp [bitsOf, hi8]
      refine ⟨b, off, rfl, by omega, by omega, _, by rw [Int.toNat_natCast]; exact hc, PRun.mk (hrun _ _) ⟨_, rfl, ?_⟩⟩
      rw [hbit]
      refine papp ho2 slBool (x := x.toNat.testBit i) (D := fun _ => False) ⟨rfl, trivial⟩ (fun _ h => h.elim) (by rw [hlen2]; unfold Big; omega) (by rw [hlen2]; unfold maxLen; omega) fun a3 c3 w3 F3 ho3 hk3 hF3 _ => ?_
      refine ⟨_, _, _, rfl, 8 - (i + 1), by omega, i + 1, wrap_succ (by omega), by omega, rfl, F3, ?_, k2.new hk3 fun b hb => .inr (hF2 b (ho2.self b hb)), fun b hb => ?_⟩
      · rw [List.take_add_one, hget, ← List.append_assoc]; exact ho3
      · rcases hF3 b hb with h | h | h
        · exact hF2 b h
        · exact h.elim
        · have := k2.size; omega
    · obtain rfl : i = 8 := by omega
      rw [← hsn] at ho2
      exact ⟨_, by omega, j + 1, wrap_succ (by omega), by omega, rfl, F2, ho2, k2, hF2⟩
  · obtain rfl : j = n := by omega
    rw [List.take_of_length_le (by omega)] at ho
    exact Ok.mk ⟨_, _, _, F, rfl, ho, k1, hF⟩

theorem ref02_halves {r : W32} {b : Bool} {w : World} : Calls Tryz.prog F_ref02_halves #[.int .u32 ((r.toNat : Nat) : Int), .bool b] w (Ok fun v w' => v = .int .u32 (((crcBit r b).toNat : Nat) : Int) ∧ w = w') := by
  refine L_ref02_halves ?_
  have e : (((Int.tmod ((r.toNat : Nat) : Int) 2 : Int) == 1) == b) = !(r.getLsbD 0 != b) := by
    rw [lsb_mod, Int.tmod_eq_emod_of_nonneg (by omega)]
    by_cases h : r.toNat % 2 = 1
    · have : ((r.toNat : Nat) : Int) % 2 = 1 := by omega
      rw [this, decide_eq_true h]; cases b <;> rfl
    · have : ((r.toNat : Nat) : Int) % 2 = 0 := by omega
      rw [this, decide_eq_false h]; cases b <;> rfl
  rw [e, Bool.not_not, half32]
  cases h : r.getLsbD 0 != b with
  | false => exact PIf.ff rfl (Ok.mk ⟨by rw [crcBit_no h], rfl⟩)
  | true =>
    refine PIf.tt rfl (Ok.mk ⟨?_, rfl⟩)
    have hp : (3988292384 : Int) = ((poly.toNat : Nat) : Int) := by decide +kernel
    rw [crcBit_yes h, hp, iXor32]

theorem ref02_Sum {a : Option Addr} {n c : Nat} {bs : List UInt8} {w : World} {D : Nat → Prop} (hb : Row cU8 1 w D a n bs) (hbig : bs.length ≤ 1000000) :
    Calls Tryz.prog F_ref02_Sum #[.slice a n c] w (Ok fun v w' => v = .int .u32 (((crcV bs).toNat : Nat) : Int) ∧ Grew w w') := by
  refine L_ref02_Sum (PC.ok (φ := fun v w' => v = .int .u32 (((crcV bs).toNat : Nat) : Int) ∧ Grew w w') (L_ref02_More (PC.ok (ref02_bits hb hbig) ?_)) fun v w' ⟨hv, hk⟩ => ⟨_, hv, Ok.mk ⟨rfl, hk⟩⟩)
  rintro _ w1 ⟨a1, n1, c1, F1, rfl, ho1, k1, hF1⟩
  have hn1 := ho1.len (by decide)
  have hbl := bitsL_length bs
  have hmax : (4294967295 : Int) = (((BitVec.allOnes 32).toNat : Nat) : Int) := by decide +kernel
  have hz : (0 : Int) = (((0#32 : W32).toNat : Nat) : Int) := rfl
  refine ⟨_, _, _, rfl, fun m r i w' => w1 = w' ∧ ∃ j : Nat, i = j ∧ j ≤ n1 ∧ m = n1 - j ∧ r = (((((bitsL bs).take j).foldl crcBit (~~~0#32)).toNat : Nat) : Int), ⟨_, rfl, 0, rfl, Nat.zero_le _, rfl, ?_⟩, ?_⟩
  · rw [hz, hmax, iXor32]; rfl
  · rintro m r i _ _ ⟨rfl, j, rfl, hj, rfl, rfl⟩
    refine PIf.dec (fun hlt => ?_) (fun hge => ?_)
    · obtain ⟨b, off, x, rfl, hx, -, hc⟩ := (ho1.row (bytes := 1) (by decide) (by unfold Big; omega)).at1 (i := j) (by omega)
      refine ⟨b, off, rfl, by omega, by omega, _, by rw [Int.toNat_natCast]; exact hc, PC.ok ref02_halves ?_⟩
      rintro _ _ ⟨rfl, rfl⟩
      refine ⟨_, rfl, n1 - (j + 1), by omega, rfl, j + 1, wrap_succ (by omega), by omega, rfl, ?_⟩
      rw [List.take_add_one, hx, List.foldl_append]; rfl
    · obtain rfl : j = n1 := by omega
      rw [List.take_of_length_le (by omega), crc_bitsL, hmax, iXor32]
      refine Ok.mk ⟨?_, k1⟩
      rw [BitVec.xor_allOnes]; rfl

theorem ref03_Put {w : World} {D : Nat → Prop} {k : Int} {a : Option Addr} {n c : Nat} {body : List UInt8} (hb : Row cU8 1 w D a n body) :
    Calls Tryz.prog F_ref03_Put #[.agg #[.int .i64 k, .slice a n c]] w (Ok fun v w' => ∃ u, v = .tuple #[u, .int .i64 (frPut k body).2] ∧ New cU8 5 w (frPut k body).1 u w') := by
  have hn := hb.len
  have nil : ∀ {w' : World} {e : Int}, Grew w w' → frPut k body = ([], e) → Ok (fun v w' => ∃ u, v = .tuple #[u, .int .i64 (frPut k body).2] ∧ New cU8 5 w (frPut k body).1 u w') (.returned (.tuple #[.slice none 0 0, .int .i64 e])) w' := fun hk he => by
    rw [he]; exact Ok.mk ⟨_, rfl, none, 0, 0, fun _ => False, rfl, Lst.nil _, hk, fun _ h => h.elim⟩
  refine L_ref03_Put (PA.mk fun w1 k1 s1 g1 => ⟨_, cell_at g1 rfl, PIf.dec (fun h => nil k1 (by unfold frPut; rw [if_pos (.inl h)])) (fun h1 => ⟨_, cell_at g1 rfl, PIf.dec (fun h => nil k1 (by unfold frPut; rw [if_pos (.inr h)])) (fun h2 => ⟨_, _, _, cell_at g1 rfl, PIf.dec (fun h => nil k1 (by unfold frPut; rw [if_neg (by omega), if_pos (by omega)])) (fun h3 => ⟨_, cell_at g1 rfl, PA.mk fun w2 k2 s2 g2 => ?_⟩)⟩)⟩)⟩)
  have hput : frPut k body = (frBytes k body, 0) := by unfold frPut; rw [if_neg (by omega), if_neg (by omega)]
  rw [hput]
  obtain ⟨p1, p2, p3⟩ := hd_at n (by omega)
  have pk : IntKind.wrap .u8 k = (((UInt8.ofNat k.toNat).toNat : Nat) : Int) := by
    have : k = ((k.toNat : Nat) : Int) := by omega
    rw [this, wrap_u8, UInt8.toNat_ofNat', Int.toNat_natCast]
  rw [p1, p2, p3, pk] at g2
  have ho2 : Lst cU8 5 (· = w1.heap.size) w2 (some ⟨w1.heap.size, 0, none⟩) 4 4 [UInt8.ofNat k.toNat, UInt8.ofNat (n / 65536), UInt8.ofNat (n / 256), UInt8.ofNat n] :=
    Lst.of_block g2 [UInt8.ofNat k.toNat, UInt8.ofNat (n / 65536), UInt8.ofNat (n / 256), UInt8.ofNat n] rfl (fun _ _ => trivial) (by unfold maxLen; simp)
  have hfh : frHead k body = [UInt8.ofNat k.toNat, UInt8.ofNat (n / 65536), UInt8.ofNat (n / 256), UInt8.ofNat n] ++ body := by unfold frHead; rw [hn]
  have hl4 : [UInt8.ofNat k.toNat, UInt8.ofNat (n / 65536), UInt8.ofNat (n / 256), UInt8.ofNat n].length = 4 := rfl
  generalize [UInt8.ofNat k.toNat, UInt8.ofNat (n / 65536), UInt8.ofNat (n / 256), UInt8.ofNat n] = hdr at ho2 hfh hl4
  refine ⟨fun m oa on oc i w' => ∃ j : Nat, i = j ∧ j ≤ n ∧ m = n - j ∧ ∃ F, Lst cU8 5 F w' oa on oc (hdr ++ body.take j) ∧ Grew w1 w' ∧ ∀ b, F b → w1.heap.size ≤ b,
    ⟨_, 0, rfl, Nat.zero_le _, rfl, _, by rw [List.take_zero, List.append_nil]; exact ho2, k2, fun b hb => by omega⟩, ?_⟩
  rintro m oa on oc i _ w3 ⟨j, rfl, hj, rfl, F, ho, k3, hF⟩
  have htl : (hdr ++ body.take j).length = 4 + j := by rw [List.length_append, hl4, List.length_take]; omega
  refine PIf.dec (fun hlt => ?_) (fun hge => ?_)
  · obtain ⟨b, off, x, rfl, hx, -, hc⟩ := (hb.grew (k1.then k3)).at1 (i := j) (by omega)
    refine ⟨_, _, _, cell_at (k3.get g1 id) rfl, b, off, rfl, by omega, by omega, _, by rw [Int.toNat_natCast]; exact hc, papp ho slU8 (x := x) (D := fun _ => False) ⟨rfl, trivial⟩ (fun _ h => h.elim) (by rw [htl]; unfold Big; omega) (by rw [htl]; unfold maxLen; omega) fun a4 c4 w4 F4 ho4 hk4 hF4 _ => ?_⟩
    refine ⟨_, _, _, rfl, n - (j + 1), by omega, j + 1, wrap_succ (by omega), by omega, rfl, F4, ?_, k3.new hk4 fun b hb => .inr (hF b (ho.self b hb)), fun b hb => ?_⟩
    · rw [List.take_add_one, hx, ← List.append_assoc]; exact ho4
    · rcases hF4 b hb with h | h | h
      · exact hF b h
      · exact h.elim
      · have := k3.size; omega
  · obtain rfl : j = n := by omega
    rw [List.take_of_length_le (by omega), ← hfh] at ho htl
    refine PC.ok (ref02_Sum (ho.row (bytes := 1) (by decide) (by rw [htl]; unfold Big; omega)) (by omega)) ?_
    rintro _ w4 ⟨rfl, k4⟩
    refine ⟨_, rfl, PA.mk fun w5 k5 s5 g5 => ?_⟩
    have hs32 := (crcV (frHead k body)).isLt
    obtain ⟨q1, q2, q3, q4⟩ := be_at (crcV (frHead k body)).toNat hs32
    rw [q1, q2, q3, q4] at g5
    have hrow5' : Row cU8 1 w5 (· = w4.heap.size) (some ⟨w4.heap.size, 0, none⟩) (be4 (crcV (frHead k body)).toNat ++ [10]).length (be4 (crcV (frHead k body)).toNat ++ [10]) := Row.lit g5 (be4 (crcV (frHead k body)).toNat ++ [10]) rfl (fun _ _ => trivial) (by unfold Big; simp [be4])
    have hrow5 : Row cU8 1 w5 (· = w4.heap.size) (some ⟨w4.heap.size, 0, none⟩) 5 (be4 (crcV (frHead k body)).toNat ++ [10]) := hrow5'
    refine appRow (ho.grew (k4.then k5)) slU8 hrow5 (fun b e => ⟨by omega, fun e2 => by have := ho.dom b (ho.self b e2); have := k4.size; omega⟩) (by rw [htl]; unfold Big; simp [be4]; omega) (by rw [htl]; unfold maxLen; simp [be4]; omega) fun a6 c6 w6 F6 ho6 hk6 _ hs6 => ?_
    replace ho6 := ho6.alone
    rw [← List.append_assoc] at ho6
    change Lst cU8 5 _ w6 a6 _ c6 (frBytes k body) at ho6
    refine ⟨_, _, _, rfl, Ok.mk ⟨_, rfl, a6, _, c6, _, rfl, ho6, ?_, fun b hb => ?_⟩⟩
    · exact (k1.then ((k3.then k4).then k5)).new hk6 fun b hb => .inr (by have := hF b (ho.self b hb); omega)
    · rcases hs6 b hb with h | h
      · have := hF b h; omega
      · have := (k1.then ((k3.then k4).then k5)).size; omega

theorem ref03_Get {w : World} {D : Nat → Prop} {a : Option Addr} {n c : Nat} {bs : List UInt8} (hb : Row cU8 1 w D a n bs) (hcap : n ≤ c) (hD : ∀ b, D b → b < w.heap.size) :
    Calls Tryz.prog F_ref03_Get #[.slice a n c] w (Ok fun v w' => ∃ a' n' c' F, v = .tuple #[.agg #[.int .i64 (frGet bs).kind, .slice a' n' c'], .int .i64 ((frGet bs).n : Int), .int .i64 (frGet bs).no] ∧
      Lst cU8 5 F w' a' n' c' (frGet bs).body ∧ Grew w w' ∧ ∀ b, F b → w.heap.size ≤ b) := by
  have hn := hb.len
  have hbig := hb.big
  unfold Big at hbig
  refine L_ref03_Get (PA.mk fun w1 k1 s1 g1 => ?_)
  have stop : ∀ (e : Int) (w2 : World), Grew w1 w2 → frGet bs = ⟨0, [], 0, e⟩ → PS w2 ⟨w.heap.size, 0, none⟩ (.int .i64 0) fun w3 => PS w3 ⟨w.heap.size, 0 + 1, none⟩ (.slice none 0 0) fun w4 => ∃ (r5 : Int) (r6a : Option Addr) (r6n : Nat) (r6c : Nat), w4.cell? ⟨w.heap.size, 0, none⟩ = some (.int .i64 r5) ∧
      w4.cell? ⟨w.heap.size, 0 + 1, none⟩ = some (.slice r6a r6n r6c) ∧ Ok (fun v w' => ∃ a' n' c' F, v = .tuple #[.agg #[.int .i64 (frGet bs).kind, .slice a' n' c'], .int .i64 ((frGet bs).n : Int), .int .i64 (frGet bs).no] ∧ Lst cU8 5 F w' a' n' c' (frGet bs).body ∧ Grew w w' ∧ ∀ b, F b → w.heap.size ≤ b) (.returned (.tuple #[.agg #[.int .i64 r5, .slice r6a r6n r6c], .int .i64 0, .int .i64 e])) w4 := by
    intro e w2 k2 he
    refine PS.mk (k2.get g1 id) (by simp) fun w3 k3 s3 g3 => PS.mk g3 (by simp) fun w4 k4 s4 g4 => ⟨_, _, _, _, cell_at g4 rfl, cell_at g4 rfl, ?_⟩
    rw [he]
    exact Ok.mk ⟨none, 0, 0, fun _ => False, rfl, Lst.nil _, ((k1.then k2).new k3 fun b hb => .inr (by omega)).new k4 fun b hb => .inr (by omega), fun _ h => h.elim⟩
  refine PIf.dec (fun h4 => stop 4 w1 (Keep.refl _) (by unfold frGet; rw [if_pos (by omega)])) (fun h4 => ?_)
  have rd : ∀ {w' : World} (i : Nat), Grew w w' → i < n → ∃ b off, a = some ⟨b, off, none⟩ ∧ w'.cell? ⟨b, off + i, none⟩ = some (.int .u8 ((bs.getD i 0).toNat : Int)) := fun {w'} i hk hi => by
    obtain ⟨b, off, x, rfl, hx, -, hc⟩ := (hb.grew hk).at1 (i := i) hi
    refine ⟨b, off, rfl, ?_⟩
    rw [List.getD_eq_getElem?_getD, hx]; exact hc
  obtain ⟨b, off, rfl, c0⟩ := rd 0 k1 (by omega)
  obtain ⟨b', off', e', c1⟩ := rd 1 k1 (by omega)
  cases e'
  obtain ⟨b', off', e', c2⟩ := rd 2 k1 (by omega)
  cases e'
  obtain ⟨b', off', e', c3⟩ := rd 3 k1 (by omega)
  cases e'
  refine ⟨b, off, rfl, by omega, by omega, _, c0, PIf.eqI (fun h0 => stop 2 w1 (Keep.refl _) ?_) (fun h0 => ?_)⟩
  · unfold frGet
    rw [if_neg (by omega), if_pos (UInt8.toNat_inj.1 (by show _ = 0; omega))]
  have h0' : ¬ bs.getD 0 0 = 0 := fun e => h0 (by rw [e]; rfl)
  have l1 := (bs.getD 1 0).toNat_lt; have l2 := (bs.getD 2 0).toNat_lt; have l3 := (bs.getD 3 0).toNat_lt; have l0 := (bs.getD 0 0).toNat_lt
  have eN : IntKind.wrap .i64 ((IntKind.wrap .i64 ((IntKind.wrap .i64 (65536 * (IntKind.wrap .i64 (((bs.getD 1 0).toNat : Nat) : Int)))) + (IntKind.wrap .i64 (256 * (IntKind.wrap .i64 (((bs.getD 2 0).toNat : Nat) : Int)))))) + (IntKind.wrap .i64 (((bs.getD 3 0).toNat : Nat) : Int))) =
      (((bs.getD 1 0).toNat * 65536 + (bs.getD 2 0).toNat * 256 + (bs.getD 3 0).toNat : Nat) : Int) := by
    rw [wrap_i64u8, wrap_i64u8, wrap_i64u8, wrap_i64 (x := 65536 * _) (by unfold I64; omega), wrap_i64 (x := 256 * _) (by unfold I64; omega), wrap_i64 (x := 65536 * _ + _) (by unfold I64; omega), wrap_i64 (by unfold I64; omega)]
    omega
  refine ⟨b, off, rfl, by omega, by omega, _, c1, b, off, rfl, by omega, by omega, _, c2, b, off, rfl, by omega, by omega, _, c3, fun w2 d2 => ?_⟩
  have k2 : Grew w1 w2 := d2.keep
  have k02 := k1.then k2
  rw [eN]
  have hget : frGet bs = (fun n => if 65536 < n then ⟨0, [], 0, 5⟩ else if bs.length < n + 9 then ⟨0, [], 0, 4⟩ else
      if bs.take (n + 9) = frBytes (bs.getD 0 0).toNat ((bs.drop 4).take n) then ⟨(bs.getD 0 0).toNat, (bs.drop 4).take n, n + 9, 0⟩ else ⟨0, [], 0, 6⟩) ((bs.getD 1 0).toNat * 65536 + (bs.getD 2 0).toNat * 256 + (bs.getD 3 0).toNat) := by
    unfold frGet
    rw [if_neg (by omega), if_neg h0']
  generalize (bs.getD 1 0).toNat * 65536 + (bs.getD 2 0).toNat * 256 + (bs.getD 3 0).toNat = N at hget ⊢
  simp only at hget
  refine PIf.dec (fun hl => stop 5 w2 k2 (by rw [hget, if_pos (by omega)])) (fun hl => ?_)
  rw [wrap_i64 (x := (N : Int) + 9) (by unfold I64; omega), wrap_i64 (x := 4 + (N : Int)) (by unfold I64; omega)]
  refine PIf.dec (fun hs => stop 4 w2 k2 (by rw [hget, if_neg (by omega), if_pos (by omega)])) (fun hs => ?_)
  rw [if_neg (by omega), if_neg (by omega)] at hget
  have hpart := (hb.grew k02).part (lo := 4) (hi := 4 + N) (cap := c) (by omega) (by omega) hcap
  have hbody : (bs.take (4 + N)).drop 4 = (bs.drop 4).take N := by rw [List.drop_take]; congr 1; omega
  rw [hbody] at hpart
  have hbl : ((bs.drop 4).take N).length = N := by simp; omega
  refine ⟨by omega, by omega, by omega, ?_⟩
  rw [show Int.toNat (4 + (N : Int)) = 4 + N by omega, show Int.toNat 4 = 4 from rfl]
  refine appRow0 (Lst.nil w2) slU8 hpart (fun b h => ⟨by have := hD b h; have := k02.size; omega, by simp [blk]⟩) (by unfold Big; simp; omega) (by unfold maxLen; simp; omega) fun a3 c3' w3 F3 ho3 hk3 _ hs3 => ?_
  have k3 : Grew w2 w3 := hk3.mono fun b _ hb => by simp [blk] at hb
  replace ho3 := ho3.alone
  rw [List.nil_append] at ho3
  have hself : ∀ b, blk a3 = some b → w2.heap.size ≤ b := fun b hb => (hs3 b hb).elim (fun h => h.elim) id
  obtain ⟨b', off', e', c0'⟩ := rd 0 (k02.then k3) (by omega)
  cases e'
  refine ⟨_, _, _, rfl, b, off, rfl, by omega, by omega, _, c0', PA.mk fun w4 k4 s4 g4 => PS.mk g4 (by simp) fun w5 k5 s5 g5 => PS.mk g5 (by simp) fun w6 k6 s6 g6 => ?_⟩
  rw [wrap_i64u8] at g6
  have g6' : w6.heap[w3.heap.size]? = some (.cells #[.int .i64 (((bs.getD 0 0).toNat : Nat) : Int), .slice a3 (0 + (4 + N - 4)) c3'] 99 (0, 0)) := g6
  have k36 : Grew w3 w6 := (k4.new k5 fun b hb => .inr (by omega)).new k6 fun b hb => .inr (by omega)
  have ho6 := ho3.grew k36
  refine ⟨_, _, _, _, cell_at g6' rfl, cell_at g6' rfl, PC.ok (ref03_Put (ho6.row (bytes := 1) (by decide) (by rw [hbl]; unfold Big; omega))) ?_⟩
  rintro _ w7 ⟨_, rfl, a7, n7, c7, F7, rfl, ho7, k7, hF7⟩
  have hb1 : 1 ≤ (bs.getD 0 0).toNat := Nat.one_le_iff_ne_zero.2 fun e => h0' (UInt8.toNat_inj.1 e)
  rw [show frPut (((bs.getD 0 0).toNat : Nat) : Int) ((bs.drop 4).take N) = (frBytes (((bs.getD 0 0).toNat : Nat) : Int) ((bs.drop 4).take N), 0) by unfold frPut; rw [if_neg (by omega), if_neg (by rw [hbl]; omega)]] at ho7 ⊢
  have hwl : (frBytes (((bs.getD 0 0).toNat : Nat) : Int) ((bs.drop 4).take N)).length = N + 9 := by rw [frBytes_length, hbl]
  generalize hwant : frBytes (((bs.getD 0 0).toNat : Nat) : Int) ((bs.drop 4).take N) = want at ho7 hget hwl
  simp only at ho7
  have hn7 := ho7.len (by decide)
  have k07 : Grew w w7 := ((k02.then k3).then k36).then k7
  have k17 : Grew w1 w7 := ((k2.then k3).then k36).then k7
  refine ⟨_, _, _, _, rfl, fun m i w' => ∃ j : Nat, i = j ∧ j ≤ N + 9 ∧ m = N + 9 - j ∧ bs.take j = want.take j ∧ Grew w7 w', ⟨_, 0, rfl, Nat.zero_le _, rfl, rfl, Keep.refl _⟩, ?_⟩
  rintro m i _ w8 ⟨j, rfl, hj, rfl, hsame, k8⟩
  refine PIf.dec (fun hlt => ?_) (fun hge => ?_)
  · obtain ⟨b', off', x, e', hx, -, cx⟩ := (hb.grew (k07.then k8)).at1 (i := j) (by omega)
    cases e'
    obtain ⟨by', offy, y, rfl, hy, -, cy⟩ := ((ho7.grew k8).row (bytes := 1) (by decide) (by rw [hwl]; unfold Big; omega)).at1 (i := j) (by omega)
    refine ⟨b, off, rfl, by omega, by omega, _, by rw [Int.toNat_natCast]; exact cx, by', offy, rfl, by omega, by omega, _, by rw [Int.toNat_natCast]; exact cy, fun w9 d9 => PIf.neI (fun hne => stop 6 w9 ((k17.then k8).then d9.keep) ?_) (fun he => ?_)⟩
    · rw [hget, if_neg]
      intro hc
      have h1 : (bs.take (N + 9))[j]? = some x := by rw [List.getElem?_take, if_pos (by omega)]; exact hx
      rw [hc, hy] at h1
      cases h1
      exact hne rfl
    · have hxy : x = y := UInt8.toNat_inj.1 (by omega)
      subst hxy
      exact ⟨_, by omega, j + 1, wrap_succ (by omega), by omega, rfl, take_same hsame hx hy, k8.then d9.keep⟩
  · obtain rfl : j = N + 9 := by omega
    rw [List.take_of_length_le (l := want) (by omega)] at hsame
    rw [if_pos hsame] at hget
    rw [hget, show (N : Int) + 9 = ((N + 9 : Nat) : Int) by omega]
    have g8 := (k7.then k8).get g6' id
    refine ⟨_, _, _, _, cell_at g8 rfl, cell_at g8 rfl, PS.mk ((k17.then k8).get g1 id) (by simp) fun w9 k9 s9 g9 => PS.mk g9 (by simp) fun w10 k10 s10 g10 => ⟨_, _, _, _, cell_at g10 rfl, cell_at g10 rfl, Ok.mk ⟨a3, _, c3', (fun b => blk a3 = some b), rfl, ?_, ?_, fun b hb => ?_⟩⟩⟩
    · exact ((ho6.grew (k7.then k8)).keep k9 fun b hb e => by have := hself b hb; have := k2.size; omega).keep k10 fun b hb e => by have := hself b hb; have := k2.size; omega
    · exact ((k07.then k8).new k9 fun b hb => .inr (by omega)).new k10 fun b hb => .inr (by omega)
    · have := hself b hb; have := k02.size; omega
end Go.Proofs.YtpbpjojdfcdbbaaGreatDoor

/- a disk with one file -/
namespace Go.Proofs.YtpbpjojdfcdbbaaGreatDoor
open Go.Lift
set_option linter.unusedVariables false
end Go.Proofs.YtpbpjojdfcdbbaaGreatDoor

/- what each statement about segments asks: two frames, and half a third one -/
namespace Go.Lift
open Go
theorem Row.of_reps {α : Type} {c : Cod α} {bytes : Nat} {w : World} {D : Nat → Prop} {g : Nat} {e : TypeId} {f : Nat × Nat} {cs : List Value} {xs : List α} (hg : w.heap[g]? = some (.cells cs.toArray e f)) (hr : Reps c w D xs cs) (hD : D g) (hb : xs.length * bytes ≤ Big) :
    Row c bytes w D (some ⟨g, 0, none⟩) xs.length xs :=
  ⟨rfl, hb, fun i x hi => by
    obtain ⟨es, h1, h2⟩ := hr.at hi
    refine ⟨g, 0, es, rfl, lt_of_get hg, hD, fun j hj => ?_, h2⟩
    have hl := c.len h2
    have h3 := h1 j hj
    rw [List.getElem?_eq_getElem (show j < es.length by omega)] at h3 ⊢
    rw [Nat.zero_add]
    exact cell_at hg (by simpa using h3)⟩
end Go.Lift
namespace Go.Proofs.YtpbpjojdfcdbbaaGreatDoor
open Go.Lift
set_option linter.unusedVariables false
set_option maxRecDepth 20000

section
variable {w0 w w1 w' : World} {p : Nat} {D D' : DiskV} {X Y : Nat → Prop}
theorem NDisk.load {n : Int} (h : NDisk w0 w p D X) (hw : Laid w0) (hn : I64 n) : Calls Tryz.prog F_segment_Load #[.pointer (some ⟨p, 0, none⟩), .int .i64 n] w (Ok fun v w' =>
    ∃ a m c G, v = .tuple #[.slice a m c, .int .i64 ((segLoad (D.read (txt (segName n))).1).2 : Int)] ∧ Lst cEvO 39 G w' a m c (segLoad (D.read (txt (segName n))).1).1 ∧
      (∀ b, G b → w.heap.size ≤ b) ∧ NDisk w0 w' p D (fun b => X b ∨ G b) ∧ Grew w w' ∧ (segLoad (D.read (txt (segName n))).1).1.length ≤ 262144) := by
  obtain ⟨F, h1, h2⟩ := h
  refine Calls.ok (seg_Load (hw.grew h2.1) h1 hn) ?_
  rintro v w' ⟨a, m, c, G, rfl, ho, hk, hG, hl⟩
  exact ⟨a, m, c, G, rfl, ho, hG, NDisk.add ⟨F, h1, h2⟩ hk fun b hb => ⟨hG b hb, ho.dom b hb⟩, hk, hl⟩
end
theorem lst_evs {w : World} {G : Nat → Prop} {a : Option Addr} {n c : Nat} {l : List EventV} (h : Lst cEvO 39 G w a n c l) (hl : l.length ≤ 1000000) : Row cEv 96 w G a n l :=
  cEvO.row (h.row (by decide) (by unfold Big; omega))

end Go.Proofs.YtpbpjojdfcdbbaaGreatDoor

/- SegmentBack: the walk -/
namespace Go.Proofs.YtpbpjojdfcdbbaaGreatDoor
open Go.Lift
set_option linter.unusedVariables false
set_option maxRecDepth 20000

end Go.Proofs.YtpbpjojdfcdbbaaGreatDoor

/- SegmentNames: the walk -/
namespace Go.Lift
open Go
theorem txt_get {l : List UInt8} {i : Nat} (h : i < l.length) : (txt l)[i]? = some l[i] := by
  rw [getElem?_pos (txt l) i (by rw [txt_size]; exact h)]
  rfl
theorem conv_txt {P : Program} {src e dst : TypeId} (hs : P.underlying src = some (.slice e)) (he : P.underlying e = some (.int .u8)) (hd : P.underlying dst = some .string) {w : World} {F : Nat → Prop} {a : Option Addr} {n c : Nat} {e' : TypeId} {l : List UInt8}
    (ho : Lst cU8 e' F w a n c l) (hb : l.length ≤ 1000000) {κ ε : Value → World → Prop} (h : κ (.string (txt l)) w) : PRun P (convert src dst (.slice a n c)) w κ ε := by
  have hn := ho.len (by decide)
  have hr : Row cU8 1 w F a n l := ho.row (by decide) (by unfold Big; omega)
  obtain ⟨cs, D0, hown, _, _⟩ := ho.body
  rcases hown.cases with ⟨rfl, rfl, rfl, -⟩ | ⟨g, cur, rfl, hg, -⟩
  · have hl : l = [] := List.eq_nil_of_length_eq_zero hn.symm
    subst hl
    exact PRun.mk (run_convert_bytes_nil w src e hs he 0 0 dst hd) h
  · have hrun := run_convert_bytes_arg w (P := P) src e hs he g 0 n c (l.map fun d => (d.toNat : Int)) (by simp; omega) (fun i hi => by
      obtain ⟨b, off, x, hab, hx, _, hc⟩ := hr.at1 (i := i) hi
      cases hab
      rw [hc]
      simp [List.getD, hx]) dst hd
    have e2 : strOfNums (l.map fun d => (d.toNat : Int)) = txt l := by
      unfold strOfNums txt
      simp [List.map_map, Function.comp_def]
    rw [e2] at hrun
    exact PRun.mk hrun h
theorem Lst.u8 {e : TypeId} {w : World} {a : Option Addr} {n c : Nat} {l : List UInt8} (ho : Own w e 1 a n c (l.map fun x => Value.int .u8 (x.toNat : Int))) : Lst cU8 e (fun b => blk a = some b) w a n c l :=
  ⟨⟨_, fun _ => False, ho, Reps.flat_iff.2 List.map_eq_flatMap, fun _ h => h.elim⟩, fun _ h => h, fun b hb => ho.lt hb⟩
end Go.Lift
namespace Go.Proofs.YtpbpjojdfcdbbaaGreatDoor
open Go.Lift
set_option linter.unusedVariables false
set_option maxRecDepth 20000

theorem ref20_Number {s : ByteArray} {w : World} : Calls Tryz.prog F_ref20_Number #[.string s] w (Ok fun v w' => v = .tuple #[.int .i64 (segNoV s).1, .bool (segNoV s).2] ∧ w = w') := by
  rw [← txt_of s]
  generalize s.data.toList = l
  unfold segNoV
  rw [txt_list]
  have no : ∀ w', w = w' → ¬ (l.take 4 = segPre ∧ 5 ≤ l.length ∧ l.length ≤ 16 ∧ (l.drop 4).all isDig = true ∧ ((l.drop 4).head? ≠ some 48 ∨ l.length = 5)) →
      Ok (fun v w' => v = .tuple #[.int .i64 (match segNo l with | some k => ((k : Int), true) | none => (0, false)).1, .bool (match segNo l with | some k => ((k : Int), true) | none => (0, false)).2] ∧ w = w') (.returned (.tuple #[.int .i64 0, .bool false])) w' := fun w' hw h => by
    have : segNo l = none := by unfold segNo; rw [if_neg h]
    rw [this]; exact Ok.mk ⟨rfl, hw⟩
  refine L_ref20_Number ?_
  rw [txt_size]
  refine ⟨fun w' => w = w' ∧ 5 ≤ l.length ∧ l.length ≤ 16 ∧ l.take 4 = segPre ∧ ((l.drop 4).head? ≠ some 48 ∨ l.length = 5),
    PIf.dec (fun h => no _ rfl fun hc => by omega) (fun h5 => PIf.dec (fun h => no _ rfl fun hc => by omega) (fun h16 => ⟨by omega, by omega, ?_⟩)), ?_⟩
  · have e1 : ByteArray.toList (ByteArray.extract (txt l) 0 (Int.toNat 4)) = l.take 4 := by
      rw [ByteArray.toList_eq, ByteArray.data_extract]
      simp [txt]
    have e2 : ByteArray.toList (⟨#[115, 101, 103, 46]⟩ : ByteArray) = segPre := by decide +kernel
    have hhd : (l.drop 4).head? = some (l[4]'(by omega)) := by
      rw [List.head?_drop, List.getElem?_eq_getElem (by omega)]
    rw [e1, e2]
    by_cases hp : l.take 4 = segPre
    · refine PIf.ff (by rw [hp]; simp) ⟨by omega, _, txt_get (i := 4) (by omega), PIf.eqI (fun h48 => PIf.dec (fun hgt => no _ rfl fun hc => ?_) (fun hgt => ⟨rfl, by omega, by omega, hp, .inr (by omega)⟩)) (fun h48 => ⟨rfl, by omega, by omega, hp, .inl ?_⟩)⟩
      · rcases hc.2.2.2.2 with h | h
        · refine h ?_
          rw [hhd]
          congr 1
          exact UInt8.toNat_inj.1 (by show _ = 48; omega)
        · omega
      · rw [hhd]
        intro e
        simp only [Option.some.injEq] at e
        rw [e] at h48
        exact h48 rfl
    · exact PIf.tt (by simp [hp]) (no _ rfl fun hc => hp hc.1)
  · rintro _ _ ⟨rfl, h5, h16, hp, hh⟩
    refine ⟨fun m x i w' => ∃ j : Nat, i = j ∧ 4 ≤ j ∧ j ≤ l.length ∧ m = l.length - j ∧ x = (digVal ((l.drop 4).take (j - 4)) : Int) ∧ ((l.drop 4).take (j - 4)).all isDig = true ∧ w = w', ⟨_, 4, rfl, Nat.le_refl _, by omega, rfl, by simp [digVal], by simp, rfl⟩, ?_⟩
    rintro m x i _ _ ⟨j, rfl, hj4, hj, rfl, rfl, hall, rfl⟩
    have hvlt := digVal_lt _ hall
    have h11 : 10 ^ ((l.drop 4).take (j - 4)).length ≤ 10 ^ 12 := Nat.pow_le_pow_right (by omega) (by simp; omega)
    have e12 : (10 : Nat) ^ 12 = 1000000000000 := by decide
    refine PIf.dec (fun hlt => ?_) (fun hge => ?_)
    · have hjl : j < l.length := by omega
      have hgl : (l.drop 4)[j - 4]? = some l[j] := by
        rw [List.getElem?_drop, show 4 + (j - 4) = j by omega, List.getElem?_eq_getElem hjl]
      have nodig : isDig l[j] = false → ¬ (l.drop 4).all isDig = true := fun hx hc => by
        have := List.all_eq_true.1 hc _ (List.mem_of_getElem? hgl)
        rw [hx] at this; cases this
      refine ⟨by omega, _, by rw [Int.toNat_natCast]; exact txt_get hjl, PIf.dec (fun h => no _ rfl fun hc => nodig ?_ hc.2.2.2.1) (fun h48 => ⟨by omega, _, by rw [Int.toNat_natCast]; exact txt_get hjl, PIf.dec (fun h => no _ rfl fun hc => nodig ?_ hc.2.2.2.1) (fun h57 => ⟨by omega, _, by rw [Int.toNat_natCast]; exact txt_get hjl, _, ?_, j + 1, wrap_succ (by omega), by omega, by omega, rfl, ?_, ?_, rfl⟩)⟩)⟩
      · unfold isDig; exact decide_eq_false (by omega)
      · unfold isDig; exact decide_eq_false (by omega)
      · omega
      · rw [show j + 1 - 4 = (j - 4) + 1 by omega, List.take_add_one, hgl]
        show _ = ((digVal ((l.drop 4).take (j - 4) ++ [_]) : Nat) : Int)
        rw [digVal_snoc, wrap_i64 (x := (((l[j]).toNat : Nat) : Int)) (by unfold I64; omega), wrap_i64 (x := 10 * _) (by unfold I64; omega), wrap_i64 (x := 10 * _ + _) (by unfold I64; omega), wrap_i64 (by unfold I64; omega)]
        omega
      · rw [show j + 1 - 4 = (j - 4) + 1 by omega, List.take_add_one, hgl, List.all_append, hall]
        simp [isDig]; omega
    · obtain rfl : j = l.length := by omega
      rw [List.take_of_length_le (by simp)] at hall ⊢
      have : segNo l = some (digVal (l.drop 4)) := by unfold segNo; rw [if_pos ⟨hp, h5, h16, hall, hh⟩]
      rw [this]
      exact Ok.mk ⟨rfl, rfl⟩

theorem ref20_Name {n : Int} {w : World} (hn : I64 n) : Calls Tryz.prog F_ref20_Name #[.int .i64 n] w (Ok fun v w' => v = .string (txt (segName n)) ∧ Grew w w') := by
  refine L_ref20_Name (PIf.dec (fun h => Ok.mk ⟨by unfold segName; rw [if_pos (.inl h)]; rfl, Keep.refl _⟩) (fun h0 => PIf.dec (fun h => Ok.mk ⟨by unfold segName; rw [if_pos (.inr (by omega))]; rfl, Keep.refl _⟩) (fun h1 => ?_)))
  have hle := decDigits_le (u := n.toNat) (by omega)
  refine ⟨fun m u a k c w' => ∃ (U : Nat) (d : List UInt8) (F : Nat → Prop), u = U ∧ m = U ∧ U < 1000000000000 ∧ Lib.decDigits n.toNat = Lib.decDigits U ++ d.reverse ∧ Lst cU8 5 F w' a k c d ∧ Grew w w' ∧ ∀ b, F b → w.heap.size ≤ b,
    ⟨_, n.toNat, [], fun _ => False, by omega, rfl, by omega, by simp, Lst.nil w, Keep.refl w, fun _ h => h.elim⟩, ?_⟩
  rintro U u a k c _ w1 ⟨_, d, F, rfl, rfl, hU, hd, ho, hk, hF⟩
  have hpos : 0 < (Lib.decDigits U).length := List.length_pos_iff.2 (dec_digits U).2.2.1
  have hdl : d.length ≤ 11 := by
    have := congrArg List.length hd
    rw [List.length_append, List.length_reverse] at this
    omega
  have ex : IntKind.wrap .u8 (IntKind.wrap .i64 (48 + Int.tmod (U : Int) 10)) = (((UInt8.ofNat (48 + U % 10)).toNat : Nat) : Int) := by
    have h1 : Int.tmod (U : Int) 10 = ((U % 10 : Nat) : Int) := by rw [Int.tmod_eq_emod_of_nonneg (by omega)]; omega
    rw [h1, wrap_i64 (by unfold I64; omega), show (48 : Int) + ((U % 10 : Nat) : Int) = ((48 + U % 10 : Nat) : Int) by omega, wrap_u8, UInt8.toNat_ofNat']
  have ed : IntKind.wrap .i64 (Int.tdiv (U : Int) 10) = ((U / 10 : Nat) : Int) := by
    have h1 : Int.tdiv (U : Int) 10 = ((U / 10 : Nat) : Int) := by rw [Int.tdiv_eq_ediv_of_nonneg (by omega)]; omega
    rw [h1, wrap_i64 (by unfold I64; omega)]
  rw [ed]
  have hk' := ho.len (by decide)
  refine papp ho slU8 (x := UInt8.ofNat (48 + U % 10)) (D := fun _ => False) ⟨by rw [ex], trivial⟩ (fun _ h => h.elim) (by unfold Big; omega) (by unfold maxLen; omega) fun a2 c2 w2 F2 ho2 hk2 hF2 _ => ?_
  have k2 : Grew w w2 := hk.new hk2 fun b hb => .inr (hF b (ho.self b hb))
  have hF2' : ∀ b, F2 b → w.heap.size ≤ b := fun b hb => by
    rcases hF2 b hb with h | h | h
    · exact hF b h
    · exact h.elim
    · have := hk.size; omega
  refine ⟨_, _, _, rfl, PIf.eqI (fun hz => ?_) (fun hz => ?_)⟩
  rotate_left
  · refine ⟨U / 10, by omega, U / 10, d ++ [UInt8.ofNat (48 + U % 10)], F2, rfl, rfl, by omega, ?_, ho2, k2, hF2'⟩
    rw [hd, List.reverse_append, Lib.decDigits, dif_neg (by omega), List.append_assoc]
    rfl
  have hU10 : U < 10 := by omega
  have hdig : Lib.decDigits n.toNat = (d ++ [UInt8.ofNat (48 + U % 10)]).reverse := by
    rw [hd, List.reverse_append, Lib.decDigits, dif_pos hU10, Nat.mod_eq_of_lt hU10]
    rfl
  generalize hdd : d ++ [UInt8.ofNat (48 + U % 10)] = e at ho2 hdig
  have hel : e.length = k + 1 := by rw [← hdd]; simp; omega
  refine PRun.mk (Lib.run_convert_bytes_const w2 49 5 _ 4 4 Tryz.underlying49 Tryz.underlying5) ⟨_, _, _, rfl, ?_⟩
  have k3 : Grew w2 (w2.alloc (.cells #[.int .u8 115, .int .u8 101, .int .u8 103, .int .u8 46] 5 (4, 5))) := Keep.alloc _ _
  have g3 : (w2.alloc (.cells #[.int .u8 115, .int .u8 101, .int .u8 103, .int .u8 46] 5 (4, 5))).heap[w2.heap.size]? = some (.cells #[.int .u8 115, .int .u8 101, .int .u8 103, .int .u8 46] 5 (4, 5)) := by
    show (w2.heap.push _)[w2.heap.size]? = _
    simp
  have s3 : (w2.alloc (.cells #[.int .u8 115, .int .u8 101, .int .u8 103, .int .u8 46] 5 (4, 5))).heap.size = w2.heap.size + 1 := by
    show (w2.heap.push _).size = _
    simp
  generalize (w2.alloc (.cells #[.int .u8 115, .int .u8 101, .int .u8 103, .int .u8 46] 5 (4, 5))) = w3 at k3 g3 s3 ⊢
  have ei : IntKind.wrap .i64 (((k + 1 : Nat) : Int) - 1) = (((k + 1 : Nat) : Int) - 1) := wrap_i64 (by unfold I64; omega)
  refine ⟨fun m oa on oc i w' => ∃ q : Nat, i = (q : Int) - 1 ∧ q ≤ k + 1 ∧ m = q ∧ Grew w3 w' ∧ ((q = k + 1 ∧ oa = some ⟨w2.heap.size, 0, none⟩ ∧ on = 4 ∧ oc = 4) ∨ (q < k + 1 ∧ ∃ F : Nat → Prop, Lst cU8 5 F w' oa on oc (segPre ++ (e.drop q).reverse) ∧ ∀ b, F b → w3.heap.size ≤ b)),
    ⟨_, k + 1, ei, Nat.le_refl _, rfl, Keep.refl _, .inl ⟨rfl, rfl, rfl, rfl⟩⟩, ?_⟩
  rintro q oa on oc i _ w4 ⟨_, rfl, hq, rfl, k4, hst⟩
  have k34 : Grew w2 w4 := k3.then k4
  refine PIf.dec (fun hge => ?_) (fun hlt => ?_)
  · have hrow : Row cU8 1 w4 F2 a2 (k + 1) e := (ho2.grew k34).row (by decide) (by unfold Big; omega)
    obtain ⟨b, off, x, rfl, hx, _, hc⟩ := hrow.at1 (i := q - 1) (by omega)
    have en : Int.toNat ((q : Int) - 1) = q - 1 := by omega
    have hdrop : segPre ++ (e.drop (q - 1)).reverse = segPre ++ (e.drop q).reverse ++ [x] := by
      have hlt : q - 1 < e.length := by omega
      rw [List.drop_eq_getElem_cons hlt, List.reverse_cons, List.append_assoc, show q - 1 + 1 = q by omega]
      rw [List.getElem?_eq_getElem hlt] at hx
      cases hx
      rfl
    have ei2 : IntKind.wrap .i64 ((q : Int) - 1 - 1) = ((q - 1 : Nat) : Int) - 1 := by rw [wrap_i64 (by unfold I64; omega)]; omega
    rw [en]
    refine ⟨b, off, rfl, by omega, by omega, _, hc, ?_⟩
    rcases hst with ⟨rfl, rfl, rfl, rfl⟩ | ⟨hqk, F4, ho4, hF4⟩
    · refine PA.mk fun w5 k5 s5 g5 => ?_
      obtain ⟨i, z, hi, hz, hs, hby, hzs⟩ := SlT.info slU8
      have g45 := (k4.then k5).get g3 id
      obtain ⟨v', w6, hrun, hown, hgrow⟩ := run_append_arg_grows (P := Tryz.prog) (w := w5) 49 49 5 i z 1 1 slU8.under hi hz hs hby hzs (by decide)
        ⟨w2.heap.size, 0, none⟩ 4 4 (segPre.map fun x => Value.int .u8 (x.toNat : Int)) rfl (fun j u hj => by
          rw [Addr.add_lit, Nat.zero_add]
          refine cell_at g45 ?_
          rw [← Array.getElem?_toList]
          exact hj)
        ⟨w4.heap.size, 0, none⟩ 1 1 [.int .u8 (x.toNat : Int)] rfl (fun j u hj => by
          rw [Addr.add_lit, Nat.zero_add]
          exact cell_at g5 (by rw [← Array.getElem?_toList]; exact hj)) (by omega) (by unfold maxLen; omega) (by omega)
      have hk6 : Grew w5 w6 := (Keep.of_grownBy hgrow).mono fun _ _ h => by cases h
      have hshape : ∃ a' c', v' = .slice a' 5 c' := by
        rcases hown.2 with ⟨rfl, h0⟩ | ⟨g', cap', cur', rfl, _⟩
        · cases h0
        · exact ⟨_, _, rfl⟩
      obtain ⟨a', c', rfl⟩ := hshape
      have hblk : ∀ b, blk a' = some b → w5.heap.size ≤ b := fun b hb => by
        rcases hown.2 with ⟨_, h0⟩ | ⟨g', cap', cur', h0, hge, _⟩
        · cases h0
        · cases h0; cases hb; exact hge
      have hown' : Own w6 5 1 a' 5 c' ((segPre ++ [x]).map fun x => Value.int .u8 (x.toNat : Int)) := ⟨by
        rw [List.map_append]
        exact ⟨hown.1, hown.2.imp id fun ⟨g', cap', cur', h1, h2, h3⟩ => ⟨g', cap', cur', h1, Nat.zero_le _, h3⟩⟩⟩
      refine PRun.mk hrun ⟨_, _, _, rfl, _, ?_, k, ?_, by omega, rfl, (k4.then k5).then hk6, .inr ⟨by omega, (fun b => blk a' = some b), ?_, fun b hb => ?_⟩⟩
      · omega
      · rw [ei2]; omega
      · have h0 : e.drop (k + 1) = [] := List.drop_of_length_le (by omega)
        rw [show k + 1 - 1 = k by omega, h0] at hdrop
        rw [hdrop]
        exact Lst.u8 hown'
      · have := hblk b hb; have := (k4.then k5).size; omega
    · refine papp ho4 slU8 (x := x) (D := fun _ => False) ⟨rfl, trivial⟩ (fun _ h => h.elim) (by unfold Big; simp [segPre]; omega) (by unfold maxLen; simp [segPre]; omega) fun a5 c5 w5 F5 ho5 hk5 hF5 _ => ?_
      rw [← hdrop] at ho5
      refine ⟨_, _, _, rfl, q - 1, by omega, q - 1, ei2, by omega, rfl, k4.new hk5 fun b hb => .inr (hF4 b (ho4.self b hb)), .inr ⟨by omega, F5, ho5, fun b hb => ?_⟩⟩
      rcases hF5 b hb with h | h | h
      · exact hF4 b h
      · exact h.elim
      · have := k4.size; omega
  · obtain rfl : q = 0 := by omega
    rcases hst with ⟨h0, -⟩ | ⟨_, F4, ho4, hF4⟩
    · omega
    · rw [List.drop_zero, ← hdig, ← segName_yes (by omega) (by omega)] at ho4
      have := segName_length n
      exact conv_txt Tryz.underlying49 Tryz.underlying5 Tryz.underlying9 ho4 (by omega) ⟨_, rfl, Ok.mk ⟨rfl, k2.then k34⟩⟩

end Go.Proofs.YtpbpjojdfcdbbaaGreatDoor

/- what is done: an act at a time -/
namespace Go.Proofs.YtpbpjojdfcdbbaaGreatDoor
open Go.Lift Go.ChangeShapes Go.WideShapes Go.ChangeAt Go.RowKit
set_option linter.unusedVariables false
set_option maxRecDepth 20000

structure ActV where
  kind : Int
  n : Int
  name : ByteArray
  to : ByteArray
  b : List UInt8

end Go.Proofs.YtpbpjojdfcdbbaaGreatDoor

/- quaysideref19: how its disk lies: the files by rising names, each with its own bytes -/
namespace Go.Proofs.YtpbpjojdfcdbbaaGreatDoor
open Go.Lift
set_option linter.unusedVariables false
set_option maxRecDepth 20000

structure RBox where
  a : Option Addr
  n : Nat
  c : Nat
  F : Nat → Prop
  f : FileV

abbrev RB := ByteArray × RBox
def encB (x : RB) : List Value := [.string x.1, .slice x.2.a x.2.n x.2.c, .int .i64 x.2.f.synced, .bool x.2.f.good]
def cBox : Cod RB := flat 4 encB (fun _ => True) (fun _ => rfl) (fun x u hu => by
  simp only [encB, List.mem_cons, List.not_mem_nil, or_false] at hu
  rcases hu with rfl | rfl | rfl | rfl <;> rfl)
def rF (x : RB) : ByteArray × FileV := (x.1, x.2.f)
abbrev ltK (a b : ByteArray) : Prop := a.data.toList < b.data.toList
theorem ltK_irrefl (a : ByteArray) : ¬ ltK a a := List.lt_irrefl _
theorem ltK_trans {a b c : ByteArray} (h : ltK a b) (k : ltK b c) : ltK a c := List.lt_trans h k
theorem ltK_tri {a b : ByteArray} (h : ¬ ltK a b) (k : ¬ ltK b a) : a = b := ByteArray.ext (Array.toList_inj.1 (List.le_antisymm (List.not_lt.1 k) (List.not_lt.1 h)))
theorem ltK_ne {a b : ByteArray} (h : ltK a b) : a ≠ b := fun e => ltK_irrefl b (e ▸ h)
theorem bytesLess_ltK (a b : ByteArray) : Op.bytesLess (ByteArray.toList a) (ByteArray.toList b) = decide (ltK a b) := by
  rw [bytesLess_eq, ByteArray.toList_eq, ByteArray.toList_eq]

theorem slFile : SlT Tryz.prog 141 151 cBox.k 56 := ⟨by kernel_rfl, by kernel_rfl, by decide⟩

def rleft (D : DiskV) : Int := if D.fused then D.left else -1

/-- what is asked of a disk's value -/
structure DiskV.Fit (D : DiskV) : Prop where
  most : D.most ≤ 262144
  fits : D.used ≤ D.most
  many : D.files.length ≤ 64
  tidy : Tidy D.files
  syn : ∀ x ∈ D.files, x.2.synced ≤ x.2.bytes.length
theorem DiskV.Ok.fit {D : DiskV} (h : D.Ok) : D.Fit := ⟨h.most, h.fits, h.many, h.tidy, h.syn⟩
theorem DiskV.Fit.of {D E : DiskV} (h : D.Fit) (hm : E.most = D.most) (hf : E.files = D.files) : E.Fit := ⟨by rw [hm]; exact h.most, by unfold DiskV.used; rw [hf, hm]; exact h.fits, by rw [hf]; exact h.many, by rw [hf]; exact h.tidy, by rw [hf]; exact h.syn⟩
theorem DiskV.Fit.armed {D : DiskV} (h : D.Fit) : D.armed.Fit := h.of (armed_most D) (armed_files D)
theorem DiskV.Fit.len {D : DiskV} (h : D.Fit) {x : ByteArray × FileV} (hx : x ∈ D.files) : x.2.bytes.length ≤ 262144 := by
  have := sumLen_mem hx; have := h.fits; have := h.most; unfold DiskV.used at *; omega

structure RefL (w : World) (p : Nat) (F : Nat → Prop) (D : DiskV) (a : Option Addr) (n cap : Nat) (L : List RB) : Prop where
  head : w.heap[p]? = some (.cells #[.int .i64 D.most, .int .i64 (rleft D), .slice a n cap, .bool D.dead] 143 (0, 0))
  lst : Lst cBox 151 (fun b => blk a = some b) w a n cap L
  each : ∀ x ∈ L, Lst cU8 5 x.2.F w x.2.a x.2.n x.2.c x.2.f.bytes
  apart : ∀ x ∈ L, ∀ y ∈ L, x.1 ≠ y.1 → ∀ b, x.2.F b → ¬ y.2.F b
  inF : ∀ x ∈ L, ∀ b, x.2.F b → F b ∧ b ≠ p ∧ blk a ≠ some b
  Fa : ∀ b, blk a = some b → F b ∧ b ≠ p
  sorted : L.Pairwise fun x y => ltK x.1 y.1
  same : ∀ q, q ∈ L.map rF ↔ q ∈ D.files
  self : F p
  dom : ∀ b, F b → b < w.heap.size

def RefAt (w : World) (p : Nat) (F : Nat → Prop) (D : DiskV) : Prop := ∃ a n cap L, RefL w p F D a n cap L

section
variable {w w' : World} {p : Nat} {F S : Nat → Prop} {D : DiskV} {a : Option Addr} {n cap : Nat} {L : List RB}
theorem RefL.keep (h : RefL w p F D a n cap L) (hk : Keep S w w') (hd : ∀ b, F b → ¬ S b) : RefL w' p F D a n cap L :=
  ⟨hk.get h.head (hd _ h.self), h.lst.keep hk (fun b hb => hd b (h.Fa b hb).1), fun x hx => (h.each x hx).keep hk (fun b hb => hd b (h.inF x hx b hb).1), h.apart, h.inF, h.Fa, h.sorted, h.same, h.self, fun b hb => Nat.lt_of_lt_of_le (h.dom b hb) hk.size⟩
theorem RefL.grew (h : RefL w p F D a n cap L) (hk : Grew w w') : RefL w' p F D a n cap L := h.keep hk fun _ _ h => h
theorem RefAt.keep (h : RefAt w p F D) (hk : Keep S w w') (hd : ∀ b, F b → ¬ S b) : RefAt w' p F D := by
  obtain ⟨a, n, cap, L, h⟩ := h; exact ⟨a, n, cap, L, h.keep hk hd⟩
theorem RefAt.grew (h : RefAt w p F D) (hk : Grew w w') : RefAt w' p F D := h.keep hk fun _ _ h => h
theorem RefAt.dom (h : RefAt w p F D) : ∀ b, F b → b < w.heap.size := by obtain ⟨a, n, cap, L, h⟩ := h; exact h.dom

theorem nodup_of_sorted {L : List RB} (h : L.Pairwise fun x y => ltK x.1 y.1) : Tidy L := List.pairwise_map.2 (h.imp fun hlt => ltK_ne hlt)
theorem RefL.tidy (h : RefL w p F D a n cap L) : Tidy L := nodup_of_sorted h.sorted
theorem tidy_nodup {β : Type} {l : List (ByteArray × β)} (h : Tidy l) : l.Nodup := by
  unfold Tidy at h
  exact List.Pairwise.of_map (·.1) (fun a b hne e => hne (congrArg Prod.fst e)) h
theorem rF_tidy (h : Tidy L) : Tidy (L.map rF) := by
  unfold Tidy at h ⊢
  rw [List.map_map]; exact h
theorem RefL.perm (h : RefL w p F D a n cap L) (hf : D.Fit) : (L.map rF).Perm D.files :=
  (List.perm_ext_iff_of_nodup (tidy_nodup (rF_tidy h.tidy)) (tidy_nodup hf.tidy)).2 h.same
theorem RefL.length (h : RefL w p F D a n cap L) (hf : D.Fit) : L.length = D.files.length := by have := (h.perm hf).length_eq; simpa using this
theorem RefL.n_eq (h : RefL w p F D a n cap L) : n = L.length := h.lst.len (by decide)
theorem RefL.file (h : RefL w p F D a n cap L) {x : RB} (hx : x ∈ L) : (x.1, x.2.f) ∈ D.files := (h.same _).1 (List.mem_map.2 ⟨x, hx, rfl⟩)
theorem RefL.get (h : RefL w p F D a n cap L) (hf : D.Fit) {k : ByteArray} {x : RBox} (hx : (k, x) ∈ L) : aget D.files k = some x.f := mem_aget hf.tidy (h.file hx)
theorem RefL.nof (h : RefL w p F D a n cap L) {k : ByteArray} (hk : ∀ x ∈ L, x.1 ≠ k) : aget D.files k = none := by
  cases e : aget D.files k with
  | none => rfl
  | some f =>
    obtain ⟨x, hx, he⟩ := List.mem_map.1 ((h.same _).2 (aget_mem e))
    exact absurd (congrArg Prod.fst he) (hk x hx)
theorem RefL.len (h : RefL w p F D a n cap L) (hf : D.Fit) {x : RB} (hx : x ∈ L) : x.2.n = x.2.f.bytes.length ∧ x.2.f.bytes.length ≤ 262144 ∧ x.2.f.synced ≤ x.2.f.bytes.length :=
  ⟨(h.each x hx).len (by decide), hf.len (h.file hx), hf.syn _ (h.file hx)⟩
theorem RefL.bytes (h : RefL w p F D a n cap L) (hf : D.Fit) {x : RB} (hx : x ∈ L) : Row cU8 1 w x.2.F x.2.a x.2.n x.2.f.bytes := (h.each x hx).row (by decide) (by have := (h.len hf hx).2.1; unfold Big; omega)

theorem RefL.at (h : RefL w p F D a n cap L) (hf : D.Fit) {i : Nat} (hi : i < n) : ∃ b off x, a = some ⟨b, off, none⟩ ∧ L[i]? = some x ∧ x ∈ L ∧ w.cell? ⟨b, off + i * 4, none⟩ = some (.string x.1) ∧ w.cell? ⟨b, off + i * 4 + 1, none⟩ = some (.slice x.2.a x.2.n x.2.c) ∧
    w.cell? ⟨b, off + i * 4 + 2, none⟩ = some (.int .i64 x.2.f.synced) ∧ w.cell? ⟨b, off + i * 4 + 3, none⟩ = some (.bool x.2.f.good) := by
  have hl := h.length hf; have hm := hf.many
  obtain ⟨b, off, x, es, ha, hb, hD, hx, hc, rfl, -⟩ := (h.lst.row (bytes := 56) (by decide) (by unfold Big; omega)).atN hi
  exact ⟨b, off, x, ha, hx, List.mem_of_getElem? hx, hc 0 (by decide), hc 1 (by decide), hc 2 (by decide), hc 3 (by decide)⟩

/-- the disk's own cells -/
theorem RefL.remake {w1 : World} {D' : DiskV} (h : RefL w p F D a n cap L) (hk : Keep (· = p) w w1)
    (hp : w1.heap[p]? = some (.cells #[.int .i64 D'.most, .int .i64 (rleft D'), .slice a n cap, .bool D'.dead] 143 (0, 0))) (hf : D'.files = D.files) : RefL w1 p F D' a n cap L :=
  ⟨hp, h.lst.keep hk (fun b hb => (h.Fa b hb).2), fun x hx => (h.each x hx).keep hk (fun b hb => (h.inF x hx b hb).2.1), h.apart, h.inF, h.Fa, h.sorted, by rw [hf]; exact h.same, h.self, fun b hb => Nat.lt_of_lt_of_le (h.dom b hb) hk.size⟩

theorem ref_dies (h : RefAt w p F D) (h0 : 0 ≤ D.left) (hR : I64 D.left) :
    Calls Tryz.prog F_ref19_Disk_dies #[.pointer (some ⟨p, 0, none⟩)] w (Ok fun v w' => v = .bool D.dies ∧ RefAt w' p F (if D.dies then D.gone else D.armed) ∧ Keep F w w') := by
  obtain ⟨a, n, cap, L, h⟩ := h
  have hF : ∀ {w1}, Keep (· = p) w w1 → Keep F w w1 := fun k => k.mono fun b _ hb => hb ▸ h.self
  refine L_ref19_Disk_dies ⟨p, 0, rfl, D.dead, cell_at h.head rfl, PIf.mk (fun hd => Ok.mk ?_) (fun hd => ⟨p, 0, rfl, rleft D, cell_at h.head rfl, PIf.eqI (fun hl => ⟨p, 0, rfl, PS.mk h.head (by simp) fun w1 k1 s1 g1 => Ok.mk ?_⟩) (fun hl => ⟨p, 0, rfl, rleft D, cell_at h.head rfl, PIf.dec (fun hpos => ?_) (fun hneg => Ok.mk ?_)⟩)⟩)⟩
  · have e : D.dies = true := by unfold DiskV.dies; rw [hd]; rfl
    rw [e, if_pos rfl]
    refine ⟨rfl, ⟨a, n, cap, L, ?_⟩, Keep.refl _⟩
    have : D.gone = D := by unfold DiskV.gone; rw [← hd]
    rw [this]; exact h
  · have e : D.dies = true := by
      unfold rleft at hl
      split at hl
      · rename_i hfu; unfold DiskV.dies; rw [hfu, hl]; simp
      · cases hl
    rw [e, if_pos rfl]
    exact ⟨rfl, ⟨a, n, cap, L, h.remake k1 g1 rfl⟩, hF k1⟩
  · have hfu : D.fused = true := by
      unfold rleft at hpos
      split at hpos
      · assumption
      · omega
    have hlf : rleft D = D.left := by unfold rleft; rw [if_pos hfu]
    rw [hlf] at hpos hl
    have e : D.dies = false := by unfold DiskV.dies; rw [hd, hfu]; simp; omega
    refine ⟨p, 0, rfl, D.left, (by rw [← hlf]; exact cell_at h.head rfl), p, 0, rfl, PS.mk h.head (by simp) fun w1 k1 s1 g1 => Ok.mk ?_⟩
    rw [e, if_neg (by simp)]
    refine ⟨rfl, ⟨a, n, cap, L, h.remake k1 ?_ (armed_files D)⟩, hF k1⟩
    rw [g1, wrap_i64 (by unfold I64 at *; omega)]
    have : D.armed = { D with left := D.left - 1 } := by unfold DiskV.armed; rw [if_pos hfu]
    rw [this]
    simp [rleft, hfu]
  · have hfu : D.fused = false := by
      by_cases hfu : D.fused = true
      · unfold rleft at hl hneg; rw [if_pos hfu] at hl hneg; omega
      · simpa using hfu
    have e : D.dies = false := by unfold DiskV.dies; rw [hd, hfu]; rfl
    rw [e, if_neg (by simp)]
    have : D.armed = D := by unfold DiskV.armed; rw [hfu]; simp
    rw [this]
    exact ⟨rfl, ⟨a, n, cap, L, h⟩, Keep.refl _⟩

theorem ref_Fuse {m : Int} (h : RefAt w p F D) : Calls Tryz.prog F_ref19_Disk_Fuse #[.pointer (some ⟨p, 0, none⟩), .int .i64 m] w (Ok fun v w' => v = .tuple #[] ∧ RefAt w' p F (D.fuse m) ∧ Keep F w w') := by
  obtain ⟨a, n, cap, L, h⟩ := h
  have e : (if m > 0 then m else 0) = max m 0 := by omega
  refine L_ref19_Disk_Fuse ⟨p, 0, rfl, PS.mk h.head (by simp) fun w1 k1 s1 g1 => Ok.mk ⟨rfl, ⟨a, n, cap, L, h.remake k1 ?_ rfl⟩, k1.mono fun b _ hb => hb ▸ h.self⟩⟩
  rw [g1, e]; rfl

theorem ref_at (h : RefL w p F D a n cap L) (hf : D.Fit) {k : ByteArray} : Calls Tryz.prog F_ref19_Disk_at #[.pointer (some ⟨p, 0, none⟩), .string k] w (Ok fun v w' => w = w' ∧ ∃ i : Int, v = .int .i64 i ∧ ((i < 0 ∧ ∀ x ∈ L, x.1 ≠ k) ∨ ∃ (j : Nat) (x : RBox), i = j ∧ j < n ∧ L[j]? = some (k, x))) := by
  have hn := h.n_eq; have hl := h.length hf; have hm := hf.many
  refine L_ref19_Disk_at ⟨fun m i w' => ∃ j : Nat, i = j ∧ j ≤ n ∧ m = n - j ∧ w' = w ∧ ∀ x ∈ L.take j, x.1 ≠ k, ⟨_, 0, rfl, Nat.zero_le _, rfl, rfl, by simp⟩, ?_⟩
  rintro m i B _ ⟨j, rfl, hj, rfl, rfl, hs⟩
  refine ⟨p, 0, rfl, a, n, cap, cell_at h.head rfl, PIf.dec (fun h1 => ?_) (fun h1 => ?_)⟩
  · obtain ⟨b, off, x, rfl, hx, hxm, c0, c1, c2, c3⟩ := h.at hf (i := j) (by omega)
    refine ⟨p, 0, rfl, _, n, cap, cell_at h.head rfl, b, off, rfl, by omega, by omega, x.1, c0, PIf.eqS (fun he => Ok.mk ⟨rfl, _, rfl, .inr ⟨j, x.2, rfl, by omega, by rw [hx, ← he]⟩⟩) (fun hne => ⟨_, by omega, j + 1, wrap_succ (by omega), by omega, rfl, rfl, ?_⟩)⟩
    intro y hy
    rw [List.take_add_one, hx] at hy
    simp only [Option.toList_some, List.mem_append, List.mem_singleton] at hy
    rcases hy with hy | rfl
    · exact hs y hy
    · exact hne
  · rw [List.take_of_length_le (by omega)] at hs
    exact Ok.mk ⟨rfl, -1, rfl, .inl ⟨by omega, hs⟩⟩

theorem okByte_nat (b : UInt8) : okByte b = decide ((97 ≤ b.toNat ∧ b.toNat ≤ 122) ∨ (48 ≤ b.toNat ∧ b.toNat ≤ 57) ∨ b.toNat = 46) := by
  have h : (List.range 256).all (fun n => okByte (UInt8.ofNat n) == decide ((97 ≤ (UInt8.ofNat n).toNat ∧ (UInt8.ofNat n).toNat ≤ 122) ∨ (48 ≤ (UInt8.ofNat n).toNat ∧ (UInt8.ofNat n).toNat ≤ 57) ∨ (UInt8.ofNat n).toNat = 46)) = true := by decide +kernel
  have := List.all_eq_true.1 h b.toNat (List.mem_range.2 b.toNat_lt)
  simpa using this

theorem ref_isName {s : ByteArray} (hs : s.size ≤ 1000000) : Calls Tryz.prog F_ref19_isName #[.string s] w (Ok fun v w' => v = .bool (isNameV s) ∧ w = w') := by
  refine L_ref19_isName ⟨fun m i w' => ∃ j : Nat, i = j ∧ j ≤ s.size ∧ m = s.size - j ∧ w = w' ∧ ∀ b ∈ s.data.toList.take j, okByte b = true, ⟨_, 0, rfl, Nat.zero_le _, rfl, rfl, by simp⟩, ?_⟩
  rintro m i B _ ⟨j, rfl, hj, rfl, rfl, hall⟩
  refine PIf.dec (fun h1 => ?_) (fun h1 => ?_)
  · have hjs : j < s.size := by omega
    have hgl : s.data.toList[j]? = some (s[j]'hjs) := by
      rw [List.getElem?_eq_getElem (by simpa using hjs)]
      simp; rfl
    have hok := okByte_nat (s[j]'hjs)
    have no : okByte (s[j]'hjs) = false → Ok (fun v w' => v = .bool (isNameV s) ∧ w = w') (.returned (.bool false)) w := fun hf => by
      have : s.data.toList.all okByte = false := List.all_eq_false.2 ⟨_, List.mem_of_getElem? hgl, by simp [hf]⟩
      refine Ok.mk ⟨?_, rfl⟩
      unfold isNameV
      rw [this, Bool.and_false]
    have go : okByte (s[j]'hjs) = true → ∃ m4, m4 < s.size - j ∧ ∃ j' : Nat, IntKind.wrap .i64 ((j : Int) + 1) = j' ∧ j' ≤ s.size ∧ m4 = s.size - j' ∧ w = w ∧ ∀ b ∈ s.data.toList.take j', okByte b = true := fun ht =>
      ⟨_, by omega, j + 1, wrap_succ (by omega), by omega, rfl, rfl, fun b hb => by
        rw [List.take_add_one, hgl] at hb
        rcases List.mem_append.1 hb with hb | hb
        · exact hall b hb
        · simp at hb; rw [hb]; exact ht⟩
    refine ⟨by omega, _, getElem_str hjs, PIf.neI (fun e1 => PIf.dec (fun e2 => PIf.dec (fun e3 => no ?_) (fun e3 => PIf.dec (fun e4 => no ?_) (fun e4 => go ?_))) (fun e2 => PIf.dec (fun e5 => PIf.dec (fun e3 => no ?_) (fun e3 => PIf.dec (fun e4 => no ?_) (fun e4 => go ?_))) (fun e5 => go ?_))) (fun e1 => go ?_)⟩
    all_goals
      rw [hok]
      first
      | exact decide_eq_true (by omega)
      | exact decide_eq_false (by omega)
  · rw [List.take_of_length_le (by have : s.data.toList.length = s.size := by simp
                                   omega)] at hall
    have hall' : s.data.toList.all okByte = true := List.all_eq_true.2 hall
    refine PIf.dec (fun h2 => Ok.mk ⟨?_, rfl⟩) (fun h2 => Ok.mk ⟨?_, rfl⟩)
    · unfold isNameV
      rw [hall', decide_eq_true (show 1 ≤ s.size by omega)]
      simp
      omega
    · unfold isNameV
      rw [decide_eq_false (show ¬ 1 ≤ s.size by omega)]
      simp
end
end Go.Proofs.YtpbpjojdfcdbbaaGreatDoor

/- quaysideref19: what is read, and what turns one file -/
namespace Go.Proofs.YtpbpjojdfcdbbaaGreatDoor
open Go.Lift
set_option linter.unusedVariables false
set_option maxRecDepth 20000

theorem aput_set {β : Type} {k : ByteArray} {u v : β} : ∀ {l : List (ByteArray × β)} {i : Nat}, Tidy l → l[i]? = some (k, u) → l.set i (k, v) = aput l k v
  | [], i, _, h => by simp at h
  | y :: ys, 0, ht, h => by
    simp at h; subst h
    simp [aput]
  | y :: ys, i + 1, ht, h => by
    unfold Tidy at ht
    simp only [List.map_cons, List.nodup_cons] at ht
    have hi : ys[i]? = some (k, u) := by simpa using h
    have hne : (k == y.1) = false := beq_false_of_ne fun e => ht.1 (e ▸ List.mem_map.2 ⟨(k, u), List.mem_of_getElem? hi, rfl⟩)
    obtain ⟨y1, y2⟩ := y
    simp only [aput, List.set_cons_succ]
    rw [if_neg (by simpa using hne), aput_set ht.2 hi]

theorem mem_aput2 {β : Type} {l : List (ByteArray × β)} (ht : Tidy l) {k : ByteArray} {v : β} {q : ByteArray × β} : q ∈ aput l k v ↔ q = (k, v) ∨ (q ∈ l ∧ q.1 ≠ k) := by
  refine ⟨mem_aput_iff ht, fun h => ?_⟩
  rcases h with rfl | ⟨h1, h2⟩
  · exact aget_mem (by rw [aget_aput]; simp)
  · have := mem_aget ht (k := q.1) (v := q.2) h1
    exact aget_mem (k := q.1) (v := q.2) (by rw [aget_aput, if_neg (by simpa using h2)]; exact this)
theorem mem_adel2 {β : Type} {l : List (ByteArray × β)} (ht : Tidy l) {k : ByteArray} {q : ByteArray × β} : q ∈ adel l k ↔ (q ∈ l ∧ q.1 ≠ k) := by
  refine ⟨mem_adel_iff ht, fun ⟨h1, h2⟩ => ?_⟩
  have := mem_aget ht (k := q.1) (v := q.2) h1
  exact aget_mem (k := q.1) (v := q.2) (by rw [aget_adel ht, if_neg (by simpa using h2)]; exact this)

theorem keys_set {β : Type} {k : ByteArray} {u v : β} {l : List (ByteArray × β)} {i : Nat} (h : l[i]? = some (k, u)) : (l.set i (k, v)).map (·.1) = l.map (·.1) := by
  apply List.ext_getElem?
  intro j
  rw [List.getElem?_map, List.getElem?_map, List.getElem?_set]
  split
  · rename_i e; subst e
    have := (List.getElem?_eq_some_iff.1 h).1
    rw [if_pos this, h]; rfl
  · rfl

section
variable {w w' : World} {p : Nat} {F S : Nat → Prop} {D : DiskV} {a : Option Addr} {n cap : Nat} {L : List RB}

theorem RefL.turn (h : RefL w p F D a n cap L) (hf : D.Fit) {i : Nat} {k : ByteArray} {x x' : RBox} (hx : L[i]? = some (k, x)) (hl : Lst cBox 151 (fun b => blk a = some b) w' a n cap (L.set i (k, x')))
    (hk : Keep (fun b => x.F b ∨ blk a = some b) w w') (hb : Lst cU8 5 x'.F w' x'.a x'.n x'.c x'.f.bytes) (hn : ∀ b, x'.F b → x.F b ∨ w.heap.size ≤ b) : ∃ F', RefL w' p F' (D.setF k x'.f) a n cap (L.set i (k, x')) ∧ Evo F w F' w' := by
  have hm := List.mem_of_getElem? hx
  have hin := h.inF _ hm
  have e : L.set i (k, x') = aput L k x' := aput_set h.tidy hx
  have hmem : ∀ y ∈ L.set i (k, x'), y = (k, x') ∨ (y ∈ L ∧ y.1 ≠ k) := fun y hy => by rw [e] at hy; exact mem_aput_iff h.tidy hy
  have hpl := lt_of_get h.head
  refine ⟨fun b => F b ∨ (w.heap.size ≤ b ∧ b < w'.heap.size), ⟨hk.get h.head fun hb => hb.elim (fun h1 => (hin _ h1).2.1 rfl) fun h1 => (h.Fa _ h1).2 rfl, hl, ?_, ?_, ?_, fun b hb => ⟨.inl (h.Fa b hb).1, (h.Fa b hb).2⟩, ?_, ?_, .inl h.self, ?_⟩,
    hk.mono fun b _ hb => hb.elim (fun h1 => (hin b h1).1) fun h1 => (h.Fa b h1).1, fun b hb => hb.imp id (·.1)⟩
  · intro y hy
    rcases hmem y hy with rfl | ⟨hy, hne⟩
    · exact hb
    · exact (h.each y hy).keep hk fun b hb hc => hc.elim (fun h1 => h.apart y hy _ hm hne b hb h1) fun h1 => (h.inF y hy b hb).2.2 h1
  · intro y hy z hz hyz b hby hbz
    rcases hmem y hy with rfl | ⟨hy, hne⟩ <;> rcases hmem z hz with rfl | ⟨hz, hne2⟩
    · exact hyz rfl
    · rcases hn b hby with h1 | h1
      · exact h.apart _ hm z hz hyz b h1 hbz
      · have := (h.each z hz).dom b hbz; omega
    · rcases hn b hbz with h1 | h1
      · exact h.apart y hy _ hm hyz b hby h1
      · have := (h.each y hy).dom b hby; omega
    · exact h.apart y hy z hz hyz b hby hbz
  · intro y hy b hby
    rcases hmem y hy with rfl | ⟨hy, hne⟩
    · rcases hn b hby with h1 | h1
      · exact ⟨.inl (hin b h1).1, (hin b h1).2⟩
      · exact ⟨.inr ⟨h1, hb.dom b hby⟩, by omega, fun h2 => by have := h.dom b (h.Fa b h2).1; omega⟩
    · exact ⟨.inl (h.inF y hy b hby).1, (h.inF y hy b hby).2⟩
  · have hs : (L.map (·.1)).Pairwise ltK := List.pairwise_map.2 h.sorted
    rw [← keys_set hx (v := x')] at hs
    exact List.pairwise_map.1 hs
  · intro q
    have e1 : (aput L k x').map rF = aput (L.map rF) k x'.f := map_aput (fun x : RBox => x.f) L k x'
    rw [e, e1, mem_aput2 (rF_tidy h.tidy), h.same]
    exact (mem_aput2 hf.tidy).symm
  · rintro b (hb | hb)
    · exact Nat.lt_of_lt_of_le (h.dom b hb) hk.size
    · exact hb.2

def sumR (l : List RB) : Nat := (l.map fun x => x.2.f.bytes.length).sum
theorem RefL.used (h : RefL w p F D a n cap L) (hf : D.Fit) : sumR L = D.used := by
  have := ((h.perm hf).map fun x => x.2.bytes.length).sum_nat
  rw [List.map_map] at this
  exact this
theorem sumR_take (l : List RB) (j : Nat) : sumR (l.take j) ≤ sumR l := by
  have : sumR l = sumR (l.take j) + sumR (l.drop j) := by
    unfold sumR
    rw [← List.sum_append, ← List.map_append, List.take_append_drop]
  omega

theorem ref_Room (h : RefAt w p F D) (hf : D.Fit) : Calls Tryz.prog F_ref19_Disk_Room #[.pointer (some ⟨p, 0, none⟩)] w (Ok fun v w' => v = .int .i64 D.room ∧ w = w') := by
  obtain ⟨a, n, cap, L, h⟩ := h
  have hn := h.n_eq; have hl := h.length hf; have hm := hf.many; have hu := h.used hf; have hft := hf.fits; have hmo := hf.most
  refine L_ref19_Disk_Room ⟨p, 0, rfl, _, cell_at h.head rfl, fun m r i w' => ∃ j : Nat, i = j ∧ j ≤ n ∧ m = n - j ∧ w' = w ∧ r = (D.most : Int) - sumR (L.take j), ⟨_, 0, rfl, Nat.zero_le _, rfl, rfl, by simp [sumR]⟩, ?_⟩
  rintro m r i B _ ⟨j, rfl, hj, rfl, rfl, rfl⟩
  refine ⟨p, 0, rfl, a, n, cap, cell_at h.head rfl, PIf.dec (fun h1 => ?_) (fun h1 => ?_)⟩
  · obtain ⟨b, off, x, rfl, hx, hxm, c0, c1, c2, c3⟩ := h.at hf (i := j) (by omega)
    obtain ⟨l1, l2, l3⟩ := h.len hf hxm
    have ht := sumR_take L (j + 1)
    have hs : sumR (L.take (j + 1)) = sumR (L.take j) + x.2.f.bytes.length := by
      rw [List.take_add_one, hx]
      simp [sumR]
    refine ⟨p, 0, rfl, _, n, cap, cell_at h.head rfl, b, off, rfl, by omega, by omega, _, _, _, c1, _, ?_, j + 1, wrap_succ (by omega), by omega, rfl, rfl, ?_⟩
    · omega
    · rw [wrap_i64 (by unfold I64; omega), hs, l1]; omega
  · rw [List.take_of_length_le (by omega)]
    refine Ok.mk ⟨?_, rfl⟩
    rw [hu]; rfl

theorem RefL.list (h : RefL w p F D a n cap L) (hf : D.Fit) : D.list = L.map (·.1) := by
  have hp : ((D.files.map (·.1)).map fun x => x.data.toList).Perm ((L.map (·.1)).map fun x => x.data.toList) := by
    have := (((h.perm hf).map (·.1)).map fun x => x.data.toList).symm
    rw [List.map_map (f := rF)] at this
    exact this
  have hs : ((L.map (·.1)).map fun x => x.data.toList).Pairwise fun x y => decide (x ≤ y) = true := by
    rw [List.map_map]
    exact List.pairwise_map.2 (h.sorted.imp fun hlt => decide_eq_true (List.le_of_lt hlt))
  have h1 : (sortS (D.files.map (·.1))).map (fun x => x.data.toList) = (L.map (·.1)).map fun x => x.data.toList := by
    rw [sortS_map]
    exact (Go.mergeSort_of_perm hp).trans (List.mergeSort_of_pairwise hs)
  exact (List.map_inj_right (fun x y he => ByteArray.ext (Array.toList_inj.1 he))).1 h1

theorem ref_List (h : RefAt w p F D) (hf : D.Fit) : Calls Tryz.prog F_ref19_Disk_List #[.pointer (some ⟨p, 0, none⟩)] w (Ok (New cStr 9 w D.list)) := by
  obtain ⟨a, n, cap, L, h⟩ := h
  have hn := h.n_eq; have hl := h.length hf; have hm := hf.many
  rw [h.list hf]
  refine L_ref19_Disk_List ⟨fun m oa on oc i w' => i = (on : Int) ∧ on ≤ n ∧ m = n - on ∧ ∃ G, Lst cStr 9 G w' oa on oc ((L.take on).map (·.1)) ∧ Grew w w' ∧ ∀ b, G b → w.heap.size ≤ b,
    ⟨_, rfl, Nat.zero_le _, rfl, fun _ => False, by simpa using Lst.nil w, Keep.refl _, fun _ h => h.elim⟩, ?_⟩
  rintro m oa on oc i _ w1 ⟨rfl, hj, rfl, G, ho, hk, hG⟩
  have h1 := h.grew hk
  refine ⟨p, 0, rfl, a, n, cap, cell_at h1.head rfl, PIf.dec (fun hlt => ?_) (fun hge => ?_)⟩
  · obtain ⟨b, off, x, rfl, hx, hxm, c0, c1, c2, c3⟩ := h1.at hf (i := on) (by omega)
    have htl : ((L.take on).map (·.1)).length = on := by simp; omega
    refine ⟨p, 0, rfl, _, n, cap, cell_at h1.head rfl, b, off, rfl, by omega, by omega, x.1, c0, papp ho slStr (x := x.1) (D := fun _ => False) ⟨rfl, trivial⟩ (fun _ h => h.elim) (by rw [htl]; unfold Big; omega) (by rw [htl]; unfold maxLen; omega) fun a' c' w3 F' ho3 hk3 hF3 _ => ?_⟩
    refine ⟨_, _, _, rfl, n - (on + 1), by omega, wrap_succ (by omega), by omega, rfl, F', ?_, hk.new hk3 fun b hb => .inr (hG b (ho.self b hb)), ?_⟩
    · rw [List.take_add_one, hx]
      simpa using ho3
    · intro b hb
      rcases hF3 b hb with h | h | h
      · exact hG b h
      · exact h.elim
      · exact Nat.le_trans hk.size h
  · obtain rfl : on = n := by omega
    rw [List.take_of_length_le (by omega)] at ho
    exact Ok.mk ⟨_, _, _, G, rfl, ho, hk, hG⟩

theorem ref_Read (h : RefAt w p F D) (hf : D.Fit) {k : ByteArray} : Calls Tryz.prog F_ref19_Disk_Read #[.pointer (some ⟨p, 0, none⟩), .string k] w (Ok fun v w' => ∃ u, v = .tuple #[u, .int .i64 (D.read k).2] ∧ New cU8 5 w (D.read k).1 u w') := by
  obtain ⟨a, n, cap, L, h⟩ := h
  have none' : New cU8 5 w [] (.slice none 0 0) w := ⟨none, 0, 0, fun _ => False, rfl, Lst.nil w, Keep.refl _, fun _ h => h.elim⟩
  refine L_ref19_Disk_Read ⟨p, 0, rfl, D.dead, cell_at h.head rfl, PIf.mk (fun hd => Ok.mk ?_) (fun hd => PC.ok (ref_at h hf) ?_)⟩
  · unfold DiskV.read; rw [hd, if_pos rfl]; exact ⟨_, rfl, none'⟩
  · rintro _ _ ⟨rfl, i, rfl, hi | ⟨j, x, rfl, hj, hx⟩⟩
    · refine ⟨_, rfl, PIf.tt (decide_eq_true hi.1) (Ok.mk ?_)⟩
      unfold DiskV.read; rw [hd, if_neg (by simp), h.nof hi.2]; exact ⟨_, rfl, none'⟩
    · obtain ⟨b, off, y, rfl, hy, hym, c0, c1, c2, c3⟩ := h.at hf hj
      rw [hx] at hy; cases hy
      refine ⟨_, rfl, PIf.ff (decide_eq_false (by omega)) ⟨p, 0, rfl, _, n, cap, cell_at h.head rfl, b, off, rfl, by omega, by omega, _, _, _, c1, PC.ok (kit_CopyBytes (h.bytes hf hym)) ?_⟩⟩
      rintro _ w1 ⟨a1, n1, c1', F1, rfl, ho1, hk1, hF1⟩
      unfold DiskV.read
      rw [hd, if_neg (by simp), h.get hf hym]
      exact ⟨_, _, _, rfl, Ok.mk ⟨_, rfl, a1, n1, c1', F1, rfl, ho1, hk1, hF1⟩⟩

/-- what a call that writes hands back -/
def RDid (w : World) (p : Nat) (F : Nat → Prop) (r : Int × DiskV) (v : Value) (w' : World) : Prop := ∃ F', v = .int .i64 r.1 ∧ RefAt w' p F' r.2 ∧ Evo F w F' w'

/-- the head of a call that writes -/
theorem ref_op {g : FuncId} {args : Array Value} {body : DiskV → Int × DiskV} {v : Value} {w1 : World} (hd : D.dies = true) (h1 : RefAt w1 p F (if D.dies then D.gone else D.armed)) (hk : Keep F w w1) : RDid w p F (D.op body) (.int .i64 15) w1 := by
  unfold DiskV.op
  rw [if_pos hd]
  rw [if_pos hd] at h1
  exact ⟨F, rfl, h1, hk, fun _ h => .inl h⟩
theorem ref_op' {body : DiskV → Int × DiskV} {v : Value} {w1 w' : World} (hd : D.dies = false) (hk : Keep F w w1) (h : RDid w1 p F (body D.armed) v w') : RDid w p F (D.op body) v w' := by
  unfold DiskV.op
  rw [if_neg (by simp [hd])]
  obtain ⟨F', h1, h2, h3⟩ := h
  exact ⟨F', h1, h2, (Evo.mk hk fun _ h => .inl h : Evo F w F w1).trans h3⟩
theorem onF_none {k : ByteArray} {body : DiskV → FileV → Int × DiskV} (h : aget D.files k = none) : DiskV.onF k body D = (14, D) := by unfold DiskV.onF; rw [h]
theorem onF_some {k : ByteArray} {f : FileV} {body : DiskV → FileV → Int × DiskV} (h : aget D.files k = some f) : DiskV.onF k body D = body D f := by unfold DiskV.onF; rw [h]

theorem ref_Sync {k : ByteArray} (h : RefAt w p F D) (hf : D.Fit) (h0 : 0 ≤ D.left) (hR : I64 D.left) : Calls Tryz.prog F_ref19_Disk_Sync #[.pointer (some ⟨p, 0, none⟩), .string k] w (Ok (RDid w p F (D.sync k))) := by
  refine L_ref19_Disk_Sync (PC.ok (ref_dies h h0 hR) ?_)
  rintro _ w1 ⟨rfl, h1, k1⟩
  refine ⟨_, rfl, PIf.mk (fun hd => Ok.mk (ref_op (g := 0) (args := #[]) (v := .bool true) hd h1 k1)) (fun hd => ?_)⟩
  rw [if_neg (by simp [hd])] at h1
  obtain ⟨a, n, cap, L, hL⟩ := h1
  have hf' := hf.armed
  refine PC.ok (ref_at hL hf') ?_
  rintro _ _ ⟨rfl, i, rfl, hi | ⟨j, x, rfl, hj, hx⟩⟩
  · refine ⟨_, rfl, PIf.tt (decide_eq_true hi.1) (Ok.mk (ref_op' hd k1 ?_))⟩
    rw [onF_none (hL.nof hi.2)]
    exact ⟨F, rfl, ⟨a, n, cap, L, hL⟩, Keep.refl _, fun _ h => .inl h⟩
  · refine ⟨_, rfl, PIf.ff (decide_eq_false (by omega)) fun w2 hd2 => ?_⟩
    have hL2 := hL.grew hd2.keep
    obtain ⟨b, off, y, rfl, hy, hym, c0, c1, c2, c3⟩ := hL2.at hf' hj
    rw [hx] at hy; cases hy
    have hn := hL2.len hf' hym
    have pa : ∀ b', blk (some (⟨b, off, none⟩ : Addr)) = some b' → b' ≠ p := fun b' hb' => (hL2.Fa b' hb').2
    refine ⟨p, 0, rfl, _, n, cap, cell_at hL2.head rfl, p, 0, rfl, _, n, cap, cell_at hL2.head rfl, b, off, rfl, by omega, by omega, _, _, _, c1, b, off, rfl, by omega, by omega, ?_⟩
    refine hL2.lst.set (x' := (k, ⟨x.a, x.n, x.c, x.F, ⟨x.f.bytes, x.n, x.f.good⟩⟩)) hx (j := 2) (by decide) rfl rfl fun w3 ho3 k3 s3 => ?_
    have g3 := k3.get hL2.head fun hb => pa p hb rfl
    refine ⟨p, 0, rfl, _, n, cap, cell_at g3 rfl, b, off, rfl, by omega, by omega, ?_⟩
    have hx3 : (L.set j (k, (⟨x.a, x.n, x.c, x.F, ⟨x.f.bytes, x.n, x.f.good⟩⟩ : RBox)))[j]? = some (k, (⟨x.a, x.n, x.c, x.F, ⟨x.f.bytes, x.n, x.f.good⟩⟩ : RBox)) := by
      rw [List.getElem?_set]; simp; exact (List.getElem?_eq_some_iff.1 hx).1
    refine ho3.set (x' := (k, ⟨x.a, x.n, x.c, x.F, x.f.cut x.f.bytes.length⟩)) hx3 (j := 3) (by decide) ?_ rfl fun w4 ho4 k4 s4 => Ok.mk (ref_op' hd k1 ?_)
    · have e1 := clampN_le (x.f.bytes.length : Int) x.f.bytes.length
      have e2 : clampN (x.f.bytes.length : Int) x.f.bytes.length = x.f.bytes.length := by unfold clampN; omega
      have e3 : x.n = x.f.bytes.length := hn.1
      simp only [encB, FileV.cut, e2, e3]; rfl
    · rw [List.set_set] at ho4
      rw [onF_some (hL.get hf' hym)]
      have hk4 : Keep (fun b' => x.F b' ∨ blk (some (⟨b, off, none⟩ : Addr)) = some b') w2 w4 := (k3.then k4).mono fun _ _ h => .inr h
      have hbx := (hL2.each _ hym).keep (k3.then k4) fun b' hb' => (hL2.inF _ hym b' hb').2.2
      have hcut : (x.f.cut x.f.bytes.length).bytes = x.f.bytes := by
        have e2 : clampN (x.f.bytes.length : Int) x.f.bytes.length = x.f.bytes.length := by unfold clampN; omega
        simp [FileV.cut, e2]
      obtain ⟨F', hL4, hev⟩ := hL2.turn hf' hx ho4 hk4 (by rw [hcut]; exact hbx) (fun _ h => .inl h)
      exact ⟨F', rfl, ⟨_, _, _, _, hL4⟩, (Evo.mk hd2.keep fun _ h => .inl h : Evo F _ F w2).trans hev⟩

theorem ref_Cut {k : ByteArray} {m : Int} (h : RefAt w p F D) (hf : D.Fit) (h0 : 0 ≤ D.left) (hR : I64 D.left) : Calls Tryz.prog F_ref19_Disk_Cut #[.pointer (some ⟨p, 0, none⟩), .string k, .int .i64 m] w (Ok (RDid w p F (D.cutF k m))) := by
  refine L_ref19_Disk_Cut (PC.ok (ref_dies h h0 hR) ?_)
  rintro _ w1 ⟨rfl, h1, k1⟩
  refine ⟨_, rfl, PIf.mk (fun hd => Ok.mk (ref_op (g := 0) (args := #[]) (v := .bool true) hd h1 k1)) (fun hd => ?_)⟩
  rw [if_neg (by simp [hd])] at h1
  obtain ⟨a, n, cap, L, hL⟩ := h1
  have hf' := hf.armed
  refine PC.ok (ref_at hL hf') ?_
  rintro _ _ ⟨rfl, i, rfl, hi | ⟨j, x, rfl, hj, hx⟩⟩
  · refine ⟨_, rfl, PIf.tt (decide_eq_true hi.1) (Ok.mk (ref_op' hd k1 ?_))⟩
    rw [onF_none (hL.nof hi.2)]
    exact ⟨F, rfl, ⟨a, n, cap, L, hL⟩, Keep.refl _, fun _ h => .inl h⟩
  · refine ⟨_, rfl, PIf.ff (decide_eq_false (by omega)) fun w2 hd2 => ?_⟩
    have hL2 := hL.grew hd2.keep
    obtain ⟨b, off, y, rfl, hy, hym, c0, c1, c2, c3⟩ := hL2.at hf' hj
    rw [hx] at hy; cases hy
    have hn := hL2.len hf' hym
    have hcap := (hL2.each _ hym).cap_le
    have hcl := clampN_le m x.f.bytes.length
    have pa : ∀ b', blk (some (⟨b, off, none⟩ : Addr)) = some b' → b' ≠ p := fun b' hb' => (hL2.Fa b' hb').2
    have hxn : x.n = x.f.bytes.length := hn.1
    have e : (if (if ((x.n : Nat) : Int) < m then ((x.n : Nat) : Int) else m) > 0 then (if ((x.n : Nat) : Int) < m then ((x.n : Nat) : Int) else m) else 0) = ((clampN m x.f.bytes.length : Nat) : Int) := by
      unfold clampN; rw [hxn]; omega
    refine ⟨fun b' => blk (some (⟨b, off, none⟩ : Addr)) = some b', p, 0, rfl, fun hb => pa p hb rfl, _, n, cap, cell_at hL2.head rfl, p, 0, rfl, _, n, cap, cell_at hL2.head rfl, b, off, rfl, by omega, by omega, _, _, _, c1,
      p, 0, rfl, _, n, cap, cell_at hL2.head rfl, b, off, rfl, by omega, by omega, _, _, _, c1, ?_⟩
    change (_ ≤ (if (if ((x.n : Nat) : Int) < m then ((x.n : Nat) : Int) else m) > 0 then (if ((x.n : Nat) : Int) < m then ((x.n : Nat) : Int) else m) else 0)) ∧ _
    rw [e, Int.toNat_natCast]
    have hcap' : x.n ≤ x.c := hcap
    refine ⟨by omega, by show ((clampN m x.f.bytes.length : Nat) : Int) ≤ ((x.c : Nat) : Int); omega, PC.ok (kit_CopyBytes ((hL2.bytes hf' hym).take (m := clampN m x.f.bytes.length) (by show _ ≤ x.n; omega))) ?_⟩
    rintro _ w3 ⟨a3, n3, c3', F3, rfl, ho3, k3, hF3⟩
    have hn3 : n3 = clampN m x.f.bytes.length := by
      have := ho3.len (by decide)
      rw [this]
      show (x.f.bytes.take _).length = _
      simp; omega
    refine ⟨_, _, _, rfl, k3.keep, b, off, rfl, by omega, by omega, ?_⟩
    refine (hL2.lst.grew k3).set (x' := (k, ⟨a3, n3, c3', F3, ⟨x.f.bytes.take (clampN m x.f.bytes.length), x.f.synced, x.f.good⟩⟩)) hx (j := 1) (by decide) rfl rfl fun w4 ho4 k4 s4 => ⟨k4, fun w5 hd5 => ?_⟩
    have g4 : w4.heap[p]? = _ := k4.get (k3.get hL2.head id) fun hb => pa p hb rfl
    have g5 := (hd5.keep (S := fun _ => False)).get g4 id
    have hlen : j < L.length := (List.getElem?_eq_some_iff.1 hx).1
    have hx4 : ∀ z : RB, (L.set j z)[j]? = some z := fun z => by rw [List.getElem?_set]; simp [hlen]
    have ho5 := ho4.grew hd5.keep
    obtain ⟨bb, oo, es, hbb, _, _, hcc, rfl, -⟩ := (ho5.row (bytes := 56) (by decide) (by have := hL2.length hf'; have := hf'.many; rw [List.length_set]; unfold Big; omega)).el j _ (hx4 _)
    cases hbb
    refine ⟨p, 0, rfl, _, n, cap, cell_at g5 rfl, p, 0, rfl, _, n, cap, cell_at g5 rfl, b, off, rfl, by omega, by omega, a3, n3, c3', hcc 1 (by decide), b, off, rfl, by omega, by omega, ?_⟩
    refine ho5.set (x' := (k, ⟨a3, n3, c3', F3, ⟨x.f.bytes.take (clampN m x.f.bytes.length), n3, x.f.good⟩⟩)) (hx4 _) (j := 2) (by decide) rfl rfl fun w6 ho6 k6 s6 => ?_
    have g6 := k6.get g5 fun hb => pa p hb rfl
    rw [List.set_set] at ho6
    refine ⟨p, 0, rfl, _, n, cap, cell_at g6 rfl, b, off, rfl, by omega, by omega, ?_⟩
    refine ho6.set (x' := (k, ⟨a3, n3, c3', F3, x.f.cut m⟩)) (hx4 _) (j := 3) (by decide) (by subst hn3; rfl) rfl fun w7 ho7 k7 s7 => Ok.mk (ref_op' hd k1 ?_)
    rw [List.set_set] at ho7
    rw [onF_some (hL.get hf' hym)]
    have hk37 : Keep (fun b' => blk (some (⟨b, off, none⟩ : Addr)) = some b') w3 w7 := ((k4.grew hd5.keep).then k6).then k7
    have hk7 : Keep (fun b' => x.F b' ∨ blk (some (⟨b, off, none⟩ : Addr)) = some b') w2 w7 := ((k3.keep (S := fun b' => blk (some (⟨b, off, none⟩ : Addr)) = some b')).then hk37).mono fun _ _ h => .inr h
    have hb2 := hL2.dom
    have hbx : Lst cU8 5 F3 w7 a3 n3 c3' (x.f.cut m).bytes := ho3.keep hk37 fun b' hb' hc => by
      have := hF3 b' hb'; have := hb2 b' (hL2.Fa b' hc).1; omega
    obtain ⟨F', hL7, hev⟩ := hL2.turn (x' := ⟨a3, n3, c3', F3, x.f.cut m⟩) hf' hx ho7 hk7 hbx (fun b hb => .inr (hF3 b hb))
    exact ⟨F', rfl, ⟨_, _, _, _, hL7⟩, (Evo.mk hd2.keep fun _ h => .inl h : Evo F _ F w2).trans hev⟩

theorem ref_Append {k : ByteArray} {ba : Option Addr} {bn bc : Nat} {bs : List UInt8} {Db : Nat → Prop} (h : RefAt w p F D) (hf : D.Fit) (h0 : 0 ≤ D.left) (hR : I64 D.left) (hb : Row cU8 1 w Db ba bn bs) (hDb : ∀ b, Db b → b < w.heap.size ∧ ¬ F b) :
    Calls Tryz.prog F_ref19_Disk_Append #[.pointer (some ⟨p, 0, none⟩), .string k, .slice ba bn bc] w (Ok (RDid w p F (D.append k bs))) := by
  have hbl := hb.len; have hbb := hb.big
  unfold Big at hbb
  refine L_ref19_Disk_Append (PC.ok (ref_dies h h0 hR) ?_)
  rintro _ w1 ⟨rfl, h1, k1⟩
  refine ⟨_, rfl, PIf.mk (fun hd => Ok.mk (ref_op (g := 0) (args := #[]) (v := .bool true) hd h1 k1)) (fun hd => ?_)⟩
  rw [if_neg (by simp [hd])] at h1
  have h1' := h1
  obtain ⟨a, n, cap, L, hL⟩ := h1
  have hf' := hf.armed
  refine PC.ok (ref_at hL hf') ?_
  rintro _ _ ⟨rfl, i, rfl, hi | ⟨j, x, rfl, hj, hx⟩⟩
  · refine ⟨_, rfl, PIf.tt (decide_eq_true hi.1) (Ok.mk (ref_op' hd k1 ?_))⟩
    rw [onF_none (hL.nof hi.2)]
    exact ⟨F, rfl, ⟨a, n, cap, L, hL⟩, Keep.refl _, fun _ h => .inl h⟩
  · refine ⟨_, rfl, PIf.ff (decide_eq_false (by omega)) (PC.ok (ref_Room h1' hf') ?_)⟩
    rintro _ _ ⟨rfl, rfl⟩
    have hget := hL.get hf' (List.mem_of_getElem? hx)
    refine ⟨_, rfl, PIf.dec (fun hgt => Ok.mk (ref_op' hd k1 ?_)) (fun hle => fun w2 hd2 => ?_)⟩
    · rw [onF_some hget, if_pos (by rw [← hbl]; exact hgt)]
      exact ⟨F, rfl, ⟨a, n, cap, L, hL⟩, Keep.refl _, fun _ h => .inl h⟩
    · have hL2 := hL.grew hd2.keep
      obtain ⟨b, off, y, rfl, hy, hym, c0, c1, c2, c3⟩ := hL2.at hf' hj
      rw [hx] at hy; cases hy
      have hn := hL2.len hf' hym
      have hxn : x.n = x.f.bytes.length := hn.1
      have hx2 : x.f.bytes.length ≤ 262144 := hn.2.1
      have hin := hL2.inF _ hym
      have hin' : ∀ b', x.F b' → F b' ∧ b' ≠ p ∧ blk (some (⟨b, off, none⟩ : Addr)) ≠ some b' := hin
      have hr2 : D.armed.room ≤ 262144 := by have := hf'.most; unfold DiskV.room; omega
      have hbx : Lst cU8 5 x.F w2 x.a x.n x.c x.f.bytes := hL2.each _ hym
      have hb2 : Row cU8 1 w2 Db ba bn bs := (hb.keep k1 fun b hb => (hDb b hb).2).grew hd2.keep
      refine ⟨fun b' => F b' ∧ b' ≠ p, p, 0, rfl, fun hb => hb.2 rfl, _, n, cap, cell_at hL2.head rfl, p, 0, rfl, _, n, cap, cell_at hL2.head rfl, b, off, rfl, by omega, by omega, _, _, _, c1, ?_⟩
      have hw12 : w.heap.size ≤ w2.heap.size := (k1.grew hd2.keep).size
      refine appRow0 hbx slU8 hb2 (fun b' hb' => ⟨by have := (hDb b' hb').1; omega, fun he => (hDb b' hb').2 (hin' b' (hbx.self b' he)).1⟩) (by unfold Big; omega) (by unfold maxLen; omega) fun a' c' w3 F' ho3 k3 _ hs3 => ?_
      have hF3 : ∀ b', blk x.a = some b' → F b' ∧ b' ≠ p := fun b' hb' => ⟨(hin' b' (hbx.self b' hb')).1, (hin' b' (hbx.self b' hb')).2.1⟩
      refine ⟨_, _, _, rfl, k3.mono fun b' _ hb' => hF3 b' hb', b, off, rfl, by omega, by omega, ?_⟩
      have hl3 := hL2.lst.keep k3 fun b' hb' hc => (hin' b' (hbx.self b' hc)).2.2 hb'
      refine hl3.set (x' := (k, ⟨a', x.n + bn, c', fun b' => blk a' = some b', { x.f with bytes := x.f.bytes ++ bs }⟩)) hx (j := 1) (by decide) rfl rfl fun w4 ho4 k4 s4 => ⟨k4.mono fun b' _ hb' => hL2.Fa b' hb', Ok.mk (ref_op' hd k1 ?_)⟩
      rw [onF_some hget, if_neg (by rw [← hbl]; exact hle)]
      have hk4 : Keep (fun b' => x.F b' ∨ blk (some (⟨b, off, none⟩ : Addr)) = some b') w2 w4 := (k3.mono fun b' _ hb' => .inl (hbx.self b' hb')).then (k4.mono fun _ _ h => .inr h)
      have hdd := hL2.dom
      have hbx4 : Lst cU8 5 (fun b' => blk a' = some b') w4 a' (x.n + bn) c' (x.f.bytes ++ bs) := ho3.alone.keep k4 fun b' hb' hc => by
        rcases hs3 b' hb' with h | h
        · exact (hin' b' h).2.2 hc
        · have := hdd b' (hL2.Fa b' hc).1; omega
      obtain ⟨F4, hL4, hev⟩ := hL2.turn (x' := ⟨a', x.n + bn, c', fun b' => blk a' = some b', { x.f with bytes := x.f.bytes ++ bs }⟩) hf' hx ho4 hk4 hbx4 (fun b hb => hs3 b hb)
      exact ⟨F4, rfl, ⟨_, _, _, _, hL4⟩, (Evo.mk hd2.keep fun _ h => .inl h : Evo F _ F w2).trans hev⟩
end
end Go.Proofs.YtpbpjojdfcdbbaaGreatDoor

/- quaysideref19: a file goes, a file is laid in its place -/
namespace Go.Proofs.YtpbpjojdfcdbbaaGreatDoor
open Go.Lift
set_option linter.unusedVariables false
set_option maxRecDepth 20000

theorem PIf.ltS {x y : ByteArray} {X Y : Prop} (h1 : ltK x y → X) (h2 : ¬ ltK x y → Y) : PIf (Op.bytesLess (ByteArray.toList x) (ByteArray.toList y)) X Y := by
  rw [bytesLess_ltK]; exact PIf.dec h1 h2

theorem DiskV.Fit.del {D : DiskV} (h : D.Fit) (k : ByteArray) : (D.delF k).Fit := by
  have hl := length_adel D.files k
  have hs := sumLen_adel (l := D.files) (k := k)
  have hf := h.fits
  have hm := h.many
  unfold DiskV.used at hf
  exact ⟨h.most, by show sumLen (adel D.files k) ≤ D.most; omega, by show (adel D.files k).length ≤ 64; omega, h.tidy.adel k, fun x hx => h.syn x (mem_adel_pair hx)⟩

section
variable {w w' : World} {p : Nat} {F S : Nat → Prop} {D : DiskV} {a : Option Addr} {n cap : Nat} {L : List RB}

/-- another list -/
theorem RefL.swap (h : RefL w p F D a n cap L) {w1 : World} (hk : Grew w w1) {a' : Option Addr} {n' cap' : Nat} {L' : List RB} {G : Nat → Prop} {fs : List (ByteArray × FileV)} (hl : Lst cBox 151 G w1 a' n' cap' L') (hfr : ∀ b, blk a' = some b → w.heap.size ≤ b)
    (each' : ∀ x ∈ L', Lst cU8 5 x.2.F w1 x.2.a x.2.n x.2.c x.2.f.bytes) (apart' : ∀ x ∈ L', ∀ y ∈ L', x.1 ≠ y.1 → ∀ b, x.2.F b → ¬ y.2.F b) (inF' : ∀ x ∈ L', ∀ b, x.2.F b → ((F b ∧ b ≠ p) ∨ w.heap.size ≤ b) ∧ blk a' ≠ some b)
    (sorted' : L'.Pairwise fun x y => ltK x.1 y.1) (same' : ∀ q, q ∈ L'.map rF ↔ q ∈ fs) {κ : World → Prop} (hκ : ∀ w2, RefL w2 p (fun b => F b ∨ (w.heap.size ≤ b ∧ b < w1.heap.size)) (D.withF fs) a' n' cap' L' → Keep (· = p) w w2 → Keep (· = p) w1 w2 → w2.heap.size = w1.heap.size → κ w2) : PS w1 ⟨p, 0 + 2, none⟩ (.slice a' n' cap') κ := by
  have hpl := lt_of_get h.head
  refine PS.mk (hk.get h.head id) (by simp) fun w2 k2 s2 g2 => hκ w2 ⟨g2, hl.alone.keep k2 (fun b hb e => by have := hfr b hb; omega), fun x hx => (each' x hx).keep k2 (fun b hb e => ?_), apart', fun x hx b hb => ?_, fun b hb => ?_, sorted', same', .inl h.self, fun b hb => ?_⟩ (hk.keep.then k2) k2 s2
  · rcases (inF' x hx b hb).1 with h1 | h1
    · exact h1.2 e
    · omega
  · refine ⟨?_, ?_, (inF' x hx b hb).2⟩
    · rcases (inF' x hx b hb).1 with h1 | h1
      · exact .inl h1.1
      · exact .inr ⟨h1, (each' x hx).dom b hb⟩
    · rcases (inF' x hx b hb).1 with h1 | h1
      · exact h1.2
      · omega
  · have h1 := hfr b hb
    exact ⟨.inr ⟨h1, hl.dom b (hl.self b hb)⟩, by omega⟩
  · rcases hb with hb | hb
    · have := h.dom b hb; have := hk.size; omega
    · omega

theorem ref_drop (h : RefL w p F D a n cap L) (hf : D.Fit) {k : ByteArray} : Calls Tryz.prog F_ref19_Disk_drop #[.pointer (some ⟨p, 0, none⟩), .string k] w
    (Ok fun v w' => v = .tuple #[] ∧ ∃ a' n' cap' F', RefL w' p F' (D.delF k) a' n' cap' (L.filter fun y => y.1 != k) ∧ Keep (· = p) w w' ∧ (∀ b, F' b → F b ∨ w.heap.size ≤ b) ∧ (∀ b, F b → F' b) ∧ ∀ b, blk a' = some b → w.heap.size ≤ b) := by
  have hn := h.n_eq; have hl := h.length hf; have hm := hf.many
  refine L_ref19_Disk_drop ⟨fun m oa on oc i w' => ∃ (j : Nat) (G : Nat → Prop), i = (j : Int) ∧ j ≤ n ∧ m = n - j ∧ Lst cBox 151 G w' oa on oc ((L.take j).filter fun y => y.1 != k) ∧ Grew w w' ∧ ∀ b, G b → w.heap.size ≤ b,
    ⟨_, 0, fun _ => False, rfl, Nat.zero_le _, rfl, by simpa using Lst.nil w, Keep.refl _, fun _ h => h.elim⟩, ?_⟩
  rintro m oa on oc i _ w1 ⟨j, G, rfl, hj, rfl, ho, hk, hG⟩
  have h1 := h.grew hk
  refine ⟨p, 0, rfl, a, n, cap, cell_at h1.head rfl, PIf.dec (fun hlt => ?_) (fun hge => ?_)⟩
  · obtain ⟨b, off, x, rfl, hx, hxm, c0, c1, c2, c3⟩ := h1.at hf (i := j) (by omega)
    have htl : ((L.take j).filter fun y => y.1 != k).length ≤ 64 := by
      have := List.length_filter_le (fun y : RB => y.1 != k) (L.take j)
      rw [List.length_take] at this
      omega
    have hst : (L.take (j + 1)).filter (fun y => y.1 != k) = (L.take j).filter (fun y => y.1 != k) ++ [x].filter (fun y => y.1 != k) := by
      rw [List.take_add_one, hx]; simp [List.filter_append]
    refine ⟨p, 0, rfl, _, n, cap, cell_at h1.head rfl, b, off, rfl, by omega, by omega, x.1, c0, PIf.neS (fun hne => ?_) (fun he => ⟨_, by omega, j + 1, G, wrap_succ (by omega), by omega, rfl, ?_, hk, hG⟩)⟩
    · refine ⟨p, 0, rfl, _, n, cap, cell_at h1.head rfl, b, off, rfl, by omega, by omega, x.1, _, _, _, _, _, c0, c1, c2, c3, papp ho slFile (x := x) (D := fun _ => False) ⟨rfl, trivial⟩ (fun _ h => h.elim) (by unfold Big; omega) (by unfold maxLen; omega) fun a' c' w3 F' ho3 hk3 hF3 _ => ?_⟩
      refine ⟨_, _, _, rfl, n - (j + 1), by omega, j + 1, F', wrap_succ (by omega), by omega, rfl, ?_, hk.new hk3 fun b hb => .inr (hG b (ho.self b hb)), ?_⟩
      · rw [hst]
        simpa [hne] using ho3
      · intro b hb
        rcases hF3 b hb with h | h | h
        · exact hG b h
        · exact h.elim
        · exact Nat.le_trans hk.size h
    · rw [hst]
      simpa [he] using ho
  · obtain rfl : j = n := by omega
    rw [List.take_of_length_le (by omega)] at ho
    have hmem : ∀ y ∈ L.filter (fun y => y.1 != k), y ∈ L ∧ y.1 ≠ k := fun y hy => by
      have := List.mem_filter.1 hy
      exact ⟨this.1, by simpa using this.2⟩
    have hdom := h.dom
    refine ⟨p, 0, rfl, h.swap hk (fs := adel D.files k) ho (fun b hb => hG b (ho.self b hb)) (fun x hx => h1.each x (hmem x hx).1) (fun x hx y hy => h.apart x (hmem x hx).1 y (hmem y hy).1)
      (fun x hx b hb => ⟨.inl ⟨(h.inF x (hmem x hx).1 b hb).1, (h.inF x (hmem x hx).1 b hb).2.1⟩, fun e => ?_⟩) (h.sorted.filter _) (fun q => ?_) fun w2 hR2 k02 k12 s2 => Ok.mk ⟨rfl, _, _, _, _, hR2, k02, fun b hb => hb.imp id (·.1), fun b hb => .inl hb, fun b hb => hG b (ho.self b hb)⟩⟩
    · have := hG b (ho.self b e)
      have := hdom b (h.inF x (hmem x hx).1 b hb).1
      omega
    · rw [mem_adel2 hf.tidy, ← h.same]
      constructor
      · intro hq
        obtain ⟨y, hy, rfl⟩ := List.mem_map.1 hq
        exact ⟨List.mem_map.2 ⟨y, (hmem y hy).1, rfl⟩, (hmem y hy).2⟩
      · rintro ⟨hq, hne⟩
        obtain ⟨y, hy, rfl⟩ := List.mem_map.1 hq
        exact List.mem_map.2 ⟨y, List.mem_filter.2 ⟨hy, by have hne' : y.1 ≠ k := hne; simpa using hne'⟩, rfl⟩

/-! what is laid -/
def loB (k : ByteArray) (y : RB) : Bool := decide (ltK y.1 k)
def hiB (k : ByteArray) (y : RB) : Bool := decide (ltK k y.1)
def layV (z : RB) (l : List RB) : List RB := if l.any (hiB z.1) then l.filter (loB z.1) ++ z :: l.filter (hiB z.1) else l.filter (loB z.1)
def layM (z : RB) (l : List RB) (y : RB) : List RB := if l.any (hiB z.1) = false ∧ ltK z.1 y.1 then layV z l ++ [z] else layV z l

theorem filter_hi_nil {k : ByteArray} {l : List RB} (h : l.any (hiB k) = false) : l.filter (hiB k) = [] := by
  rw [List.filter_eq_nil_iff]
  intro y hy
  rw [List.any_eq_false] at h
  exact h y hy

theorem layV_step (z : RB) (l : List RB) (y : RB) (hs : ∀ u ∈ l, ltK u.1 y.1) : layV z (l ++ [y]) = if y.1 = z.1 then layM z l y else layM z l y ++ [y] := by
  cases hA : l.any (hiB z.1) with
  | true =>
    obtain ⟨u, hu, hz⟩ := List.any_eq_true.1 hA
    have hzy : ltK z.1 y.1 := ltK_trans (of_decide_eq_true hz) (hs u hu)
    have hyz : ¬ ltK y.1 z.1 := fun h => ltK_irrefl _ (ltK_trans h hzy)
    have hne : ¬ y.1 = z.1 := fun e => ltK_irrefl _ (e ▸ hzy)
    have e1 : hiB z.1 y = true := decide_eq_true hzy
    have e2 : loB z.1 y = false := decide_eq_false hyz
    rw [if_neg hne]
    unfold layM layV
    simp [hA, List.filter_append, e1, e2]
  | false =>
    have hn := filter_hi_nil hA
    by_cases hzy : ltK z.1 y.1
    · have hyz : ¬ ltK y.1 z.1 := fun h => ltK_irrefl _ (ltK_trans h hzy)
      have hne : ¬ y.1 = z.1 := fun e => ltK_irrefl _ (e ▸ hzy)
      have e1 : hiB z.1 y = true := decide_eq_true hzy
      have e2 : loB z.1 y = false := decide_eq_false hyz
      rw [if_neg hne]
      unfold layM layV
      simp [hA, List.filter_append, e1, e2, hn, hzy]
    · have e1 : hiB z.1 y = false := decide_eq_false hzy
      by_cases hyz : ltK y.1 z.1
      · have hne : ¬ y.1 = z.1 := fun e => ltK_irrefl _ (e ▸ hyz)
        have e2 : loB z.1 y = true := decide_eq_true hyz
        rw [if_neg hne]
        unfold layM layV
        simp [hA, List.filter_append, e1, e2, hn, hzy]
      · have he : y.1 = z.1 := ltK_tri hyz hzy
        have e2 : loB z.1 y = false := decide_eq_false hyz
        rw [if_pos he]
        unfold layM layV
        simp [hA, List.filter_append, e1, e2, hn, hzy]

theorem layV_length (z : RB) (l : List RB) : (layV z l).length ≤ l.length + 1 := by
  have h : ∀ l : List RB, (l.filter (loB z.1)).length + (l.filter (hiB z.1)).length ≤ l.length := by
    intro l
    induction l with
    | nil => simp
    | cons y l ih =>
      simp only [List.filter_cons]
      by_cases h1 : ltK y.1 z.1
      · have h2 : ¬ ltK z.1 y.1 := fun h => ltK_irrefl _ (ltK_trans h h1)
        simp [loB, hiB, h1, h2] at ih ⊢; omega
      · by_cases h2 : ltK z.1 y.1
        · simp [loB, hiB, h1, h2] at ih ⊢; omega
        · simp [loB, hiB, h1, h2] at ih ⊢; omega
  have := h l
  unfold layV
  split
  · simp; omega
  · omega
theorem layM_length (z : RB) (l : List RB) (y : RB) : (layM z l y).length ≤ l.length + 2 := by
  have := layV_length z l
  unfold layM
  split
  · simp; omega
  · omega

def laid (z : RB) (l : List RB) : List RB := l.filter (loB z.1) ++ z :: l.filter (hiB z.1)
theorem mem_laid {z : RB} {l : List RB} {y : RB} : y ∈ laid z l ↔ y = z ∨ (y ∈ l ∧ y.1 ≠ z.1) := by
  unfold laid
  simp only [List.mem_append, List.mem_cons, List.mem_filter]
  constructor
  · rintro (⟨h1, h2⟩ | rfl | ⟨h1, h2⟩)
    · exact .inr ⟨h1, ltK_ne (of_decide_eq_true h2)⟩
    · exact .inl rfl
    · exact .inr ⟨h1, (ltK_ne (of_decide_eq_true h2)).symm⟩
  · rintro (rfl | ⟨h1, h2⟩)
    · exact .inr (.inl rfl)
    · by_cases hl : ltK y.1 z.1
      · exact .inl ⟨h1, decide_eq_true hl⟩
      · by_cases hh : ltK z.1 y.1
        · exact .inr (.inr ⟨h1, decide_eq_true hh⟩)
        · exact absurd (ltK_tri hl hh) h2
theorem sorted_laid {z : RB} {l : List RB} (h : l.Pairwise fun x y => ltK x.1 y.1) : (laid z l).Pairwise fun x y => ltK x.1 y.1 := by
  unfold laid
  refine List.pairwise_append.2 ⟨h.filter _, List.pairwise_cons.2 ⟨fun y hy => of_decide_eq_true (List.mem_filter.1 hy).2, h.filter _⟩, fun x hx y hy => ?_⟩
  have h1 : ltK x.1 z.1 := of_decide_eq_true (List.mem_filter.1 hx).2
  rcases List.mem_cons.1 hy with rfl | hy
  · exact h1
  · exact ltK_trans h1 (of_decide_eq_true (List.mem_filter.1 hy).2)

theorem ref_lay (h : RefL w p F D a n cap L) (hf : D.Fit) {k : ByteArray} {x : RBox} (hx : Lst cU8 5 x.F w x.a x.n x.c x.f.bytes) (hap : ∀ y ∈ L, y.1 ≠ k → ∀ b, x.F b → ¬ y.2.F b) (hin : ∀ b, x.F b → F b ∧ b ≠ p) :
    Calls Tryz.prog F_ref19_Disk_lay #[.pointer (some ⟨p, 0, none⟩), .agg #[.string k, .slice x.a x.n x.c, .int .i64 x.f.synced, .bool x.f.good]] w (Ok fun v w' => v = .tuple #[] ∧ ∃ F', RefAt w' p F' (D.setF k x.f) ∧ Evo F w F' w') := by
  have hn := h.n_eq; have hl := h.length hf; have hm := hf.many
  have hdom := h.dom
  refine L_ref19_Disk_lay (PA.mk fun w1 k1 s1 g1 => ?_)
  refine ⟨fun m oa on oc ld i w' => ∃ (j : Nat) (G : Nat → Prop), i = (j : Int) ∧ j ≤ n ∧ m = n - j ∧ ld = (L.take j).any (hiB k) ∧ Lst cBox 151 G w' oa on oc (layV (k, x) (L.take j)) ∧ Grew w1 w' ∧ ∀ b, G b → w1.heap.size ≤ b,
    ⟨_, 0, fun _ => False, rfl, Nat.zero_le _, rfl, by simp, by simpa [layV] using Lst.nil w1, Keep.refl _, fun _ h => h.elim⟩, ?_⟩
  rintro m oa on oc ld i _ w2 ⟨j, G, rfl, hj, rfl, rfl, ho, hk, hG⟩
  have h2 := (h.grew k1).grew hk
  have g2 := hk.get g1 id
  -- the end
  have fin : ∀ {w3 : World} {a' : Option Addr} {n' c' : Nat} {G' : Nat → Prop}, Lst cBox 151 G' w3 a' n' c' (laid (k, x) L) → Grew w1 w3 → (∀ b, G' b → w1.heap.size ≤ b) →
      PS w3 ⟨p, 0 + 2, none⟩ (.slice a' n' c') fun w4 => Ok (fun v w' => v = .tuple #[] ∧ ∃ F', RefAt w' p F' (D.setF k x.f) ∧ Evo F w F' w') (.returned (.tuple #[])) w4 := by
    intro w3 a' n' c' G' ho3 hk3 hG3
    have k03 : Grew w w3 := k1.grew hk3
    refine h.swap k03 (fs := aput D.files k x.f) ho3 (fun b hb => by have := hG3 b (ho3.self b hb); omega) (fun y hy => ?_) (fun y hy u hu hne b hb hbu => ?_) (fun y hy b hb => ?_) (sorted_laid h.sorted) (fun q => ?_) fun w4 hR4 k04 k34 s4 => Ok.mk ⟨rfl, _, ⟨_, _, _, _, hR4⟩, k04.mono fun b _ hb => hb ▸ h.self, fun b hb => hb.imp id (·.1)⟩
    · rcases mem_laid.1 hy with rfl | ⟨hy, hne⟩
      · exact hx.grew k03
      · exact (h.each y hy).grew k03
    · rcases mem_laid.1 hy with rfl | ⟨hy, hny⟩ <;> rcases mem_laid.1 hu with rfl | ⟨hu, hnu⟩
      · exact hne rfl
      · exact hap u hu hnu b hb hbu
      · exact hap y hy hny b hbu hb
      · exact h.apart y hy u hu hne b hb hbu
    · have hFb : F b ∧ b ≠ p := by
        rcases mem_laid.1 hy with rfl | ⟨hy, hny⟩
        · exact hin b hb
        · exact ⟨(h.inF y hy b hb).1, (h.inF y hy b hb).2.1⟩
      exact ⟨.inl hFb, fun e => by have := hG3 b (ho3.self b e); have := hdom b hFb.1; omega⟩
    · rw [mem_aput2 hf.tidy, ← h.same]
      constructor
      · intro hq
        obtain ⟨y, hy, rfl⟩ := List.mem_map.1 hq
        rcases mem_laid.1 hy with rfl | ⟨hy, hny⟩
        · exact .inl rfl
        · exact .inr ⟨List.mem_map.2 ⟨y, hy, rfl⟩, hny⟩
      · rintro (rfl | ⟨hq, hne⟩)
        · exact List.mem_map.2 ⟨(k, x), mem_laid.2 (.inl rfl), rfl⟩
        · obtain ⟨y, hy, rfl⟩ := List.mem_map.1 hq
          exact List.mem_map.2 ⟨y, mem_laid.2 (.inr ⟨hy, hne⟩), rfl⟩
  have hlv := layV_length (k, x) (L.take j)
  have hlt' : (L.take j).length ≤ 64 := by rw [List.length_take]; omega
  refine ⟨p, 0, rfl, a, n, cap, cell_at h2.head rfl, PIf.dec (fun hlt => ?_) (fun hge => ?_)⟩
  · obtain ⟨b, off, y, hab, hy, hym, -⟩ := h2.at hf (i := j) (by omega)
    have hsy : ∀ u ∈ L.take j, ltK u.1 y.1 := by
      intro u hu
      have hsp : L = L.take j ++ y :: L.drop (j + 1) := by
        have := List.take_append_drop j L
        rw [List.drop_eq_getElem_cons (by omega)] at this
        have e : L[j]'(by omega) = y := by
          have := (List.getElem?_eq_some_iff.1 hy).2
          exact this
        rw [e] at this
        exact this.symm
      have hso := h.sorted
      rw [hsp] at hso
      exact (List.pairwise_append.1 hso).2.2 u hu y (List.mem_cons_self ..)
    have hstep := layV_step (k, x) (L.take j) y hsy
    have htk : L.take (j + 1) = L.take j ++ [y] := by rw [List.take_add_one, hy]; rfl
    have hany : (L.take (j + 1)).any (hiB k) = ((L.take j).any (hiB k) || hiB k y) := by rw [htk]; simp
    have hlm := layM_length (k, x) (L.take j) y
    refine ⟨fun oa on oc ld w' => ld = (L.take (j + 1)).any (hiB k) ∧ ∃ G : Nat → Prop, Lst cBox 151 G w' oa on oc (layM (k, x) (L.take j) y) ∧ Grew w1 w' ∧ ∀ b, G b → w1.heap.size ≤ b, ?_, ?_⟩
    · refine PIf.not (PIf.mk (fun hld => fun w3 hd3 => ⟨?_, G, ?_, hk.grew hd3.keep, hG⟩) (fun hld => ?_))
      · rw [hany, hld]; rfl
      · have : layM (k, x) (L.take j) y = layV (k, x) (L.take j) := by unfold layM; rw [if_neg (by rintro ⟨e, -⟩; rw [hld] at e; cases e)]
        rw [this]; exact ho.grew hd3.keep
      · obtain ⟨b, off, y', rfl, hy', hym', c0, c1, c2, c3⟩ := h2.at hf (i := j) (by omega)
        rw [hy] at hy'; cases hy'
        refine ⟨k, cell_at g2 rfl, p, 0, rfl, _, n, cap, cell_at h2.head rfl, b, off, rfl, by omega, by omega, y.1, c0, fun w3 hd3 => PIf.ltS (fun hlt2 => ?_) (fun hge2 => ?_)⟩
        · have g3 := (hd3.keep (S := fun _ => False)).get g2 id
          refine ⟨k, x.a, x.n, x.c, _, _, cell_at g3 rfl, cell_at g3 rfl, cell_at g3 rfl, cell_at g3 rfl, papp (ho.grew hd3.keep) slFile (x := (k, x)) (D := fun _ => False) ⟨rfl, trivial⟩ (fun _ h => h.elim) (by unfold Big; omega) (by unfold maxLen; omega) fun a' c' w4 F' ho4 hk4 hF4 _ => ?_⟩
          refine ⟨_, _, _, rfl, ?_, F', ?_, (hk.grew hd3.keep).new hk4 fun b hb => .inr (hG b (ho.self b hb)), ?_⟩
          · rw [hany, hld, Bool.false_or]; exact (decide_eq_true hlt2).symm
          · have : layM (k, x) (L.take j) y = layV (k, x) (L.take j) ++ [(k, x)] := by unfold layM; rw [if_pos ⟨hld, hlt2⟩]
            rw [this]; exact ho4
          · intro b hb
            rcases hF4 b hb with h | h | h
            · exact hG b h
            · exact h.elim
            · have := hk.size; have := (hd3.keep (S := fun _ => False)).size; omega
        · refine ⟨?_, G, ?_, hk.grew hd3.keep, hG⟩
          · rw [hany, hld, Bool.false_or]; exact (decide_eq_false hge2).symm
          · have : layM (k, x) (L.take j) y = layV (k, x) (L.take j) := by unfold layM; rw [if_neg (fun e => hge2 e.2)]
            rw [this]; exact ho.grew hd3.keep
    · rintro oa3 on3 oc3 ld3 B3 w3 ⟨rfl, G3, ho3, hk3, hG3⟩
      have h3 := (h.grew k1).grew hk3
      have g3 := hk3.get g1 id
      obtain ⟨b, off, y', rfl, hy', hym', c0, c1, c2, c3⟩ := h3.at hf (i := j) (by omega)
      rw [hy] at hy'; cases hy'
      refine ⟨p, 0, rfl, _, n, cap, cell_at h3.head rfl, b, off, rfl, by omega, by omega, y.1, c0, k, cell_at g3 rfl, fun w4 hd4 => PIf.neS (fun hne => ?_) (fun he => ?_)⟩
      · have hd4' : Grew w3 w4 := hd4.keep
        have h4 := h3.grew hd4'
        obtain ⟨b4, off4, y4, hb4, hy4, hym4, d0, d1, d2, d3⟩ := h4.at hf (i := j) (by omega)
        rw [hy] at hy4; cases hy4
        cases hb4
        refine ⟨p, 0, rfl, _, n, cap, cell_at h4.head rfl, b, off, rfl, by omega, by omega, y.1, _, _, _, _, _, d0, d1, d2, d3, papp (ho3.grew hd4') slFile (x := y) (D := fun _ => False) ⟨rfl, trivial⟩ (fun _ h => h.elim) (by unfold Big; omega) (by unfold maxLen; omega) fun a' c' w5 F' ho5 hk5 hF5 _ => ?_⟩
        refine ⟨_, _, _, rfl, n - (j + 1), by omega, j + 1, F', wrap_succ (by omega), by omega, rfl, rfl, ?_, (hk3.grew hd4').new hk5 fun b hb => .inr (hG3 b (ho3.self b hb)), ?_⟩
        · rw [htk, hstep, if_neg hne]; exact ho5
        · intro b hb
          rcases hF5 b hb with h | h | h
          · exact hG3 b h
          · exact h.elim
          · have := hk3.size; have := hd4'.size; omega
      · refine ⟨n - (j + 1), by omega, j + 1, G3, wrap_succ (by omega), by omega, rfl, rfl, ?_, hk3.grew hd4.keep, hG3⟩
        rw [htk, hstep, if_pos he]; exact ho3.grew hd4.keep
  · obtain rfl : j = n := by omega
    have htk : L.take j = L := List.take_of_length_le (by omega)
    rw [htk] at ho hlv hlt'
    rw [htk]
    refine PIf.not (PIf.mk (fun hld => ⟨p, 0, rfl, fin (G' := G) ?_ hk hG⟩) (fun hld => ?_))
    · have : laid (k, x) L = layV (k, x) L := by unfold laid layV; rw [if_pos hld]
      rw [this]; exact ho
    · refine ⟨k, x.a, x.n, x.c, _, _, cell_at g2 rfl, cell_at g2 rfl, cell_at g2 rfl, cell_at g2 rfl, papp ho slFile (x := (k, x)) (D := fun _ => False) ⟨rfl, trivial⟩ (fun _ h => h.elim) (by unfold Big; omega) (by unfold maxLen; omega) fun a' c' w4 F' ho4 hk4 hF4 _ => ?_⟩
      refine ⟨_, _, _, rfl, p, 0, rfl, fin (G' := F') ?_ (hk.new hk4 fun b hb => .inr (hG b (ho.self b hb))) ?_⟩
      · have : laid (k, x) L = layV (k, x) L ++ [(k, x)] := by
          unfold laid layV
          rw [if_neg (by rw [hld]; simp)]
          have := filter_hi_nil hld
          show _ ++ (k, x) :: L.filter (hiB k) = _
          rw [this]
        rw [this]; exact ho4
      · intro b hb
        rcases hF4 b hb with h | h | h
        · exact hG b h
        · exact h.elim
        · have := hk.size; omega
end
end Go.Proofs.YtpbpjojdfcdbbaaGreatDoor

/- quaysideref19: the other calls -/
namespace Go.Proofs.YtpbpjojdfcdbbaaGreatDoor
open Go.Lift
set_option linter.unusedVariables false
set_option maxRecDepth 20000

section
variable {w w' : World} {p : Nat} {F S : Nat → Prop} {D : DiskV} {a : Option Addr} {n cap : Nat} {L : List RB}

/-- a variable for a file -/
theorem file_var {s : ByteArray} {fa : Option Addr} {fn fc : Nat} {i : Int} {g : Bool} {κ : World → Prop} (hκ : ∀ w1, Grew w w1 → w1.heap.size = w.heap.size + 1 → w1.heap[w.heap.size]? = some (.cells #[.string s, .slice fa fn fc, .int .i64 i, .bool g] 151 (0, 0)) → κ w1) :
    PA w (.cells #[.string (⟨#[]⟩ : ByteArray), .slice none 0 0, .int .i64 0, .bool false] 151) fun w2 => PS w2 ⟨w.heap.size, 0, none⟩ (.string s) fun w3 => PS w3 ⟨w.heap.size, 0 + 1, none⟩ (.slice fa fn fc) fun w4 => PS w4 ⟨w.heap.size, 0 + 2, none⟩ (.int .i64 i) fun w5 => PS w5 ⟨w.heap.size, 0 + 3, none⟩ (.bool g) κ := by
  refine PA.mk fun w2 k2 s2 g2 => PS.mk g2 (by simp) fun w3 k3 s3 g3 => ?_
  have g3' : w3.heap[w.heap.size]? = some (.cells #[.string s, .slice none 0 0, .int .i64 0, .bool false] 151 (0, 0)) := by rw [g3]; rfl
  refine PS.mk g3' (by simp) fun w4 k4 s4 g4 => ?_
  have g4' : w4.heap[w.heap.size]? = some (.cells #[.string s, .slice fa fn fc, .int .i64 0, .bool false] 151 (0, 0)) := by rw [g4]; rfl
  refine PS.mk g4' (by simp) fun w5 k5 s5 g5 => ?_
  have g5' : w5.heap[w.heap.size]? = some (.cells #[.string s, .slice fa fn fc, .int .i64 i, .bool false] 151 (0, 0)) := by rw [g5]; rfl
  refine PS.mk g5' (by simp) fun w6 k6 s6 g6 => ?_
  have g6' : w6.heap[w.heap.size]? = some (.cells #[.string s, .slice fa fn fc, .int .i64 i, .bool g] 151 (0, 0)) := by rw [g6]; rfl
  have hk26 : Keep (· = w.heap.size) w2 w6 := ((k3.then k4).then k5).then k6
  exact hκ w6 (k2.new hk26 fun b hb => .inr (by omega)) (by omega) g6'

theorem ref_New {m : Int} : Calls Tryz.prog F_ref19_New #[.int .i64 m] w (Ok fun v w' =>
    if m < 64 ∨ m > 262144 then v = .tuple #[.pointer none, .int .i64 1] ∧ w' = w
    else ∃ p F, v = .tuple #[.pointer (some ⟨p, 0, none⟩), .int .i64 0] ∧ RefAt w' p F ⟨m.toNat, [], false, 0, false⟩ ∧ Grew w w' ∧ ∀ b, F b → w.heap.size ≤ b) := by
  refine L_ref19_New (PIf.dec (fun h => ?_) (fun h => PIf.dec (fun h2 => ?_) (fun h2 => ?_)))
  · exact Ok.mk (by rw [if_pos (.inl h)]; exact ⟨rfl, rfl⟩)
  · exact Ok.mk (by rw [if_pos (.inr h2)]; exact ⟨rfl, rfl⟩)
  · refine PA.mk fun w1 k1 s1 g1 => Ok.mk ?_
    rw [if_neg (by omega)]
    refine ⟨w.heap.size, (· = w.heap.size), rfl, ⟨none, 0, 0, [], ?_, (Lst.nil w1).mono (fun _ h => h.elim) (fun b hb => (by cases hb)), by simp, by simp, by simp, fun b hb => (by cases hb), by simp, by simp, rfl, fun b hb => by omega⟩, k1, fun b hb => by omega⟩
    rw [g1]
    have : ((m.toNat : Nat) : Int) = m := by omega
    simp [this, rleft]

theorem ref_Delete {k : ByteArray} (h : RefAt w p F D) (hf : D.Fit) (h0 : 0 ≤ D.left) (hR : I64 D.left) : Calls Tryz.prog F_ref19_Disk_Delete #[.pointer (some ⟨p, 0, none⟩), .string k] w (Ok (RDid w p F (D.delete k))) := by
  refine L_ref19_Disk_Delete (PC.ok (ref_dies h h0 hR) ?_)
  rintro _ w1 ⟨rfl, h1, k1⟩
  refine ⟨_, rfl, PIf.mk (fun hd => Ok.mk (ref_op (g := 0) (args := #[]) (v := .bool true) hd h1 k1)) (fun hd => ?_)⟩
  rw [if_neg (by simp [hd])] at h1
  obtain ⟨a, n, cap, L, hL⟩ := h1
  have hf' := hf.armed
  refine PC.ok (ref_at hL hf') ?_
  rintro _ _ ⟨rfl, i, rfl, hi | ⟨j, x, rfl, hj, hx⟩⟩
  · refine ⟨_, rfl, PIf.tt (decide_eq_true hi.1) (Ok.mk (ref_op' hd k1 ?_))⟩
    rw [onF_none (hL.nof hi.2)]
    exact ⟨F, rfl, ⟨a, n, cap, L, hL⟩, Keep.refl _, fun _ h => .inl h⟩
  · have hget := hL.get hf' (List.mem_of_getElem? hx)
    refine ⟨_, rfl, PIf.ff (decide_eq_false (by omega)) (PC.ok (ref_drop hL hf') ?_)⟩
    rintro _ w2 ⟨rfl, a', n', cap', F', hL2, k2, hn2, -, -⟩
    refine ⟨rfl, Ok.mk (ref_op' hd k1 ?_)⟩
    rw [onF_some hget]
    exact ⟨F', rfl, ⟨_, _, _, _, hL2⟩, k2.mono fun b _ hb => hb ▸ hL.self, hn2⟩

theorem ref_Create {k : ByteArray} (hk : k.size ≤ 1000000) (h : RefAt w p F D) (hf : D.Fit) (h0 : 0 ≤ D.left) (hR : I64 D.left) : Calls Tryz.prog F_ref19_Disk_Create #[.pointer (some ⟨p, 0, none⟩), .string k] w (Ok (RDid w p F (D.create k))) := by
  refine L_ref19_Disk_Create (PC.ok (ref_dies h h0 hR) ?_)
  rintro _ w1 ⟨rfl, h1, k1⟩
  refine ⟨_, rfl, PIf.mk (fun hd => Ok.mk (ref_op (g := 0) (args := #[]) (v := .bool true) hd h1 k1)) (fun hd => ?_)⟩
  rw [if_neg (by simp [hd])] at h1
  obtain ⟨a, n, cap, L, hL⟩ := h1
  have hf' := hf.armed
  refine PC.ok (ref_isName hk) ?_
  rintro _ _ ⟨rfl, rfl⟩
  have same : ∀ e : Int, RDid w1 p F (e, D.armed) (.int .i64 e) w1 := fun e => ⟨F, rfl, ⟨a, n, cap, L, hL⟩, Keep.refl _, fun _ h => .inl h⟩
  refine ⟨_, rfl, PIf.not (PIf.mk (fun hn => PC.ok (ref_at hL hf') ?_) (fun hn => Ok.mk (ref_op' hd k1 ?_)))⟩
  · rintro _ _ ⟨rfl, i, rfl, hi | ⟨j, x, rfl, hj, hx⟩⟩
    · have hget := hL.nof hi.2
      have hnl := hL.n_eq
      have hll := hL.length hf'
      refine ⟨_, rfl, PIf.ff (decide_eq_false (by omega)) ⟨p, 0, rfl, a, n, cap, cell_at hL.head rfl, PIf.dec (fun h64 => Ok.mk (ref_op' hd k1 ?_)) (fun h64 => ?_)⟩⟩
      · rw [if_pos hn, if_neg (by rw [hget]; simp), if_pos (by omega)]
        exact same 12
      · refine PC.ok (ref_lay hL hf' (k := k) (x := ⟨none, 0, 0, fun _ => False, ⟨[], 0, false⟩⟩) (Lst.nil w1) (fun _ _ _ _ h => h.elim) (fun _ h => h.elim)) ?_
        rintro _ w2 ⟨rfl, F', hR2, hev⟩
        refine ⟨rfl, Ok.mk (ref_op' hd k1 ?_)⟩
        rw [if_pos hn, if_neg (by rw [hget]; simp), if_neg (by omega)]
        exact ⟨F', rfl, hR2, hev⟩
    · have hget := hL.get hf' (List.mem_of_getElem? hx)
      refine ⟨_, rfl, PIf.tt (decide_eq_true (by omega)) (Ok.mk (ref_op' hd k1 ?_))⟩
      rw [if_pos hn, if_pos (by rw [hget]; rfl)]
      exact same 16
  · rw [if_neg (by simp [hn])]
    exact same 1

theorem ref_Rename {k t : ByteArray} (hk : t.size ≤ 1000000) (h : RefAt w p F D) (hf : D.Fit) (h0 : 0 ≤ D.left) (hR : I64 D.left) : Calls Tryz.prog F_ref19_Disk_Rename #[.pointer (some ⟨p, 0, none⟩), .string k, .string t] w (Ok (RDid w p F (D.rename k t))) := by
  refine L_ref19_Disk_Rename (PC.ok (ref_dies h h0 hR) ?_)
  rintro _ w1 ⟨rfl, h1, k1⟩
  refine ⟨_, rfl, PIf.mk (fun hd => Ok.mk (ref_op (g := 0) (args := #[]) (v := .bool true) hd h1 k1)) (fun hd => ?_)⟩
  rw [if_neg (by simp [hd])] at h1
  obtain ⟨a, n, cap, L, hL⟩ := h1
  have hf' := hf.armed
  refine PC.ok (ref_at hL hf') ?_
  rintro _ _ ⟨rfl, i, rfl, hi | ⟨j, x, rfl, hj, hx⟩⟩
  · refine ⟨_, rfl, PIf.tt (decide_eq_true hi.1) (Ok.mk (ref_op' hd k1 ?_))⟩
    rw [onF_none (hL.nof hi.2)]
    exact ⟨F, rfl, ⟨a, n, cap, L, hL⟩, Keep.refl _, fun _ h => .inl h⟩
  · have hget := hL.get hf' (List.mem_of_getElem? hx)
    refine ⟨_, rfl, PIf.ff (decide_eq_false (by omega)) (PC.ok (ref_isName hk) ?_)⟩
    rintro _ _ ⟨rfl, rfl⟩
    refine ⟨_, rfl, PIf.not (PIf.mk (fun hn => ?_) (fun hn => Ok.mk (ref_op' hd k1 ?_)))⟩
    · obtain ⟨b, off, y, rfl, hy, hym, c0, c1, c2, c3⟩ := hL.at hf' hj
      rw [hx] at hy; cases hy
      have hin := hL.inF _ hym
      have hdom := hL.dom
      refine ⟨p, 0, rfl, _, n, cap, cell_at hL.head rfl, b, off, rfl, by omega, by omega, k, _, _, _, _, _, c0, c1, c2, c3, file_var fun w6 hk16 hs6 g6 => ?_⟩
      have hL6 := hL.grew hk16
      refine PC.ok (ref_drop hL6 hf' (k := k)) ?_
      rintro _ w7 ⟨rfl, a', n', cap', F', hL7, k7, hn7, hF7, ha7⟩
      have hne : w1.heap.size ≠ p := by have := lt_of_get hL.head; omega
      have g7 := k7.get g6 hne
      refine ⟨rfl, PS.mk g7 (by simp) fun w8 k8 s8 g8' => ?_⟩
      have g8 : w8.heap[w1.heap.size]? = some (.cells #[.string t, .slice x.a x.n x.c, .int .i64 x.f.synced, .bool x.f.good] 151 (0, 0)) := by rw [g8']; rfl
      refine PS.mk g8 (by simp) fun w9 k9 s9 g9' => ?_
      have g9 : w9.heap[w1.heap.size]? = some (.cells #[.string t, .slice x.a x.n x.c, .int .i64 x.f.synced, .bool true] 151 (0, 0)) := by rw [g9']; rfl
      refine ⟨t, x.a, x.n, x.c, _, _, cell_at g9 rfl, cell_at g9 rfl, cell_at g9 rfl, cell_at g9 rfl, ?_⟩
      have hk79 : Keep (· = w1.heap.size) w7 w9 := k8.then k9
      have hg7 : ¬ F' w1.heap.size := fun hb => by
        rcases hn7 _ hb with h | h
        · have := hdom _ h; omega
        · omega
      have hL9 := hL7.keep hk79 fun b hb e => hg7 (e ▸ hb)
      have hbx9 : Lst cU8 5 x.F w9 x.a x.n x.c x.f.bytes := (((hL.each _ hym).grew hk16).keep k7 fun b hb => (hin b hb).2.1).keep hk79 fun b hb e => by
        have := hdom b (hin b hb).1; omega
      refine PC.ok (ref_lay hL9 (hf'.del k) (k := t) (x := ⟨x.a, x.n, x.c, x.F, { x.f with good := true }⟩) hbx9 (fun y hy hny b hb hby => ?_) (fun b hb => ⟨hF7 b (hin b hb).1, (hin b hb).2.1⟩)) ?_
      · obtain ⟨hy1, hy2⟩ := List.mem_filter.1 hy
        exact hL.apart _ hym y hy1 (fun e => by have e' : k = y.1 := e; rw [← e'] at hy2; simp at hy2) b hb hby
      · rintro _ w10 ⟨rfl, F10, hR10, hev⟩
        refine ⟨rfl, Ok.mk (ref_op' hd k1 ?_)⟩
        rw [onF_some hget, if_pos hn]
        refine ⟨F10, rfl, hR10, ?_, fun b hb => ?_⟩
        · have e1 : Keep F w1 w9 := ((hk16.keep (S := F)).then (k7.mono fun b _ hb => hb ▸ hL.self)).new hk79 fun b hb => .inr (by omega)
          exact e1.new hev.keep fun b hb => by
            rcases hn7 b hb with h | h
            · exact .inl h
            · have := hk16.size; exact .inr (by omega)
        · rcases hev.new b hb with h | h
          · rcases hn7 b h with h | h
            · exact .inl h
            · have := hk16.size; exact .inr (by omega)
          · have := hk16.size; have := k7.size; have := hk79.size; exact .inr (by omega)
    · rw [onF_some hget, if_neg (by simp [hn])]
      exact ⟨F, rfl, ⟨a, n, cap, L, hL⟩, Keep.refl _, fun _ h => .inl h⟩

def cutR (keep : Int) (x : RB) : ByteArray × FileV := (x.1, cutK keep x.2.f)

theorem ref_Crash {keep : Int} (hkp : I64 keep) (h : RefAt w p F D) (hf : D.Fit) : Calls Tryz.prog F_ref19_Disk_Crash #[.pointer (some ⟨p, 0, none⟩), .int .i64 keep] w (Ok fun v w' => ∃ F', v = .tuple #[] ∧ RefAt w' p F' (D.crash keep) ∧ Evo F w F' w') := by
  obtain ⟨a, n, cap, L, h⟩ := h
  have hn := h.n_eq; have hl := h.length hf; have hm := hf.many
  have hdom := h.dom
  refine L_ref19_Disk_Crash ⟨fun m oa on oc i w' => ∃ (j : Nat) (O : List RB) (G : Nat → Prop), i = (j : Int) ∧ j ≤ n ∧ m = n - j ∧ Lst cBox 151 G w' oa on oc O ∧ O.map rF = ((L.take j).filter fun y => y.2.f.good).map (cutR keep) ∧ O.length ≤ j ∧ Grew w w' ∧ (∀ b, G b → w.heap.size ≤ b) ∧
      (∀ y ∈ O, Lst cU8 5 y.2.F w' y.2.a y.2.n y.2.c y.2.f.bytes) ∧ (∀ y ∈ O, ∀ u ∈ O, y.1 ≠ u.1 → ∀ b, y.2.F b → ¬ u.2.F b) ∧ ∀ y ∈ O, ∀ b, y.2.F b → w.heap.size ≤ b ∧ ¬ G b,
    ⟨_, 0, [], fun _ => False, rfl, Nat.zero_le _, rfl, by simpa using Lst.nil w, by simp, by simp, Keep.refl _, fun _ h => h.elim, by simp, by simp, by simp⟩, ?_⟩
  rintro m oa on oc i _ w1 ⟨j, O, G, rfl, hj, rfl, ho, hO, hOl, hk, hG, hOe, hOa, hOF⟩
  have h1 := h.grew hk
  refine ⟨p, 0, rfl, a, n, cap, cell_at h1.head rfl, PIf.dec (fun hlt => ?_) (fun hge => ?_)⟩
  · obtain ⟨b, off, x, rfl, hx, hxm, c0, c1, c2, c3⟩ := h1.at hf (i := j) (by omega)
    obtain ⟨hl1, hl2, hl3⟩ := h1.len hf hxm
    have hcapx := (h1.each _ hxm).cap_le
    have hin := h.inF _ hxm
    have hst : (L.take (j + 1)).filter (fun y => y.2.f.good) = (L.take j).filter (fun y => y.2.f.good) ++ [x].filter (fun y => y.2.f.good) := by
      rw [List.take_add_one, hx]; simp [List.filter_append]
    refine ⟨p, 0, rfl, _, n, cap, cell_at h1.head rfl, b, off, rfl, by omega, by omega, x.1, _, _, _, _, _, c0, c1, c2, c3, file_var fun w6 hk16 hs6 g6 => ?_⟩
    refine ⟨x.2.f.good, cell_at g6 rfl, PIf.mk (fun hgd => ?_) (fun hgd => ⟨_, by omega, j + 1, O, G, wrap_succ (by omega), by omega, rfl, ho.grew hk16, ?_, by omega, hk.grew hk16, hG, fun y hy => (hOe y hy).grew hk16, hOa, hOF⟩)⟩
    · have earg : (if (if (IntKind.wrap .i64 (((x.2.n : Nat) : Int) - (x.2.f.synced : Int))) < keep then (IntKind.wrap .i64 (((x.2.n : Nat) : Int) - (x.2.f.synced : Int))) else keep) > 0 then (if (IntKind.wrap .i64 (((x.2.n : Nat) : Int) - (x.2.f.synced : Int))) < keep then (IntKind.wrap .i64 (((x.2.n : Nat) : Int) - (x.2.f.synced : Int))) else keep) else 0) = max 0 (min keep ((x.2.f.bytes.length : Int) - x.2.f.synced)) := by
        rw [wrap_i64 (by unfold I64; omega), hl1]; omega
      have hkt : ((clampN (keepTo keep x.2.f) x.2.f.bytes.length : Nat) : Int) = x.2.f.synced + max 0 (min keep ((x.2.f.bytes.length : Int) - x.2.f.synced)) := by
        unfold clampN keepTo; omega
      have hcl := clampN_le (keepTo keep x.2.f) x.2.f.bytes.length
      refine ⟨_, _, _, cell_at g6 rfl, _, cell_at g6 rfl, _, _, _, cell_at g6 rfl, _, cell_at g6 rfl, ?_⟩
      dsimp only; rw [earg, wrap_i64 (by unfold I64 at *; omega), ← hkt, Int.toNat_natCast]
      refine ⟨by omega, by omega, PC.ok (kit_CopyBytes (((h1.bytes hf hxm).grew hk16).take (m := clampN (keepTo keep x.2.f) x.2.f.bytes.length) (by omega))) ?_⟩
      rintro _ w7 ⟨a7, n7, c7, F7, rfl, ho7, k7, hF7⟩
      have hn7 : n7 = clampN (keepTo keep x.2.f) x.2.f.bytes.length := by
        have := ho7.len (by decide)
        rw [this]; simp; omega
      refine ⟨_, _, _, rfl, PS.mk (k7.get g6 id) (by simp) fun w8 k8 s8 g8 => ⟨a7, n7, c7, cell_at g8 rfl, PS.mk g8 (by simp) fun w9 k9 s9 g9 => ⟨x.1, a7, n7, c7, _, _, cell_at g9 rfl, cell_at g9 rfl, cell_at g9 rfl, cell_at g9 rfl, ?_⟩⟩⟩
      have hk79 : Keep (· = w1.heap.size) w7 w9 := k8.then k9
      have s16 : w1.heap.size < w6.heap.size := by omega
      have hk19 : Grew w1 w9 := (hk16.grew k7).new hk79 fun b hb => .inr (by omega)
      have ho9 := ho.grew hk19
      have hx9 : Lst cU8 5 F7 w9 a7 n7 c7 (cutK keep x.2.f).bytes := ho7.keep hk79 fun b hb e => by have := hF7 b hb; omega
      have hgd' : x.2.f.good = true := hgd
      have hob := ho.dom
      refine papp ho9 slFile (x := (x.1, (⟨a7, n7, c7, F7, cutK keep x.2.f⟩ : RBox))) (D := fun _ => False) ⟨by rw [hgd']; subst hn7; rfl, trivial⟩ (fun _ h => h.elim) (by unfold Big; omega) (by unfold maxLen; omega) fun a' c' w10 F' ho10 hk10 hF10 _ => ?_
      have hk110 : Grew w w10 := (hk.grew hk19).new hk10 fun b hb => .inr (hG b (ho.self b hb))
      have hk10' : Keep (fun b => G b) w9 w10 := hk10.mono fun b _ hb => ho.self b hb
      have hws := hk.size
      refine ⟨_, _, _, rfl, n - (j + 1), by omega, j + 1, O ++ [(x.1, (⟨a7, n7, c7, F7, cutK keep x.2.f⟩ : RBox))], F', wrap_succ (by omega), by omega, rfl, ho10, ?_, by simp; omega, hk110, fun b hb => ?_, fun y hy => ?_, fun y hy u hu hne b hb hbu => ?_, fun y hy b hb => ?_⟩
      · rw [List.map_append, hO, hst, List.map_append]
        simp [hgd', rF, cutR]
      · rcases hF10 b hb with h | h | h
        · exact hG b h
        · exact h.elim
        · have := hk19.size; omega
      · rcases List.mem_append.1 hy with hy | hy
        · exact ((hOe y hy).grew hk19).keep hk10' fun b hb hg => (hOF y hy b hb).2 hg
        · simp only [List.mem_singleton] at hy; subst hy
          exact hx9.keep hk10' fun b hb hg => by have := hob b hg; have := hF7 b hb; omega
      · rcases List.mem_append.1 hy with hy | hy <;> rcases List.mem_append.1 hu with hu | hu
        · exact hOa y hy u hu hne b hb hbu
        · simp only [List.mem_singleton] at hu; subst hu
          have := (hOe y hy).dom b hb; have : w6.heap.size ≤ b := hF7 b hbu; omega
        · simp only [List.mem_singleton] at hy; subst hy
          have := (hOe u hu).dom b hbu; have : w6.heap.size ≤ b := hF7 b hb; omega
        · simp only [List.mem_singleton] at hy hu; subst hy; subst hu
          exact hne rfl
      · have hlt9 : b < w9.heap.size ∧ w.heap.size ≤ b ∧ ¬ G b := by
          rcases List.mem_append.1 hy with hy | hy
          · have := (hOe y hy).dom b hb
            have := hk19.size
            exact ⟨by omega, hOF y hy b hb⟩
          · simp only [List.mem_singleton] at hy; subst hy
            have h1 : w6.heap.size ≤ b := hF7 b hb
            exact ⟨hx9.dom b hb, by omega, fun hg => by have := hob b hg; omega⟩
        refine ⟨hlt9.2.1, fun hg => ?_⟩
        rcases hF10 b hg with h | h | h
        · exact hlt9.2.2 h
        · exact h
        · omega
    · rw [hO, hst]
      simp [hgd]
  · obtain rfl : j = n := by omega
    rw [List.take_of_length_le (by omega)] at hO
    have hkeys : O.map (·.1) = (L.filter fun y => y.2.f.good).map (·.1) := by
      have := congrArg (List.map Prod.fst) hO
      rw [List.map_map, List.map_map] at this
      exact this
    refine ⟨p, 0, rfl, h.swap hk (fs := (D.files.filter fun x => x.2.good).map (fun x => (x.1, cutK keep x.2))) ho (fun b hb => hG b (ho.self b hb)) hOe hOa (fun y hy b hb => ⟨.inr (hOF y hy b hb).1, fun e => (hOF y hy b hb).2 (ho.self b e)⟩) ?_ (fun q => ?_) fun w2 hR2 k02 k12 s2 => ?_⟩
    · have hs : ((L.filter fun y => y.2.f.good).map (·.1)).Pairwise ltK := List.pairwise_map.2 (h.sorted.filter _)
      rw [← hkeys] at hs
      exact List.pairwise_map.1 hs
    · rw [hO]
      constructor
      · intro hq
        obtain ⟨y, hy, rfl⟩ := List.mem_map.1 hq
        obtain ⟨hy1, hy2⟩ := List.mem_filter.1 hy
        exact List.mem_map.2 ⟨(y.1, y.2.f), List.mem_filter.2 ⟨h.file hy1, hy2⟩, rfl⟩
      · intro hq
        obtain ⟨d, hd, rfl⟩ := List.mem_map.1 hq
        obtain ⟨hd1, hd2⟩ := List.mem_filter.1 hd
        obtain ⟨y, hy, rfl⟩ := List.mem_map.1 ((h.same d).2 hd1)
        exact List.mem_map.2 ⟨y, List.mem_filter.2 ⟨hy, hd2⟩, rfl⟩
    · refine ⟨p, 0, rfl, PS.mk hR2.head (by simp) fun w3 k3 s3 g3 => ⟨p, 0, rfl, PS.mk g3 (by simp) fun w4 k4 s4 g4 => Ok.mk ?_⟩⟩
      have hR4 := hR2.remake (D' := D.crash keep) (k3.then k4) (by rw [g4]; rfl) rfl
      exact ⟨_, rfl, ⟨_, _, _, _, hR4⟩, ((k02.then k3).then k4).mono fun b _ hb => hb ▸ h.self, fun b hb => hb.imp id (·.1)⟩
end
end Go.Proofs.YtpbpjojdfcdbbaaGreatDoor
