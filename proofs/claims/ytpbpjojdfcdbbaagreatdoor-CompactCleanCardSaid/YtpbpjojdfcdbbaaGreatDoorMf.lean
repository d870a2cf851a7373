/- manifest: its bytes; Temp deleted; written; read -/
import Derived.Test.YtpbpjojdfcdbbaaGreatDoorFrame2
import Derived.Test.YtpbpjojdfcdbbaaGreatDoorReader2
import Derived.Test.YtpbpjojdfcdbbaaGreatDoorMfLaw
import Derived.Test.YtpbpjojdfcdbbaaGreatDoorDiskOps4
import Derived.Test.YtpbpjojdfcdbbaaGreatDoorDiskOps3
import Derived.Test.YtpbpjojdfcdbbaaGreatDoorEvent
namespace Go.Proofs.YtpbpjojdfcdbbaaGreatDoor
open Go.Lift
set_option linter.unusedVariables false
set_option maxRecDepth 20000

def mTemp : ByteArray := ⟨#[109, 97, 110, 105, 102, 101, 115, 116, 46, 116, 109, 112]⟩
def mName : ByteArray := ⟨#[109, 97, 110, 105, 102, 101, 115, 116]⟩
def cleanV (D : DiskV) : Int × DiskV := if (aget D.files mTemp).isSome then D.delete mTemp else (0, D)
def mStep (l : List Int) : Nat → DiskV → Int × DiskV
  | 0, D => cleanV D
  | 1, D => D.create mTemp
  | 2, D => D.append mTemp (mfBytes l)
  | 3, D => D.sync mTemp
  | _, D => D.rename mTemp mName
/-- the steps from i on, so many -/
def mRun (l : List Int) : Nat → Nat → DiskV → Int × DiskV
  | _, 0, D => (0, D)
  | i, k + 1, D => if (mStep l i D).1 ≠ 0 then ((mStep l i D).1, (cleanV (mStep l i D).2).2) else mRun l (i + 1) k (mStep l i D).2
def mfWrite (D : DiskV) (l : List Int) : Int × DiskV := if 64 < l.length then (3, D) else mRun l 0 5 D
def mfTell (D : DiskV) : Option (List Int) := if (D.read mName).2 ≠ 0 then none else mfRead (D.read mName).1

theorem sortS_perm' (l : List ByteArray) : (sortS l).Perm l := List.mergeSort_perm _ _
theorem mem_list' {D : DiskV} {k : ByteArray} : k ∈ D.list ↔ (aget D.files k).isSome = true := by
  unfold DiskV.list
  rw [(sortS_perm' _).mem_iff]
  constructor
  · intro h
    cases hk : aget D.files k with
    | none => exact absurd h (aget_none.1 hk)
    | some f => rfl
  · intro h
    obtain ⟨f, hf⟩ := Option.isSome_iff_exists.1 h
    exact List.mem_map.2 ⟨_, aget_mem hf, rfl⟩
theorem list_length' (D : DiskV) : D.list.length = D.files.length := by unfold DiskV.list sortS; simp
theorem mRun_succ (l : List Int) {i : Nat} (h : i < 5) (D : DiskV) : mRun l i (5 - i) D = if (mStep l i D).1 ≠ 0 then ((mStep l i D).1, (cleanV (mStep l i D).2).2) else mRun l (i + 1) (5 - (i + 1)) (mStep l i D).2 := by
  obtain ⟨k, hk⟩ : ∃ k, 5 - i = k + 1 := ⟨4 - i, by omega⟩
  rw [hk, show 5 - (i + 1) = k by omega]
  rfl

theorem slices_Index {a : Option Addr} {n c : Nat} {l : List ByteArray} {s : ByteArray} {w : World} {D : Nat → Prop} (ha : Row cStr 16 w D a n l) :
    Calls Tryz.prog F_slices_Index_string_string #[.slice a n c, .string s] w (Ok fun v w' => (∃ t : Int, v = .int .i64 t ∧ (0 ≤ t ↔ s ∈ l)) ∧ w = w') := by
  have hl := ha.len; have hb := ha.big
  unfold Big at hb
  refine L_slices_Index_string_string ⟨fun m i w' => ∃ j : Nat, i = j ∧ j ≤ n ∧ m = n - j ∧ s ∉ l.take j ∧ w = w', ⟨_, 0, rfl, Nat.zero_le _, rfl, by simp, rfl⟩, ?_⟩
  rintro m i _ _ ⟨j, rfl, hj, rfl, hno, rfl⟩
  refine PIf.dec (fun h1 => ?_) (fun h1 => ?_)
  · obtain ⟨b, off, x, rfl, hx, _, hc⟩ := ha.at1 (i := j) (by omega)
    refine ⟨b, off, rfl, by omega, by omega, _, hc, PIf.eqS (fun he => ?_) (fun he => ?_)⟩
    · exact Ok.mk ⟨⟨_, rfl, fun _ => he ▸ List.mem_of_getElem? hx, fun _ => by omega⟩, rfl⟩
    · refine ⟨_, by omega, j + 1, wrap_succ (by omega), by omega, rfl, ?_, rfl⟩
      rw [List.take_add_one, hx]
      intro hm
      rcases List.mem_append.1 hm with h | h
      · exact hno h
      · simp at h; exact he h
  · rw [List.take_of_length_le (by omega)] at hno
    exact Ok.mk ⟨⟨_, rfl, fun h => by omega, fun h => absurd h hno⟩, rfl⟩
theorem slices_Contains {a : Option Addr} {n c : Nat} {l : List ByteArray} {s : ByteArray} {w : World} {D : Nat → Prop} (ha : Row cStr 16 w D a n l) :
    Calls Tryz.prog F_slices_Contains_string_string #[.slice a n c, .string s] w (Ok fun v w' => v = .bool (decide (s ∈ l)) ∧ w = w') := by
  refine L_slices_Contains_string_string (PC.ok (slices_Index ha) ?_)
  rintro _ _ ⟨⟨t, rfl, ht⟩, rfl⟩
  exact ⟨_, rfl, Ok.mk ⟨by rw [decide_eq_decide.2 ht], rfl⟩⟩

theorem manifest_clean {w : World} {p : Nat} {F : Nat → Prop} {D : DiskV} (hD : DiskAt w p F D) : Calls Tryz.prog F_manifest_clean #[.pointer (some ⟨p, 0, none⟩)] w (Ok (Did w p F (cleanV D))) := by
  refine L_manifest_clean (PC.ok (Disk_List hD) ?_)
  rintro _ w1 ⟨a, n, c, G, rfl, ho, k1, hG⟩
  have hl : D.list.length ≤ 64 := by rw [list_length']; exact hD.ok.many
  refine ⟨_, _, _, rfl, PC.ok (slices_Contains (ho.row (by decide) (by unfold Big; omega))) ?_⟩
  rintro _ _ ⟨rfl, rfl⟩
  have hm : (mTemp ∈ D.list) ↔ (aget D.files mTemp).isSome = true := mem_list'
  refine ⟨_, rfl, PIf.dec (fun h => PC.ok (Disk_Delete (hD.grew k1)) fun v w' h2 => did_int v w' k1 ?_) (fun h => ?_)⟩
  · have e : cleanV D = D.delete mTemp := by unfold cleanV; rw [if_pos (hm.1 h)]
    rw [e]; exact h2
  · have e : cleanV D = (0, D) := by unfold cleanV; rw [if_neg fun hc => h (hm.2 hc)]
    rw [e]; exact Ok.mk (Did.same (hD.grew k1) k1.keep)

theorem manifest_bytes {w : World} {Dl : Nat → Prop} {a : Option Addr} {n c : Nat} {l : List Int} (ht : Tabs w) (hl : Row cI64 8 w Dl a n l) (hok : ∀ x ∈ l, I64 x) (hD : ∀ b, Dl b → b < w.heap.size) (h64 : l.length ≤ 64) :
    Calls Tryz.prog F_manifest_bytes #[.agg #[.slice a n c]] w (Ok (New cU8 5 w (mfBytes l))) := by
  have hn := hl.len
  refine L_manifest_bytes (PA.mk fun w1 k1 s1 g1 => ⟨_, _, _, cell_at g1 rfl, PC.ok (pack_Int (m := (n : Int)) (by unfold I64; omega) (Row.nil w1 fun _ => False) (by unfold Big; omega) fun _ h => h.elim) ?_⟩)
  rintro _ w2 ⟨a2, n2, c2, F2, rfl, ho2, k2, hF2⟩
  have k02 : Grew w w2 := k1.then k2
  have e0 : encInt (n : Int) = encInts ((n : Int) :: l.take 0) := by simp [encInts]
  rw [List.nil_append, e0] at ho2
  refine ⟨_, _, _, rfl, _, _, _, cell_at (k2.get g1 id) rfl, fun m ba bn bc i w' => ∃ j : Nat, i = j ∧ j ≤ n ∧ m = n - j ∧ ∃ F, Lst cU8 5 F w' ba bn bc (encInts ((n : Int) :: l.take j)) ∧ Grew w w' ∧ ∀ b, F b → w.heap.size ≤ b,
    ⟨_, 0, rfl, Nat.zero_le _, rfl, F2, ho2, k02, fun b hb => by have := hF2 b hb; omega⟩, ?_⟩
  rintro m ba bn bc i _ w3 ⟨j, rfl, hj, rfl, F3, ho3, k3, hF3⟩
  have hle : (encInts ((n : Int) :: l.take j)).length ≤ 9 * (j + 1) := by
    have h1 := encInts_le (l := (n : Int) :: l.take j) (by
      intro x hx
      rcases List.mem_cons.1 hx with rfl | hx
      · unfold I64; omega
      · exact hok x (List.mem_of_mem_take hx))
    have h2 : ((n : Int) :: l.take j).length = j + 1 := by simp; omega
    omega
  have hbn := ho3.len (by decide)
  refine PIf.dec (fun hlt => ?_) (fun hge => ?_)
  · obtain ⟨b, off, x, rfl, hx, hxr, hc⟩ := (hl.grew k3).at1 (i := j) (by omega)
    refine ⟨b, off, rfl, by omega, by omega, _, hc, PC.ok (pack_Int hxr (ho3.row (bytes := 1) (by decide) (by unfold Big; omega)) (by unfold Big; omega) ho3.dom) ?_⟩
    rintro _ w4 ⟨a4, n4, c4, F4, rfl, ho4, k4, hF4⟩
    refine ⟨_, _, _, rfl, _, ?_, j + 1, wrap_succ (by omega), by omega, rfl, F4, ?_, k3.then k4, fun b hb => by have := hF4 b hb; have := k3.size; omega⟩
    · omega
    · have e : encInts ((n : Int) :: l.take (j + 1)) = encInts ((n : Int) :: l.take j) ++ encInt x := by
        rw [List.take_add_one, hx, ← List.cons_append, encInts_append]
        congr 1
        simp [encInts]
      rw [e]; exact ho4
  · obtain rfl : j = n := by omega
    rw [List.take_of_length_le (by omega), hn] at ho3
    change Lst cU8 5 F3 w3 ba bn bc (mfBody l) at ho3
    have hmb := mfBody_le hok h64
    refine PC.ok (frame_Put (ht.grew k3) (ho3.row (bytes := 1) (by decide) (by unfold Big; omega)) ho3.dom) ?_
    rintro _ w4 ⟨_, rfl, a4, n4, c4, F4, rfl, ho4, k4, hF4⟩
    rw [show frPut 2 (mfBody l) = (mfBytes l, 0) by unfold frPut mfBytes; rw [if_neg (by decide), if_neg (by omega)]] at ho4 ⊢
    exact ⟨_, _, _, _, rfl, Ok.mk ⟨_, _, _, F4, rfl, ho4, k3.then k4, fun b hb => by have := hF4 b hb; have := k3.size; omega⟩⟩

theorem manifest_Write {w : World} {p : Nat} {F Dl : Nat → Prop} {D : DiskV} {a : Option Addr} {n c : Nat} {l : List Int} (ht : Tabs w) (hD : DiskAt w p F D) (hl : Row cI64 8 w Dl a n l) (hok : ∀ x ∈ l, I64 x) (hDl : ∀ b, Dl b → b < w.heap.size ∧ ¬ F b) (hF1 : ∀ b, F b → 1 < b) :
    Calls Tryz.prog F_manifest_Write #[.pointer (some ⟨p, 0, none⟩), .agg #[.slice a n c]] w (Ok (Did w p F (mfWrite D l))) := by
  have hn := hl.len
  refine L_manifest_Write (PA.mk fun w1 k1 s1 g1 => PA.mk fun w2 k2 s2 g2 => PA.mk fun w3 k3 s3 g3 => ⟨_, _, _, cell_at (k3.get g2 id) rfl, PIf.dec (fun h => ?_) (fun h => ?_)⟩)
  · refine PS.mk g3 (by simp) fun w4 k4 s4 g4 => ⟨_, cell_at g4 rfl, ?_⟩
    have e : mfWrite D l = (3, D) := by unfold mfWrite; rw [if_pos (by omega)]
    rw [e]
    have k04 : Grew w w4 := ((k1.then k2).then k3).new k4 fun b hb => .inr (by omega)
    exact Ok.mk (Did.same (hD.grew k04) k04.keep)
  refine PA.mk fun w4 k4 s4 g4 => ?_
  have k04 : Grew w w4 := ((k1.then k2).then k3).then k4
  have e : mfWrite D l = mRun l 0 5 D := by unfold mfWrite; rw [if_neg (by omega)]
  rw [e]
  have hFlt := hD.dom
  refine ⟨fun m t w' => ∃ (i : Nat) (Di : DiskV) (Fi : Nat → Prop), t = i ∧ i ≤ 5 ∧ m = 5 - i ∧ mRun l 0 5 D = mRun l i (5 - i) Di ∧ DiskAt w' p Fi Di ∧ Keep (fun b => F b ∨ b = w2.heap.size) w4 w' ∧ (∀ b, Fi b → F b ∨ w4.heap.size ≤ b) ∧ w'.heap[w2.heap.size]? = some (.cells #[.int .i64 0] 26 (0, 0)),
    ⟨_, 0, D, F, rfl, by omega, rfl, rfl, hD.grew k04, Keep.refl _, fun b hb => .inl hb, k4.get g3 id⟩, ?_⟩
  rintro m t _ w5 ⟨i, Di, Fi, rfl, hi, rfl, hrun, h5, k5, hFi, ge⟩
  have nF : ∀ b, w.heap.size ≤ b → b < w4.heap.size → ¬ Fi b := fun b h1 h2 hf => by
    rcases hFi b hf with h | h
    · have := hFlt b h; omega
    · omega
  have gd : w5.heap[w.heap.size]? = some (.cells #[.pointer (some ⟨p, 0, none⟩)] 25 (0, 0)) := k5.get (k4.get (k3.get (k2.get g1 id) id) id) (fun hs => hs.elim (fun h => by have := hFlt _ h; omega) (fun h => by omega))
  have gm : w5.heap[w1.heap.size]? = some (.cells #[.slice a n c] 56 (0, 0)) := k5.get (k4.get (k3.get g2 id) id) (fun hs => hs.elim (fun h => by have := hFlt _ h; omega) (fun h => by omega))
  have gc := k5.get g4 (fun hs => hs.elim (fun h => by have := hFlt _ h; omega) (fun h => by omega))
  have h45 := k5.size
  /- what leaves -/
  have leave : ∀ (e : Int) (E : DiskV) (G : Nat → Prop) (w6 : World), DiskAt w6 p G E → Keep (fun b => F b ∨ b = w2.heap.size) w4 w6 → (∀ b, G b → F b ∨ w4.heap.size ≤ b) → w6.heap[w2.heap.size]? = some (.cells #[.int .i64 e] 26 (0, 0)) →
      mRun l 0 5 D = (e, if e ≠ 0 then (cleanV E).2 else E) →
      Lv Tryz.prog (fun w36 => ∃ r37 : Int, w36.cell? ⟨w2.heap.size, 0, none⟩ = some (.int .i64 r37) ∧ Ok (Did w p F (mRun l 0 5 D)) (.returned (.int .i64 r37)) w36) (fun ch w' => Ok (Did w p F (mRun l 0 5 D)) (.panicked ch) w')
        ([{ target := .fn (.func 86) #[.pointer (some ⟨w2.heap.size, 0, none⟩), .pointer (some ⟨w.heap.size, 0, none⟩)], args := #[] }] : List Deferred) .returning w6 := by
    intro e E G w6 hE k6 hG g6 hr
    have gd6 : w6.heap[w.heap.size]? = some (.cells #[.pointer (some ⟨p, 0, none⟩)] 25 (0, 0)) := k6.get (k4.get (k3.get (k2.get g1 id) id) id) (fun hs => hs.elim (fun h => by have := hFlt _ h; omega) (fun h => by omega))
    have fin : ∀ w7 (G' : Nat → Prop) (E' : DiskV), DiskAt w7 p G' E' → Evo G w6 G' w7 → mRun l 0 5 D = (e, E') → ∃ r37 : Int, w7.cell? ⟨w2.heap.size, 0, none⟩ = some (.int .i64 r37) ∧ Ok (Did w p F (mRun l 0 5 D)) (.returned (.int .i64 r37)) w7 := by
      intro w7 G' E' hE' hev hr'
      have hGn : ¬ G w2.heap.size := fun h => (hG _ h).elim (fun h => by have := hFlt _ h; omega) (fun h => by omega)
      have h46 := k6.size
      refine ⟨e, cell_at (hev.keep.get g6 hGn) rfl, Ok.mk ?_⟩
      rw [hr']
      refine ⟨G', rfl, hE', ?_, fun b hb => ?_⟩
      · have k06 : Keep F w w6 := k04.keep.new k6 fun b hb => hb.imp id fun h => by omega
        exact k06.new hev.keep fun b hb => (hG b hb).imp id fun h => by omega
      · rcases hev.new b hb with h | h
        · exact (hG b h).imp id fun h => by omega
        · exact .inr (by omega)
    refine Lv.one (by simp) (by kernel_rfl) (CallsD.mono (LD_manifest_Write_1 (R := fun e' w7 => e' = .returned (.tuple #[]) ∧ ∃ r37 : Int, w7.cell? ⟨w2.heap.size, 0, none⟩ = some (.int .i64 r37) ∧ Ok (Did w p F (mRun l 0 5 D)) (.returned (.int .i64 r37)) w7) ⟨_, cell_at g6 rfl, PIf.neI (fun hne => ?_) (fun h0 => ?_)⟩) ?_)
    · refine ⟨_, cell_at gd6 rfl, PC.ok (manifest_clean hE) ?_⟩
      rintro _ w7 ⟨G', rfl, hE', hev⟩
      exact ⟨_, rfl, rfl, fin w7 G' _ hE' hev (by rw [hr, if_pos hne])⟩
    · exact ⟨rfl, fin w6 G E hE (Evo.refl _ _) (by rw [hr, if_neg (by simpa using h0)])⟩
    · rintro e' u' w7 ⟨rfl, rfl, hX⟩
      exact Lv.ret rfl hX
  refine PIf.dec (fun hlt => ?_) (fun hge => ?_)
  · have hi5 : i < 5 := by omega
    have step : ∀ κ ε, (∀ v w', Did w5 p Fi (mStep l i Di) v w' → κ v w') → ∃ t19 : Value, w5.cell? ⟨w3.heap.size, 0 + Int.toNat (i : Int), none⟩ = some t19 ∧ ∃ g22 fi23 ca24, t19 = .func (.func g22) fi23 ca24 ∧ enters Tryz.prog g22 = true ∧ PC Tryz.prog g22 (fi23 ++ #[] ++ ca24) w5 κ ε := by
      intro κ ε hκ
      rw [Int.toNat_natCast, Nat.zero_add]
      have fin : ∀ {r : Int × DiskV} {v w'}, Did w5 p Fi r v w' → ∃ t : Int, v = .int .i64 t ∧ Ok (Did w5 p Fi r) (.returned (.int .i64 t)) w' := fun h => did_int _ _ (Keep.refl _) h
      match i, hi5, hκ with
      | 0, _, hκ => exact ⟨_, cell_at gc rfl, _, _, _, rfl, by kernel_rfl, PC.ok (L_manifest_Write_2 ⟨_, cell_at gd rfl, PC.ok (manifest_clean h5) fun v w' h => fin h⟩) hκ⟩
      | 1, _, hκ => exact ⟨_, cell_at gc rfl, _, _, _, rfl, by kernel_rfl, PC.ok (L_manifest_Write_3 ⟨_, cell_at gd rfl, PC.ok (Disk_Create h5) fun v w' h => fin h⟩) hκ⟩
      | 2, _, hκ =>
        refine ⟨_, cell_at gc rfl, _, _, _, rfl, by kernel_rfl, PC.ok (φ := Did w5 p Fi (mStep l 2 Di)) (L_manifest_Write_4 fun w6 d6 => ?_) hκ⟩
        have k6 : Grew w5 w6 := d6.keep
        have k46 : Keep (fun b => F b ∨ b = w2.heap.size) w4 w6 := k5.then k6.keep
        have hl6 : Row cI64 8 w6 Dl a n l := (hl.grew k04).keep k46 fun b hb hs => hs.elim (hDl b hb).2 fun h => by have := (hDl b hb).1; omega
        have ht6 : Tabs w6 := by
          have := (ht.grew k04)
          have hsm : w.heap.size ≤ w4.heap.size := k04.size
          have h1 := ht.lt
          refine ⟨fun j hj => ?_, fun j hj => ?_, Nat.lt_of_lt_of_le (Nat.lt_of_lt_of_le h1 hsm) k46.size⟩
          · exact (this.lower j hj) ▸ k46.cell (a := ⟨0, j, none⟩) (by show 0 < _; omega) (fun hs => hs.elim (fun h => absurd (hF1 0 h) (by decide)) (fun h => by have h : 0 = w2.heap.size := h; omega))
          · exact (this.upper j hj) ▸ k46.cell (a := ⟨1, j, none⟩) (by show 1 < _; omega) (fun hs => hs.elim (fun h => absurd (hF1 1 h) (by decide)) (fun h => by have h : 1 = w2.heap.size := h; omega))
        refine ⟨Fi, nF _ (Nat.le_refl _) (by omega), _, cell_at (k6.get gd id) rfl, _, _, _, cell_at (k6.get gm id) rfl, PC.ok (manifest_bytes ht6 hl6 hok (fun b hb => by have := (hDl b hb).1; have := k04.size; have := k46.size; omega) (by omega)) ?_⟩
        rintro _ w7 ⟨a7, n7, c7, F7, rfl, ho7, k7, hF7⟩
        have hmb := mfBytes_length l
        have hml := mfBody_le hok (by omega)
        refine ⟨_, _, _, rfl, k7.keep, PC.ok (Disk_Append ((h5.grew k6).grew k7) (ho7.row (by decide) (by unfold Big; omega)) (fun e => ho7.nil0 e) fun b hb => ⟨ho7.dom b hb, fun hf => by have := h5.dom b hf; have := hF7 b hb; have := k6.size; omega⟩) ?_⟩
        rintro _ w8 ⟨F8, rfl, hD8, hev⟩
        exact ⟨_, rfl, hev.keep, Ok.mk ⟨F8, rfl, hD8, (Evo.mk (Grew.keep (k6.then k7)) fun _ h => .inl h : Evo Fi w5 Fi w7).trans hev⟩⟩
      | 3, _, hκ => exact ⟨_, cell_at gc rfl, _, _, _, rfl, by kernel_rfl, PC.ok (L_manifest_Write_5 ⟨_, cell_at gd rfl, PC.ok (Disk_Sync h5) fun v w' h => fin h⟩) hκ⟩
      | 4, _, hκ => exact ⟨_, cell_at gc rfl, _, _, _, rfl, by kernel_rfl, PC.ok (L_manifest_Write_6 ⟨_, cell_at gd rfl, PC.ok (Disk_Rename h5) fun v w' h => fin h⟩) hκ⟩
    refine ⟨_, _, rfl, by omega, by omega, step _ _ ?_⟩
    rintro _ w6 ⟨F6, rfl, h6, hev⟩
    have hne6 : ∀ b, F6 b → b ≠ w2.heap.size := fun b hb e => by
      subst e
      rcases hev.new _ hb with h | h
      · exact nF _ (by omega) (by omega) h
      · omega
    have hF6 : ∀ b, F6 b → F b ∨ w4.heap.size ≤ b := fun b hb => by
      rcases hev.new b hb with h | h
      · exact hFi b h
      · exact .inr (by omega)
    have k46 : Keep (fun b => F b ∨ b = w2.heap.size) w4 w6 := k5.new hev.keep fun b hb => (hFi b hb).imp .inl id
    refine ⟨_, rfl, PS.mk (hev.keep.get ge (nF _ (by omega) (by omega))) (by simp) fun w7 k7 s7 g7 => ?_⟩
    have h7 := h6.keep k7 fun b hb => hne6 b hb
    have k47 : Keep (fun b => F b ∨ b = w2.heap.size) w4 w7 := k46.then (k7.mono fun b _ hb => .inr hb)
    rw [mRun_succ l hi5] at hrun
    refine ⟨_, cell_at g7 rfl, PIf.neI (fun hne => ?_) (fun h0 => ?_)⟩
    · refine ⟨_, cell_at g7 rfl, PS.mk g7 (by simp) fun w8 k8 s8 g8 => ?_⟩
      exact leave _ _ F6 w8 (h7.keep k8 fun b hb => hne6 b hb) (k47.then (k8.mono fun b _ hb => .inr hb)) hF6 g8 (by rw [hrun, if_pos hne, if_pos hne])
    · rw [if_neg (by simpa using h0)] at hrun
      rw [h0] at g7
      exact ⟨rfl, _, by omega, i + 1, _, F6, wrap_succ (by omega), by omega, rfl, hrun, h7, k47, hF6, g7⟩
  · obtain rfl : i = 5 := by omega
    refine ⟨_, cell_at ge rfl, PS.mk ge (by simp) fun w6 k6 s6 g6 => ?_⟩
    refine leave 0 Di Fi w6 (h5.keep k6 fun b hb e => nF b (by omega) (by omega) hb) (k5.then (k6.mono fun b _ hb => .inr hb)) hFi g6 ?_
    rw [hrun]; rfl

theorem manifest_Read {w : World} {p : Nat} {F : Nat → Prop} {D : DiskV} (ht : Tabs w) (hD : DiskAt w p F D) :
    Calls Tryz.prog F_manifest_Read #[.pointer (some ⟨p, 0, none⟩)] w (Ok fun v w' => ∃ a n c G, v = .tuple #[.agg #[.slice a n c], .bool (mfTell D).isSome] ∧ Lst cI64 3 G w' a n c ((mfTell D).getD []) ∧ Grew w w' ∧ ∀ b, G b → w.heap.size ≤ b) := by
  refine L_manifest_Read (PA.mk fun w1 k1 s1 g1 => PC.ok (Disk_Read (hD.grew k1)) ?_)
  rintro _ w2 ⟨_, rfl, a2, n2, c2, F2, rfl, ho2, k2, hF2⟩
  change Lst cU8 5 F2 w2 a2 n2 c2 (D.read mName).1 at ho2
  have hlen : (D.read mName).1.length ≤ 262144 := by
    unfold DiskV.read
    split
    · simp
    · split
      · simp
      · rename_i f hf; exact hD.ok.len (aget_mem hf)
  have hcell : ∀ {w'}, Grew w1 w' → w'.heap[w.heap.size]? = some (.cells #[.slice none 0 0] 56 (0, 0)) := fun hk => hk.get g1 id
  have stop : mfTell D = none → ∀ w3, Grew w1 w3 → PS w3 ⟨w.heap.size, 0, none⟩ (.slice none 0 0) fun w7 => ∃ (r8a : Option Addr) (r8n : Nat) (r8c : Nat), w7.cell? ⟨w.heap.size, 0, none⟩ = some (.slice r8a r8n r8c) ∧
      Ok (fun v w' => ∃ a n c G, v = .tuple #[.agg #[.slice a n c], .bool (mfTell D).isSome] ∧ Lst cI64 3 G w' a n c ((mfTell D).getD []) ∧ Grew w w' ∧ ∀ b, G b → w.heap.size ≤ b) (.returned (.tuple #[.agg #[.slice r8a r8n r8c], .bool false])) w7 := by
    intro he w3 k3
    refine PS.mk (hcell k3) (by simp) fun w4 k4 s4 g4 => ⟨_, _, _, cell_at g4 rfl, ?_⟩
    rw [he]
    exact Ok.mk ⟨none, 0, 0, fun _ => False, rfl, Lst.nil w4, (k1.then k3).new k4 fun b hb => .inr (by omega), fun _ h => h.elim⟩
  refine ⟨_, _, _, _, rfl, PIf.neI (fun hne => stop (by unfold mfTell; exact if_pos hne) w2 k2) (fun he => ?_)⟩
  have hT : mfTell D = mfRead (D.read mName).1 := by unfold mfTell; exact if_neg fun h => h he
  generalize (D.read mName).1 = bs at ho2 hlen hT
  have hn2 := ho2.len (by decide)
  refine PC.ok (frame_Get (ht.grew (k1.then k2)) (ho2.row (bytes := 1) (by decide) (by unfold Big; omega)) ho2.cap_le ho2.dom) ?_
  rintro _ w3 ⟨a3, n3, c3, F3, rfl, ho3, k3, hF3⟩
  refine ⟨_, _, _, _, _, _, rfl, PA.mk fun w4 k4 s4 g4 => PS.mk g4 (by simp) fun w5 k5 s5 g5 => PS.mk g5 (by simp) fun w6 k6 s6 g6 => ?_⟩
  have g6' : w6.heap[w3.heap.size]? = some (.cells #[.int .i64 (frGet bs).kind, .slice a3 n3 c3] 99 (0, 0)) := g6
  have k36 : Grew w3 w6 := (k4.new k5 fun b hb => .inr (by omega)).new k6 fun b hb => .inr (by omega)
  have k16 : Grew w1 w6 := (k2.then k3).then k36
  have h36 := k36.size
  refine PIf.neI (fun hne => stop (by rw [hT]; unfold mfRead; exact if_pos (.inl hne)) w6 k16) (fun hno => ?_)
  refine PIf.neI (fun hne => stop (by rw [hT]; unfold mfRead; exact if_pos (.inr (.inl fun e => hne (by rw [e, hn2])))) w6 k16) (fun hnn => ?_)
  refine ⟨_, cell_at g6' rfl, PIf.neI (fun hne => stop (by rw [hT]; unfold mfRead; exact if_pos (.inr (.inr hne))) w6 k16) (fun hk2 => ?_)⟩
  have hR : mfTell D = if rdDone (mfNums (frGet bs).body).2 ≠ 0 then none else some (mfNums (frGet bs).body).1 := by
    rw [hT]; unfold mfRead
    refine if_neg ?_
    rintro (h | h | h)
    · exact h hno
    · exact h (by omega)
    · exact h hk2
  have ho6 := ho3.grew k36
  obtain ⟨hle, h9, hbl⟩ := frGet_no hno
  generalize (frGet bs).body = body at ho6 hR hbl g6' ho3
  refine ⟨_, _, _, cell_at g6' rfl, PC.ok (pack_From (ho6.row (bytes := 1) (by decide) (by unfold Big; omega)) ho6.dom) ?_⟩
  rintro _ w7 ⟨q, P, rfl, hr7, k7, hP⟩
  refine ⟨_, rfl, PA.mk fun w8 k8 s8 g8 => PC.ok (rd_Count (m := 64) (hr7.grew k8)) ?_⟩
  rintro _ w9 ⟨rfl, hr9, k9⟩
  have hP7 := hr7.dom
  have hq := hr7.self
  have hq7 := hP7 q hq
  have hq6 := hP q hq
  obtain ⟨c1, c2', c3', c4⟩ := RdV.Fit.count (r := ⟨body, 0, 0⟩) ⟨Nat.zero_le _, .inl rfl⟩ (m := 64) (by omega)
  have g9 : w9.heap[w7.heap.size]? = some (.cells #[.slice none 0 0] 56 (0, 0)) := k9.get g8 (fun e => by omega)
  have hN : mfNums body = rdInts (rdCount 64 ⟨body, 0, 0⟩).1.toNat (rdCount 64 ⟨body, 0, 0⟩).2 := rfl
  have k19 : Grew w1 w9 := ((k16.then k7).then k8).new k9 fun b hb => .inr (by have := k16.size; omega)
  generalize hct : rdCount 64 ⟨body, 0, 0⟩ = ct at hr9 c1 c2' c3' c4 hN
  obtain ⟨cn, r0⟩ := ct
  simp only at hr9 c1 c2' c3' c4 hN
  refine ⟨_, rfl, fun m t w' => ∃ j : Nat, t = j ∧ (j : Int) ≤ cn ∧ m = cn.toNat - j ∧ RdAt w' q P (rdInts j r0).2 ∧ Grew w1 w' ∧ ∃ a n c G, w'.heap[w7.heap.size]? = some (.cells #[.slice a n c] 56 (0, 0)) ∧ Lst cI64 3 G w' a n c (rdInts j r0).1 ∧ (∀ b, G b → w9.heap.size ≤ b) ∧ w9.heap.size ≤ w'.heap.size,
    ⟨_, 0, rfl, c2', rfl, hr9, k19, none, 0, 0, fun _ => False, g9, Lst.nil w9, fun _ h => h.elim, Nat.le_refl _⟩, ?_⟩
  have k79 := k9.size
  rintro m t _ w10 ⟨j, rfl, hj, rfl, hr10, k10, a10, n10, c10, G10, g10, ho10, hG10, h910⟩
  have hP9 : ∀ b, P b → b < w9.heap.size := fun b hb => by have := hP7 b hb; omega
  refine PIf.dec (fun hlt => ?_) (fun hge => ?_)
  · intro w11 d11
    have k11 : Grew w10 w11 := d11.keep
    refine ⟨(fun b => b = q ∨ G10 b), fun hs => hs.elim (fun e => by omega) (fun e => by have := hG10 _ e; omega), _, _, _, cell_at (k11.get g10 id) rfl, PC.ok (rd_Int (hr10.grew k11)) ?_⟩
    rintro _ w12 ⟨rfl, hr12, k12⟩
    obtain ⟨f1, f2, f3, f4⟩ := c1.ints j
    obtain ⟨f5, f6, f7⟩ := f1.int
    refine ⟨_, rfl, k12.mono fun b _ hb => .inl hb, ?_⟩
    have ho12 := (ho10.grew k11).keep k12 fun b hb e => by have := hG10 b hb; omega
    refine PA.mk fun w13 k13 s13 g13 => ⟨k13.keep, ?_⟩
    have ho13 := ho12.grew k13
    have hlj : (rdInts j r0).1.length = j := f3
    refine appRow ho13 slI64 (D := (· = w12.heap.size)) (Row.lit g13 [(rdInt (rdInts j r0).2).1] rfl (fun x hx => by simp at hx; subst hx; exact f6) (by unfold Big; simp)) (fun b e => ⟨by omega, fun e2 => by have := ho12.dom b (ho12.self b e2); omega⟩) (by rw [hlj]; unfold Big; simp; omega) (by rw [hlj]; unfold maxLen; simp; omega) fun a14 c14 w14 F14 ho14 hk14 _ hs14 => ?_
    replace ho14 := ho14.alone
    have g14 : w14.heap[w7.heap.size]? = some (.cells #[.slice a10 n10 c10] 56 (0, 0)) := hk14.get (k13.get (k12.get (k11.get g10 id) (fun e => by omega)) id) (fun e => by have := hG10 _ (ho10.self _ e); omega)
    have z1 := k11.size; have z2 := k12.size; have z3 := k13.size; have z4 := hk14.size
    have hs14' : ∀ b, blk a14 = some b → w9.heap.size ≤ b := fun b hb => by
      rcases hs14 b hb with h | h
      · exact hG10 b h
      · omega
    refine ⟨_, _, _, rfl, PS.mk g14 (by simp) fun w15 k15 s15 g15 => ⟨_, by omega, j + 1, wrap_succ (by omega), by omega, rfl, ?_, ?_, a14, _, c14, (fun b => blk a14 = some b), g15, ?_, hs14', by omega⟩⟩
    · refine (((hr12.grew k13).keep hk14 fun b hb e => by have := hP9 b hb; have := hG10 b (ho10.self b e); omega)).keep k15 fun b hb e => by have := hr7.dom b hb; omega
    · refine ((((k10.then k11).new k12 fun b hb => .inr (by have := k16.size; omega)).then k13).new hk14 fun b hb => .inr (by have := hG10 b (ho10.self b hb); have := k19.size; omega)).new k15 fun b hb => .inr (by have := (k16.then k7).size; omega)
    · exact ho14.keep k15 fun b hb e => by have := hs14' b hb; omega
  · obtain rfl : cn = (j : Int) := by omega
    rw [Int.toNat_natCast] at hN
    rw [← hN] at hr10 ho10
    refine PC.ok (rd_Done hr10) ?_
    rintro _ w11 ⟨rfl, d11⟩
    have k11 : Grew w10 w11 := d11.keep
    refine ⟨_, rfl, PIf.neI (fun hne => stop (by rw [hR]; exact if_pos hne) w11 (k10.then k11)) (fun h0 => ?_)⟩
    have hS : mfTell D = some (mfNums body).1 := by rw [hR]; exact if_neg fun h => h h0
    rw [hS]
    refine ⟨_, _, _, cell_at (k11.get g10 id) rfl, PS.mk (hcell (k10.then k11)) (by simp) fun w12 k12 s12 g12 => ⟨_, _, _, cell_at g12 rfl, Ok.mk ⟨a10, n10, c10, G10, rfl, ?_, ?_, ?_⟩⟩⟩
    · exact (ho10.grew k11).keep k12 fun b hb e => by have := hG10 b hb; have := k19.size; omega
    · exact (k1.then (k10.then k11)).new k12 fun b hb => .inr (by omega)
    · intro b hb; have := hG10 b hb; have := k19.size; omega
end Go.Proofs.YtpbpjojdfcdbbaaGreatDoor
