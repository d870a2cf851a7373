/- vdisk: the calls -/
import Derived.Test.YtpbpjojdfcdbbaaGreatDoorDiskOps
import Derived.Test.YtpbpjojdfcdbbaaGreatDoorDSorted
namespace Go.Proofs.YtpbpjojdfcdbbaaGreatDoor
open Go.Lift
set_option linter.unusedVariables false
set_option maxRecDepth 20000

theorem kS : KeyT Tryz.prog 9 Value.string := keyS Tryz.underlying9
theorem mF : MapT Tryz.prog 78 9 92 (.pointer none) := ⟨by kernel_rfl, by kernel_rfl⟩
theorem uF : Tryz.prog.underlying 92 = some (.pointer 94) := by kernel_rfl

def DiskV.room (D : DiskV) : Int := (D.most : Int) - D.used
def DiskV.op (D : DiskV) (body : DiskV → Int × DiskV) : Int × DiskV := if D.dies then (15, D.gone) else body D.armed
def DiskV.onF (k : ByteArray) (body : DiskV → FileV → Int × DiskV) (D : DiskV) : Int × DiskV := match aget D.files k with
  | none => (14, D)
  | some f => body D f
def DiskV.create (D : DiskV) (k : ByteArray) : Int × DiskV := D.op fun D => if isNameV k then (if (aget D.files k).isSome then (16, D) else if 64 ≤ D.files.length then (12, D) else (0, D.setF k ⟨[], 0, false⟩)) else (1, D)
def DiskV.append (D : DiskV) (k : ByteArray) (b : List UInt8) : Int × DiskV := D.op (DiskV.onF k fun D f => if (b.length : Int) > D.room then (12, D) else (0, D.setF k { f with bytes := f.bytes ++ b }))
def DiskV.sync (D : DiskV) (k : ByteArray) : Int × DiskV := D.op (DiskV.onF k fun D f => (0, D.setF k (f.cut f.bytes.length)))
def DiskV.cutF (D : DiskV) (k : ByteArray) (n : Int) : Int × DiskV := D.op (DiskV.onF k fun D f => (0, D.setF k (f.cut n)))
def DiskV.delete (D : DiskV) (k : ByteArray) : Int × DiskV := D.op (DiskV.onF k fun D f => (0, D.delF k))
def DiskV.rename (D : DiskV) (k t : ByteArray) : Int × DiskV := D.op (DiskV.onF k fun D f => if isNameV t then (0, (D.delF k).setF t { f with good := true }) else (1, D))
def DiskV.read (D : DiskV) (k : ByteArray) : List UInt8 × Int := if D.dead then ([], 15) else match aget D.files k with
  | none => ([], 14)
  | some f => (f.bytes, 0)
def DiskV.list (D : DiskV) : List ByteArray := sortS (D.files.map (·.1))

theorem armed_files (D : DiskV) : D.armed.files = D.files := by unfold DiskV.armed; split <;> rfl
theorem armed_most (D : DiskV) : D.armed.most = D.most := by unfold DiskV.armed; split <;> rfl
/-- what a call that writes hands back -/
def Did (w : World) (p : Nat) (F : Nat → Prop) (r : Int × DiskV) (v : Value) (w' : World) : Prop := ∃ F', v = .int .i64 r.1 ∧ DiskAt w' p F' r.2 ∧ Evo F w F' w'

theorem Did.same {w w' : World} {p : Nat} {F : Nat → Prop} {D : DiskV} {e : Int} (h : DiskAt w' p F D) (hk : Keep F w w') : Did w p F (e, D) (.int .i64 e) w' := ⟨F, rfl, h, hk, fun _ h => .inl h⟩

theorem Disk_op {w : World} {p : Nat} {F : Nat → Prop} {D : DiskV} (h : DiskAt w p F D) {g : FuncId} {fi ca : Array Value} {body : DiskV → Int × DiskV} (hen : enters Tryz.prog g = true)
    (hf : D.dies = false → ∀ w1, DiskAt w1 p F D.armed → Keep F w w1 → Calls Tryz.prog g (fi ++ #[] ++ ca) w1 (Ok (Did w1 p F (body D.armed)))) :
    Calls Tryz.prog F_vdisk_Disk_write #[.pointer (some ⟨p, 0, none⟩), .func (.func g) fi ca] w (Ok (Did w p F (D.op body))) := by
  refine Calls.ok (Disk_write h (e := (body D.armed).1) (D' := (body D.armed).2) hen fun hd w1 h1 k1 s1 => hf hd w1 h1 k1) ?_
  rintro v w' ⟨F', hv, hD, hev⟩
  refine ⟨F', ?_, ?_, hev⟩
  · rw [hv]; unfold DiskV.op; split <;> rfl
  · unfold DiskV.op; split <;> simp_all

theorem Disk_on {w : World} {p : Nat} {F : Nat → Prop} {D : DiskV} (h : DiskAt w p F D) {k : ByteArray} {g : FuncId} {fi ca : Array Value} {body : DiskV → FileV → Int × DiskV} (hen : enters Tryz.prog g = true)
    (hf : D.dies = false → ∀ w1 r L x, DiskL w1 p F D.armed r L → aget L k = some x → Keep F w w1 → Calls Tryz.prog g (fi ++ #[ptr x.q] ++ ca) w1 (Ok (Did w1 p F (body D.armed x.f)))) :
    Calls Tryz.prog F_vdisk_Disk_on #[.pointer (some ⟨p, 0, none⟩), .string k, .func (.func g) fi ca] w (Ok (Did w p F (D.op (DiskV.onF k body)))) := by
  refine L_vdisk_Disk_on (PA.mk fun w1 k1 s1 g1 => PA.mk fun w2 k2 s2 g2 => PA.mk fun w3 k3 s3 g3 => ?_)
  have hG : Grew w w3 := (k1.grew k2).grew k3
  have h3 := h.grew hG
  have hw := h.dom
  refine ⟨_, cell_at (k3.get (k2.get g1 id) id) rfl, PC.ok (Disk_op h3 (body := DiskV.onF k body) (by kernel_rfl) fun hd w4 h4 k4 => ?_) ?_⟩
  · obtain ⟨r, L, hL⟩ := h4.open
    have e1 : w4.heap[w.heap.size]? = _ := k4.get (k3.get (k2.get g1 id) id) (fun hb => by have := hw _ hb; omega)
    have e2 : w4.heap[w1.heap.size]? = _ := k4.get (k3.get g2 id) (fun hb => by have := hw _ hb; omega)
    have e3 : w4.heap[w2.heap.size]? = _ := k4.get g3 (fun hb => by have := hw _ hb; omega)
    refine L_vdisk_Disk_on_1 ⟨_, cell_at e1 rfl, p, 0, rfl, some r, cell_at hL.head rfl, _, cell_at e2 rfl, ?_⟩
    rcases hL.box k with ⟨b1, b2⟩ | ⟨x, b0, bm, b1, b2⟩
    · refine ⟨none, fun m => ?_, fun w5 hd5 => ?_⟩
      · have := lookup_run mF kS (hL.map.keep (Keep.drewN (S := fun _ => False) w4 m) id) k false
        simpa [b2] using this
      · refine ne_nil_ptr uF ⟨_, rfl, PIf.ff rfl (Ok.mk ?_)⟩
        have : DiskV.onF k body D.armed = (14, D.armed) := by unfold DiskV.onF; rw [b1]
        rw [this]
        exact Did.same (h4.grew hd5.keep) hd5.keep
    · refine ⟨some ⟨x.q, 0, none⟩, fun m => ?_, fun w5 hd5 => ?_⟩
      · have := lookup_run mF kS (hL.map.keep (Keep.drewN (S := fun _ => False) w4 m) id) k false
        simpa [b2, ptr] using this
      · refine ne_nil_ptr uF ⟨_, rfl, PIf.tt rfl ⟨_, cell_at (hd5.keep (S := fun _ => False) |>.get e3 id) rfl, g, fi, ca, rfl, hen, ?_⟩⟩
        have hk5 : Keep F w w5 := ((hG.keep (S := F)).then k4).grew hd5.keep
        refine PC.ok (hf hd w5 r L x (hL.grew hd5.keep) b0 hk5) ?_
        rintro v w6 ⟨F', rfl, hD6, hev⟩
        have : DiskV.onF k body D.armed = body D.armed x.f := by unfold DiskV.onF; rw [b1]
        refine ⟨_, rfl, Ok.mk ?_⟩
        rw [this]
        exact ⟨F', rfl, hD6, (Evo.mk hd5.keep fun _ h => .inl h : Evo F w4 F w5).trans hev⟩
  · rintro v w4 ⟨F', rfl, hD, hev⟩
    exact ⟨_, rfl, Ok.mk ⟨F', rfl, hD, (Evo.mk hG.keep fun _ h => .inl h : Evo F w F w3).trans hev⟩⟩

/-! that what is put is fit -/

theorem DiskV.Ok.set {D : DiskV} (h : D.Ok) {k : ByteArray} {f f' : FileV} (hk : aget D.files k = some f) (hl : f'.bytes.length + D.used ≤ f.bytes.length + D.most) (hs : f'.synced ≤ f'.bytes.length) : (D.setF k f').Ok := by
  have hm := aget_mem hk
  refine ⟨h.most, ?_, ?_, h.tidy.aput _ _, ?_, ?_, h.left0, h.leftR⟩
  · have := sumLen_aput (l := D.files) (k := k) (f := f')
    rw [hk] at this
    simp only [Option.map_some, Option.getD_some] at this
    show sumLen (aput D.files k f') ≤ D.most
    unfold DiskV.used at hl
    omega
  · show (aput D.files k f').length ≤ 64
    rw [length_aput_some (by rw [hk]; rfl)]; exact h.many
  · intro x hx
    rcases mem_aput_iff h.tidy hx with rfl | ⟨hx, _⟩
    · show isNameV k = true
      exact h.names _ hm
    · exact h.names x hx
  · intro x hx
    rcases mem_aput_iff h.tidy hx with rfl | ⟨hx, _⟩
    · exact hs
    · exact h.syn x hx
theorem DiskV.Ok.del {D : DiskV} (h : D.Ok) (k : ByteArray) : (D.delF k).Ok := by
  have hl := length_adel D.files k
  have hs := sumLen_adel (l := D.files) (k := k)
  have hf := h.fits
  have hm := h.many
  unfold DiskV.used at hf
  exact ⟨h.most, by show sumLen (adel D.files k) ≤ D.most; omega, by show (adel D.files k).length ≤ 64; omega, h.tidy.adel k, fun x hx => h.names x (mem_adel_pair hx), fun x hx => h.syn x (mem_adel_pair hx), h.left0, h.leftR⟩
theorem DiskV.Ok.put {D : DiskV} (h : D.Ok) {k : ByteArray} {f : FileV} (hn : isNameV k = true) (hl : f.bytes.length + D.used ≤ D.most) (hc : D.files.length < 64) (hs : f.synced ≤ f.bytes.length) : (D.setF k f).Ok := by
  refine ⟨h.most, ?_, ?_, h.tidy.aput _ _, ?_, ?_, h.left0, h.leftR⟩
  · have := sumLen_aput (l := D.files) (k := k) (f := f)
    show sumLen (aput D.files k f) ≤ D.most
    unfold DiskV.used at hl
    omega
  · have := length_aput D.files k f
    show (aput D.files k f).length ≤ 64
    omega
  · intro x hx
    rcases mem_aput_iff h.tidy hx with rfl | ⟨hx, _⟩
    · exact hn
    · exact h.names x hx
  · intro x hx
    rcases mem_aput_iff h.tidy hx with rfl | ⟨hx, _⟩
    · exact hs
    · exact h.syn x hx
theorem length_adel_some {β : Type} {l : List (ByteArray × β)} {k : ByteArray} (h : (aget l k).isSome = true) : (adel l k).length + 1 = l.length := by
  induction l with
  | nil => simp [aget] at h
  | cons p l ih =>
    obtain ⟨x, u⟩ := p
    simp only [adel, aget] at h ⊢
    split
    · rfl
    · rename_i hk
      rw [if_neg hk] at h
      simp [ih h]
theorem aput_aput {β : Type} (l : List (ByteArray × β)) (k : ByteArray) (u v : β) : aput (aput l k u) k v = aput l k v := by
  induction l with
  | nil => simp [aput]
  | cons p l ih =>
    obtain ⟨x, y⟩ := p
    simp only [aput]
    by_cases h : (k == x) = true
    · rw [if_pos h, if_pos h]; simp [aput]
    · rw [if_neg h, if_neg h]; simp [aput, h, ih]
theorem FileAt.setGood {w : World} {q : Nat} {G : Nat → Prop} {f : FileV} {κ : World → Prop} (h : FileAt w q G f) (hκ : ∀ w', FileAt w' q G { f with good := true } → Keep (· = q) w w' → w'.heap.size = w.heap.size → κ w') : PS w ⟨q, 0 + 2, none⟩ (.bool true) κ := by
  obtain ⟨a, n, cap, F, h1, h2, h3, h4⟩ := h.body
  refine PS.mk h1 (by simp) fun w1 k1 s1 g1 => hκ w1 ⟨⟨a, n, cap, F, g1, h2.keep k1 (fun b hb e => h4 (e ▸ hb)), h3, h4⟩, h.self, fun b hb => by have := h.dom b hb; omega⟩ k1 s1

theorem DiskV.Ok.cut {D : DiskV} (h : D.Ok) {k : ByteArray} {f : FileV} (hk : aget D.files k = some f) (n : Int) : (D.setF k (f.cut n)).Ok := by
  have h1 := cut_len f n
  have h2 := clampN_le n f.bytes.length
  have h3 := h.fits
  exact h.set hk (by omega) (by rw [h1]; exact Nat.le_refl _)

theorem DiskL.get {w : World} {p : Nat} {F : Nat → Prop} {D : DiskV} {r : Nat} {L : List (ByteArray × Box)} (h : DiskL w p F D r L) {k : ByteArray} {x : Box} (hx : aget L k = some x) : aget D.files k = some x.f := by
  rw [h.files]
  have := map_aget (fun x : Box => x.f) L k
  rw [hx] at this
  exact this
theorem did_int {w w0 : World} {p : Nat} {F : Nat → Prop} {r : Int × DiskV} (v : Value) (w' : World) (hk : Grew w0 w) (h : Did w p F r v w') : ∃ n : Int, v = .int .i64 n ∧ Ok (Did w0 p F r) (.returned (.int .i64 n)) w' := by
  obtain ⟨F', rfl, hD, hev⟩ := h
  exact ⟨_, rfl, Ok.mk ⟨F', rfl, hD, (Evo.mk hk.keep fun _ h => .inl h : Evo F w0 F w).trans hev⟩⟩

theorem Disk_Sync {w : World} {p : Nat} {F : Nat → Prop} {D : DiskV} (h : DiskAt w p F D) {k : ByteArray} :
    Calls Tryz.prog F_vdisk_Disk_Sync #[.pointer (some ⟨p, 0, none⟩), .string k] w (Ok (Did w p F (D.sync k))) := by
  refine L_vdisk_Disk_Sync (PC.ok (Disk_on h (k := k) (g := 99) (body := fun D f => (0, D.setF k (f.cut f.bytes.length))) (by kernel_rfl) fun hd w1 r L x hL hx k1 => ?_) fun v w' h => did_int v w' (Keep.refl w) h)
  have hF := hL.each.each _ (aget_mem hx)
  have hget := hL.get hx
  obtain ⟨a, n, cap, F0, h1, h2, h3, h4⟩ := hF.body
  have hlen := h2.len (by decide)
  refine L_vdisk_Disk_Sync_1 ⟨x.q, 0, rfl, _, _, _, cell_at h1 rfl, PC.ok (file_cut hF (hL.ok.len (aget_mem hget))) ?_⟩
  rintro _ w2 ⟨G', rfl, hF2, hev⟩
  rw [hlen] at hF2
  obtain ⟨F', hL2, hev2⟩ := hL.turn hx hF2 hev (hL.ok.cut hget _)
  exact ⟨rfl, Ok.mk ⟨F', rfl, hL2.at, hev2⟩⟩

theorem Disk_Cut {w : World} {p : Nat} {F : Nat → Prop} {D : DiskV} (h : DiskAt w p F D) {k : ByteArray} {n : Int} :
    Calls Tryz.prog F_vdisk_Disk_Cut #[.pointer (some ⟨p, 0, none⟩), .string k, .int .i64 n] w (Ok (Did w p F (D.cutF k n))) := by
  refine L_vdisk_Disk_Cut (PA.mk fun w1 k1 s1 g1 => PC.ok (Disk_on (h.grew k1) (k := k) (g := 127) (body := fun D f => (0, D.setF k (f.cut n))) (by kernel_rfl) fun hd w2 r L x hL hx k2 => ?_) fun v w' h => did_int v w' k1 h)
  have hF := hL.each.each _ (aget_mem hx)
  have hget := hL.get hx
  refine L_vdisk_Disk_Cut_1 ⟨_, cell_at (k2.get g1 fun hb => by have := h.dom _ hb; omega) rfl, PC.ok (file_cut hF (hL.ok.len (aget_mem hget))) ?_⟩
  rintro _ w3 ⟨G', rfl, hF2, hev⟩
  obtain ⟨F', hL2, hev2⟩ := hL.turn hx hF2 hev (hL.ok.cut hget _)
  exact ⟨rfl, Ok.mk ⟨F', rfl, hL2.at, hev2⟩⟩

theorem Disk_Delete {w : World} {p : Nat} {F : Nat → Prop} {D : DiskV} (h : DiskAt w p F D) {k : ByteArray} :
    Calls Tryz.prog F_vdisk_Disk_Delete #[.pointer (some ⟨p, 0, none⟩), .string k] w (Ok (Did w p F (D.delete k))) := by
  refine L_vdisk_Disk_Delete (PA.mk fun w1 k1 s1 g1 => PA.mk fun w2 k2 s2 g2 => ⟨_, cell_at (k2.get g1 id) rfl, _, cell_at g2 rfl, PC.ok (Disk_on ((h.grew k1).grew k2) (k := k) (g := 117) (body := fun D f => (0, D.delF k)) (by kernel_rfl) fun hd w3 r L x hL hx k3 => ?_) fun v w' h => did_int v w' (k1.grew k2) h⟩)
  have e1 := k3.get (k2.get g1 id) fun hb => by have := h.dom _ hb; omega
  have e2 := k3.get g2 fun hb => by have := h.dom _ hb; omega
  refine L_vdisk_Disk_Delete_1 fun w4 hd4 => ?_
  have hL4 := hL.grew hd4.keep
  have hk4 : Grew w3 w4 := hd4.keep
  refine ⟨_, cell_at (hk4.get e1 id) rfl, p, 0, rfl, some r, cell_at hL4.head rfl, k, cell_at (hk4.get e2 id) rfl, mapDel mF kS hL4.map fun w5 hm hk hs => Ok.mk ⟨F, rfl, (hL4.drop hm hk (hL4.ok.del k)).at, ?_, fun _ h => .inl h⟩⟩
  exact hk4.keep.then (hk.mono fun b _ hb => by rw [hb]; exact hL4.Fr)

theorem Disk_Rename {w : World} {p : Nat} {F : Nat → Prop} {D : DiskV} (h : DiskAt w p F D) {k t : ByteArray} :
    Calls Tryz.prog F_vdisk_Disk_Rename #[.pointer (some ⟨p, 0, none⟩), .string k, .string t] w (Ok (Did w p F (D.rename k t))) := by
  refine L_vdisk_Disk_Rename (PA.mk fun w1 k1 s1 g1 => PA.mk fun w2 k2 s2 g2 => PA.mk fun w3 k3 s3 g3 => ⟨_, cell_at (k3.get (k2.get g1 id) id) rfl, _, cell_at (k3.get g2 id) rfl, PC.ok (Disk_on (((h.grew k1).grew k2).grew k3) (k := k) (g := 130)
    (body := fun D f => if isNameV t then (0, (D.delF k).setF t { f with good := true }) else (1, D)) (by kernel_rfl) fun hd w4 r L x hL hx k4 => ?_) fun v w' h => did_int v w' ((k1.grew k2).grew k3) h⟩)
  have e1 := k4.get (k3.get (k2.get g1 id) id) fun hb => by have := h.dom _ hb; omega
  have e2 := k4.get (k3.get g2 id) fun hb => by have := h.dom _ hb; omega
  have e3 := k4.get g3 fun hb => by have := h.dom _ hb; omega
  have hm := aget_mem hx
  have hget := hL.get hx
  refine L_vdisk_Disk_Rename_1 ⟨_, cell_at e3 rfl, PC.ok vdisk_isName ?_⟩
  rintro _ w5 ⟨rfl, k5⟩
  refine ⟨_, rfl, PIf.not (PIf.mk (fun hn => fun w6 hd6 => ?_) (fun hn => Ok.mk ?_))⟩
  · have hk6 : Grew w4 w6 := k5.grew hd6.keep
    have hL6 := hL.grew hk6
    refine ⟨_, cell_at (hk6.get e1 id) rfl, p, 0, rfl, some r, cell_at hL6.head rfl, _, cell_at (hk6.get e2 id) rfl, mapDel mF kS hL6.map fun w7 hm7 hk7 hs7 => fun w8 hd8 => ?_⟩
    have hL7 := hL6.drop hm7 hk7 (hL6.ok.del k)
    have hL8 := hL7.grew hd8.keep
    have hr6 : ∀ b, b = r → F b := fun b hb => by rw [hb]; exact hL.Fr
    have hk68 : Keep F w4 w8 := (hk6.keep.then (hk7.mono fun b _ hb => hr6 b hb)).grew hd8.keep
    have c1 : ∀ {b : Nat} {o : Obj}, w4.heap[b]? = some o → w.heap.size ≤ b → w8.heap[b]? = some o := fun hb hge => hk68.get hb fun hF => by have := h.dom _ hF; omega
    have hin := hL.inF _ hm
    have hF8 : FileAt w8 (Box.q x) (Box.G x) (Box.f x) := (((hL.each.each _ hm).keep hk6 fun _ _ h => h).keep hk7 fun b hb => (hin b hb).2.2).keep hd8.keep fun _ _ h => h
    have hsz2 : w.heap.size ≤ w2.heap.size := by omega
    refine ⟨_, cell_at (c1 e1 (Nat.le_refl _)) rfl, p, 0, rfl, some r, cell_at hL8.head rfl, t, cell_at (c1 e3 hsz2) rfl, mapPut mF kS hL8.map fun w9 hm9 hk9 hs9 => ⟨x.q, 0, rfl, ?_⟩⟩
    have hfk := hL.ok.fits
    have hsm := sumLen_adel (l := D.armed.files) (k := k)
    rw [hget] at hsm
    simp only [Option.map_some, Option.getD_some] at hsm
    have hcnt := length_adel_some (l := D.armed.files) (k := k) (by rw [hget]; rfl)
    have hmany := hL.ok.many
    have hsyn := hL.ok.syn _ (aget_mem hget)
    have hput : ∀ f' : FileV, f'.bytes = x.f.bytes → f'.synced = x.f.synced → ((D.armed.delF k).setF t f').Ok := fun f' e1 e2 => (hL.ok.del k).put hn (by
      show f'.bytes.length + sumLen (adel D.armed.files k) ≤ D.armed.most
      unfold DiskV.used at hfk
      rw [e1]; omega) (by show (adel D.armed.files k).length < 64; omega) (by rw [e1, e2]; exact hsyn)
    have hL9 := hL8.put (q := x.q) (G' := x.G) hm9 hk9 hF8 (fun y hy hne b hb hby => by
      obtain ⟨hy1, hy2⟩ := mem_adel_iff hL.each.tidy hy
      exact hL.each.apart _ hm y hy1 (fun e => hy2 e.symm) b hb hby) (fun b hb => (hin b hb).2) (hput x.f rfl rfl)
    have hF9 : FileAt w9 x.q x.G x.f := hF8.keep hk9 fun b hb => (hin b hb).2.2
    refine hF9.setGood fun w10 hF10 hk10 hs10 => Ok.mk ?_
    obtain ⟨F', hL10, hev⟩ := hL9.turn (k := t) (x := ⟨x.q, x.G, x.f⟩) (by rw [aget_aput]; simp) hF10 ⟨hk10.mono fun b _ hb => hb ▸ hF9.self, fun _ h => .inl h⟩ (by
      unfold DiskV.setF
      simp only [aput_aput]
      exact hput { x.f with good := true } rfl rfl)
    rw [hn, if_pos rfl]
    have e : ((D.armed.delF k).setF t x.f).setF t { x.f with good := true } = (D.armed.delF k).setF t { x.f with good := true } := by
      unfold DiskV.setF
      simp only [aput_aput]
    refine ⟨F', rfl, by rw [← e]; exact hL10.at, ⟨?_, fun b hb => ?_⟩⟩
    · exact (hk68.then (hk9.mono fun b _ hb => hr6 b hb)).then (hev.keep.mono fun b _ hb => hb.elim id fun h => (hin b h).1)
    · rcases hev.new b hb with (h1 | h1) | h1
      · exact .inl h1
      · exact .inl (hin b h1).1
      · have := hk68.size; exact .inr (by omega)
  · rw [hn]; exact ⟨F, rfl, (hL.grew k5).at, k5.keep, fun _ h => .inl h⟩

theorem Disk_Create {w : World} {p : Nat} {F : Nat → Prop} {D : DiskV} (h : DiskAt w p F D) {k : ByteArray} :
    Calls Tryz.prog F_vdisk_Disk_Create #[.pointer (some ⟨p, 0, none⟩), .string k] w (Ok (Did w p F (D.create k))) := by
  refine L_vdisk_Disk_Create (PA.mk fun w1 k1 s1 g1 => PA.mk fun w2 k2 s2 g2 => ⟨_, cell_at (k2.get g1 id) rfl, PC.ok (Disk_op ((h.grew k1).grew k2) (g := 80)
    (body := fun D => if isNameV k then (if (aget D.files k).isSome then (16, D) else if 64 ≤ D.files.length then (12, D) else (0, D.setF k ⟨[], 0, false⟩)) else (1, D)) (by kernel_rfl) fun hd w3 h3 k3 => ?_) fun v w' h => did_int v w' (k1.grew k2) h⟩)
  obtain ⟨r, L, hL⟩ := h3.open
  have e1 := k3.get (k2.get g1 id) fun hb => by have := h.dom _ hb; omega
  have e2 := k3.get g2 fun hb => by have := h.dom _ hb; omega
  refine L_vdisk_Disk_Create_1 ⟨_, cell_at e2 rfl, PC.ok vdisk_isName ?_⟩
  rintro _ w4 ⟨rfl, k4⟩
  refine ⟨_, rfl, PIf.not (PIf.mk (fun hn => ?_) (fun hn => Ok.mk ?_))⟩
  · have hL4 := hL.grew k4
    have hlk : ∀ m, (Instr.lookup 78 (.map (some r)) (.string k) false).run Tryz.prog (w4.drewN m) = .ok ((aget (L.map boxV) k).getD (.pointer none)) (w4.drewN m) := fun m => by
      have := lookup_run mF kS (hL4.map.keep (Keep.drewN (S := fun _ => False) w4 m) id) k false
      simpa using this
    have hsame : ∃ t : Option Addr, (aget (L.map boxV) k).getD (.pointer none) = .pointer t ∧ t.isSome = (aget D.armed.files k).isSome := by
      rcases hL.box k with ⟨b1, b2⟩ | ⟨x, b0, bm, b1, b2⟩
      · exact ⟨none, by rw [b2]; rfl, by rw [b1]; rfl⟩
      · exact ⟨some ⟨x.q, 0, none⟩, by rw [b2]; rfl, by rw [b1]; rfl⟩
    obtain ⟨t, ht, hts⟩ := hsame
    rw [ht] at hlk
    refine ⟨_, cell_at (k4.get e1 id) rfl, p, 0, rfl, some r, cell_at hL4.head rfl, k, cell_at (k4.get e2 id) rfl, t, hlk, t.isSome, fun m => run_ne_nil_ptr uF _ _ t _, fun w5 hd5 => PIf.mk (fun hyes => Ok.mk ?_) (fun hno => ?_)⟩
    · rw [hn, if_pos rfl, if_pos (by rw [← hts]; exact hyes)]
      exact ⟨F, rfl, (hL4.grew hd5.keep).at, Grew.keep (k4.grew hd5.keep), fun _ h => .inl h⟩
    · have hk5 : Grew w3 w5 := k4.grew hd5.keep
      have hL5 := hL.grew hk5
      have hln : (L.map boxV).length = D.armed.files.length := by rw [hL.files]; simp
      refine ⟨_, cell_at (hk5.get e1 id) rfl, p, 0, rfl, some r, cell_at hL5.head rfl, mapLen mF hL5.map ⟨_, rfl, PIf.dec (fun hge => Ok.mk ?_) (fun hlt => fun w6 hd6 => ?_)⟩⟩
      · rw [hn, if_pos rfl, if_neg (by rw [← hts, hno]; simp), if_pos (by omega)]
        exact ⟨F, rfl, hL5.at, hk5.keep, fun _ h => .inl h⟩
      · have hk6 : Grew w3 w6 := hk5.grew hd6.keep
        have hL6 := hL.grew hk6
        have hrw := hL.map.lt
        have hpw := lt_of_get hL.head
        have hs12 : w.heap.size ≤ w3.heap.size := by have := k3.size; omega
        have nr : ∀ b, w.heap.size ≤ b → b ≠ r := fun b hb e => by have := h.dom r hL.Fr; omega
        refine ⟨(· = r), nr _ (Nat.le_refl _), _, cell_at (hk6.get e1 id) rfl, p, 0, rfl, hL.pr, some r, cell_at hL6.head rfl, nr _ (by omega), k, cell_at (hk6.get e2 id) rfl, PA.mk fun w7 k7 s7 g7 => ⟨k7.keep, mapPut mF kS (hL6.grew k7).map fun w8 hm8 hk8 hs8 => ⟨hk8, Ok.mk ?_⟩⟩⟩
        have hL7 := hL6.grew k7
        have hnew : FileAt w7 w6.heap.size (· = w6.heap.size) ⟨[], 0, false⟩ := ⟨⟨none, 0, 0, fun _ => False, g7, Lst.nil w7, fun _ h => h.elim, fun h => h⟩, rfl, fun b hb => by omega⟩
        have hok : (D.armed.setF k ⟨[], 0, false⟩).Ok := hL.ok.put hn (by have := hL.ok.fits; simpa using this) (by omega) (Nat.le_refl _)
        have hL8 := hL7.put (q := w6.heap.size) (G' := (· = w6.heap.size)) hm8 hk8 hnew (fun y hy _ b hb hby => by have := (hL6.each.each y hy).dom b hby; omega) (fun b hb => by have := hk6.size; omega) hok
        rw [hn, if_pos rfl, if_neg (by rw [← hts, hno]; simp), if_neg (by omega)]
        refine ⟨_, rfl, hL8.at, ⟨(hk6.keep.grew k7).then (hk8.mono fun b _ hb => by rw [hb]; exact hL.Fr), fun b hb => hb.imp id fun h => by have := hk6.size; omega⟩⟩
  · rw [hn]
    exact ⟨F, rfl, (hL.grew k4).at, k4.keep, fun _ h => .inl h⟩
end Go.Proofs.YtpbpjojdfcdbbaaGreatDoor
