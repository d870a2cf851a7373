/- quaysideref19: what is read, and what turns one file -/
import Derived.Test.YticehdfebghloaaRefD
namespace Go.Proofs.Yticehdfebghloaa
open Go.Lift
set_option linter.unusedVariables false
set_option maxRecDepth 20000

theorem aput_set {β : Type} {k : ByteArray} {u v : β} : ∀ {l : List (ByteArray × β)} {i : Nat}, Tidy l → l[i]? = some (k, u) → l.set i (k, v) = aput l k v
  | [], i, _, h => by simp at h
  | y :: ys, 0, ht, h => by
    simp at h; subst h
    simp [aput]
  | y :: ys, i + 1, ht, h => by
    unfold Tidy at ht
    simp only [List.map_cons, List.nodup_cons] at ht
    have hi : ys[i]? = some (k, u) := by simpa using h
    have hne : (k == y.1) = false := beq_false_of_ne fun e => ht.1 (e ▸ List.mem_map.2 ⟨(k, u), List.mem_of_getElem? hi, rfl⟩)
    obtain ⟨y1, y2⟩ := y
    simp only [aput, List.set_cons_succ]
    rw [if_neg (by simpa using hne), aput_set ht.2 hi]

theorem mem_aput2 {β : Type} {l : List (ByteArray × β)} (ht : Tidy l) {k : ByteArray} {v : β} {q : ByteArray × β} : q ∈ aput l k v ↔ q = (k, v) ∨ (q ∈ l ∧ q.1 ≠ k) := by
  refine ⟨mem_aput_iff ht, fun h => ?_⟩
  rcases h with rfl | ⟨h1, h2⟩
  · exact aget_mem (by rw [aget_aput]; simp)
  · have := mem_aget ht (k := q.1) (v := q.2) h1
    exact aget_mem (k := q.1) (v := q.2) (by rw [aget_aput, if_neg (by simpa using h2)]; exact this)
theorem mem_adel2 {β : Type} {l : List (ByteArray × β)} (ht : Tidy l) {k : ByteArray} {q : ByteArray × β} : q ∈ adel l k ↔ (q ∈ l ∧ q.1 ≠ k) := by
  refine ⟨mem_adel_iff ht, fun ⟨h1, h2⟩ => ?_⟩
  have := mem_aget ht (k := q.1) (v := q.2) h1
  exact aget_mem (k := q.1) (v := q.2) (by rw [aget_adel ht, if_neg (by simpa using h2)]; exact this)

theorem keys_set {β : Type} {k : ByteArray} {u v : β} {l : List (ByteArray × β)} {i : Nat} (h : l[i]? = some (k, u)) : (l.set i (k, v)).map (·.1) = l.map (·.1) := by
  apply List.ext_getElem?
  intro j
  rw [List.getElem?_map, List.getElem?_map, List.getElem?_set]
  split
  · rename_i e; subst e
    have := (List.getElem?_eq_some_iff.1 h).1
    rw [if_pos this, h]; rfl
  · rfl

section
variable {w w' : World} {p : Nat} {F S : Nat → Prop} {D : DiskV} {a : Option Addr} {n cap : Nat} {L : List RB}

theorem RefL.turn (h : RefL w p F D a n cap L) (hf : D.Fit) {i : Nat} {k : ByteArray} {x x' : RBox} (hx : L[i]? = some (k, x)) (hl : Lst cBox 73 (fun b => blk a = some b) w' a n cap (L.set i (k, x')))
    (hk : Keep (fun b => x.F b ∨ blk a = some b) w w') (hb : Lst cU8 5 x'.F w' x'.a x'.n x'.c x'.f.bytes) (hn : ∀ b, x'.F b → x.F b ∨ w.heap.size ≤ b) : ∃ F', RefL w' p F' (D.setF k x'.f) a n cap (L.set i (k, x')) ∧ Evo F w F' w' := by
  have hm := List.mem_of_getElem? hx
  have hin := h.inF _ hm
  have e : L.set i (k, x') = aput L k x' := aput_set h.tidy hx
  have hmem : ∀ y ∈ L.set i (k, x'), y = (k, x') ∨ (y ∈ L ∧ y.1 ≠ k) := fun y hy => by rw [e] at hy; exact mem_aput_iff h.tidy hy
  have hpl := lt_of_get h.head
  refine ⟨fun b => F b ∨ (w.heap.size ≤ b ∧ b < w'.heap.size), ⟨hk.get h.head fun hb => hb.elim (fun h1 => (hin _ h1).2.1 rfl) fun h1 => (h.Fa _ h1).2 rfl, hl, ?_, ?_, ?_, fun b hb => ⟨.inl (h.Fa b hb).1, (h.Fa b hb).2⟩, ?_, ?_, .inl h.self, ?_⟩,
    hk.mono fun b _ hb => hb.elim (fun h1 => (hin b h1).1) fun h1 => (h.Fa b h1).1, fun b hb => hb.imp id (·.1)⟩
  · intro y hy
    rcases hmem y hy with rfl | ⟨hy, hne⟩
    · exact hb
    · exact (h.each y hy).keep hk fun b hb hc => hc.elim (fun h1 => h.apart y hy _ hm hne b hb h1) fun h1 => (h.inF y hy b hb).2.2 h1
  · intro y hy z hz hyz b hby hbz
    rcases hmem y hy with rfl | ⟨hy, hne⟩ <;> rcases hmem z hz with rfl | ⟨hz, hne2⟩
    · exact hyz rfl
    · rcases hn b hby with h1 | h1
      · exact h.apart _ hm z hz hyz b h1 hbz
      · have := (h.each z hz).dom b hbz; omega
    · rcases hn b hbz with h1 | h1
      · exact h.apart y hy _ hm hyz b hby h1
      · have := (h.each y hy).dom b hby; omega
    · exact h.apart y hy z hz hyz b hby hbz
  · intro y hy b hby
    rcases hmem y hy with rfl | ⟨hy, hne⟩
    · rcases hn b hby with h1 | h1
      · exact ⟨.inl (hin b h1).1, (hin b h1).2⟩
      · exact ⟨.inr ⟨h1, hb.dom b hby⟩, by omega, fun h2 => by have := h.dom b (h.Fa b h2).1; omega⟩
    · exact ⟨.inl (h.inF y hy b hby).1, (h.inF y hy b hby).2⟩
  · have hs : (L.map (·.1)).Pairwise ltK := List.pairwise_map.2 h.sorted
    rw [← keys_set hx (v := x')] at hs
    exact List.pairwise_map.1 hs
  · intro q
    have e1 : (aput L k x').map rF = aput (L.map rF) k x'.f := map_aput (fun x : RBox => x.f) L k x'
    rw [e, e1, mem_aput2 (rF_tidy h.tidy), h.same]
    exact (mem_aput2 hf.tidy).symm
  · rintro b (hb | hb)
    · exact Nat.lt_of_lt_of_le (h.dom b hb) hk.size
    · exact hb.2

def sumR (l : List RB) : Nat := (l.map fun x => x.2.f.bytes.length).sum
theorem RefL.used (h : RefL w p F D a n cap L) (hf : D.Fit) : sumR L = D.used := by
  have := ((h.perm hf).map fun x => x.2.bytes.length).sum_nat
  rw [List.map_map] at this
  exact this
theorem sumR_take (l : List RB) (j : Nat) : sumR (l.take j) ≤ sumR l := by
  have : sumR l = sumR (l.take j) + sumR (l.drop j) := by
    unfold sumR
    rw [← List.sum_append, ← List.map_append, List.take_append_drop]
  omega

theorem ref_Room (h : RefAt w p F D) (hf : D.Fit) : Calls Try.prog F_ref19_Disk_Room #[.pointer (some ⟨p, 0, none⟩)] w (Ok fun v w' => v = .int .i64 D.room ∧ w = w') := by
  obtain ⟨a, n, cap, L, h⟩ := h
  have hn := h.n_eq; have hl := h.length hf; have hm := hf.many; have hu := h.used hf; have hft := hf.fits; have hmo := hf.most
  refine L_ref19_Disk_Room ⟨p, 0, rfl, _, cell_at h.head rfl, fun m r i w' => ∃ j : Nat, i = j ∧ j ≤ n ∧ m = n - j ∧ w' = w ∧ r = (D.most : Int) - sumR (L.take j), ⟨_, 0, rfl, Nat.zero_le _, rfl, rfl, by simp [sumR]⟩, ?_⟩
  rintro m r i B _ ⟨j, rfl, hj, rfl, rfl, rfl⟩
  refine ⟨p, 0, rfl, a, n, cap, cell_at h.head rfl, PIf.dec (fun h1 => ?_) (fun h1 => ?_)⟩
  · obtain ⟨b, off, x, rfl, hx, hxm, c0, c1, c2, c3⟩ := h.at hf (i := j) (by omega)
    obtain ⟨l1, l2, l3⟩ := h.len hf hxm
    have ht := sumR_take L (j + 1)
    have hs : sumR (L.take (j + 1)) = sumR (L.take j) + x.2.f.bytes.length := by
      rw [List.take_add_one, hx]
      simp [sumR]
    refine ⟨p, 0, rfl, _, n, cap, cell_at h.head rfl, b, off, rfl, by omega, by omega, _, _, _, c1, _, ?_, j + 1, wrap_succ (by omega), by omega, rfl, rfl, ?_⟩
    · omega
    · rw [wrap_i64 (by unfold I64; omega), hs, l1]; omega
  · rw [List.take_of_length_le (by omega)]
    refine Ok.mk ⟨?_, rfl⟩
    rw [hu]; rfl

theorem RefL.list (h : RefL w p F D a n cap L) (hf : D.Fit) : D.list = L.map (·.1) := by
  have hp : ((D.files.map (·.1)).map fun x => x.data.toList).Perm ((L.map (·.1)).map fun x => x.data.toList) := by
    have := (((h.perm hf).map (·.1)).map fun x => x.data.toList).symm
    rw [List.map_map (f := rF)] at this
    exact this
  have hs : ((L.map (·.1)).map fun x => x.data.toList).Pairwise fun x y => decide (x ≤ y) = true := by
    rw [List.map_map]
    exact List.pairwise_map.2 (h.sorted.imp fun hlt => decide_eq_true (List.le_of_lt hlt))
  have h1 : (sortS (D.files.map (·.1))).map (fun x => x.data.toList) = (L.map (·.1)).map fun x => x.data.toList := by
    rw [sortS_map]
    exact (Go.mergeSort_of_perm hp).trans (List.mergeSort_of_pairwise hs)
  exact (List.map_inj_right (fun x y he => ByteArray.ext (Array.toList_inj.1 he))).1 h1

theorem ref_List (h : RefAt w p F D) (hf : D.Fit) : Calls Try.prog F_ref19_Disk_List #[.pointer (some ⟨p, 0, none⟩)] w (Ok (New cStr 9 w D.list)) := by
  obtain ⟨a, n, cap, L, h⟩ := h
  have hn := h.n_eq; have hl := h.length hf; have hm := hf.many
  rw [h.list hf]
  refine L_ref19_Disk_List ⟨fun m oa on oc i w' => i = (on : Int) ∧ on ≤ n ∧ m = n - on ∧ ∃ G, Lst cStr 9 G w' oa on oc ((L.take on).map (·.1)) ∧ Grew w w' ∧ ∀ b, G b → w.heap.size ≤ b,
    ⟨_, rfl, Nat.zero_le _, rfl, fun _ => False, by simpa using Lst.nil w, Keep.refl _, fun _ h => h.elim⟩, ?_⟩
  rintro m oa on oc i _ w1 ⟨rfl, hj, rfl, G, ho, hk, hG⟩
  have h1 := h.grew hk
  refine ⟨p, 0, rfl, a, n, cap, cell_at h1.head rfl, PIf.dec (fun hlt => ?_) (fun hge => ?_)⟩
  · obtain ⟨b, off, x, rfl, hx, hxm, c0, c1, c2, c3⟩ := h1.at hf (i := on) (by omega)
    have htl : ((L.take on).map (·.1)).length = on := by simp; omega
    refine ⟨p, 0, rfl, _, n, cap, cell_at h1.head rfl, b, off, rfl, by omega, by omega, x.1, c0, papp ho slStr (x := x.1) (D := fun _ => False) ⟨rfl, trivial⟩ (fun _ h => h.elim) (by rw [htl]; unfold Big; omega) (by rw [htl]; unfold maxLen; omega) fun a' c' w3 F' ho3 hk3 hF3 _ => ?_⟩
    refine ⟨_, _, _, rfl, n - (on + 1), by omega, wrap_succ (by omega), by omega, rfl, F', ?_, hk.new hk3 fun b hb => .inr (hG b (ho.self b hb)), ?_⟩
    · rw [List.take_add_one, hx]
      simpa using ho3
    · intro b hb
      rcases hF3 b hb with h | h | h
      · exact hG b h
      · exact h.elim
      · exact Nat.le_trans hk.size h
  · obtain rfl : on = n := by omega
    rw [List.take_of_length_le (by omega)] at ho
    exact Ok.mk ⟨_, _, _, G, rfl, ho, hk, hG⟩

theorem ref_Read (h : RefAt w p F D) (hf : D.Fit) {k : ByteArray} : Calls Try.prog F_ref19_Disk_Read #[.pointer (some ⟨p, 0, none⟩), .string k] w (Ok fun v w' => ∃ u, v = .tuple #[u, .int .i64 (D.read k).2] ∧ New cU8 5 w (D.read k).1 u w') := by
  obtain ⟨a, n, cap, L, h⟩ := h
  have none' : New cU8 5 w [] (.slice none 0 0) w := ⟨none, 0, 0, fun _ => False, rfl, Lst.nil w, Keep.refl _, fun _ h => h.elim⟩
  refine L_ref19_Disk_Read ⟨p, 0, rfl, D.dead, cell_at h.head rfl, PIf.mk (fun hd => Ok.mk ?_) (fun hd => PC.ok (ref_at h hf) ?_)⟩
  · unfold DiskV.read; rw [hd, if_pos rfl]; exact ⟨_, rfl, none'⟩
  · rintro _ _ ⟨rfl, i, rfl, hi | ⟨j, x, rfl, hj, hx⟩⟩
    · refine ⟨_, rfl, PIf.tt (decide_eq_true hi.1) (Ok.mk ?_)⟩
      unfold DiskV.read; rw [hd, if_neg (by simp), h.nof hi.2]; exact ⟨_, rfl, none'⟩
    · obtain ⟨b, off, y, rfl, hy, hym, c0, c1, c2, c3⟩ := h.at hf hj
      rw [hx] at hy; cases hy
      refine ⟨_, rfl, PIf.ff (decide_eq_false (by omega)) ⟨p, 0, rfl, _, n, cap, cell_at h.head rfl, b, off, rfl, by omega, by omega, _, _, _, c1, PC.ok (kit_CopyBytes (h.bytes hf hym)) ?_⟩⟩
      rintro _ w1 ⟨a1, n1, c1', F1, rfl, ho1, hk1, hF1⟩
      unfold DiskV.read
      rw [hd, if_neg (by simp), h.get hf hym]
      exact ⟨_, _, _, rfl, Ok.mk ⟨_, rfl, a1, n1, c1', F1, rfl, ho1, hk1, hF1⟩⟩

/-- what a call that writes hands back -/
def RDid (w : World) (p : Nat) (F : Nat → Prop) (r : Int × DiskV) (v : Value) (w' : World) : Prop := ∃ F', v = .int .i64 r.1 ∧ RefAt w' p F' r.2 ∧ Evo F w F' w'

/-- the head of a call that writes -/
theorem ref_op {g : FuncId} {args : Array Value} {body : DiskV → Int × DiskV} {v : Value} {w1 : World} (hd : D.dies = true) (h1 : RefAt w1 p F (if D.dies then D.gone else D.armed)) (hk : Keep F w w1) : RDid w p F (D.op body) (.int .i64 15) w1 := by
  unfold DiskV.op
  rw [if_pos hd]
  rw [if_pos hd] at h1
  exact ⟨F, rfl, h1, hk, fun _ h => .inl h⟩
theorem ref_op' {body : DiskV → Int × DiskV} {v : Value} {w1 w' : World} (hd : D.dies = false) (hk : Keep F w w1) (h : RDid w1 p F (body D.armed) v w') : RDid w p F (D.op body) v w' := by
  unfold DiskV.op
  rw [if_neg (by simp [hd])]
  obtain ⟨F', h1, h2, h3⟩ := h
  exact ⟨F', h1, h2, (Evo.mk hk fun _ h => .inl h : Evo F w F w1).trans h3⟩
theorem onF_none {k : ByteArray} {body : DiskV → FileV → Int × DiskV} (h : aget D.files k = none) : DiskV.onF k body D = (14, D) := by unfold DiskV.onF; rw [h]
theorem onF_some {k : ByteArray} {f : FileV} {body : DiskV → FileV → Int × DiskV} (h : aget D.files k = some f) : DiskV.onF k body D = body D f := by unfold DiskV.onF; rw [h]

theorem ref_Sync {k : ByteArray} (h : RefAt w p F D) (hf : D.Fit) (h0 : 0 ≤ D.left) (hR : I64 D.left) : Calls Try.prog F_ref19_Disk_Sync #[.pointer (some ⟨p, 0, none⟩), .string k] w (Ok (RDid w p F (D.sync k))) := by
  refine L_ref19_Disk_Sync (PC.ok (ref_dies h h0 hR) ?_)
  rintro _ w1 ⟨rfl, h1, k1⟩
  refine ⟨_, rfl, PIf.mk (fun hd => Ok.mk (ref_op (g := 0) (args := #[]) (v := .bool true) hd h1 k1)) (fun hd => ?_)⟩
  rw [if_neg (by simp [hd])] at h1
  obtain ⟨a, n, cap, L, hL⟩ := h1
  have hf' := hf.armed
  refine PC.ok (ref_at hL hf') ?_
  rintro _ _ ⟨rfl, i, rfl, hi | ⟨j, x, rfl, hj, hx⟩⟩
  · refine ⟨_, rfl, PIf.tt (decide_eq_true hi.1) (Ok.mk (ref_op' hd k1 ?_))⟩
    rw [onF_none (hL.nof hi.2)]
    exact ⟨F, rfl, ⟨a, n, cap, L, hL⟩, Keep.refl _, fun _ h => .inl h⟩
  · refine ⟨_, rfl, PIf.ff (decide_eq_false (by omega)) fun w2 hd2 => ?_⟩
    have hL2 := hL.grew hd2.keep
    obtain ⟨b, off, y, rfl, hy, hym, c0, c1, c2, c3⟩ := hL2.at hf' hj
    rw [hx] at hy; cases hy
    have hn := hL2.len hf' hym
    have pa : ∀ b', blk (some (⟨b, off, none⟩ : Addr)) = some b' → b' ≠ p := fun b' hb' => (hL2.Fa b' hb').2
    refine ⟨p, 0, rfl, _, n, cap, cell_at hL2.head rfl, p, 0, rfl, _, n, cap, cell_at hL2.head rfl, b, off, rfl, by omega, by omega, _, _, _, c1, b, off, rfl, by omega, by omega, ?_⟩
    refine hL2.lst.set (x' := (k, ⟨x.a, x.n, x.c, x.F, ⟨x.f.bytes, x.n, x.f.good⟩⟩)) hx (j := 2) (by decide) rfl rfl fun w3 ho3 k3 s3 => ?_
    have g3 := k3.get hL2.head fun hb => pa p hb rfl
    refine ⟨p, 0, rfl, _, n, cap, cell_at g3 rfl, b, off, rfl, by omega, by omega, ?_⟩
    have hx3 : (L.set j (k, (⟨x.a, x.n, x.c, x.F, ⟨x.f.bytes, x.n, x.f.good⟩⟩ : RBox)))[j]? = some (k, (⟨x.a, x.n, x.c, x.F, ⟨x.f.bytes, x.n, x.f.good⟩⟩ : RBox)) := by
      rw [List.getElem?_set]; simp; exact (List.getElem?_eq_some_iff.1 hx).1
    refine ho3.set (x' := (k, ⟨x.a, x.n, x.c, x.F, x.f.cut x.f.bytes.length⟩)) hx3 (j := 3) (by decide) ?_ rfl fun w4 ho4 k4 s4 => Ok.mk (ref_op' hd k1 ?_)
    · have e1 := clampN_le (x.f.bytes.length : Int) x.f.bytes.length
      have e2 : clampN (x.f.bytes.length : Int) x.f.bytes.length = x.f.bytes.length := by unfold clampN; omega
      have e3 : x.n = x.f.bytes.length := hn.1
      simp only [encB, FileV.cut, e2, e3]; rfl
    · rw [List.set_set] at ho4
      rw [onF_some (hL.get hf' hym)]
      have hk4 : Keep (fun b' => x.F b' ∨ blk (some (⟨b, off, none⟩ : Addr)) = some b') w2 w4 := (k3.then k4).mono fun _ _ h => .inr h
      have hbx := (hL2.each _ hym).keep (k3.then k4) fun b' hb' => (hL2.inF _ hym b' hb').2.2
      have hcut : (x.f.cut x.f.bytes.length).bytes = x.f.bytes := by
        have e2 : clampN (x.f.bytes.length : Int) x.f.bytes.length = x.f.bytes.length := by unfold clampN; omega
        simp [FileV.cut, e2]
      obtain ⟨F', hL4, hev⟩ := hL2.turn hf' hx ho4 hk4 (by rw [hcut]; exact hbx) (fun _ h => .inl h)
      exact ⟨F', rfl, ⟨_, _, _, _, hL4⟩, (Evo.mk hd2.keep fun _ h => .inl h : Evo F _ F w2).trans hev⟩

theorem ref_Cut {k : ByteArray} {m : Int} (h : RefAt w p F D) (hf : D.Fit) (h0 : 0 ≤ D.left) (hR : I64 D.left) : Calls Try.prog F_ref19_Disk_Cut #[.pointer (some ⟨p, 0, none⟩), .string k, .int .i64 m] w (Ok (RDid w p F (D.cutF k m))) := by
  refine L_ref19_Disk_Cut (PC.ok (ref_dies h h0 hR) ?_)
  rintro _ w1 ⟨rfl, h1, k1⟩
  refine ⟨_, rfl, PIf.mk (fun hd => Ok.mk (ref_op (g := 0) (args := #[]) (v := .bool true) hd h1 k1)) (fun hd => ?_)⟩
  rw [if_neg (by simp [hd])] at h1
  obtain ⟨a, n, cap, L, hL⟩ := h1
  have hf' := hf.armed
  refine PC.ok (ref_at hL hf') ?_
  rintro _ _ ⟨rfl, i, rfl, hi | ⟨j, x, rfl, hj, hx⟩⟩
  · refine ⟨_, rfl, PIf.tt (decide_eq_true hi.1) (Ok.mk (ref_op' hd k1 ?_))⟩
    rw [onF_none (hL.nof hi.2)]
    exact ⟨F, rfl, ⟨a, n, cap, L, hL⟩, Keep.refl _, fun _ h => .inl h⟩
  · refine ⟨_, rfl, PIf.ff (decide_eq_false (by omega)) fun w2 hd2 => ?_⟩
    have hL2 := hL.grew hd2.keep
    obtain ⟨b, off, y, rfl, hy, hym, c0, c1, c2, c3⟩ := hL2.at hf' hj
    rw [hx] at hy; cases hy
    have hn := hL2.len hf' hym
    have hcap := (hL2.each _ hym).cap_le
    have hcl := clampN_le m x.f.bytes.length
    have pa : ∀ b', blk (some (⟨b, off, none⟩ : Addr)) = some b' → b' ≠ p := fun b' hb' => (hL2.Fa b' hb').2
    have hxn : x.n = x.f.bytes.length := hn.1
    have e : (if (if ((x.n : Nat) : Int) < m then ((x.n : Nat) : Int) else m) > 0 then (if ((x.n : Nat) : Int) < m then ((x.n : Nat) : Int) else m) else 0) = ((clampN m x.f.bytes.length : Nat) : Int) := by
      unfold clampN; rw [hxn]; omega
    refine ⟨fun b' => blk (some (⟨b, off, none⟩ : Addr)) = some b', p, 0, rfl, fun hb => pa p hb rfl, _, n, cap, cell_at hL2.head rfl, p, 0, rfl, _, n, cap, cell_at hL2.head rfl, b, off, rfl, by omega, by omega, _, _, _, c1,
      p, 0, rfl, _, n, cap, cell_at hL2.head rfl, b, off, rfl, by omega, by omega, _, _, _, c1, ?_⟩
    change (_ ≤ (if (if ((x.n : Nat) : Int) < m then ((x.n : Nat) : Int) else m) > 0 then (if ((x.n : Nat) : Int) < m then ((x.n : Nat) : Int) else m) else 0)) ∧ _
    rw [e, Int.toNat_natCast]
    have hcap' : x.n ≤ x.c := hcap
    refine ⟨by omega, by show ((clampN m x.f.bytes.length : Nat) : Int) ≤ ((x.c : Nat) : Int); omega, PC.ok (kit_CopyBytes ((hL2.bytes hf' hym).take (m := clampN m x.f.bytes.length) (by show _ ≤ x.n; omega))) ?_⟩
    rintro _ w3 ⟨a3, n3, c3', F3, rfl, ho3, k3, hF3⟩
    have hn3 : n3 = clampN m x.f.bytes.length := by
      have := ho3.len (by decide)
      rw [this]
      show (x.f.bytes.take _).length = _
      simp; omega
    refine ⟨_, _, _, rfl, k3.keep, b, off, rfl, by omega, by omega, ?_⟩
    refine (hL2.lst.grew k3).set (x' := (k, ⟨a3, n3, c3', F3, ⟨x.f.bytes.take (clampN m x.f.bytes.length), x.f.synced, x.f.good⟩⟩)) hx (j := 1) (by decide) rfl rfl fun w4 ho4 k4 s4 => ⟨k4, fun w5 hd5 => ?_⟩
    have g4 : w4.heap[p]? = _ := k4.get (k3.get hL2.head id) fun hb => pa p hb rfl
    have g5 := (hd5.keep (S := fun _ => False)).get g4 id
    have hlen : j < L.length := (List.getElem?_eq_some_iff.1 hx).1
    have hx4 : ∀ z : RB, (L.set j z)[j]? = some z := fun z => by rw [List.getElem?_set]; simp [hlen]
    have ho5 := ho4.grew hd5.keep
    obtain ⟨bb, oo, es, hbb, _, _, hcc, rfl, -⟩ := (ho5.row (bytes := 56) (by decide) (by have := hL2.length hf'; have := hf'.many; rw [List.length_set]; unfold Big; omega)).el j _ (hx4 _)
    cases hbb
    refine ⟨p, 0, rfl, _, n, cap, cell_at g5 rfl, p, 0, rfl, _, n, cap, cell_at g5 rfl, b, off, rfl, by omega, by omega, a3, n3, c3', hcc 1 (by decide), b, off, rfl, by omega, by omega, ?_⟩
    refine ho5.set (x' := (k, ⟨a3, n3, c3', F3, ⟨x.f.bytes.take (clampN m x.f.bytes.length), n3, x.f.good⟩⟩)) (hx4 _) (j := 2) (by decide) rfl rfl fun w6 ho6 k6 s6 => ?_
    have g6 := k6.get g5 fun hb => pa p hb rfl
    rw [List.set_set] at ho6
    refine ⟨p, 0, rfl, _, n, cap, cell_at g6 rfl, b, off, rfl, by omega, by omega, ?_⟩
    refine ho6.set (x' := (k, ⟨a3, n3, c3', F3, x.f.cut m⟩)) (hx4 _) (j := 3) (by decide) (by subst hn3; rfl) rfl fun w7 ho7 k7 s7 => Ok.mk (ref_op' hd k1 ?_)
    rw [List.set_set] at ho7
    rw [onF_some (hL.get hf' hym)]
    have hk37 : Keep (fun b' => blk (some (⟨b, off, none⟩ : Addr)) = some b') w3 w7 := ((k4.grew hd5.keep).then k6).then k7
    have hk7 : Keep (fun b' => x.F b' ∨ blk (some (⟨b, off, none⟩ : Addr)) = some b') w2 w7 := ((k3.keep (S := fun b' => blk (some (⟨b, off, none⟩ : Addr)) = some b')).then hk37).mono fun _ _ h => .inr h
    have hb2 := hL2.dom
    have hbx : Lst cU8 5 F3 w7 a3 n3 c3' (x.f.cut m).bytes := ho3.keep hk37 fun b' hb' hc => by
      have := hF3 b' hb'; have := hb2 b' (hL2.Fa b' hc).1; omega
    obtain ⟨F', hL7, hev⟩ := hL2.turn (x' := ⟨a3, n3, c3', F3, x.f.cut m⟩) hf' hx ho7 hk7 hbx (fun b hb => .inr (hF3 b hb))
    exact ⟨F', rfl, ⟨_, _, _, _, hL7⟩, (Evo.mk hd2.keep fun _ h => .inl h : Evo F _ F w2).trans hev⟩

theorem ref_Append {k : ByteArray} {ba : Option Addr} {bn bc : Nat} {bs : List UInt8} {Db : Nat → Prop} (h : RefAt w p F D) (hf : D.Fit) (h0 : 0 ≤ D.left) (hR : I64 D.left) (hb : Row cU8 1 w Db ba bn bs) (hDb : ∀ b, Db b → b < w.heap.size ∧ ¬ F b) :
    Calls Try.prog F_ref19_Disk_Append #[.pointer (some ⟨p, 0, none⟩), .string k, .slice ba bn bc] w (Ok (RDid w p F (D.append k bs))) := by
  have hbl := hb.len; have hbb := hb.big
  unfold Big at hbb
  refine L_ref19_Disk_Append (PC.ok (ref_dies h h0 hR) ?_)
  rintro _ w1 ⟨rfl, h1, k1⟩
  refine ⟨_, rfl, PIf.mk (fun hd => Ok.mk (ref_op (g := 0) (args := #[]) (v := .bool true) hd h1 k1)) (fun hd => ?_)⟩
  rw [if_neg (by simp [hd])] at h1
  have h1' := h1
  obtain ⟨a, n, cap, L, hL⟩ := h1
  have hf' := hf.armed
  refine PC.ok (ref_at hL hf') ?_
  rintro _ _ ⟨rfl, i, rfl, hi | ⟨j, x, rfl, hj, hx⟩⟩
  · refine ⟨_, rfl, PIf.tt (decide_eq_true hi.1) (Ok.mk (ref_op' hd k1 ?_))⟩
    rw [onF_none (hL.nof hi.2)]
    exact ⟨F, rfl, ⟨a, n, cap, L, hL⟩, Keep.refl _, fun _ h => .inl h⟩
  · refine ⟨_, rfl, PIf.ff (decide_eq_false (by omega)) (PC.ok (ref_Room h1' hf') ?_)⟩
    rintro _ _ ⟨rfl, rfl⟩
    have hget := hL.get hf' (List.mem_of_getElem? hx)
    refine ⟨_, rfl, PIf.dec (fun hgt => Ok.mk (ref_op' hd k1 ?_)) (fun hle => fun w2 hd2 => ?_)⟩
    · rw [onF_some hget, if_pos (by rw [← hbl]; exact hgt)]
      exact ⟨F, rfl, ⟨a, n, cap, L, hL⟩, Keep.refl _, fun _ h => .inl h⟩
    · have hL2 := hL.grew hd2.keep
      obtain ⟨b, off, y, rfl, hy, hym, c0, c1, c2, c3⟩ := hL2.at hf' hj
      rw [hx] at hy; cases hy
      have hn := hL2.len hf' hym
      have hxn : x.n = x.f.bytes.length := hn.1
      have hx2 : x.f.bytes.length ≤ 262144 := hn.2.1
      have hin := hL2.inF _ hym
      have hin' : ∀ b', x.F b' → F b' ∧ b' ≠ p ∧ blk (some (⟨b, off, none⟩ : Addr)) ≠ some b' := hin
      have hr2 : D.armed.room ≤ 262144 := by have := hf'.most; unfold DiskV.room; omega
      have hbx : Lst cU8 5 x.F w2 x.a x.n x.c x.f.bytes := hL2.each _ hym
      have hb2 : Row cU8 1 w2 Db ba bn bs := (hb.keep k1 fun b hb => (hDb b hb).2).grew hd2.keep
      refine ⟨fun b' => F b' ∧ b' ≠ p, p, 0, rfl, fun hb => hb.2 rfl, _, n, cap, cell_at hL2.head rfl, p, 0, rfl, _, n, cap, cell_at hL2.head rfl, b, off, rfl, by omega, by omega, _, _, _, c1, ?_⟩
      have hw12 : w.heap.size ≤ w2.heap.size := (k1.grew hd2.keep).size
      refine appRow0 hbx slU8 hb2 (fun b' hb' => ⟨by have := (hDb b' hb').1; omega, fun he => (hDb b' hb').2 (hin' b' (hbx.self b' he)).1⟩) (by unfold Big; omega) (by unfold maxLen; omega) fun a' c' w3 F' ho3 k3 _ hs3 => ?_
      have hF3 : ∀ b', blk x.a = some b' → F b' ∧ b' ≠ p := fun b' hb' => ⟨(hin' b' (hbx.self b' hb')).1, (hin' b' (hbx.self b' hb')).2.1⟩
      refine ⟨_, _, _, rfl, k3.mono fun b' _ hb' => hF3 b' hb', b, off, rfl, by omega, by omega, ?_⟩
      have hl3 := hL2.lst.keep k3 fun b' hb' hc => (hin' b' (hbx.self b' hc)).2.2 hb'
      refine hl3.set (x' := (k, ⟨a', x.n + bn, c', fun b' => blk a' = some b', { x.f with bytes := x.f.bytes ++ bs }⟩)) hx (j := 1) (by decide) rfl rfl fun w4 ho4 k4 s4 => ⟨k4.mono fun b' _ hb' => hL2.Fa b' hb', Ok.mk (ref_op' hd k1 ?_)⟩
      rw [onF_some hget, if_neg (by rw [← hbl]; exact hle)]
      have hk4 : Keep (fun b' => x.F b' ∨ blk (some (⟨b, off, none⟩ : Addr)) = some b') w2 w4 := (k3.mono fun b' _ hb' => .inl (hbx.self b' hb')).then (k4.mono fun _ _ h => .inr h)
      have hdd := hL2.dom
      have hbx4 : Lst cU8 5 (fun b' => blk a' = some b') w4 a' (x.n + bn) c' (x.f.bytes ++ bs) := ho3.alone.keep k4 fun b' hb' hc => by
        rcases hs3 b' hb' with h | h
        · exact (hin' b' h).2.2 hc
        · have := hdd b' (hL2.Fa b' hc).1; omega
      obtain ⟨F4, hL4, hev⟩ := hL2.turn (x' := ⟨a', x.n + bn, c', fun b' => blk a' = some b', { x.f with bytes := x.f.bytes ++ bs }⟩) hf' hx ho4 hk4 hbx4 (fun b hb => hs3 b hb)
      exact ⟨F4, rfl, ⟨_, _, _, _, hL4⟩, (Evo.mk hd2.keep fun _ h => .inl h : Evo F _ F w2).trans hev⟩
end
end Go.Proofs.Yticehdfebghloaa
