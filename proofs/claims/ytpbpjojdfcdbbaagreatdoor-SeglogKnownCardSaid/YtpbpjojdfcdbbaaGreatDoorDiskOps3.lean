/- vdisk: room, what is read, crashes -/
import Derived.Test.YtpbpjojdfcdbbaaGreatDoorDiskOps2
namespace Go.Proofs.YtpbpjojdfcdbbaaGreatDoor
open Go.Lift
set_option linter.unusedVariables false
set_option maxRecDepth 20000

def sumBox (l : List (ByteArray × Box)) : Nat := (l.map fun x => x.2.f.bytes.length).sum
theorem sumBox_eq (L : List (ByteArray × Box)) : sumBox L = sumLen (L.map boxF) := by unfold sumBox sumLen; rw [List.map_map]; rfl

/-- what a step of the range hands out, among the boxes -/
theorem split_box {left : List (ByteArray × Box)} {l1 l2 : List (ByteArray × Value)} {k : ByteArray} {v : Value} (h : left.map boxV = l1 ++ (k, v) :: l2) :
    ∃ a x b, left = a ++ (k, x) :: b ∧ l1 = a.map boxV ∧ l2 = b.map boxV ∧ v = ptr x.q := by
  obtain ⟨a, r, h1, h2, h3⟩ := List.map_eq_append_iff.1 h
  obtain ⟨y, b, h4, h5, h6⟩ := List.map_eq_cons_iff.1 h3
  obtain ⟨y1, x⟩ := y
  simp only [boxV, Prod.mk.injEq] at h5
  obtain ⟨rfl, rfl⟩ := h5
  exact ⟨a, x, b, by rw [h1, h4], h2.symm, h6.symm, rfl⟩

theorem Disk_Room {w : World} {p : Nat} {F : Nat → Prop} {D : DiskV} (h : DiskAt w p F D) :
    Calls Tryz.prog F_vdisk_Disk_Room #[.pointer (some ⟨p, 0, none⟩)] w (Ok fun v w' => v = .int .i64 D.room ∧ Grew w w') := by
  obtain ⟨r, L, hL⟩ := h.open
  have hm := hL.ok.most
  have hu := hL.ok.fits
  unfold DiskV.used at hu
  rw [hL.files, ← sumBox_eq] at hu
  refine L_vdisk_Disk_Room ⟨p, 0, rfl, _, cell_at hL.head rfl, p, 0, rfl, some r, cell_at hL.head rfl, mapRange mF hL.map fun w1 hR k1 s1 => ?_⟩
  refine ⟨fun m n w' => ∃ left : List (ByteArray × Box), RangeAt w' w.heap.size r Value.string (L.map boxV) (left.map boxV) ∧ m = left.length ∧ n = (D.most : Int) - sumBox L + sumBox left ∧ sumBox left ≤ sumBox L ∧ Grew w w' ∧ ∀ x ∈ left, x ∈ L,
    ⟨_, L, hR, rfl, by omega, Nat.le_refl _, k1, fun _ h => h⟩, ?_⟩
  rintro m n B w2 ⟨left, hR2, rfl, rfl, hle, k2, hsub⟩
  refine rangeNext hR2 (fun he => .inl ⟨rfl, Ok.mk ⟨?_, k2⟩⟩) fun k v l1 l2 w3 hsp hR3 hc3 k3 s3 => .inr ⟨_, _, rfl, curEntry hc3 ?_⟩
  · have : left = [] := by simpa using he
    subst this
    simp only [sumBox, List.map_nil, List.sum_nil, DiskV.room, DiskV.used]
    rw [hL.files, ← sumBox_eq]
    simp [sumBox]
  · obtain ⟨a, x, b, rfl, rfl, rfl, rfl⟩ := split_box hsp
    have hx : (k, x) ∈ L := hsub _ (by simp)
    have hk : Grew w w3 := k2.new k3 fun b hb => .inr (by omega)
    have hFx : FileAt w3 x.q x.G x.f := (hL.each.each _ hx).keep hk fun _ _ h => h
    obtain ⟨fa, fn, fc, F0, h1, h2, h3, h4⟩ := hFx.body
    have hlen := h2.len (by decide)
    have hs : sumBox (a ++ (k, x) :: b) = sumBox (a ++ b) + x.f.bytes.length := by simp [sumBox]; omega
    have hw : IntKind.wrap .i64 ((D.most : Int) - sumBox L + sumBox (a ++ (k, x) :: b) - ((fn : Nat) : Int)) = (D.most : Int) - sumBox L + sumBox (a ++ b) := by
      rw [wrap_i64 (by unfold I64; omega), hlen, hs]; omega
    refine ⟨_, _, rfl, x.q, 0, rfl, fa, fn, fc, cell_at h1 rfl, (a ++ b).length, by simp, a ++ b, ?_, rfl, hw, by omega, hk, fun y hy => hsub y ?_⟩
    · rw [List.map_append]; exact hR3
    · simp only [List.mem_append, List.mem_cons] at hy ⊢; exact hy.imp id .inr

theorem Disk_Append {w : World} {p : Nat} {F Db : Nat → Prop} {D : DiskV} (h : DiskAt w p F D) {k : ByteArray} {a : Option Addr} {n c : Nat} {bs : List UInt8} (hb : Row cU8 1 w Db a n bs) (hnil : a = none → n = 0 ∧ c = 0) (hDb : ∀ b, Db b → b < w.heap.size ∧ ¬ F b) :
    Calls Tryz.prog F_vdisk_Disk_Append #[.pointer (some ⟨p, 0, none⟩), .string k, .slice a n c] w (Ok (Did w p F (D.append k bs))) := by
  have hbl := hb.len; have hbb := hb.big
  unfold Big at hbb
  refine L_vdisk_Disk_Append (PA.mk fun w1 k1 s1 g1 => PA.mk fun w2 k2 s2 g2 => ⟨_, cell_at (k2.get g1 id) rfl, PC.ok (Disk_on ((h.grew k1).grew k2) (k := k) (g := 98)
    (body := fun D f => if (bs.length : Int) > D.room then (12, D) else (0, D.setF k { f with bytes := f.bytes ++ bs })) (by kernel_rfl) fun hd w3 r L x hL hx k3 => ?_) fun v w' h => did_int v w' (k1.grew k2) h⟩)
  have e1 := k3.get (k2.get g1 id) fun hb => by have := h.dom _ hb; omega
  have e2 := k3.get g2 fun hb => by have := h.dom _ hb; omega
  have hb3 : Row cU8 1 w3 Db a n bs := ((hb.grew k1).grew k2).keep k3 fun b hb => (hDb b hb).2
  have hget := hL.get hx
  refine L_vdisk_Disk_Append_1 fun w4 hd4 => ⟨fun _ => False, id, a, n, c, cell_at (hd4.keep (S := fun _ => False) |>.get e2 id) rfl, _, cell_at (hd4.keep (S := fun _ => False) |>.get e1 id) rfl, PC.ok (Disk_Room (hL.grew hd4.keep).at) ?_⟩
  rintro _ w5 ⟨rfl, k5⟩
  have hk5 : Grew w3 w5 := (Drew.keep hd4).then k5
  refine ⟨_, rfl, k5, PIf.dec (fun hgt => Ok.mk ?_) (fun hle => fun w6 hd6 => ?_)⟩
  · rw [if_pos (by rw [← hbl]; exact hgt)]
    exact ⟨F, rfl, (hL.grew hk5).at, hk5.keep, fun _ h => .inl h⟩
  · have hk6 : Grew w3 w6 := hk5.grew hd6.keep
    have hL6 := hL.grew hk6
    have hm := aget_mem hx
    have hF6 : FileAt w6 x.q x.G x.f := hL6.each.each _ hm
    obtain ⟨fa, fn, fc, F0, h1, h2, h3, h4⟩ := hF6.body
    have hlen := h2.len (by decide)
    have hfl : x.f.bytes.length ≤ 262144 := hL.ok.len (aget_mem hget)
    have hin : ∀ b, x.G b → F b ∧ b ≠ p ∧ b ≠ r := hL6.inF _ hm
    refine ⟨x.q, 0, rfl, fa, fn, fc, cell_at h1 rfl, a, n, c, cell_at (hk6.get e2 id) rfl, ?_⟩
    have hDb6 : ∀ b, Db b → b < w6.heap.size ∧ blk fa ≠ some b := fun b hb => ⟨by have := (hDb b hb).1; have := k3.size; have := hk6.size; omega, fun he => (hDb b hb).2 (hin b (h3 b (h2.self b he))).1⟩
    have hr2 : D.armed.room ≤ 262144 := by have := hL.ok.most; unfold DiskV.room; omega
    refine appRow' h2 slU8 (hb3.grew hk6) hnil hDb6 (by unfold Big; omega) (by unfold maxLen; omega) fun a' c' w7 F' ho7 hk7 _ hs7 => ?_
    have hq : blk fa ≠ some x.q := fun he => h4 (h2.self _ he)
    have hq6 := lt_of_get h1
    have hq' : blk a' ≠ some x.q := fun he => by rcases hs7 _ he with h | h; exact h4 h; omega
    refine ⟨_, _, _, rfl, x.q, 0, rfl, PS.mk (hk7.get h1 hq) (by simp) fun w8 k8 s8 g8 => Ok.mk ?_⟩
    have hroom : ¬ ((bs.length : Int) > D.armed.room) := by rw [← hbl]; exact hle
    rw [if_neg hroom]
    have hbk : ∀ b, blk fa = some b → x.G b := fun b he => h3 b (h2.self b he)
    have hF8 : FileAt w8 x.q (fun b => b = x.q ∨ blk a' = some b) { x.f with bytes := x.f.bytes ++ bs } :=
      ⟨⟨a', fn + n, c', fun b => blk a' = some b, g8, ho7.alone.keep k8 (fun b hb e => hq' (by rw [← e]; exact hb)), fun b hb => .inr hb, hq'⟩, .inl rfl, by
        rintro b (rfl | hb)
        · have := hk7.size; omega
        · have := ho7.dom b (ho7.self b hb); omega⟩
    have hev : Evo x.G w6 (fun b => b = x.q ∨ blk a' = some b) w8 := ⟨(hk7.mono fun b _ hb => hbk b hb).then (k8.mono fun b _ hb => hb ▸ hF6.self), by
      rintro b (rfl | hb)
      · exact .inl hF6.self
      · exact (hs7 b hb).imp (fun h => h3 b h) id⟩
    have hok : (D.armed.setF k { x.f with bytes := x.f.bytes ++ bs }).Ok := hL.ok.set hget (by
      unfold DiskV.room at hroom
      simp only [List.length_append]
      omega) (by have := hL.ok.syn _ (aget_mem hget); simp only [List.length_append]; show x.f.synced ≤ _; have h' : x.f.synced ≤ x.f.bytes.length := this; omega)
    obtain ⟨F2, hL8, hev8⟩ := hL6.turn hx hF8 hev hok
    exact ⟨F2, rfl, hL8.at, (Evo.mk hk6.keep fun _ h => .inl h : Evo F w3 F w6).trans hev8⟩

theorem Disk_Read {w : World} {p : Nat} {F : Nat → Prop} {D : DiskV} (h : DiskAt w p F D) {k : ByteArray} :
    Calls Tryz.prog F_vdisk_Disk_Read #[.pointer (some ⟨p, 0, none⟩), .string k] w (Ok fun v w' => ∃ u, v = .tuple #[u, .int .i64 (D.read k).2] ∧ New cU8 5 w (D.read k).1 u w') := by
  obtain ⟨r, L, hL⟩ := h.open
  have none' : New cU8 5 w [] (.slice none 0 0) w := ⟨none, 0, 0, fun _ => False, rfl, Lst.nil w, Keep.refl _, fun _ h => h.elim⟩
  rcases hL.box k with ⟨b1, b2⟩ | ⟨x, b0, bm, b1, b2⟩
  · refine L_vdisk_Disk_Read ⟨p, 0, rfl, some r, cell_at hL.head rfl, mapLook mF kS hL.map ?_⟩
    rw [b2]
    refine ⟨_, rfl, p, 0, rfl, _, cell_at hL.head rfl, PIf.mk (fun hd => Ok.mk ?_) (fun hd => eq_nil_ptr uF ⟨_, rfl, PIf.tt rfl (Ok.mk ?_)⟩)⟩
    · unfold DiskV.read; rw [hd, if_pos rfl]; exact ⟨_, rfl, none'⟩
    · unfold DiskV.read; rw [hd, if_neg (by simp), b1]; exact ⟨_, rfl, none'⟩
  · refine L_vdisk_Disk_Read ⟨p, 0, rfl, some r, cell_at hL.head rfl, mapLook mF kS hL.map ?_⟩
    rw [b2]
    refine ⟨_, rfl, p, 0, rfl, _, cell_at hL.head rfl, PIf.mk (fun hd => Ok.mk ?_) (fun hd => eq_nil_ptr uF ⟨_, rfl, PIf.ff rfl ?_⟩)⟩
    · unfold DiskV.read; rw [hd, if_pos rfl]; exact ⟨_, rfl, none'⟩
    · have hFx : FileAt w x.q x.G x.f := hL.each.each _ bm
      obtain ⟨fa, fn, fc, F0, h1, h2, h3, h4⟩ := hFx.body
      have hfl : x.f.bytes.length ≤ 262144 := hL.ok.len (aget_mem b1)
      refine ⟨x.q, 0, rfl, fa, fn, fc, cell_at h1 rfl, PC.ok (slices_Clone_B (h2.row (by decide) (by unfold Big; omega)) h2.dom) ?_⟩
      rintro _ w1 ⟨a1, n1, c1, F1, rfl, ho1, hk1, hF1⟩
      unfold DiskV.read
      rw [hd, if_neg (by simp), b1]
      exact ⟨_, _, _, rfl, Ok.mk ⟨_, rfl, a1, n1, c1, F1, rfl, ho1, hk1, hF1⟩⟩

theorem Disk_List {w : World} {p : Nat} {F : Nat → Prop} {D : DiskV} (h : DiskAt w p F D) :
    Calls Tryz.prog F_vdisk_Disk_List #[.pointer (some ⟨p, 0, none⟩)] w (Ok (New cStr 9 w D.list)) := by
  obtain ⟨r, L, hL⟩ := h.open
  have hmany := hL.ok.many
  have hln : L.length = D.files.length := by rw [hL.files]; simp
  refine L_vdisk_Disk_List ⟨p, 0, rfl, some r, cell_at hL.head rfl, PC.ok (φ := fun v w' => v = .func (.func 120) #[] #[.pointer (some ⟨w.heap.size, 0, none⟩)] ∧ Grew w w' ∧ w'.heap.size = w.heap.size + 1 ∧
    w'.heap[w.heap.size]? = some (.cells #[.map (some r)] 78 (0, 0))) (L_maps_Keys_map_string_vdisk_file_string_vdisk_file (PA.mk fun w1 k1 s1 g1 => Ok.mk ⟨rfl, k1, s1, g1⟩)) ?_⟩
  rintro _ w1 ⟨rfl, k1, s1, g1⟩
  refine ⟨_, rfl, PC.ok (slices_Sorted_S (hL.map.grew k1) (fun q hq => ?_) (by rw [List.length_map]; unfold Big; omega) g1) ?_⟩
  · obtain ⟨x, hx, rfl⟩ := List.mem_map.1 hq
    have := hL.ok.names (boxF x) (by rw [hL.files]; exact List.mem_map.2 ⟨x, hx, rfl⟩)
    unfold isNameV at this
    simp only [Bool.and_eq_true, decide_eq_true_eq] at this
    have h2 : x.1.size ≤ 16 := this.1.2
    show x.1.size ≤ maxLen
    unfold maxLen; omega
  · rintro _ w2 ⟨a, n, c, F2, rfl, ho, hk, hF2⟩
    refine ⟨_, _, _, rfl, Ok.mk ⟨a, n, c, F2, rfl, ?_, k1.grew hk, fun b hb => by have := hF2 b hb; omega⟩⟩
    have e : sortS ((L.map boxV).map (·.1)) = D.list := by unfold DiskV.list; rw [hL.files, List.map_map, List.map_map]; rfl
    rw [← e]; exact ho

/-! crashes -/

theorem adel_filter {β : Type} {l : List (ByteArray × β)} (ht : Tidy l) (k : ByteArray) : adel l k = l.filter fun x => x.1 != k := by
  induction l with
  | nil => rfl
  | cons p l ih =>
    obtain ⟨x, u⟩ := p
    unfold Tidy at ht ih
    simp only [List.map_cons, List.nodup_cons] at ht
    unfold adel
    by_cases h : (k == x) = true
    · rw [if_pos h]
      have hx : k = x := eq_of_beq h
      subst hx
      rw [List.filter_cons_of_neg (by simp)]
      exact (List.filter_eq_self.2 fun y hy => by
        simp only [bne_iff_ne, ne_eq]
        intro e; exact ht.1 (e ▸ List.mem_map.2 ⟨y, hy, rfl⟩)).symm
    · rw [if_neg h, ih ht.2, List.filter_cons_of_pos]
      simp only [bne_iff_ne, ne_eq]
      intro e; exact h (by rw [e]; simp)

/-- of the files those that are good, and those that are still to come -/
def stays (left : List (ByteArray × Box)) (x : ByteArray × Box) : Bool := x.2.f.good || left.any fun y => y.1 == x.1

theorem maps_DeleteFunc {w : World} {r : Nat} {L : List (ByteArray × Box)} (hm : MapAt w r Value.string (L.map boxV)) (hF : Files w L) (hr : ∀ x ∈ L, ∀ b, x.2.G b → b ≠ r) :
    Calls Tryz.prog F_maps_DeleteFunc_map_string_vdisk_file_string_vdisk_file #[.map (some r), .func (.func 55) #[] #[]] w
      (Ok fun v w' => v = .tuple #[] ∧ MapAt w' r Value.string ((L.filter fun x => x.2.f.good).map boxV) ∧ Keep (· = r) w w') := by
  have hen : enters Tryz.prog 55 = true := by kernel_rfl
  refine L_maps_DeleteFunc_map_string_vdisk_file_string_vdisk_file (mapRange mF hm fun w1 hR k1 s1 => ?_)
  refine ⟨fun m w' => ∃ left : List (ByteArray × Box), RangeAt w' w.heap.size r Value.string ((L.filter (stays left)).map boxV) (left.map boxV) ∧ m = left.length ∧ Keep (· = r) w w' ∧ (∀ x ∈ left, x ∈ L) ∧ Tidy left,
    ⟨_, L, ?_, rfl, k1.keep, fun _ h => h, hF.tidy⟩, ?_⟩
  · have e : L.filter (stays L) = L := List.filter_eq_self.2 fun x hx => by
      unfold stays
      rw [Bool.or_eq_true]
      exact .inr (List.any_eq_true.2 ⟨x, hx, by simp⟩)
    rw [e]; exact hR
  · rintro m B w2 ⟨left, hR2, rfl, k2, hsub, htl⟩
    refine rangeNext hR2 (fun he => .inl ⟨rfl, Ok.mk ⟨rfl, ?_, k2⟩⟩) fun k v l1 l2 w3 hsp hR3 hc3 k3 s3 => .inr ⟨_, _, rfl, curEntry hc3 ?_⟩
    · have : left = [] := by simpa using he
      subst this
      have e : (L.filter (stays [])) = L.filter fun x => x.2.f.good := List.filter_congr fun x _ => by simp [stays]
      rw [e] at hR2
      exact hR2.map
    · obtain ⟨a, x, b, rfl, rfl, rfl, rfl⟩ := split_box hsp
      have hx : (k, x) ∈ L := hsub _ (by simp)
      have hitr : w.heap.size ≠ r := hR2.ne
      have hk3 : Keep (· = r) w w3 := k2.new k3 fun b hb => .inr (by omega)
      have hFx : FileAt w3 x.q x.G x.f := (hF.each _ hx).keep hk3 fun b hb => hr _ hx b hb
      obtain ⟨fa, fn, fc, F0, h1, h2, h3, h4⟩ := hFx.body
      have hnd : k ∉ (a ++ b).map (·.1) := by
        unfold Tidy at htl
        rw [List.map_append, List.map_cons] at htl
        rw [List.map_append]
        intro hmem
        have hp := (List.perm_middle (a := k) (l₁ := a.map (·.1)) (l₂ := b.map (·.1))).nodup_iff.1 htl
        exact (List.nodup_cons.1 hp).1 hmem
      have hst : ∀ y ∈ L, y.1 ≠ k → stays (a ++ (k, x) :: b) y = stays (a ++ b) y := fun y hy hne => by
        unfold stays
        congr 1
        have : (k == y.1) = false := beq_false_of_ne (Ne.symm hne)
        simp [List.any_append, this]
      have hkx : ∀ y ∈ L, y.1 = k → y = (k, x) := fun y hy he => by
        have h1 := mem_aget hF.tidy (k := y.1) (v := y.2) hy
        have h2 := mem_aget hF.tidy (k := k) (v := x) hx
        rw [he, h2] at h1
        exact Prod.ext he (Option.some.inj h1).symm
      have hany : (a ++ b).any (fun y => y.1 == k) = false := by
        rw [List.any_eq_false]
        intro y hy he
        exact hnd (List.mem_map.2 ⟨y, hy, eq_of_beq he⟩)
      have htab : Tidy (a ++ b) := by
        unfold Tidy at htl ⊢
        rw [List.map_append, List.map_cons] at htl
        rw [List.map_append]
        exact (List.nodup_cons.1 ((List.perm_middle (a := k) (l₁ := a.map (·.1)) (l₂ := b.map (·.1))).nodup_iff.1 htl)).2
      have hsub' : ∀ y ∈ a ++ b, y ∈ L := fun y hy => hsub y (by simp only [List.mem_append, List.mem_cons] at hy ⊢; exact hy.imp id .inr)
      have hlen : (a ++ b).length < (a ++ (k, x) :: b).length := by simp
      refine ⟨_, _, rfl, _, _, _, rfl, hen, PC.ok (φ := fun v w' => v = .bool (!x.f.good) ∧ w' = w3) (L_vdisk_Disk_Crash_1 ⟨x.q, 0, rfl, _, cell_at h1 rfl, Ok.mk ⟨rfl, rfl⟩⟩) ?_⟩
      rintro _ _ ⟨rfl, rfl⟩
      refine ⟨_, rfl, PIf.not (PIf.mk (fun hg => ⟨_, hlen, a ++ b, ?_, rfl, hk3, hsub', htab⟩) (fun hg => ?_))⟩
      · have e : L.filter (stays (a ++ (k, x) :: b)) = L.filter (stays (a ++ b)) := List.filter_congr fun y hy => by
          by_cases hne : y.1 = k
          · rw [hkx y hy hne]; simp [stays, hg]
          · exact hst y hy hne
        rw [List.map_append, ← e]; exact hR3
      · refine rangeDel mF kS hR3 (by rw [← List.map_append]; simpa [boxV, Function.comp_def] using hnd) fun w4 hR4 k4 s4 => ⟨_, hlen, a ++ b, ?_, rfl, hk3.then k4, hsub', htab⟩
        have e : adel ((L.filter (stays (a ++ (k, x) :: b))).map boxV) k = (L.filter (stays (a ++ b))).map boxV := by
          have e1 : adel ((L.filter (stays (a ++ (k, x) :: b))).map boxV) k = (adel (L.filter (stays (a ++ (k, x) :: b))) k).map boxV := (map_adel (fun x : Box => ptr x.q) _ k).symm
          have ht2 : Tidy (L.filter (stays (a ++ (k, x) :: b))) := List.Nodup.sublist (List.Sublist.map _ List.filter_sublist) hF.tidy
          rw [e1, adel_filter ht2, List.filter_filter]
          congr 1
          refine List.filter_congr fun y hy => ?_
          by_cases hne : y.1 = k
          · rw [hkx y hy hne]
            simp only [stays, hg, hany, Bool.or_false, bne_self_eq_false, Bool.false_and]
          · rw [hst y hy hne]
            have : (y.1 != k) = true := by simpa using hne
            rw [this, Bool.true_and]
        rw [e, ← List.map_append] at hR4
        exact hR4
end Go.Proofs.YtpbpjojdfcdbbaaGreatDoor
