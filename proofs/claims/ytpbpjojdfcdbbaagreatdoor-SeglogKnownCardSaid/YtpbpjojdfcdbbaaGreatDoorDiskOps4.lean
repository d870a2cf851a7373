/- vdisk: Crash -/
import Derived.Test.YtpbpjojdfcdbbaaGreatDoorDiskOps3
namespace Go.Proofs.YtpbpjojdfcdbbaaGreatDoor
open Go.Lift
set_option linter.unusedVariables false
set_option maxRecDepth 20000

def keepTo (keep : Int) (f : FileV) : Int := f.synced + max 0 (min keep ((f.bytes.length : Int) - f.synced))
def cutK (keep : Int) (f : FileV) : FileV := f.cut (keepTo keep f)
def DiskV.crash (D : DiskV) (keep : Int) : DiskV := { D with files := (D.files.filter fun x => x.2.good).map (fun x => (x.1, cutK keep x.2)), fused := false, dead := false }
def DiskV.withF (D : DiskV) (l : List (ByteArray × FileV)) : DiskV := ⟨D.most, l, D.fused, D.left, D.dead⟩
def DiskV.goods (D : DiskV) : DiskV := { D with files := D.files.filter fun x => x.2.good }

theorem sumLen_filter (l : List (ByteArray × FileV)) (q : ByteArray × FileV → Bool) : sumLen (l.filter q) ≤ sumLen l := by
  unfold sumLen
  induction l with
  | nil => simp
  | cons x l ih =>
    rw [List.filter_cons]
    split
    · simp; omega
    · simp; omega
theorem tidy_filter {β : Type} {l : List (ByteArray × β)} (h : Tidy l) (q : ByteArray × β → Bool) : Tidy (l.filter q) := List.Nodup.sublist (List.Sublist.map _ List.filter_sublist) h
theorem DiskV.Ok.goods {D : DiskV} (h : D.Ok) : D.goods.Ok := by
  have h1 := sumLen_filter D.files fun x => x.2.good
  have h2 := h.fits
  have h3 := List.length_filter_le (fun x : ByteArray × FileV => x.2.good) D.files
  have h4 := h.many
  unfold DiskV.used at h2
  exact ⟨h.most, by show sumLen (D.files.filter _) ≤ D.most; omega, by show (D.files.filter _).length ≤ 64; omega, tidy_filter h.tidy _, fun x hx => h.names x (List.mem_filter.1 hx).1, fun x hx => h.syn x (List.mem_filter.1 hx).1, h.left0, h.leftR⟩

theorem aput_map {β : Type} {l : List (ByteArray × β)} (ht : Tidy l) {g g' : ByteArray × β → β} {k : ByteArray} {u v : β} (hk : (k, u) ∈ l) (h1 : ∀ y ∈ l, y.1 ≠ k → g' y = g y) (h2 : g' (k, u) = v) :
    aput (l.map fun x => (x.1, g x)) k v = l.map fun x => (x.1, g' x) := by
  induction l with
  | nil => cases hk
  | cons p l ih =>
    obtain ⟨x, y⟩ := p
    unfold Tidy at ht ih
    simp only [List.map_cons, List.nodup_cons] at ht
    simp only [List.map_cons]
    unfold aput
    by_cases h : (k == x) = true
    · have hx : k = x := eq_of_beq h
      subst hx
      have hu : y = u := by
        rcases List.mem_cons.1 hk with h | h
        · cases h; rfl
        · exact absurd (List.mem_map.2 ⟨_, h, rfl⟩) ht.1
      subst hu
      rw [if_pos h, h2]
      congr 1
      refine List.map_congr_left fun z hz => ?_
      rw [h1 z (List.mem_cons_of_mem _ hz) fun e => ht.1 (List.mem_map.2 ⟨z, hz, e⟩)]
    · have hne : x ≠ k := fun e => h (by rw [e]; simp)
      rw [if_neg h, h1 (x, y) (List.mem_cons_self ..) hne]
      congr 1
      refine ih ht.2 ?_ fun z hz => h1 z (List.mem_cons_of_mem _ hz)
      rcases List.mem_cons.1 hk with h3 | h3
      · cases h3; exact absurd rfl hne
      · exact h3

/-- what a file is, some being still to come -/
def nowF (keep : Int) (left : List (ByteArray × Box)) (x : ByteArray × FileV) : FileV := if left.any (fun y => y.1 == x.1) then x.2 else cutK keep x.2

theorem Disk_Crash {w : World} {p : Nat} {F : Nat → Prop} {D : DiskV} (h : DiskAt w p F D) {keep : Int} (hkp : I64 keep) :
    Calls Tryz.prog F_vdisk_Disk_Crash #[.pointer (some ⟨p, 0, none⟩), .int .i64 keep] w (Ok fun v w' => ∃ F', v = .tuple #[] ∧ DiskAt w' p F' (D.crash keep) ∧ Evo F w F' w') := by
  obtain ⟨r, L, hL⟩ := h.open
  have hg0 : L.filter (fun x => x.2.f.good) = L.filter (fun x => x.2.f.good) := rfl
  refine L_vdisk_Disk_Crash ⟨p, 0, rfl, some r, cell_at hL.head rfl, PC.ok (maps_DeleteFunc hL.map hL.each fun x hx b hb => (hL.inF x hx b hb).2.2) ?_⟩
  rintro _ w1 ⟨rfl, hm1, hk1⟩
  have hFk : ∀ b, b = r → F b := fun b e => e ▸ hL.Fr
  have hL1 : DiskL w1 p F D.goods r (L.filter fun x => x.2.f.good) := by
    have hs : ∀ x ∈ L.filter (fun x => x.2.f.good), x ∈ L := fun x hx => (List.mem_filter.1 hx).1
    refine ⟨hk1.get hL.head (fun e => hL.pr e), hm1, ?_, ⟨fun x hx => (hL.each.each x (hs x hx)).keep hk1 fun b hb => (hL.inF x (hs x hx) b hb).2.2, fun x hx y hy => hL.each.apart x (hs x hx) y (hs y hy), tidy_filter hL.each.tidy _⟩, fun x hx => hL.inF x (hs x hx), hL.Fr, hL.pr, hL.self, fun b hb => Nat.lt_of_lt_of_le (hL.dom b hb) hk1.size, hL.ok.goods⟩
    show D.files.filter _ = _
    rw [hL.files, List.filter_map]
    rfl
  generalize hLL : L.filter (fun x => x.2.f.good) = L1 at hL1
  have hd1 : ∀ x ∈ L1, ∀ b, x.2.G b → b < w1.heap.size := fun x hx b hb => (hL1.each.each x hx).dom b hb
  refine ⟨rfl, p, 0, rfl, some r, cell_at hL1.head rfl, mapRange mF hL1.map fun w2 hR k2 s2 => ?_⟩
  have hT1 : Tidy D.goods.files := hL1.ok.tidy
  have hBF : ∀ y ∈ L1, boxF y ∈ D.goods.files := fun y hy => by rw [hL1.files]; exact List.mem_map.2 ⟨y, hy, rfl⟩
  have hev1 : Evo F w F w2 := ⟨((hk1.mono fun b _ hb => hFk b hb)).grew k2, fun _ h => .inl h⟩
  refine ⟨fun m w' => ∃ (left LL : List (ByteArray × Box)) (F' : Nat → Prop), RangeAt w' w1.heap.size r Value.string (L1.map boxV) (left.map boxV) ∧ m = left.length ∧ DiskL w' p F' (D.goods.withF (D.goods.files.map fun z => (z.1, nowF keep left z))) r LL ∧ LL.map boxV = L1.map boxV ∧
      Evo F w F' w' ∧ (∀ x ∈ left, x ∈ L1 ∧ aget LL x.1 = some x.2) ∧ Tidy left ∧ w1.heap.size < w'.heap.size ∧ ¬ F' w1.heap.size,
    ⟨_, L1, L1, F, hR, rfl, ?_, rfl, hev1, fun x hx => ⟨hx, mem_aget hL1.each.tidy hx⟩, hL1.each.tidy, by omega, fun hb => by have := hL1.dom _ hb; omega⟩, ?_⟩
  · have e : (D.goods.files.map fun x => (x.1, nowF keep L1 x)) = D.goods.files := by
      have : ∀ x ∈ D.goods.files, (x.1, nowF keep L1 x) = x := fun x hx => by
        rw [hL1.files] at hx
        obtain ⟨y, hy, rfl⟩ := List.mem_map.1 hx
        have : L1.any (fun z => z.1 == (boxF y).1) = true := List.any_eq_true.2 ⟨y, hy, by simp [boxF]⟩
        unfold nowF
        rw [if_pos this]
      have h2 := List.map_congr_left (f := fun x => (x.1, nowF keep L1 x)) (g := id) this
      rw [h2, List.map_id]
    rw [e]
    exact hL1.grew k2
  · rintro m B w3 ⟨left, LL, F', hR3, rfl, hL3, hLLm, hev3, hleft, htl, hsz3, hit3⟩
    refine rangeNext hR3 (fun he => .inl ⟨rfl, ?_⟩) fun k v l1 l2 w4 hsp hR4 hc4 k4 s4 => .inr ⟨_, _, rfl, curEntry hc4 ?_⟩
    · have hle : left = [] := by simpa using he
      subst hle
      refine ⟨p, 0, rfl, hL3.at.setFused fun w5 h5 k5 s5 => ⟨p, 0, rfl, h5.setDead fun w6 h6 k6 s6 => Ok.mk ⟨F', rfl, ?_, hev3.trans ⟨k5.then k6, fun _ h => .inl h⟩⟩⟩⟩
      have e : (D.goods.files.map fun x => (x.1, nowF keep [] x)) = (D.files.filter fun x => x.2.good).map (fun x => (x.1, cutK keep x.2)) := List.map_congr_left fun x _ => by simp [nowF]
      rw [e] at h6
      exact h6
    · obtain ⟨a, x, b, rfl, rfl, rfl, rfl⟩ := split_box hsp
      obtain ⟨hx1, hxL⟩ := hleft (k, x) (by simp)
      have hxL : aget LL k = some x := hxL
      have hitF : ∀ b, b = w1.heap.size → ¬ F' b := fun b e => e ▸ hit3
      have hL4 := hL3.keep k4 fun b hb e => hitF b e hb
      have hget := hL4.get hxL
      have hxm := aget_mem hxL
      have hF4 : FileAt w4 x.q x.G x.f := hL4.each.each _ hxm
      have hGb : ∀ b, x.G b → b < w1.heap.size := hd1 _ hx1
      have hinL : ∀ b, x.G b → F' b ∧ b ≠ p ∧ b ≠ r := hL4.inF _ hxm
      have hbig : x.f.bytes.length ≤ 262144 := hL4.ok.len (aget_mem hget)
      have hsyn : x.f.synced ≤ x.f.bytes.length := hL4.ok.syn _ (aget_mem hget)
      have hf0 : x.f = (boxF (k, x)).2 := rfl
      refine ⟨_, _, rfl, fun w5 hd5 => ?_⟩
      have hF5 := hF4.keep (hd5.keep (S := fun _ => False)) fun _ _ h => h
      have hL5 := hL4.grew hd5.keep
      obtain ⟨fa, fn, fc, F0, h1, h2, h3, h4⟩ := hF5.body
      have hlen : fn = x.f.bytes.length := h2.len (by decide)
      have earg : (if (if (IntKind.wrap .i64 (((fn : Nat) : Int) - (x.f.synced : Int))) < keep then (IntKind.wrap .i64 (((fn : Nat) : Int) - (x.f.synced : Int))) else keep) > 0 then (if (IntKind.wrap .i64 (((fn : Nat) : Int) - (x.f.synced : Int))) < keep then (IntKind.wrap .i64 (((fn : Nat) : Int) - (x.f.synced : Int))) else keep) else 0) = max 0 (min keep ((x.f.bytes.length : Int) - x.f.synced)) := by
        rw [wrap_i64 (by unfold I64; omega), hlen]; omega
      refine ⟨x.q, 0, rfl, _, cell_at h1 rfl, x.q, 0, rfl, fa, fn, fc, cell_at h1 rfl, x.q, 0, rfl, _, cell_at h1 rfl, ?_⟩
      dsimp only; rw [earg, wrap_i64 (by unfold I64 at *; omega)]
      refine PC.ok (file_cut hF5 hbig) ?_
      rintro _ w6 ⟨G', rfl, hF6, hev6⟩
      replace hF6 : FileAt w6 x.q G' (cutK keep x.f) := hF6
      have hok : ((D.goods.withF (D.goods.files.map fun z => (z.1, nowF keep (a ++ (k, x) :: b) z))).setF k (cutK keep x.f)).Ok := hL5.ok.cut hget _
      obtain ⟨F6, hL6, hev66⟩ := hL5.turn hxL hF6 hev6 hok
      have hR5 := hR4.keep (hd5.keep (S := fun _ => False)) id id
      have hR6 := hR5.keep hev6.keep (fun hb => by have := hGb _ hb; omega) (fun hb => (hinL _ hb).2.2 rfl)
      have hnd : k ∉ (a ++ b).map (·.1) := by
        unfold Tidy at htl
        rw [List.map_append, List.map_cons] at htl
        rw [List.map_append]
        intro hmem
        have hp := (List.perm_middle (a := k) (l₁ := a.map (·.1)) (l₂ := b.map (·.1))).nodup_iff.1 htl
        exact (List.nodup_cons.1 hp).1 hmem
      have htab : Tidy (a ++ b) := by
        unfold Tidy at htl ⊢
        rw [List.map_append, List.map_cons] at htl
        rw [List.map_append]
        exact (List.nodup_cons.1 ((List.perm_middle (a := k) (l₁ := a.map (·.1)) (l₂ := b.map (·.1))).nodup_iff.1 htl)).2
      have hany : (a ++ b).any (fun y => y.1 == k) = false := by
        rw [List.any_eq_false]
        intro y hy he
        exact hnd (List.mem_map.2 ⟨y, hy, eq_of_beq he⟩)
      have hset : aput (D.goods.files.map fun z => (z.1, nowF keep (a ++ (k, x) :: b) z)) k (cutK keep x.f) = D.goods.files.map fun z => (z.1, nowF keep (a ++ b) z) := by
        refine aput_map (u := x.f) hT1 (hBF _ hx1) (fun y hy hne => ?_) ?_
        · have hky : (k == y.1) = false := beq_false_of_ne (Ne.symm hne)
          have e : (a ++ (k, x) :: b).any (fun z => z.1 == y.1) = (a ++ b).any (fun z => z.1 == y.1) := by
            rw [List.any_append, List.any_cons, List.any_append, hky, Bool.false_or]
          show nowF keep (a ++ b) y = nowF keep (a ++ (k, x) :: b) y
          unfold nowF
          rw [e]
        · unfold nowF
          rw [if_neg (by show ¬ ((a ++ b).any (fun y => y.1 == k) = true); rw [hany]; simp)]
      have hDD : (D.goods.withF (D.goods.files.map fun z => (z.1, nowF keep (a ++ (k, x) :: b) z))).setF k (cutK keep x.f) = D.goods.withF (D.goods.files.map fun z => (z.1, nowF keep (a ++ b) z)) := by
        unfold DiskV.setF DiskV.withF
        simp only [hset]
      rw [hDD] at hL6
      have hmapV : (aput LL k (⟨x.q, G', cutK keep x.f⟩ : Box)).map boxV = L1.map boxV := by
        have h1 : (aput LL k (⟨x.q, G', cutK keep x.f⟩ : Box)).map boxV = aput (LL.map boxV) k (ptr x.q) := map_aput (fun x : Box => ptr x.q) LL k _
        rw [h1, aput_tidy_same (k := k) (v := ptr x.q) (l := LL.map boxV) (List.mem_map.2 ⟨(k, x), hxm, rfl⟩) hL4.map.tidy, hLLm]
      refine ⟨rfl, _, ?_, a ++ b, _, F6, by rw [List.map_append]; exact hR6, rfl, hL6, hmapV, ?_, fun y hy => ?_, htab, ?_, ?_⟩
      · simp
      · have hk14 := hk1.size
        have h4' : Evo F w F' w4 := ⟨hev3.keep.new k4 fun b hb => .inr (by omega), hev3.new⟩
        exact (h4'.trans ⟨hd5.keep, fun _ h => .inl h⟩).trans hev66
      · have hyl : y ∈ a ++ (k, x) :: b := by simp only [List.mem_append, List.mem_cons] at hy ⊢; exact hy.imp id .inr
        obtain ⟨hy1, hy2⟩ := hleft y hyl
        have hne : y.1 ≠ k := fun e => hnd (List.mem_map.2 ⟨y, hy, e⟩)
        refine ⟨hy1, ?_⟩
        rw [aget_aput, if_neg (by simpa using hne)]
        exact hy2
      · have := hev6.keep.size; have := (hd5.keep (S := fun _ => False)).size; omega
      · intro hb
        rcases hev66.new _ hb with h | h
        · exact hit3 h
        · have := (hd5.keep (S := fun _ => False)).size; omega
end Go.Proofs.YtpbpjojdfcdbbaaGreatDoor
