/- VdiskApart: its walk, and its plain law -/
import Derived.Test.YticehdfebghloaaLawD2
namespace Go.Proofs.Yticehdfebghloaa
open Go.Lift
set_option linter.unusedVariables false
set_option maxRecDepth 20000

def tru (w0 : World) (v : Value) (w : World) : Prop := v = .bool true ∧ Grew w0 w
theorem known' {w0 w : World} {ε : List PanicEntry → World → Prop} (hg : Grew w0 w) : PC Try.prog F_law19_known #[] w (fun v w' => ∃ t : Bool, v = .bool t ∧ Ok (tru w0) (.returned (.bool t)) w') ε :=
  PC.ok known fun v w' ⟨hv, hk⟩ => ⟨true, hv, Ok.mk ⟨rfl, hg.grew hk⟩⟩

def zz : ByteArray := ⟨#[122, 122, 46, 111, 116, 104, 101, 114, 46, 57]⟩

/-- no fuse burns -/
structure Calm (D : DiskV) : Prop where
  dead : D.dead = false
  fused : D.fused = false
theorem Calm.op {D : DiskV} (h : Calm D) (body : DiskV → Int × DiskV) : D.op body = body D := by
  unfold DiskV.op DiskV.dies DiskV.armed
  rw [h.dead, h.fused]
  rfl
theorem Calm.dies {D : DiskV} (h : Calm D) : D.dies = false := by unfold DiskV.dies; rw [h.dead, h.fused]; rfl

structure ZInv (D : DiskV) (b : List UInt8) : Prop where
  calm : Calm D
  tidy : Tidy D.files
  file : aget D.files zz = some ⟨b, b.length, true⟩

theorem ZInv.setF {D : DiskV} {b : List UInt8} (h : ZInv D b) {k : ByteArray} (hk : k ≠ zz) (f : FileV) : ZInv (D.setF k f) b :=
  ⟨⟨h.calm.dead, h.calm.fused⟩, h.tidy.aput _ _, by show aget (aput D.files k f) zz = _; rw [aget_aput, if_neg (by simpa using Ne.symm hk)]; exact h.file⟩
theorem ZInv.delF {D : DiskV} {b : List UInt8} (h : ZInv D b) {k : ByteArray} (hk : k ≠ zz) : ZInv (D.delF k) b :=
  ⟨⟨h.calm.dead, h.calm.fused⟩, h.tidy.adel _, by show aget (adel D.files k) zz = _; rw [aget_adel h.tidy, if_neg (by simpa using Ne.symm hk)]; exact h.file⟩

theorem aget_filter_map {l : List (ByteArray × FileV)} (ht : Tidy l) (q : FileV → Bool) (g : FileV → FileV) (k : ByteArray) :
    aget ((l.filter fun x => q x.2).map fun x => (x.1, g x.2)) k = (aget l k).bind fun f => if q f then some (g f) else none := by
  induction l with
  | nil => rfl
  | cons p l ih =>
    obtain ⟨x, u⟩ := p
    unfold Tidy at ht ih
    simp only [List.map_cons, List.nodup_cons] at ht
    rw [List.filter_cons]
    by_cases hx : (k == x) = true
    · have hkx : k = x := eq_of_beq hx
      subst hkx
      have hn : aget ((l.filter fun x => q x.2).map fun x => (x.1, g x.2)) k = none := by
        rw [aget_none]
        intro hm
        apply ht.1
        simp only [List.map_map, List.mem_map, List.mem_filter] at hm ⊢
        obtain ⟨y, ⟨hy, _⟩, he⟩ := hm
        exact ⟨y, hy, he⟩
      by_cases hq : q u = true
      · simp [hq, aget]
      · rw [if_neg (by simpa using hq), hn]; simp [hq, aget]
    · have hx' : (k == x) = false := by simpa using hx
      by_cases hq : q u = true
      · simp only [hq, if_true, List.map_cons, aget, hx', Bool.false_eq_true, if_false]
        exact ih ht.2
      · rw [if_neg (by simpa using hq)]
        simp only [aget, hx', Bool.false_eq_true, if_false]
        exact ih ht.2

theorem cutK_full (keep : Int) (b : List UInt8) : cutK keep ⟨b, b.length, true⟩ = ⟨b, b.length, true⟩ := by
  have e : clampN (keepTo keep ⟨b, b.length, true⟩) b.length = b.length := by
    unfold clampN keepTo; simp only; omega
  unfold cutK FileV.cut
  simp only [e, List.take_length]

theorem tidy_crash {D : DiskV} (h : Tidy D.files) (n : Int) : Tidy (D.crash n).files := by
  show (((D.files.filter fun x => x.2.good).map fun x => (x.1, cutK n x.2)).map (·.1)).Nodup
  rw [List.map_map]
  exact (tidy_filter h fun x => x.2.good)

theorem ZInv.crash {D : DiskV} {b : List UInt8} (h : ZInv D b) (n : Int) : ZInv (D.crash n) b :=
  ⟨⟨rfl, rfl⟩, tidy_crash h.tidy n, by
    show aget ((D.files.filter fun x => x.2.good).map fun x => (x.1, cutK n x.2)) zz = _
    rw [aget_filter_map h.tidy (fun f => f.good) (cutK n), h.file]
    simp [cutK_full]⟩

theorem ZInv.onF {D : DiskV} {b : List UInt8} (h : ZInv D b) {k : ByteArray} {body : DiskV → FileV → Int × DiskV} (hb : ∀ f, ZInv (body D f).2 b) : ZInv (DiskV.onF k body D).2 b := by
  unfold DiskV.onF
  split
  · exact h
  · exact hb _

theorem ZInv.does {D : DiskV} {b : List UInt8} (h : ZInv D b) {x : ActV} (hk : pick x.kind 10 ≠ 8) (h1 : x.name ≠ zz) (h2 : x.to ≠ zz) : ZInv (D.does x).2 b := by
  unfold DiskV.does
  split
  · unfold DiskV.create
    rw [h.calm.op]
    split
    · split
      · exact h
      · split
        · exact h
        · exact h.setF h1 _
    · exact h
  · split
    · unfold DiskV.append
      rw [h.calm.op]
      refine h.onF fun f => ?_
      split
      · exact h
      · exact h.setF h1 _
    · split
      · unfold DiskV.sync; rw [h.calm.op]; exact h.onF fun f => h.setF h1 _
      · split
        · unfold DiskV.rename
          rw [h.calm.op]
          refine h.onF fun f => ?_
          split
          · exact (h.delF h1).setF h2 _
          · exact h
        · split
          · unfold DiskV.delete; rw [h.calm.op]; exact h.onF fun f => h.delF h1
          · split
            · unfold DiskV.cutF; rw [h.calm.op]; exact h.onF fun f => h.setF h1 _
            · split
              · exact h.crash _
              · exact h

theorem ZInv.read {D : DiskV} {b : List UInt8} (h : ZInv D b) : D.read zz = (b, 0) := by
  unfold DiskV.read
  rw [h.calm.dead, h.file]
  rfl

theorem keys_aput {β : Type} {l : List (ByteArray × β)} {k : ByteArray} {v : β} (h : (aget l k).isSome = true) : (aput l k v).map (·.1) = l.map (·.1) := by
  induction l with
  | nil => simp [aget] at h
  | cons p l ih =>
    obtain ⟨x, u⟩ := p
    simp only [aput, aget] at h ⊢
    split
    · rename_i hk
      have : k = x := eq_of_beq hk
      simp [this]
    · rename_i hk
      rw [if_neg hk] at h
      simp [ih h]

theorem VdiskApart {a b : Option Addr} {n c m d : Nat} {l : List ActV} {bs : List UInt8} {cut : Int} {w : World} (hl : Row cAct 72 w (In w) a n l) (hb : Row cU8 1 w (In w) b m bs) (hmd : m ≤ d) (hnil : b = none → m = 0 ∧ d = 0) :
    Calls Try.prog F_law19_VdiskApart #[.slice a n c, .slice b m d, .int .i64 cut] w (Ok (tru w)) := by
  have hn := hl.len; have hm := hb.len
  refine L_law19_VdiskApart (PC.ok (law_Long hl) ?_)
  rintro _ _ ⟨lb, rfl, rfl, hlong⟩
  refine ⟨_, rfl, PIf.mk (fun _ => known' (Keep.refl _)) fun hlb => PIf.dec (fun _ => known' (Keep.refl _)) fun h200 => PC.ok (new_ok (Keep.refl _) (by omega) (by omega)) ?_⟩
  obtain ⟨hl100, hlx⟩ := hlong hlb
  rintro _ w1 ⟨p, rfl, h1, -⟩
  replace h1 := h1.mono (Y := no) fun _ h => h.elim
  refine ⟨_, _, rfl, PIf.ff rfl (eq_nil_ptr uD ⟨_, rfl, PIf.ff rfl (PC.ok (h1.create (k := zz)) ?_)⟩)⟩
  rintro _ w2 ⟨rfl, h2, -⟩
  have e2 : (newD (Int.toNat 2000)).create zz = (0, ⟨2000, [(zz, ⟨[], 0, false⟩)], false, 0, false⟩) := by
    have : (newD (Int.toNat 2000)).create zz = (0, (newD 2000).setF zz ⟨[], 0, false⟩) := by
      unfold DiskV.create
      rw [Calm.op (D := newD (Int.toNat 2000)) ⟨rfl, rfl⟩]
      have hz : isNameV zz = true := by decide +kernel
      rw [if_pos hz]
      rfl
    rw [this]; rfl
  rw [e2] at h2 ⊢
  replace h2 : NDisk w w2 p ⟨2000, [(zz, ⟨[], 0, false⟩)], false, 0, false⟩ no := h2
  refine ⟨_, rfl, PIf.ff rfl (PC.ok (h2.append (k := zz) (hb.grew h2.gr) hnil fun b hb => .inl hb) ?_)⟩
  rintro _ w3 ⟨rfl, h3, -⟩
  have e3 : DiskV.append ⟨2000, [(zz, ⟨[], 0, false⟩)], false, 0, false⟩ zz bs = (0, ⟨2000, [(zz, ⟨bs, 0, false⟩)], false, 0, false⟩) := by
    unfold DiskV.append
    rw [Calm.op (D := ⟨2000, [(zz, ⟨[], 0, false⟩)], false, 0, false⟩) ⟨rfl, rfl⟩]
    have hr : ¬ ((bs.length : Int) > DiskV.room ⟨2000, [(zz, ⟨[], 0, false⟩)], false, 0, false⟩) := by
      unfold DiskV.room DiskV.used sumLen; simp; omega
    unfold DiskV.onF
    simp only [aget, beq_self_eq_true, if_true, if_neg hr, DiskV.setF, aput, List.nil_append]
  rw [e3] at h3 ⊢
  replace h3 : NDisk w w3 p ⟨2000, [(zz, ⟨bs, 0, false⟩)], false, 0, false⟩ no := h3
  refine ⟨_, rfl, PIf.ff rfl (PC.ok (h3.sync (k := zz)) ?_)⟩
  rintro _ w4 ⟨rfl, h4, -⟩
  have e4 : DiskV.sync ⟨2000, [(zz, ⟨bs, 0, false⟩)], false, 0, false⟩ zz = (0, ⟨2000, [(zz, ⟨bs, bs.length, true⟩)], false, 0, false⟩) := by
    unfold DiskV.sync
    rw [Calm.op (D := ⟨2000, [(zz, ⟨bs, 0, false⟩)], false, 0, false⟩) ⟨rfl, rfl⟩]
    have hcl : clampN (bs.length : Int) bs.length = bs.length := by unfold clampN; omega
    unfold DiskV.onF
    simp only [aget, beq_self_eq_true, if_true, DiskV.setF, aput, FileV.cut, hcl, List.take_length]
  rw [e4] at h4 ⊢
  replace h4 : NDisk w w4 p ⟨2000, [(zz, ⟨bs, bs.length, true⟩)], false, 0, false⟩ no := h4
  refine ⟨_, rfl, PIf.ff rfl ?_⟩
  have hz0 : ZInv ⟨2000, [(zz, ⟨bs, bs.length, true⟩)], false, 0, false⟩ bs := ⟨⟨rfl, rfl⟩, by simp [Tidy], by simp [aget]⟩
  refine ⟨fun m i w' => ∃ (j : Nat) (D : DiskV), i = j ∧ j ≤ n ∧ m = n - j ∧ NDisk w w' p D no ∧ ZInv D bs, ⟨_, 0, _, rfl, Nat.zero_le _, rfl, h4, hz0⟩, ?_⟩
  rintro mm i B w5 ⟨j, D, rfl, hj, rfl, h5, hz⟩
  refine PIf.dec (fun hlt => ?_) (fun hge => ?_)
  · obtain ⟨bb, off, x, es, rfl, hbs, hE, hx, hc, a1, n1, c1, rfl, hi1, hi2, hr1⟩ := (hl.grew h5.gr).at (i := (j : Int)) (by omega) (by omega)
    have next : ∀ (w' : World) (D' : DiskV), NDisk w w' p D' no → ZInv D' bs → ∃ m', m' < n - j ∧ ∃ (j' : Nat) (D : DiskV), IntKind.wrap .i64 ((j : Int) + 1) = j' ∧ j' ≤ n ∧ m' = n - j' ∧ NDisk w w' p D no ∧ ZInv D bs :=
      fun w' D' hD hZ => ⟨n - (j + 1), by omega, j + 1, D', wrap_succ (by omega), by omega, rfl, hD, hZ⟩
    refine ⟨bb, off, rfl, by omega, by omega, x.kind, hc 0 (by decide), PC.ok (kit_Pick (by unfold I64; omega)) ?_⟩
    rintro _ _ ⟨rfl, rfl⟩
    refine ⟨_, rfl, PIf.eqI (fun h8 => next _ D h5 hz) fun h8 => ⟨bb, off, rfl, by omega, by omega, x.name, hc 2 (by decide), PIf.eqS (fun _ => next _ D h5 hz) fun hn1 => ⟨bb, off, rfl, by omega, by omega, x.to, hc 3 (by decide), PIf.eqS (fun _ => next _ D h5 hz) fun hn2 => ?_⟩⟩⟩
    refine ⟨bb, off, rfl, by omega, by omega, x.kind, x.n, x.name, x.to, a1, n1, c1, hc 0 (by decide), hc 1 (by decide), hc 2 (by decide), hc 3 (by decide), hc 4 (by decide), PC.ok (h5.call fun F hD hF => law_Does hD hi2 hr1) ?_⟩
    rintro _ w6 ⟨rfl, h6, -⟩
    have hz6 := hz.does h8 hn1 hn2
    refine ⟨_, rfl, PC.ok (h6.read (k := zz)) ?_⟩
    rintro _ w7 ⟨a7, n7, c7, F7, rfl, ho7, hF7, h7, k7⟩
    have hr := hz6.read
    refine ⟨_, _, _, _, rfl, PIf.ff (by show (((D.does x).2.read zz).2 != 0) = false; rw [hr]; rfl) ?_⟩
    change Lst cU8 _ F7 w7 a7 n7 c7 ((D.does x).2.read zz).1 at ho7
    rw [hr] at ho7
    refine PC.ok (kit_SameBytes (lst_bytes ho7 (by show bs.length ≤ 1000000; omega)) (hb.grew h7.gr)) ?_
    rintro _ w8 ⟨rfl, d8⟩
    exact ⟨_, rfl, PIf.not (PIf.tt (by simp) (next w8 _ ((h7.grew d8.keep).mono fun _ h => h.elim) hz6))⟩
  · refine PC.ok h5.list ?_
    rintro _ w6 ⟨a6, n6, c6, F6, rfl, ho6, hF6, h6, k6⟩
    refine ⟨_, _, _, rfl, ?_⟩
    rw [wrap_i64 (show I64 (((m : Nat) : Int) + 1) by unfold I64; omega)]
    refine PC.ok (kit_Pick (by unfold I64; omega)) ?_
    rintro _ _ ⟨rfl, rfl⟩
    have hp := pick_range (k := cut) (n := ((m : Nat) : Int) + 1) (by omega)
    generalize pick cut (((m : Nat) : Int) + 1) = q at hp ⊢
    refine ⟨q, rfl, PC.ok (h6.cutF (k := zz)) ?_⟩
    have e7 : D.cutF zz q = (0, D.setF zz ((⟨bs, bs.length, true⟩ : FileV).cut q)) := by
      unfold DiskV.cutF
      rw [hz.calm.op]
      unfold DiskV.onF
      rw [hz.file]
    rintro _ w7 ⟨rfl, h7, k7⟩
    have ho7 := ho6.keep k7 fun b hb hn => hn (.inr hb)
    change NDisk w w7 p (D.cutF zz q).2 _ at h7
    rw [e7] at h7
    refine ⟨_, rfl, PIf.ff (by show ((D.cutF zz q).1 != 0) = false; rw [e7]; rfl) (PC.ok h7.list ?_)⟩
    rintro _ w8 ⟨a8, n8, c8, F8, rfl, ho8, hF8, h8, k8⟩
    have hsame : (D.setF zz ((⟨bs, bs.length, true⟩ : FileV).cut q)).list = D.list := by
      unfold DiskV.list DiskV.setF
      simp only
      rw [keys_aput (by rw [hz.file]; rfl)]
    have hlb : D.list.length ≤ 64 := by unfold DiskV.list sortS; simp; exact h5.ok.many
    rw [hsame] at ho8
    refine ⟨_, _, _, rfl, PC.ok (kit_SameTexts (ho8.row (by decide) (by unfold Big; omega)) ((ho7.grew k8).row (by decide) (by unfold Big; omega))) ?_⟩
    rintro _ w9 ⟨rfl, d9⟩
    refine ⟨_, rfl, PIf.not (PIf.tt (by simp) (PC.ok ((h8.grew d9.keep).crash (by unfold I64; omega)) ?_))⟩
    rintro _ w10 ⟨rfl, h10, -⟩
    refine ⟨rfl, fun w11 d11 => ⟨by omega, by omega, PC.ok (law_file (k := zz) (h10.grew d11.keep)) ?_⟩⟩
    rintro _ w12 ⟨a12, n12, c12, F12, rfl, ho12, hF12, h12, k12⟩
    have hcq : ((⟨bs, bs.length, true⟩ : FileV).cut q) = ⟨bs.take q.toNat, (bs.take q.toNat).length, true⟩ := by
      have hcl : clampN q bs.length = q.toNat := by unfold clampN; omega
      unfold FileV.cut
      simp only [hcl]
      congr 1
      simp; omega
    have hz7 : ZInv (D.setF zz ((⟨bs, bs.length, true⟩ : FileV).cut q)) (bs.take q.toNat) := ⟨⟨hz.calm.dead, hz.calm.fused⟩, hz.tidy.aput _ _, by show aget (aput D.files zz _) zz = _; rw [aget_aput, hcq]; simp⟩
    have hrd := (hz7.crash 0).read
    change Lst cU8 _ F12 w12 a12 n12 c12 (((D.setF zz ((⟨bs, bs.length, true⟩ : FileV).cut q)).crash 0).read zz).1 at ho12
    rw [hrd] at ho12
    have hbt := ((hb.grew h12.gr).take (m := q.toNat) (by omega))
    refine ⟨_, _, _, rfl, PC.ok (kit_SameBytes (lst_bytes ho12 (by simp; omega)) hbt) ?_⟩
    rintro _ w13 ⟨rfl, d13⟩
    exact ⟨_, rfl, PIf.tt (by simp) (PC.ok known fun v w' ⟨hv, hk⟩ => ⟨true, hv, Ok.mk ⟨rfl, (h12.gr.grew d13.keep).grew hk⟩⟩)⟩
end Go.Proofs.Yticehdfebghloaa
