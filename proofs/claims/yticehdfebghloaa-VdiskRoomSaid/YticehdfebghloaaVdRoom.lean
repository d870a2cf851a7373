/- VdiskRoom: its walk -/
import Derived.Test.YticehdfebghloaaVdPlain
namespace Go.Proofs.Yticehdfebghloaa
open Go.Lift
set_option linter.unusedVariables false
set_option maxRecDepth 20000

theorem refused_list {D : DiskV} {r : Int × DiskV} (h : Refused D r) (hne : r.1 ≠ 0) : r.2.list = D.list ∧ r.2.room = D.room := by
  unfold DiskV.list DiskV.room DiskV.used
  rw [h.files hne, h.most]
  exact ⟨rfl, rfl⟩

theorem VdiskRoom {a : Option Addr} {n c : Nat} {l : List ActV} {k0 : Int} {w : World} (hl : Row cAct 72 w (In w) a n l) :
    Calls Try.prog F_law19_VdiskRoom #[.int .i64 k0, .slice a n c] w (Ok (tru w)) := by
  have hn := hl.len
  refine L_law19_VdiskRoom (PC.ok (law_Long hl) ?_)
  rintro _ _ ⟨lb, rfl, rfl, hlong⟩
  refine ⟨_, rfl, PIf.mk (fun _ => known' (Keep.refl _)) fun hlb => PC.ok (kit_Pick (by unfold I64; omega)) ?_⟩
  obtain ⟨hl100, hlx⟩ := hlong hlb
  rintro _ _ ⟨rfl, rfl⟩
  have hp := pick_range (k := k0) (n := 500) (by omega)
  generalize pick k0 500 = q at hp ⊢
  refine ⟨q, rfl, ?_⟩
  rw [wrap_i64 (show I64 (64 + q) by unfold I64; omega)]
  refine PC.ok (new_ok (Keep.refl _) (by omega) (by omega)) ?_
  rintro _ w1 ⟨p, rfl, h1, -⟩
  replace h1 := h1.mono (Y := no) fun _ h => h.elim
  have hm0 : (newD (64 + q).toNat).most = (64 + q).toNat := rfl
  generalize newD (64 + q).toNat = D0 at h1 hm0
  refine ⟨_, _, rfl, PIf.ff rfl (eq_nil_ptr uD ⟨_, rfl, PIf.ff rfl ?_⟩)⟩
  refine ⟨fun m i w' => ∃ (j : Nat) (D : DiskV), i = j ∧ j ≤ n ∧ m = n - j ∧ NDisk w w' p D no ∧ D.most = (64 + q).toNat, ⟨_, 0, _, rfl, Nat.zero_le _, rfl, h1, hm0⟩, ?_⟩
  rintro mm i B w5 ⟨j, D, rfl, hj, rfl, h5, hm⟩
  refine PIf.dec (fun hlt => PC.ok h5.list ?_) (fun hge => PC.ok known fun v w' ⟨hv, hk⟩ => ⟨true, hv, Ok.mk ⟨rfl, h5.gr.grew hk⟩⟩)
  rintro _ w6 ⟨a6, n6, c6, F6, rfl, ho6, hF6, h6, k6⟩
  refine ⟨_, _, _, rfl, PC.ok h6.room ?_⟩
  rintro _ w7 ⟨rfl, h7, k7⟩
  obtain ⟨bb, off, x, es, rfl, hbs, hE, hx, hc, a1, n1, c1, rfl, hi1, hi2, hr1⟩ := (hl.grew h7.gr).at (i := (j : Int)) (by omega) (by omega)
  refine ⟨_, rfl, bb, off, rfl, by omega, by omega, x.kind, x.n, x.name, x.to, a1, n1, c1, hc 0 (by decide), hc 1 (by decide), hc 2 (by decide), hc 3 (by decide), hc 4 (by decide), PC.ok (h7.call fun F hD hF => law_Does hD hi2 hr1) ?_⟩
  rintro _ w8 ⟨rfl, h8, k8⟩
  have ho8 := (ho6.grew k7).keep k8 fun b hb hn => hn (.inr hb)
  have href := refused_does D x
  generalize hDx : D.does x = r at href h8
  refine ⟨_, rfl, PC.ok h8.list ?_⟩
  rintro _ w9 ⟨a9, n9, c9, F9, rfl, ho9, hF9, h9, k9⟩
  have ok8 := h8.ok
  have hl1 : D.list.length ≤ 64 := by rw [list_length]; exact h5.ok.many
  have hl2 : r.2.list.length ≤ 64 := by rw [list_length]; exact ok8.many
  have hr8 := (ho8.grew k9).row (bytes := 16) (by decide) (by unfold Big; omega)
  have hr9 := ho9.row (bytes := 16) (by decide) (by unfold Big; omega)
  refine ⟨_, _, _, rfl, fun w' => Grew w9 w', ?_, ?_⟩
  · refine PIf.neI (fun hne => ?_) (fun he => Keep.refl _)
    obtain ⟨e1, e2⟩ := refused_list href hne
    refine PC.ok (kit_SameTexts hr8 hr9) ?_
    rintro _ w10 ⟨rfl, d10⟩
    refine ⟨_, rfl, PIf.not (PIf.tt (by rw [e1]; simp) (PC.ok ((h9.grew d10.keep).room) ?_))⟩
    rintro _ w11 ⟨rfl, h11, k11⟩
    exact ⟨_, rfl, PIf.ff (by rw [e2]; simp) (Keep.then d10.keep k11)⟩
  · rintro B2 w10 k10
    have h10 := h9.grew k10
    have hn9 : n9 = r.2.list.length := ho9.len (by decide)
    have hs := list_sorted ok8.tidy
    have hsum := sum_list ok8.tidy
    have hfit := ok8.fits
    have hmr : r.2.most = (64 + q).toNat := href.most.trans hm
    have hnm : ∀ y ∈ r.2.list, 1 ≤ y.size ∧ y.size ≤ 16 := fun y hy => by
      obtain ⟨f, hf⟩ := Option.isSome_iff_exists.1 (mem_list.1 hy)
      have := ok8.names _ (aget_mem hf)
      unfold isNameV at this
      simp only [Bool.and_eq_true, decide_eq_true_eq] at this
      exact this.1
    refine ⟨fun m s k w' => ∃ t : Nat, k = t ∧ t ≤ n9 ∧ m = n9 - t ∧ Grew w10 w' ∧ (r.2.dead = false → s = ((r.2.list.take t).map (lenOf r.2)).sum) ∧ 0 ≤ s ∧ s ≤ t * 262144, ⟨_, 0, rfl, Nat.zero_le _, rfl, Keep.refl _, fun _ => by simp, by omega, by omega⟩, ?_⟩
    rintro m s k B3 w11 ⟨t, rfl, ht, rfl, k11, hsum2, hs0, hs1⟩
    have hrow := (hr9.grew k10).grew k11
    refine PIf.dec (fun hlt2 => ?_) (fun hge2 => ?_)
    · obtain ⟨b1, o1, y, hb1, hy, _, hcy⟩ := hrow.at1 (i := t) (by omega)
      have hy16 := hnm y (List.mem_of_getElem? hy)
      refine ⟨fun w' => Grew w10 w', ?_, ?_⟩
      · refine ⟨b1, o1, hb1, by omega, by omega, y, hcy, PIf.dec (fun h => by omega) fun _ => ⟨b1, o1, hb1, by omega, by omega, y, hcy, PIf.dec (fun h => by omega) fun _ => PIf.dec (fun hpos => ?_) fun _ => fun w12 d12 => k11.grew d12.keep⟩⟩
        have hw : IntKind.wrap .i64 ((t : Int) - 1) = ((t - 1 : Nat) : Int) := by rw [wrap_i64 (by unfold I64; omega)]; omega
        rw [hw]
        obtain ⟨b2, o2, z, hb2, hz, _, hcz⟩ := hrow.at1 (i := t - 1) (by omega)
        refine ⟨b2, o2, hb2, by omega, by omega, z, hcz, b1, o1, hb1, by omega, by omega, y, hcy, fun w12 d12 => PIf.not (PIf.tt ?_ (k11.grew d12.keep))⟩
        have := List.pairwise_iff_getElem.1 hs (t - 1) t (by omega) (by omega) (by omega)
        have hz2 := hz; have hy2 := hy
        rw [List.getElem?_eq_getElem (by omega)] at hz2 hy2
        rw [← Option.some.inj hz2, ← Option.some.inj hy2]
        exact this
      · rintro B4 w12 k12
        obtain ⟨b1', o1', y', hb1', hy', _, hcy'⟩ := ((hr9.grew k10).grew k12).at1 (i := t) (by omega)
        rw [hy] at hy'; cases hy'
        refine ⟨b1', o1', hb1', by omega, by omega, y, hcy', PC.ok (law_file (h10.grew k12)) ?_⟩
        rintro _ w13 ⟨a13, n13, c13, F13, rfl, ho13, hF13, h13, k13⟩
        have hn13 : n13 = (r.2.read y).1.length := ho13.len (by decide)
        have hrl := read_len ok8 y
        have hw2 : IntKind.wrap .i64 (s + ((n13 : Nat) : Int)) = s + n13 := wrap_i64 (by unfold I64; omega)
        refine ⟨_, _, _, rfl, _, ?_, t + 1, wrap_succ (by omega), by omega, rfl, k12.grew k13, fun hd => ?_, by rw [hw2]; omega, by rw [hw2]; omega⟩
        · omega
        · rw [hw2, hsum2 hd, List.take_add_one, hy, hn13, read_alive hd]
          simp
    · have htn : t = r.2.list.length := by omega
      have hfin : ∀ w', Grew w10 w' → ∃ m', m' < n - j ∧ ∃ (j' : Nat) (D : DiskV), IntKind.wrap .i64 ((j : Int) + 1) = j' ∧ j' ≤ n ∧ m' = n - j' ∧ NDisk w w' p D no ∧ D.most = (64 + q).toNat :=
        fun w' hk => ⟨n - (j + 1), by omega, j + 1, r.2, wrap_succ (by omega), by omega, rfl, (h10.grew hk).mono fun _ h => h.elim, hmr⟩
      have hroom0 : 0 ≤ r.2.room := by unfold DiskV.room; omega
      refine PC.ok (h10.grew k11).dead ?_
      rintro _ _ ⟨rfl, rfl⟩
      have tail : ∀ (w12 : World), NDisk w w12 p r.2 (fun b => (no b ∨ F6 b) ∨ F9 b) → Grew w10 w12 → PC Try.prog F_vdisk_Disk_Room #[.pointer (some ⟨p, 0, none⟩)] w12 (fun v w' => ∃ t : Int, v = .int .i64 t ∧ PIf (decide (t < 0)) (Ok (tru w) (.returned (.bool false)) w') (PIf (decide (((n9 : Nat) : Int) > 64)) (Ok (tru w) (.returned (.bool false)) w')
          (∃ m', m' < n - j ∧ ∃ (j' : Nat) (D : DiskV), IntKind.wrap .i64 ((j : Int) + 1) = j' ∧ j' ≤ n ∧ m' = n - j' ∧ NDisk w w' p D no ∧ D.most = (64 + q).toNat))) (fun ch w' => Ok (tru w) (.panicked ch) w') := by
        intro w12 h12 k12
        refine PC.ok h12.room ?_
        rintro _ w13 ⟨rfl, h13, k13⟩
        exact ⟨_, rfl, PIf.dec (fun h => by omega) fun _ => PIf.dec (fun h => by omega) fun _ => hfin w13 (k12.grew k13)⟩
      refine ⟨_, rfl, PIf.not (PIf.mk (fun hd => tail _ (h10.grew k11) k11) fun hd => PC.ok ((h10.grew k11).room) ?_)⟩
      rintro _ w12 ⟨rfl, h12, k12⟩
      refine ⟨_, rfl, PIf.ff ?_ (tail w12 h12 (k11.grew k12))⟩
      have h2 := hsum2 hd
      rw [htn, List.take_length, hsum] at h2
      have : IntKind.wrap .i64 (64 + q - s) = r.2.room := by
        rw [wrap_i64 (by unfold I64; omega), h2]; unfold DiskV.room; omega
      rw [this]; simp
end Go.Proofs.Yticehdfebghloaa
