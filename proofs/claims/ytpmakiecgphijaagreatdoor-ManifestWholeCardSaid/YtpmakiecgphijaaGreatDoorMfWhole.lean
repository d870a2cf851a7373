/- ManifestWhole: the walk -/
import Derived.Test.YtpmakiecgphijaaGreatDoorMfPlain
import Derived.Test.YtpmakiecgphijaaGreatDoorPick
import Derived.Test.YtpmakiecgphijaaGreatDoorKitBytes
namespace Go.Lift
open Go Go.ChangeShapes Go.WideShapes Go.ChangeAt Go.RowKit
/-- a struct that came in by value -/
theorem in_agg {H : Type} {enc : TypeId × Value → H} {P : Program} {w : World} {held : Bool} {r : Reach} {b0 : Nat} {v : Value} {d : DataW H} {ps : List MemPlace} {α : Type} {c : Cod α} {t : TypeId} {fs : Array Field} (ht : P.underlying t = some (.struct fs)) (hr : Reads P c t)
    (hval : Value.okWide P w r b0 t v) (hd : DataW.Trod enc P w 0 (fun _ => true) held t v d ps) (hw : Light P t d) : ∃ y cs, v = .agg cs ∧ c.rep w (In w) y cs.toList := by
  obtain ⟨cs, rfl, -⟩ := okWide_struct ht hval
  obtain ⟨fuel, hf⟩ := hd
  obtain ⟨y, hy⟩ := hr H enc w held fuel cs.toList _ hf hw
  exact ⟨y, cs, rfl, hy⟩
end Go.Lift
namespace Go.Proofs.YtpmakiecgphijaaGreatDoor
open Go.Lift
set_option linter.unusedVariables false
set_option maxRecDepth 20000

theorem mf_zero {D : DiskV} {l : List Int} (h : (mfWrite D l).1 = 0) : l.length ≤ 64 := by
  unfold mfWrite at h
  split at h
  · exact absurd h (by simp)
  · omega

theorem ManifestWhole {n fuse keep : Int} {fa ta ba : Option Addr} {fn fc tn tc bn bc : Nat} {l1 l2 : List Int} {bs : List UInt8} {w : World} {Df Dt Db : Nat → Prop} (h1 : Row cI64 8 w Df fa fn l1) (hDf : ∀ b, Df b → b < w.heap.size) (h2 : Row cI64 8 w Dt ta tn l2) (hDt : ∀ b, Dt b → b < w.heap.size)
    (hfuse : I64 fuse) (hkeep : I64 keep) (hb : Row cU8 1 w Db ba bn bs) (hnil : ba = none → bn = 0 ∧ bc = 0) (hDb : ∀ b, Db b → b < w.heap.size) (ht : Tabs w) :
    Calls Tryz.prog F_law21_ManifestWhole #[.int .i64 n, .agg #[.slice fa fn fc], .agg #[.slice ta tn tc], .int .i64 fuse, .int .i64 keep, .slice ba bn bc] w (Ok fun v w' => v = .bool true ∧ Grew w w') := by
  have hn1 := h1.len; have hn2 := h2.len; have hnb := hb.len
  have fin : ∀ {w1 : World} {ε : List PanicEntry → World → Prop}, Grew w w1 → PC Tryz.prog F_law21_known #[] w1 (fun v w2 => ∃ t : Bool, v = .bool t ∧ Ok (fun v w' => v = .bool true ∧ Grew w w') (.returned (.bool t)) w2) ε := fun hk =>
    PC.ok (known21 (ht.grew hk)) (by rintro _ w2 ⟨rfl, k2⟩; exact ⟨_, rfl, Ok.mk ⟨rfl, hk.then k2⟩⟩)
  refine L_law21_ManifestWhole (PA.mk fun w1 k1 s1 g1 => PA.mk fun w2 k2 s2 g2 => ?_)
  have k02 : Grew w w2 := k1.then k2
  have g1' := k2.get g1 id
  refine ⟨_, _, _, cell_at g1' rfl, PIf.dec (fun _ => fin k02) (fun hl1 => ⟨_, _, _, cell_at g2 rfl, PIf.dec (fun _ => fin k02) (fun hl2 => PIf.dec (fun _ => fin k02) (fun hlb => PC.ok (kit_Pick (by unfold I64; omega)) ?_))⟩)⟩
  rintro _ _ ⟨rfl, rfl⟩
  have hp := pick_range (k := n) (n := 1000) (by omega)
  generalize pick n 1000 = k at hp
  refine ⟨_, rfl, ?_⟩
  rw [wrap_i64 (x := 64 + k) (by unfold I64; omega)]
  refine PC.ok (new_ok k02 (by omega) (by omega)) ?_
  rintro _ w3 ⟨p, rfl, h3, k3⟩
  generalize (64 + k).toNat = N at h3
  refine ⟨_, _, rfl, PIf.ff rfl (eq_nil_ptr uD ⟨_, rfl, PIf.ff rfl (PC.ok h3.create ?_)⟩)⟩
  rintro _ w4 ⟨rfl, h4, k4⟩
  refine ⟨_, rfl, PC.ok (h4.append (hb.grew h4.gr) hnil fun b hb => .inl (hDb b hb)) ?_⟩
  rintro _ w5 ⟨rfl, h5, k5⟩
  refine ⟨_, rfl, PC.ok h5.sync ?_⟩
  rintro _ w6 ⟨rfl, h6, k6⟩
  obtain ⟨c, hI, hC, hcl⟩ := beside N bs
  change NDisk w w6 p ((((newD N).create sg1).2.append sg1 bs).2.sync sg1).2 _ at h6
  generalize ((((newD N).create sg1).2.append sg1 bs).2.sync sg1).2 = E1 at h6 hI hC
  have gf6 := ((k4.then k5).then k6).get (k3.get g1' id) (fun hn => hn (by omega))
  have gt6 := ((k4.then k5).then k6).get (k3.get g2 id) (fun hn => hn (by omega))
  refine ⟨_, rfl, _, _, _, cell_at gf6 rfl, PC.ok (h6.mfWrite ht (h1.grew h6.gr) (row_i64 h1) fun b hb => .inl (hDf b hb)) ?_⟩
  rintro _ w7 ⟨rfl, h7, k7⟩
  have gf7 := k7.get gf6 (fun hn => hn (by omega))
  have gt7 := k7.get gt6 (fun hn => hn (by omega))
  have hz := mf_zero (D := E1) (l := l1)
  have hw1 := mf_whole (l := l1) hI
  have hC1 := Calm.mfWrite (l := l1) hC
  generalize mfWrite E1 l1 = r1 at h7 hz hw1 hC1 ⊢
  obtain ⟨e1, D2⟩ := r1
  simp only at h7 hz hw1 hC1 ⊢
  obtain ⟨M, hI2, hM, hMe⟩ : ∃ M, InvF D2.files M c ∧ (∀ l, M = some l → (∀ x ∈ l, I64 x) ∧ l.length ≤ 64) ∧ ((e1 = 0 ∧ M = some l1) ∨ (e1 ≠ 0 ∧ M = none)) := by
    rcases hw1 with ⟨h0, hi⟩ | ⟨h0, hi⟩
    · exact ⟨_, hi, fun l e => by cases e; exact ⟨row_i64 h1, hz h0⟩, .inl ⟨h0, rfl⟩⟩
    · exact ⟨_, hi, (fun l e => by cases e), .inr ⟨h0, rfl⟩⟩
  have hT2 : mfTell D2 = M := hI2.tell hC1.dead hM
  refine ⟨_, rfl, PC.ok (h7.mfRead ht) ?_⟩
  rintro _ w8 ⟨a8, n8, c8, G8, rfl, ho8, hG8, h8, k8⟩
  have hml : (M.getD []).length ≤ 64 := by rw [← hT2]; exact mfTell_le
  rw [hT2] at ho8 ⊢
  refine ⟨_, _, _, _, rfl, PA.mk fun w9 k9 s9 g9 => PS.mk g9 (by simp) fun w10 k10 s10 g10 => ?_⟩
  have k810 : Grew w8 w10 := k9.new k10 fun b hb => .inr (by omega)
  have h10 := h8.add (Y := (· = w8.heap.size)) k810 fun b hb => by subst hb; exact ⟨Nat.le_refl _, lt_of_get g10⟩
  have ho10 := ho8.grew k810
  have gf10 := k810.get (k8.get gf7 id) id
  have gt10 := k810.get (k8.get gt7 id) id
  refine ⟨fun w' => Grew w10 w', ?_, ?_⟩
  · refine PIf.ff ?_ ?_
    · rcases hMe with ⟨rfl, rfl⟩ | ⟨h0, rfl⟩
      · rfl
      · simp [h0]
    · cases M with
      | none => exact PIf.ff rfl (Keep.refl _)
      | some lm =>
        have hlm : lm = l1 := by
          rcases hMe with ⟨_, h⟩ | ⟨_, h⟩
          · exact Option.some.inj h
          · cases h
        subst hlm
        refine PIf.tt rfl ⟨_, _, _, cell_at g10 rfl, _, _, _, cell_at gf10 rfl, PC.ok (kit_SameIntsR (ho10.row (bytes := 8) (by decide) (by unfold Big; omega)) (h1.grew h10.gr)) ?_⟩
        rintro _ w11 ⟨rfl, d11⟩
        exact ⟨_, rfl, PIf.ff (by simp) d11.keep⟩
  · rintro _ w11 k11
    have h11 := h10.grew k11
    refine PC.ok h11.read ?_
    rintro _ w12 ⟨a12, n12, c12, F12, rfl, ho12, hF12, h12, k12⟩
    change Lst cU8 5 F12 w12 a12 n12 c12 (D2.read sg1).1 at ho12
    rw [hI2.file hC1.dead] at ho12
    refine ⟨_, _, _, _, rfl, PC.ok (kit_Pick (by unfold I64; omega)) ?_⟩
    rintro _ _ ⟨rfl, rfl⟩
    have hpf := pick_range (k := fuse) (n := 7) (by omega)
    generalize pick fuse 7 = f at hpf
    have gt12 := k12.get (k11.get gt10 id) id
    have go12 := k12.get (k11.get g10 id) id
    have hoM12 := (ho10.grew k11).grew k12
    refine ⟨_, rfl, PC.ok (h12.fuse (by unfold I64; omega)) ?_⟩
    rintro _ w13 ⟨rfl, h13, k13⟩
    have gt13 := k13.get gt12 (fun hn => hn (.inl (.inl (.inl (by omega)))))
    refine ⟨rfl, _, _, _, cell_at gt13 rfl, PC.ok (h13.mfWrite ht (h2.grew h13.gr) (row_i64 h2) fun b hb => .inl (hDt b hb)) ?_⟩
    rintro _ w14 ⟨rfl, h14, k14⟩
    have hw2 := mf_whole (l := l2) (D := D2.fuse f) (M := M) (b := c) hI2
    have hz2 := mf_zero (D := D2.fuse f) (l := l2)
    generalize mfWrite (D2.fuse f) l2 = r2 at h14 hz2 hw2 ⊢
    obtain ⟨e2, D3⟩ := r2
    simp only at h14 hz2 hw2 ⊢
    refine ⟨_, rfl, PC.ok (h14.crash hkeep) ?_⟩
    rintro _ w15 ⟨rfl, h15, k15⟩
    obtain ⟨M2, hI4, hM2, hMe2⟩ : ∃ M2, InvF D3.files M2 c ∧ (∀ l, M2 = some l → (∀ x ∈ l, I64 x) ∧ l.length ≤ 64) ∧ ((e2 = 0 ∧ M2 = some l2) ∨ (e2 ≠ 0 ∧ M2 = M)) := by
      rcases hw2 with ⟨h0, hi⟩ | ⟨h0, hi⟩
      · exact ⟨_, hi, fun l e => by cases e; exact ⟨row_i64 h2, hz2 h0⟩, .inl ⟨h0, rfl⟩⟩
      · exact ⟨_, hi, hM, .inr ⟨h0, rfl⟩⟩
    have hT4 : mfTell (D3.crash keep) = M2 := (hI4.crash keep).tell rfl hM2
    have hrd : (D3.crash keep).read ⟨#[115, 101, 103, 46, 49]⟩ = (c, 0) := (hI4.crash keep).file rfl
    refine ⟨rfl, PC.ok (h15.mfRead ht) ?_⟩
    rintro _ w16 ⟨a16, n16, c16, G16, rfl, ho16, hG16, h16, k16⟩
    have hml2 : (M2.getD []).length ≤ 64 := by rw [← hT4]; exact mfTell_le
    rw [hT4] at ho16 ⊢
    refine ⟨_, _, _, _, rfl, PA.mk fun w17 k17 s17 g17 => PS.mk g17 (by simp) fun w18 k18 s18 g18 => ?_⟩
    have k1618 : Grew w16 w18 := k17.new k18 fun b hb => .inr (by omega)
    refine PC.ok (h16.grew k1618).read ?_
    rintro _ w19 ⟨a19, n19, c19, F19, rfl, ho19, hF19, h19, k19⟩
    rw [hrd] at ho19 ⊢
    have kk := (k13.then k14).then k15
    have kg : Grew w15 w19 := (k16.then k1618).then k19
    have hc4 : c.length ≤ 1000000 := by omega
    refine ⟨_, _, _, _, rfl, PIf.ff rfl (PC.ok (kit_SameBytes (lst_bytes (((ho12.keep kk fun b hb hn => hn (.inr hb))).grew kg) hc4) (lst_bytes ho19 hc4)) ?_)⟩
    rintro _ w20 ⟨rfl, d20⟩
    have k20 : Grew w15 w20 := kg.then d20.keep
    have hgr : Grew w w20 := h19.gr.then d20.keep
    have gt20 := k20.get (kk.get gt12 (fun hn => hn (.inl (.inl (.inl (by omega)))))) id
    have go20 := k20.get (kk.get go12 (fun hn => hn (.inl (.inr rfl)))) id
    have gw20 := (k19.then d20.keep).get g18 id
    have rM : Row cI64 8 w20 G8 a8 n8 (M.getD []) := (((hoM12.keep kk fun b hb hn => hn (.inl (.inl (.inr hb)))).grew k20).row (by decide) (by unfold Big; omega))
    have rM2 : Row cI64 8 w20 G16 a16 n16 (M2.getD []) := ((ho16.grew ((k1618.then k19).then d20.keep)).row (by decide) (by unfold Big; omega))
    refine ⟨_, rfl, PIf.ff (by simp) (PIf.eqI (fun h0 => ?_) (fun h0 => ?_))⟩
    · have hm : M2 = some l2 := by
        rcases hMe2 with ⟨_, h⟩ | ⟨h, _⟩
        · exact h
        · exact absurd h0 h
      subst hm
      refine PIf.tt rfl ⟨_, _, _, cell_at gw20 rfl, _, _, _, cell_at gt20 rfl, PC.ok (kit_SameIntsR rM2 (h2.grew hgr)) ?_⟩
      rintro _ w21 ⟨rfl, d21⟩
      exact ⟨_, rfl, PIf.tt (by simp) (fin (hgr.then d21.keep))⟩
    · have hm : M2 = M := by
        rcases hMe2 with ⟨h, _⟩ | ⟨_, h⟩
        · exact absurd h h0
        · exact h
      subst hm
      refine PIf.neI (fun hne => ?_) (fun he => ⟨fun w' => Grew w20 w', ?_, ?_⟩)
      · refine PIf.tt (by simp) ⟨_, _, _, cell_at gw20 rfl, _, _, _, cell_at go20 rfl, PC.ok (kit_SameIntsR rM2 rM) ?_⟩
        rintro _ w21 ⟨rfl, d21⟩
        exact ⟨_, rfl, PIf.tt (by simp) (fin (hgr.then d21.keep))⟩
      · cases hs : M2.isSome with
        | false => exact PIf.ff rfl (Keep.refl _)
        | true =>
          refine PIf.tt rfl ⟨_, _, _, cell_at gw20 rfl, _, _, _, cell_at gt20 rfl, PC.ok (kit_SameIntsR rM2 (h2.grew hgr)) ?_⟩
          rintro _ w21 ⟨rfl, d21⟩
          exact ⟨_, rfl, PIf.dec (fun _ => fin (hgr.then d21.keep)) (fun _ => d21.keep)⟩
      · rintro _ w21 k21
        refine PIf.tt (by simp) ⟨_, _, _, cell_at (k21.get gw20 id) rfl, _, _, _, cell_at (k21.get go20 id) rfl, PC.ok (kit_SameIntsR (rM2.grew k21) (rM.grew k21)) ?_⟩
        rintro _ w22 ⟨rfl, d22⟩
        exact ⟨_, rfl, PIf.tt (by simp) (fin ((hgr.then k21).then d22.keep))⟩
end Go.Proofs.YtpmakiecgphijaaGreatDoor
