/- SegmentBack: the walk -/
import Derived.Test.YtpmakiecgphijaaDoorSegWorks
namespace Go.Proofs.YtpmakiecgphijaaDoor
open Go.Lift
set_option linter.unusedVariables false
set_option maxRecDepth 20000

/-- the end of each of them -/
theorem fin {w w1 : World} (hw : Laid w) (hk : Grew w w1) {ε : List PanicEntry → World → Prop} : PC Tryd.prog F_law20_works #[] w1 (fun v w2 => ∃ t : Bool, v = .bool t ∧ Ok (fun v w' => v = .bool true ∧ Grew w w') (.returned (.bool t)) w2) ε :=
  PC.ok (works (hw.grew hk)) (by rintro _ w2 ⟨rfl, k2⟩; exact ⟨_, rfl, Ok.mk ⟨rfl, hk.then k2⟩⟩)

theorem name_ok {n : Int} (h0 : 0 ≤ n) (h1 : n < 1000000000000) : isNameV (txt (segName n)) = true := seg_name_ok h0 h1

theorem SegmentBack {a b : Int} {w : World} (ha : I64 a) (hb : I64 b) (hw : Laid w) : Calls Tryd.prog F_law20_SegmentBack #[.int .i64 a, .int .i64 b] w (Ok fun v w' => v = .bool true ∧ Grew w w') := by
  refine L_law20_SegmentBack (PC.ok (seg_Name hw ha) ?_)
  rintro _ w1 ⟨rfl, k1⟩
  refine ⟨_, rfl, fun t w' => t = decide (a < 0 ∨ 1000000000000 ≤ a) ∧ w' = w1, PIf.dec (fun h => ⟨by simp [h], rfl⟩) (fun h => ⟨by simp [h], rfl⟩), ?_⟩
  rintro t _ w2 ⟨rfl, rfl⟩
  refine PIf.dec (fun h => ?_) (fun h => ?_)
  · have e : segName a = [] := by unfold segName; rw [if_pos h]
    rw [e]
    refine PC.ok (seg_Number (hw.grew k1)) ?_
    rintro _ w3 ⟨rfl, k3⟩
    exact ⟨_, _, rfl, PIf.tt (by decide +kernel) (PIf.tt (by decide +kernel) (fin hw (k1.then k3)))⟩
  · have h0 : 0 ≤ a := by omega
    have h1 : a < 1000000000000 := by omega
    refine PC.ok (seg_Number (hw.grew k1)) ?_
    rintro _ w3 ⟨rfl, k3⟩
    have e : segNoV (txt (segName a)) = ((a.toNat : Int), true) := by unfold segNoV; rw [txt_list, segNo_name h0 h1]
    rw [e]
    refine ⟨_, _, rfl, PC.ok (new_ok (k1.then k3) (by omega) (by omega)) ?_⟩
    rintro _ w4 ⟨p, rfl, h4, -⟩
    replace h4 := h4.mono (Y := no) fun _ h => h.elim
    refine ⟨_, _, rfl, PIf.ff rfl (eq_nil_ptr uD ⟨_, rfl, PIf.ff rfl (PIf.tt (by simp; omega) (PIf.tt rfl ?_))⟩)⟩
    have hl := segName_length a
    have hc : (newD (Int.toNat 64)).create (txt (segName a)) = _ := create_one (name_ok h0 h1)
    refine PIf.eqI (fun hab => PIf.dec (fun _ => ?_) (fun hn => ?_)) (fun hab => ?_)
    · refine PC.ok h4.create ?_
      rintro _ w5 ⟨rfl, h5, k5⟩
      rw [hc] at h5 ⊢
      exact ⟨_, rfl, PIf.tt rfl (fin hw h5.gr)⟩
    · rw [txt_size] at hn; omega
    · refine PC.ok (seg_Name (hw.grew h4.gr) hb) ?_
      rintro _ w5 ⟨rfl, k5⟩
      refine ⟨_, rfl, PIf.neS (fun _ => PIf.dec (fun _ => ?_) (fun hn => ?_)) (fun he => ?_)⟩
      · refine PC.ok (h4.grew k5).create ?_
        rintro _ w6 ⟨rfl, h6, k6⟩
        rw [hc] at h6 ⊢
        exact ⟨_, rfl, PIf.tt rfl (fin hw h6.gr)⟩
      · rw [txt_size] at hn; omega
      · exact absurd (segName_inj h0 h1 (txt_inj he)).symm hab
end Go.Proofs.YtpmakiecgphijaaDoor
