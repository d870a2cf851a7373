/- ManifestWrites: for every input the call answers true, and each argument reads as it read, where the listed tables read as listed; and its tied card -/
import Derived.Test.YtpmakiecgphijaaGreatDoorW1
import Derived.Test.YtpmakiecgphijaaGreatDoorLaidRow
import Derived.Test.YtpmakiecgphijaaGreatDoorTie
import Derived.Test.YtpmakiecgphijaaGreatDoorCards
namespace Go.Proofs.YtpmakiecgphijaaGreatDoor.manifestWrites
open Go.Lift Go.ChangeShapes Go.WideShapes Go.ChangeAt Go.RowKit
set_option linter.unusedVariables false
theorem own : ownKnob Tryz.prog.godebug = none := by kernel_rfl
set_option maxRecDepth 100000 in
theorem lifted (os : Os) (started : os.Started) (H : Type) (enc : TypeId × Value → H) :
    ReturnsInHanded {} Tryz.checked os 6 .any (fun w args => (Rows.manifestWritesSpec.pre enc Tryz.prog Tryz.f6 [] false w args ∧ laidMetH Tryz.prog laid2 w) ∧ sizedMet enc Tryz.prog Tryz.f6 (OpenSpec.ofChange Rows.manifestWritesSpec) false w args)
      (Rows.manifestWritesSpec.post enc Tryz.prog Tryz.f6 false true false false) := by
  refine returnsInHanded_of_change_and (C := Tryz.checked) (X := fun w _ => laidMetH Tryz.prog laid2 w) (fun _ _ _ hh h => h.of_heap hh) own started (by kernel_rfl) Tryz.func6
    (ChangeSpec.witness_shaped (enc := enc) (C := Tryz.checked) (os := os) (X := fun w _ => laidMetH Tryz.prog laid2 w) false (World.doorLaid Tryz.prog 400 os) #[.int .i64 0, .slice none 0 0, .slice none 0 0, .int .i64 0, .int .i64 0] 8 rfl (World.shaped_of_RefB (by kernel_rfl) (by kernel_rfl)) (by kernel_rfl) (by kernel_rfl) (by kernel_rfl) (door2 os _)) ?_
  intro W base args ds gs before hval0 hW hcnd hsz0 hL _
  have hL := of_laid2 hL
  have hval : ∀ (j : Nat) t v, Tryz.f6.params[j]? = some t → args[j]? = some v → Value.okWide Tryz.prog W .any base t v := hval0
  have hsz : (DataW.weightsEach Tryz.prog (Tryz.f6.params.toList ++ Rows.manifestWritesSpec.plain.varTypes Tryz.prog) (ds ++ gs)).all (· ≤ reachBytes) = true := hsz0
  have hW' := hW
  obtain ⟨p, q, hA0, hV, rfl, hfz, hnd⟩ := hW
  have hA : DataW.TrodAll enc Tryz.prog W 0 (fun _ => true) true Tryz.f6.params.toList args.toList ds p := hA0
  rw [Tryz.params6] at hA hval hsz
  obtain ⟨v0, vs0, d0, ds0, p0, q0, hargs, rfl, rfl, h0, r0⟩ := trodAll_cons hA
  obtain ⟨v1, vs1, d1, ds1, p1, q1, rfl, rfl, rfl, h1, r1⟩ := trodAll_cons r0
  obtain ⟨v2, vs2, d2, ds2, p2, q2, rfl, rfl, rfl, h2, r2⟩ := trodAll_cons r1
  obtain ⟨v3, vs3, d3, ds3, p3, q3, rfl, rfl, rfl, h3, r3⟩ := trodAll_cons r2
  obtain ⟨v4, vs4, d4, ds4, p4, q4, rfl, rfl, rfl, h4, r4⟩ := trodAll_cons r3
  obtain ⟨rfl, rfl, rfl⟩ := trodAll_nil r4
  obtain rfl : args = #[v0, v1, v2, v3, v4] := by cases args; simp_all
  obtain ⟨rfl, rfl⟩ := trodVars_none hV
  obtain ⟨x0, rfl, i0⟩ := in_int Tryz.underlying3 (hval 0 3 v0 rfl rfl) h0
  obtain ⟨a1, n1, c1, x1, rfl, hc1, hn1, i1⟩ := in_row Tryz.underlying67 (by kernel_rfl) (by decide) (by kernel_rfl) (reads_Act) (hval 1 67 v1 rfl rfl) h1 (light_of hsz (j := 1) rfl rfl)
  obtain ⟨a2, n2, c2, x2, rfl, hc2, hn2, i2⟩ := in_row Tryz.underlying68 (by kernel_rfl) (by decide) (by kernel_rfl) (reads_Mf) (hval 2 68 v2 rfl rfl) h2 (light_of hsz (j := 2) rfl rfl)
  obtain ⟨x3, rfl, i3⟩ := in_int Tryz.underlying3 (hval 3 3 v3 rfl rfl) h3
  obtain ⟨x4, rfl, i4⟩ := in_int Tryz.underlying3 (hval 4 3 v4 rfl rfl) h4
  refine (ManifestWrites i1 i2 i3 i4 hL).mono fun e W' ⟨v, he, hv, hk⟩ => ?_
  subst he; subst hv
  exact ⟨_, rfl, post_true (tb := 4) (by kernel_rfl) rfl Tryz.underlying4 rfl rfl rfl rfl (by kernel_rfl) hW' hk⟩
end Go.Proofs.YtpmakiecgphijaaGreatDoor.manifestWrites
namespace Go.Proofs.YtpmakiecgphijaaGreatDoor
theorem manifestWrites_holds : Rows.ManifestWritesSaid :=
  OpenClaim.holds_of_wide 6 Tryz.f6 rfl rfl rfl rfl rfl rfl rfl ⟨rfl, rfl, rfl, rfl, rfl⟩ rfl rfl rfl rfl rfl (by kernel_rfl) Tryz.func6 (by kernel_rfl)
    (of_decide_eq_true (by kernel_rfl)) (by unfold Func.isWrapper; first | (rw [if_pos (by decide +kernel)]; kernel_rfl) | (rw [if_neg (by decide +kernel)]; exact ⟨rfl, rfl⟩))
    (fun os started H enc _ => manifestWrites.lifted os started H enc)
theorem manifestWrites_card : Rows.ManifestWritesCardSaid :=
  Claim7.holds_tied_plain_at .later [] [.data, .data] true Rows.manifestWritesCard.stood.harness Rows.manifestWritesCard.stood.looks
    manifestWrites_holds (fun _ h => by cases h) (by kernel_rfl) (fun _ h => by cases h) manifestWrites_row_tie rfl ⟨rfl, rfl⟩ (by kernel_rfl) rfl
    (fun f fn hf hfn => by
      obtain rfl : f = 6 := Option.some.inj ((show Tryz.prog.funcNamed "quayside/quaysidelaw21.ManifestWrites" = some 6 by kernel_rfl).symm.trans hf) |>.symm
      obtain rfl : fn = Tryz.f6 := (Option.some.inj (Tryz.func6.symm.trans hfn)).symm
      exact ⟨by kernel_rfl, fun j t ht => by
        have hm : t ∈ Tryz.f6.params.toList := by simpa using Array.mem_of_getElem? ht
        have hall : (Tryz.f6.params.toList.all fun u => !Tryz.prog.wantsStandIn u) = true := by kernel_rfl
        exact (show Tryz.prog.wantsStandIn t = false by simpa using List.all_eq_true.1 hall t hm)⟩)
    (by kernel_rfl)
#print axioms manifestWrites_card
end Go.Proofs.YtpmakiecgphijaaGreatDoor
