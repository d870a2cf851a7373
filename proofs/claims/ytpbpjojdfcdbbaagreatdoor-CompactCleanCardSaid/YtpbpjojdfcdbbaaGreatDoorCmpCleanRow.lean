/- CompactClean: for every input the call answers true, and each argument reads as it read, where the listed tables read as listed; and its tied card -/
import Derived.Test.YtpbpjojdfcdbbaaGreatDoorC3
import Derived.Test.YtpbpjojdfcdbbaaGreatDoorLaidRow
import Derived.Test.YtpbpjojdfcdbbaaGreatDoorEvIn
import Derived.Test.YtpbpjojdfcdbbaaGreatDoorTie
import Derived.Test.YtpbpjojdfcdbbaaGreatDoorCards
namespace Go.Proofs.YtpbpjojdfcdbbaaGreatDoor.compactClean
open Go.Lift Go.ChangeShapes Go.WideShapes Go.ChangeAt Go.RowKit
set_option linter.unusedVariables false
theorem own : ownKnob Tryz.prog.godebug = none := by kernel_rfl
set_option maxRecDepth 100000 in
theorem lifted (os : Os) (started : os.Started) (H : Type) (enc : TypeId × Value → H) :
    ReturnsInHanded {} Tryz.checked os 10 .any (fun w args => (Rows.compactCleanSpec.pre enc Tryz.prog Tryz.f10 [] false w args ∧ laidMetH Tryz.prog laid5 w) ∧ sizedMet enc Tryz.prog Tryz.f10 (OpenSpec.ofChange Rows.compactCleanSpec) false w args)
      (Rows.compactCleanSpec.post enc Tryz.prog Tryz.f10 false true false false) := by
  refine returnsInHanded_of_change_and (C := Tryz.checked) (X := fun w _ => laidMetH Tryz.prog laid5 w) (fun _ _ _ hh h => h.of_heap hh) own started (by kernel_rfl) Tryz.func10
    (ChangeSpec.witness_shaped (enc := enc) (C := Tryz.checked) (os := os) (X := fun w _ => laidMetH Tryz.prog laid5 w) false (World.doorLaid Tryz.prog 400 os) #[.int .i64 0, .slice none 0 0, .slice none 0 0] 8 rfl (World.shaped_of_RefB (by kernel_rfl) (by kernel_rfl)) (by kernel_rfl) (by kernel_rfl) (by kernel_rfl) (door5 os _)) ?_
  intro W base args ds gs before hval0 hW hcnd hsz0 hL _
  have hL := of_laid5 hL
  have hval : ∀ (j : Nat) t v, Tryz.f10.params[j]? = some t → args[j]? = some v → Value.okWide Tryz.prog W .any base t v := hval0
  have hsz : (DataW.weightsEach Tryz.prog (Tryz.f10.params.toList ++ Rows.compactCleanSpec.plain.varTypes Tryz.prog) (ds ++ gs)).all (· ≤ reachBytes) = true := hsz0
  have hW' := hW
  obtain ⟨p, q, hA0, hV, rfl, hfz, hnd⟩ := hW
  have hA : DataW.TrodAll enc Tryz.prog W 0 (fun _ => true) true Tryz.f10.params.toList args.toList ds p := hA0
  rw [Tryz.params10] at hA hval hsz
  obtain ⟨v0, vs0, d0, ds0, p0, q0, hargs, rfl, rfl, h0, r0⟩ := trodAll_cons hA
  obtain ⟨v1, vs1, d1, ds1, p1, q1, rfl, rfl, rfl, h1, r1⟩ := trodAll_cons r0
  obtain ⟨v2, vs2, d2, ds2, p2, q2, rfl, rfl, rfl, h2, r2⟩ := trodAll_cons r1
  obtain ⟨rfl, rfl, rfl⟩ := trodAll_nil r2
  obtain rfl : args = #[v0, v1, v2] := by cases args; simp_all
  obtain ⟨rfl, rfl⟩ := trodVars_none hV
  obtain ⟨x0, rfl, i0⟩ := in_int Tryz.underlying3 (hval 0 3 v0 rfl rfl) h0
  obtain ⟨a1, n1, c1, x1, rfl, hc1, hn1, i1⟩ := in_row Tryz.underlying22 (by kernel_rfl) (by decide) (by kernel_rfl) (reads_Ev) (hval 1 22 v1 rfl rfl) h1 (light_of hsz (j := 1) rfl rfl)
  obtain ⟨a2, n2, c2, x2, rfl, hc2, hn2, i2⟩ := in_row Tryz.underlying37 (by kernel_rfl) (by decide) (by kernel_rfl) (reads_I64 Tryz.underlying3) (hval 2 37 v2 rfl rfl) h2 (light_of hsz (j := 2) rfl rfl)
  refine (CompactClean i0 i1 (fun _ h => h) i2 hL).mono fun e W' ⟨v, he, hv, hk⟩ => ?_
  subst he; subst hv
  exact ⟨_, rfl, post_true (tb := 4) (by kernel_rfl) rfl Tryz.underlying4 rfl rfl rfl rfl (by kernel_rfl) hW' hk⟩
end Go.Proofs.YtpbpjojdfcdbbaaGreatDoor.compactClean
namespace Go.Proofs.YtpbpjojdfcdbbaaGreatDoor
theorem compactClean_holds : Rows.CompactCleanSaid :=
  OpenClaim.holds_of_wide 10 Tryz.f10 rfl rfl rfl rfl rfl rfl rfl ⟨rfl, rfl, rfl, rfl, rfl⟩ rfl rfl rfl rfl rfl (by kernel_rfl) Tryz.func10 (by kernel_rfl)
    (of_decide_eq_true (by kernel_rfl)) (by unfold Func.isWrapper; first | (rw [if_pos (by decide +kernel)]; kernel_rfl) | (rw [if_neg (by decide +kernel)]; exact ⟨rfl, rfl⟩))
    (fun os started H enc _ => compactClean.lifted os started H enc)
theorem compactClean_card : Rows.CompactCleanCardSaid :=
  Claim7.holds_tied_plain_at .later [] [.data, .data, .data, .data, .data] true Rows.compactCleanCard.stood.harness Rows.compactCleanCard.stood.looks
    compactClean_holds (fun _ h => by cases h) (by kernel_rfl) (fun _ h => by cases h) compactClean_row_tie rfl ⟨rfl, rfl⟩ (by kernel_rfl) rfl
    (fun f fn hf hfn => by
      obtain rfl : f = 10 := Option.some.inj ((show Tryz.prog.funcNamed "quayside/quaysidelaw23.CompactClean" = some 10 by kernel_rfl).symm.trans hf) |>.symm
      obtain rfl : fn = Tryz.f10 := (Option.some.inj (Tryz.func10.symm.trans hfn)).symm
      exact ⟨by kernel_rfl, fun j t ht => by
        have hm : t ∈ Tryz.f10.params.toList := by simpa using Array.mem_of_getElem? ht
        have hall : (Tryz.f10.params.toList.all fun u => !Tryz.prog.wantsStandIn u) = true := by kernel_rfl
        exact (show Tryz.prog.wantsStandIn t = false by simpa using List.all_eq_true.1 hall t hm)⟩)
    (by kernel_rfl)
#print axioms compactClean_card
end Go.Proofs.YtpbpjojdfcdbbaaGreatDoor
