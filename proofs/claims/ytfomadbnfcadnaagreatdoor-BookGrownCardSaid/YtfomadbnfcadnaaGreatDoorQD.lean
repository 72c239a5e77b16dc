/- How a book grew: the statement holds for every input, under what the card ties. -/
import Derived.Test.YtfomadbnfcadnaaGreatDoorXA
import Derived.Test.YtfomadbnfcadnaaGreatDoorCards
import Derived.Test.YtfomadbnfcadnaaGreatDoorTie
import Derived.Test.YtfomadbnfcadnaaGreatDoorLD
import Derived.SevenTiedAt
set_option linter.unusedVariables false
set_option linter.unusedSimpArgs false
set_option linter.unusedSectionVars false
set_option linter.unnecessarySimpa false
set_option maxRecDepth 100000
namespace Go.Proofs.YtfomadbnfcadnaaGreatDoor
open Go.ChangeShapes Go.WideShapes Go.ChangeAt Go.RowKit Go.Fip
theorem bookGrown_lifted (os : Os) (started : os.Started) (H : Type) (enc : TypeId × Value → H) :
    ReturnsInHanded {} Tryz.checked os 10 .any (fun w args => (Rows.bookGrownSpec.pre enc Tryz.prog Tryz.f10 [] false w args ∧ laidMetH Tryz.prog Rows.bookGrownRow.laid w) ∧ sizedMet enc Tryz.prog Tryz.f10 (OpenSpec.ofChange Rows.bookGrownSpec) false w args) (Rows.bookGrownSpec.post enc Tryz.prog Tryz.f10 false true false false) := by
  refine handed_laid (C := Tryz.checked) (X := fun w _ => laidMetH Tryz.prog Rows.bookGrownRow.laid w) (fun _ _ _ hh h => h.of_heap hh) own started (by kernel_rfl) Tryz.func10
    (ChangeSpec.witness_shaped (enc := enc) (C := Tryz.checked) (os := os) (X := fun w _ => laidMetH Tryz.prog Rows.bookGrownRow.laid w) false (World.laidAll Tryz.prog os Rows.bookGrownRow.laid) #[.agg #[.slice none 0 0], .int .u8 0] 8 (World.laidAll_os _ _ _) (World.shaped_of_ZipB (by kernel_rfl) (by kernel_rfl)) (by kernel_rfl) (by kernel_rfl) (by kernel_rfl) (by rw [MakeChecks.laidMetH_plain _ _ _ (by kernel_rfl)]; exact laidMet_laidAll _ (by kernel_rfl) (by kernel_rfl))) ?_
  intro W base args ds gs before hval0 hW hL hsh
  have hval : ∀ (j : Nat) t v, Tryz.f10.params[j]? = some t → args[j]? = some v → Value.okWide Tryz.prog W .any base t v := hval0
  have hW' := hW
  obtain ⟨p, q, hA0, hV, rfl, hfz, hnd⟩ := hW'
  have hA : DataW.TrodAll enc Tryz.prog W 0 (fun _ => true) true Tryz.f10.params.toList args.toList ds p := hA0
  obtain ⟨rfl, rfl⟩ := trodVars_none hV
  have hA2 := hA
  rw [Tryz.params10] at hA2 hval
  rw [MakeChecks.laidMetH_plain _ _ _ (by kernel_rfl)] at hL
  have hG : Gl W := gl_of hsh hL
  obtain ⟨v0, v1, d0, d1, p0, p1, rfl, rfl, rfl, h0, h1⟩ := trodAll_two hA2
  obtain ⟨s0, x0, rfl, k0⟩ := argBook (hval 0 24 v0 rfl rfl) h0
  obtain ⟨a1, rfl, w1⟩ := argInt Tryz.underlying5 (hval 1 5 v1 rfl rfl) h1
  have g1 := bounds_u8 w1
  refine (callsIn_wide.1 (c10 (a := a1) k0 hG g1).calls).mono fun e W' ⟨v, he, hb, hR⟩ => ?_
  have hv := hR W' (Agree.refl _ _ _)
  subst hv
  exact ⟨_, he, law_post laidO hb (by kernel_rfl) rfl hW hA (by simp) (by kernel_rfl) Tryz.underlying4 rfl⟩
theorem bookGrown_said : Rows.BookGrownSaid :=
  OpenClaim.holds_of_wide 10 Tryz.f10 rfl rfl rfl rfl rfl rfl rfl ⟨rfl, rfl, rfl, rfl, rfl⟩ rfl rfl rfl rfl rfl (by kernel_rfl) Tryz.func10 (by kernel_rfl)
    (of_decide_eq_true (by kernel_rfl)) (by unfold Func.isWrapper; first | (rw [if_pos (by decide +kernel)]; kernel_rfl) | (rw [if_neg (by decide +kernel)]; exact ⟨rfl, rfl⟩))
    (fun os started H enc _ => bookGrown_lifted os started H enc)
theorem bookGrown_holds : Rows.BookGrownCardSaid :=
  Claim7.holds_tied_plain_at .later [] [.data, .data, .data, .data, .sentinel, .sentinel, .pinned] true (true, "aca19589f76a0abf78e56b14b6c9dc20ee79324b8f290dc07242b08bb0bbb2bc") true bookGrown_said (fun _ h => by cases h) (by kernel_rfl) (fun _ h => by cases h) bookGrown_row_tie rfl ⟨rfl, rfl⟩ (by kernel_rfl) rfl
    (fun f fn hf hfn => by
      obtain rfl : f = 10 := Option.some.inj ((show Tryz.prog.funcNamed "fipple/fipplelaw12.BookGrown" = some 10 by kernel_rfl).symm.trans hf) |>.symm
      obtain rfl : fn = Tryz.f10 := (Option.some.inj (Tryz.func10.symm.trans hfn)).symm
      exact ⟨by kernel_rfl, fun j t ht => by
        rw [Tryz.params10] at ht
        have hm : t ∈ [24, 5] := by simpa using Array.mem_of_getElem? ht
        have hall : ([24, 5].all fun u => !Tryz.prog.wantsStandIn u) = true := by kernel_rfl
        exact (show Tryz.prog.wantsStandIn t = false by simpa using List.all_eq_true.1 hall t hm)⟩)
    (by kernel_rfl)
end Go.Proofs.YtfomadbnfcadnaaGreatDoor
