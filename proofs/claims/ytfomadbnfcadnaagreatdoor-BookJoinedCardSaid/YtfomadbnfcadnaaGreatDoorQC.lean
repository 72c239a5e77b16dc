/- Parts of a book, joined: the statement holds for every input, under what the card ties. -/
import Derived.Test.YtfomadbnfcadnaaGreatDoorXA
import Derived.Test.YtfomadbnfcadnaaGreatDoorCards
import Derived.Test.YtfomadbnfcadnaaGreatDoorTie
import Derived.Test.YtfomadbnfcadnaaGreatDoorLC
import Derived.SevenTiedAt
set_option linter.unusedVariables false
set_option linter.unusedSimpArgs false
set_option linter.unusedSectionVars false
set_option linter.unnecessarySimpa false
set_option maxRecDepth 100000
namespace Go.Proofs.YtfomadbnfcadnaaGreatDoor
open Go.ChangeShapes Go.WideShapes Go.ChangeAt Go.RowKit Go.Fip
theorem bookJoined_lifted (os : Os) (started : os.Started) (H : Type) (enc : TypeId × Value → H) :
    ReturnsInHanded {} Tryz.checked os 13 .any (fun w args => (Rows.bookJoinedSpec.pre enc Tryz.prog Tryz.f13 [] false w args ∧ laidMetH Tryz.prog Rows.bookJoinedRow.laid w) ∧ sizedMet enc Tryz.prog Tryz.f13 (OpenSpec.ofChange Rows.bookJoinedSpec) false w args) (Rows.bookJoinedSpec.post enc Tryz.prog Tryz.f13 false true false false) := by
  refine handed_laid (C := Tryz.checked) (X := fun w _ => laidMetH Tryz.prog Rows.bookJoinedRow.laid w) (fun _ _ _ hh h => h.of_heap hh) own started (by kernel_rfl) Tryz.func13
    (ChangeSpec.witness_shaped (enc := enc) (C := Tryz.checked) (os := os) (X := fun w _ => laidMetH Tryz.prog Rows.bookJoinedRow.laid w) false (World.laidAll Tryz.prog os Rows.bookJoinedRow.laid) #[.agg #[.slice none 0 0], .int .u32 0, .int .u32 0, .int .u8 0, .int .i64 0] 8 (World.laidAll_os _ _ _) (World.shaped_of_ZipB (by kernel_rfl) (by kernel_rfl)) (by kernel_rfl) (by kernel_rfl) (by kernel_rfl) (by rw [MakeChecks.laidMetH_plain _ _ _ (by kernel_rfl)]; exact laidMet_laidAll _ (by kernel_rfl) (by kernel_rfl))) ?_
  intro W base args ds gs before hval0 hW hL hsh
  have hval : ∀ (j : Nat) t v, Tryz.f13.params[j]? = some t → args[j]? = some v → Value.okWide Tryz.prog W .any base t v := hval0
  have hW' := hW
  obtain ⟨p, q, hA0, hV, rfl, hfz, hnd⟩ := hW'
  have hA : DataW.TrodAll enc Tryz.prog W 0 (fun _ => true) true Tryz.f13.params.toList args.toList ds p := hA0
  obtain ⟨rfl, rfl⟩ := trodVars_none hV
  have hA2 := hA
  rw [Tryz.params13] at hA2 hval
  rw [MakeChecks.laidMetH_plain _ _ _ (by kernel_rfl)] at hL
  have hG : Gl W := gl_of hsh hL
  obtain ⟨v0, v1, v2, v3, v4, d0, d1, d2, d3, d4, p0, p1, p2, p3, p4, rfl, rfl, rfl, h0, h1, h2, h3, h4⟩ := trodAll_five hA2
  obtain ⟨s0, x0, rfl, k0⟩ := argBook (hval 0 24 v0 rfl rfl) h0
  obtain ⟨a1, rfl, w1⟩ := argInt Tryz.underlying68 (hval 1 68 v1 rfl rfl) h1
  have g1 := bounds_u32 w1
  obtain ⟨a2, rfl, w2⟩ := argInt Tryz.underlying68 (hval 2 68 v2 rfl rfl) h2
  have g2 := bounds_u32 w2
  obtain ⟨a3, rfl, w3⟩ := argInt Tryz.underlying5 (hval 3 5 v3 rfl rfl) h3
  have g3 := bounds_u8 w3
  obtain ⟨a4, rfl, w4⟩ := argInt Tryz.underlying2 (hval 4 2 v4 rfl rfl) h4
  have g4 := bounds_i64 w4
  refine (callsIn_wide.1 (c13 (o1 := a1) (o2 := a2) (b := a3) (d := a4) k0 hG g3).calls).mono fun e W' ⟨v, he, hb, hR⟩ => ?_
  have hv := hR W' (Agree.refl _ _ _)
  subst hv
  exact ⟨_, he, law_post laidO hb (by kernel_rfl) rfl hW hA (by simp) (by kernel_rfl) Tryz.underlying4 rfl⟩
theorem bookJoined_said : Rows.BookJoinedSaid :=
  OpenClaim.holds_of_wide 13 Tryz.f13 rfl rfl rfl rfl rfl rfl rfl ⟨rfl, rfl, rfl, rfl, rfl⟩ rfl rfl rfl rfl rfl (by kernel_rfl) Tryz.func13 (by kernel_rfl)
    (of_decide_eq_true (by kernel_rfl)) (by unfold Func.isWrapper; first | (rw [if_pos (by decide +kernel)]; kernel_rfl) | (rw [if_neg (by decide +kernel)]; exact ⟨rfl, rfl⟩))
    (fun os started H enc _ => bookJoined_lifted os started H enc)
theorem bookJoined_holds : Rows.BookJoinedCardSaid :=
  Claim7.holds_tied_plain_at .later [] [.data, .data, .data, .data, .sentinel, .sentinel, .pinned] true (true, "aca19589f76a0abf78e56b14b6c9dc20ee79324b8f290dc07242b08bb0bbb2bc") true bookJoined_said (fun _ h => by cases h) (by kernel_rfl) (fun _ h => by cases h) bookJoined_row_tie rfl ⟨rfl, rfl⟩ (by kernel_rfl) rfl
    (fun f fn hf hfn => by
      obtain rfl : f = 13 := Option.some.inj ((show Tryz.prog.funcNamed "fipple/fipplelaw12.BookJoined" = some 13 by kernel_rfl).symm.trans hf) |>.symm
      obtain rfl : fn = Tryz.f13 := (Option.some.inj (Tryz.func13.symm.trans hfn)).symm
      exact ⟨by kernel_rfl, fun j t ht => by
        rw [Tryz.params13] at ht
        have hm : t ∈ [24, 68, 68, 5, 2] := by simpa using Array.mem_of_getElem? ht
        have hall : ([24, 68, 68, 5, 2].all fun u => !Tryz.prog.wantsStandIn u) = true := by kernel_rfl
        exact (show Tryz.prog.wantsStandIn t = false by simpa using List.all_eq_true.1 hall t hm)⟩)
    (by kernel_rfl)
end Go.Proofs.YtfomadbnfcadnaaGreatDoor
