/- Searches and books: the statement holds for every input, under what the card ties. -/
import Derived.Test.YtgbbgkcjpbdepaaGreatDoorA46
import Derived.Test.YtgbbgkcjpbdepaaGreatDoorA47
import Derived.Test.YtgbbgkcjpbdepaaGreatDoorCards
import Derived.Test.YtgbbgkcjpbdepaaGreatDoorA51
import Derived.SevenTiedAt
set_option linter.unusedVariables false
set_option linter.unusedSimpArgs false
set_option linter.unusedSectionVars false
set_option linter.unnecessarySimpa false
set_option maxRecDepth 100000
namespace Go.Proofs.YtgbbgkcjpbdepaaGreatDoor
open Go.ChangeShapes Go.WideShapes Go.ChangeAt Go.RowKit Go.Fip
theorem named_is : Tryz.prog.funcNamed "fipple/fippletop.TopSearchedBook" = some 3 := by kernel_rfl
theorem looks3 : true = Tryz.prog.looks [] := by kernel_rfl
theorem goesBy3 : false = Rows.topSearchedBookRow.goesBy Tryz.prog := by
  show false = ((Tryz.prog.funcNamed "fipple/fippletop.TopSearchedBook").any Tryz.prog.goes || false)
  rw [named_is, Option.any_some, goesNot]; rfl
theorem topSearchedBook_lifted (os : Os) (started : os.Started) (H : Type) (enc : TypeId × Value → H) :
    ReturnsInHanded {} Tryz.checked os 3 .any (fun w args => (Rows.topSearchedBookSpec.pre enc Tryz.prog Tryz.f3 [] false w args ∧ laidMetH Tryz.prog Rows.topSearchedBookRow.laid w) ∧ sizedMet enc Tryz.prog Tryz.f3 (OpenSpec.ofChange Rows.topSearchedBookSpec) false w args) (Rows.topSearchedBookSpec.post enc Tryz.prog Tryz.f3 false true false false) := by
  refine vV (C := Tryz.checked) (X := fun w _ => laidMetH Tryz.prog Rows.topSearchedBookRow.laid w) (fun _ _ _ hh h => h.of_heap hh) own started (by kernel_rfl) Tryz.func3
    (ChangeSpec.witness_shaped (enc := enc) (C := Tryz.checked) (os := os) (X := fun w _ => laidMetH Tryz.prog Rows.topSearchedBookRow.laid w) false (World.laidAll Tryz.prog os Rows.topSearchedBookRow.laid) #[.agg #[.slice none 0 0], .int .u8 0] 8 (World.laidAll_os _ _ _) (World.shaped_of_ZipB (by kernel_rfl) (by kernel_rfl)) (by kernel_rfl) (by kernel_rfl) (by kernel_rfl) (by rw [MakeChecks.laidMetH_plain _ _ _ (by kernel_rfl)]; exact laidMet_laidAll _ (by kernel_rfl) (by kernel_rfl))) ?_
  intro W base args ds gs before hval0 hW hL hsh
  have hval : ∀ (j : Nat) t v, Tryz.f3.params[j]? = some t → args[j]? = some v → Value.okWide Tryz.prog W .any base t v := hval0
  have hW' := hW
  obtain ⟨p, q, hA0, hV, rfl, hfz, hnd⟩ := hW'
  have hA : DataW.TrodAll enc Tryz.prog W 0 (fun _ => true) true Tryz.f3.params.toList args.toList ds p := hA0
  obtain ⟨rfl, rfl⟩ := trodVars_none hV
  have hA2 := hA
  rw [Tryz.params3] at hA2 hval
  rw [MakeChecks.laidMetH_plain _ _ _ (by kernel_rfl)] at hL
  have hG : Gl W := YO hL
  obtain ⟨v0, v1, d0, d1, p0, p1, rfl, rfl, rfl, h0, h1⟩ := trodAll_two hA2
  obtain ⟨s0, x0, rfl, k0⟩ := argBook (hval 0 24 v0 rfl rfl) h0
  obtain ⟨a1, rfl, w1⟩ := argInt Tryz.underlying5 (hval 1 5 v1 rfl rfl) h1
  have g1 := bounds_u8 w1
  refine (callsIn_wide.1 (law60 (a := a1) k0 g1 hG).calls).mono fun e W' ⟨v, he, hb, hR⟩ => ?_
  have hv := hR W' (Agree.refl _ _ _)
  subst hv
  exact ⟨_, he, jA laidO hb (by kernel_rfl) rfl hW hA (by simp) (by kernel_rfl) Tryz.underlying4 rfl⟩
theorem topSearchedBook_said : Rows.TopSearchedBookSaid :=
  OpenClaim.holds_of_wide 3 Tryz.f3 rfl rfl rfl rfl rfl rfl rfl ⟨rfl, rfl, rfl, rfl, rfl⟩ rfl rfl rfl rfl rfl named_is Tryz.func3 kB
    (of_decide_eq_true (by kernel_rfl)) (by unfold Func.isWrapper; first | (rw [if_pos (by decide +kernel)]; kernel_rfl) | (rw [if_neg (by decide +kernel)]; exact ⟨rfl, rfl⟩))
    (fun os started H enc _ => topSearchedBook_lifted os started H enc)
theorem topSearchedBook_holds : Rows.TopSearchedBookCardSaid :=
  Claim7.holds_tied_plain_at .later [] [.data, .data, .data, .pinned, .data, .sentinel, .sentinel] true (true, "e32f339bf7c4341ef11170f85f33366a6b4f175f6f199aca6bf5bd8e3ca39e8f") true topSearchedBook_said (fun _ h => by cases h) (by kernel_rfl) (fun _ h => by cases h) y9 rfl ⟨rfl, rfl⟩ (by kernel_rfl) rfl
    (fun f fn hf hfn => by
      obtain rfl : f = 3 := Option.some.inj (named_is.symm.trans hf) |>.symm
      obtain rfl : fn = Tryz.f3 := (Option.some.inj (Tryz.func3.symm.trans hfn)).symm
      exact ⟨looks3, fun j t ht => by
        rw [Tryz.params3] at ht
        have hm : t ∈ [24, 5] := by simpa using Array.mem_of_getElem? ht
        have hall : ([24, 5].all fun u => !Tryz.prog.wantsStandIn u) = true := by kernel_rfl
        exact (show Tryz.prog.wantsStandIn t = false by simpa using List.all_eq_true.1 hall t hm)⟩)
    goesBy3
end Go.Proofs.YtgbbgkcjpbdepaaGreatDoor
