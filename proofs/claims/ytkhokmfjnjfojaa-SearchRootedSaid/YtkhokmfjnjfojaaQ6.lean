/- The roots of a span are what the bounds say, and lie between the roots of the two spans that are shorter by one: the statement holds for every input. -/
import Derived.Test.YtkhokmfjnjfojaaXA
import Derived.Test.YtkhokmfjnjfojaaL4
set_option linter.unusedVariables false
set_option linter.unusedSimpArgs false
set_option linter.unusedSectionVars false
set_option linter.unnecessarySimpa false
namespace Go.Proofs.Ytkhokmfjnjfojaa
open Go.ChangeShapes Go.WideShapes Go.ChangeAt Go.RowKit Go.Fip
set_option maxRecDepth 100000 in
theorem searchRooted_lifted (os : Os) (started : os.Started) (H : Type) (enc : TypeId × Value → H) :
    ReturnsInHanded {} Try.checked os 8 .any (Rows.searchRootedSpec.pre6 enc Try.prog Try.f8 Rows.searchRootedRow.domain false) (Rows.searchRootedSpec.post enc Try.prog Try.f8 false true false false) := by
  refine returnsInHanded_of_change (C := Try.checked) own started (by kernel_rfl) Try.func8
    (ChangeSpec.witness6 (enc := enc) (C := Try.checked) false ⟨#[], #[.slice none 0 0, .int .u8 0, .int .u8 0], []⟩ 8 (by kernel_rfl) (by kernel_rfl) (by kernel_rfl) (by kernel_rfl)) ?_
  intro W base args ds gs before hval0 hW hcnd _
  have hval : ∀ (j : Nat) t v, Try.f8.params[j]? = some t → args[j]? = some v → Value.okWide Try.prog W .any base t v := hval0
  have hW' := hW
  obtain ⟨p, q, hA0, hV, rfl, hfz, hnd⟩ := hW
  have hA : DataW.TrodAll enc Try.prog W 0 (fun _ => true) true Try.f8.params.toList args.toList ds p := hA0
  obtain ⟨rfl, rfl⟩ := trodVars_none hV
  have hA2 := hA
  rw [Try.params8] at hA2 hval
  obtain ⟨v0, v1, v2, d0, d1, d2, p0, p1, p2, rfl, rfl, rfl, h0, h1, h2⟩ := trodAll_three hA2
  obtain ⟨x0, k0, g0⟩ := argW (hval 0 30 v0 rfl rfl) h0
  obtain ⟨a1, rfl, rfl, rfl, w1⟩ := open_int Try.underlying5 (hval 1 5 v1 rfl rfl) h1
  have g1 := bounds_u8 w1
  obtain ⟨a2, rfl, rfl, rfl, w2⟩ := open_int Try.underlying5 (hval 2 5 v2 rfl rfl) h2
  have g2 := bounds_u8 w2
  refine (callsIn_wide.1 (c8 k0 g1 g2).calls).mono fun e W' ⟨v, he, hb, hR⟩ => ?_
  have hv := hR W' (Agree.refl _ _ _)
  subst hv
  exact ⟨_, he, law_post laid hb (by kernel_rfl) rfl hW' hA (by simp) (by kernel_rfl) Try.underlying4 rfl⟩
theorem searchRooted_holds : Rows.SearchRootedSaid :=
  OpenClaim.holds_of_wide 8 Try.f8 rfl rfl rfl rfl rfl rfl rfl ⟨rfl, rfl, rfl, rfl, rfl⟩ rfl rfl rfl rfl rfl (by kernel_rfl) Try.func8 (by kernel_rfl)
    (of_decide_eq_true (by kernel_rfl)) (by unfold Func.isWrapper; first | (rw [if_pos (by decide +kernel)]; kernel_rfl) | (rw [if_neg (by decide +kernel)]; exact ⟨rfl, rfl⟩))
    (fun os started H enc _ => searchRooted_lifted os started H enc)
end Go.Proofs.Ytkhokmfjnjfojaa
