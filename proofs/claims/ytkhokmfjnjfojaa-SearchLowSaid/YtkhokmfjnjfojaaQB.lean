/- The lowest tree, its height, and that of a best one of equal weights: the statement holds for every input. -/
import Derived.Test.YtkhokmfjnjfojaaXA
import Derived.Test.YtkhokmfjnjfojaaL9
set_option linter.unusedVariables false
set_option linter.unusedSimpArgs false
set_option linter.unusedSectionVars false
set_option linter.unnecessarySimpa false
namespace Go.Proofs.Ytkhokmfjnjfojaa
open Go.ChangeShapes Go.WideShapes Go.ChangeAt Go.RowKit Go.Fip
set_option maxRecDepth 100000 in
theorem searchLow_lifted (os : Os) (started : os.Started) (H : Type) (enc : TypeId × Value → H) :
    ReturnsInHanded {} Try.checked os 14 .any (Rows.searchLowSpec.pre6 enc Try.prog Try.f14 Rows.searchLowRow.domain false) (Rows.searchLowSpec.post enc Try.prog Try.f14 false true false false) := by
  refine returnsInHanded_of_change (C := Try.checked) own started (by kernel_rfl) Try.func14
    (ChangeSpec.witness6 (enc := enc) (C := Try.checked) false ⟨#[], #[.int .u8 0, .slice none 0 0, .int .u16 0], []⟩ 8 (by kernel_rfl) (by kernel_rfl) (by kernel_rfl) (by kernel_rfl)) ?_
  intro W base args ds gs before hval0 hW hcnd _
  have hval : ∀ (j : Nat) t v, Try.f14.params[j]? = some t → args[j]? = some v → Value.okWide Try.prog W .any base t v := hval0
  have hW' := hW
  obtain ⟨p, q, hA0, hV, rfl, hfz, hnd⟩ := hW
  have hA : DataW.TrodAll enc Try.prog W 0 (fun _ => true) true Try.f14.params.toList args.toList ds p := hA0
  obtain ⟨rfl, rfl⟩ := trodVars_none hV
  have hA2 := hA
  rw [Try.params14] at hA2 hval
  obtain ⟨v0, v1, v2, d0, d1, d2, p0, p1, p2, rfl, rfl, rfl, h0, h1, h2⟩ := trodAll_three hA2
  obtain ⟨a0, rfl, rfl, rfl, w0⟩ := open_int Try.underlying5 (hval 0 5 v0 rfl rfl) h0
  have g0 := bounds_u8 w0
  obtain ⟨x1, k1, g1⟩ := argB (hval 1 44 v1 rfl rfl) h1
  obtain ⟨a2, rfl, rfl, rfl, w2⟩ := open_int Try.underlying58 (hval 2 58 v2 rfl rfl) h2
  have g2 := bounds_u16 w2
  refine (callsIn_wide.1 (c14 k1 g1 g0 g2).calls).mono fun e W' ⟨v, he, hb, hR⟩ => ?_
  have hv := hR W' (Agree.refl _ _ _)
  subst hv
  exact ⟨_, he, law_post laid hb (by kernel_rfl) rfl hW' hA (by simp) (by kernel_rfl) Try.underlying4 rfl⟩
theorem searchLow_holds : Rows.SearchLowSaid :=
  OpenClaim.holds_of_wide 14 Try.f14 rfl rfl rfl rfl rfl rfl rfl ⟨rfl, rfl, rfl, rfl, rfl⟩ rfl rfl rfl rfl rfl (by kernel_rfl) Try.func14 (by kernel_rfl)
    (of_decide_eq_true (by kernel_rfl)) (by unfold Func.isWrapper; first | (rw [if_pos (by decide +kernel)]; kernel_rfl) | (rw [if_neg (by decide +kernel)]; exact ⟨rfl, rfl⟩))
    (fun os started H enc _ => searchLow_lifted os started H enc)
end Go.Proofs.Ytkhokmfjnjfojaa
