/- The arguments of this seat's laws, as they are read. -/
import Derived.Test.YtkhokmfjnjfojaaRows
import Derived.Test.YtkhokmfjnjfojaaMB
import Derived.Test.YtkhokmfjnjfojaaMC
import Derived.Test.YtkhokmfjnjfojaaMD
set_option linter.unusedVariables false
set_option linter.unusedSimpArgs false
set_option linter.unusedSectionVars false
set_option linter.unnecessarySimpa false
namespace Go.Proofs.Ytkhokmfjnjfojaa
open Go.ChangeShapes Go.WideShapes Go.ChangeAt Go.RowKit Go.Fip
theorem own : ownKnob Try.prog.godebug = none := by kernel_rfl
theorem laid : laidOutB Try.prog = true := by kernel_rfl
section
variable {H : Type} {enc : TypeId × Value → H} {W : World} {b : Nat} {v : Value} {d : DataW H} {ps : List MemPlace}
set_option maxRecDepth 100000 in
theorem argL (hok : Value.okWide Try.prog W .any b 22 v) (h : DataW.Trod enc Try.prog W 0 (fun _ => true) true 22 v d ps) : ∃ xs : List Int, Rd Go.Fip.encI 1 v xs W ∧ Q.Up xs := by
  obtain ⟨xs, hx, hw⟩ := arg_ints Try.underlying22 Try.underlying3 (by kernel_rfl) hok h
  exact ⟨xs, hx, fun n hn => (bounds_i64 (hw n hn)).2⟩
set_option maxRecDepth 100000 in
theorem argW (hok : Value.okWide Try.prog W .any b 30 v) (h : DataW.Trod enc Try.prog W 0 (fun _ => true) true 30 v d ps) : ∃ xs : List Int, Rd Go.Fip.encI 1 v xs W ∧ Q.Up xs := by
  obtain ⟨xs, hx, hw⟩ := arg_ints Try.underlying30 Try.underlying2 (by kernel_rfl) hok h
  exact ⟨xs, hx, fun n hn => (bounds_i64 (hw n hn)).2⟩
set_option maxRecDepth 100000 in
theorem argB (hok : Value.okWide Try.prog W .any b 44 v) (h : DataW.Trod enc Try.prog W 0 (fun _ => true) true 44 v d ps) : ∃ xs : List Int, Rd Go.Fip.encB 1 v xs W ∧ ∀ n ∈ xs, 0 ≤ n ∧ n ≤ 255 := by
  obtain ⟨xs, hx, hw⟩ := arg_ints Try.underlying44 Try.underlying5 (by kernel_rfl) hok h
  exact ⟨xs, hx, fun n hn => bounds_u8 (hw n hn)⟩
end
end Go.Proofs.Ytkhokmfjnjfojaa
namespace Go.Proofs.Ytkhokmfjnjfojaa
open Go.ChangeShapes Go.RowKit
section
variable {H : Type} {enc : TypeId × Value → H} {P : Program} {w : World} {base : Nat} {spare : Nat → Bool} {held : Bool}
theorem trodAll_five {t t' t'' t3 t4 : TypeId} {args : Array Value} {ds : List (DataW H)} {ps : List MemPlace} (h : DataW.TrodAll enc P w base spare held [t, t', t'', t3, t4] args.toList ds ps) :
    ∃ v v' v'' v3 v4 d d' d'' d3 d4 p p' p'' p3 p4, args = #[v, v', v'', v3, v4] ∧ ds = [d, d', d'', d3, d4] ∧ ps = p ++ p' ++ p'' ++ p3 ++ p4 ∧ DataW.Trod enc P w base spare held t v d p ∧ DataW.Trod enc P w base spare held t' v' d' p' ∧ DataW.Trod enc P w base spare held t'' v'' d'' p'' ∧ DataW.Trod enc P w base spare held t3 v3 d3 p3 ∧ DataW.Trod enc P w base spare held t4 v4 d4 p4 := by
  obtain ⟨v, vs, d, ds', p, q, hargs, rfl, rfl, hd, hrest⟩ := trodAll_cons h
  obtain ⟨v', vs', d', ds'', p', q', rfl, rfl, rfl, hd', hrest'⟩ := trodAll_cons hrest
  obtain ⟨v'', vs'', d'', ds''', p'', q'', rfl, rfl, rfl, hd'', hrest''⟩ := trodAll_cons hrest'
  obtain ⟨v3, vs3, d3, ds3, p3, q3, rfl, rfl, rfl, hd3, hrest3⟩ := trodAll_cons hrest''
  obtain ⟨v4, vs4, d4, ds4, p4, q4, rfl, rfl, rfl, hd4, hrest4⟩ := trodAll_cons hrest3
  obtain ⟨rfl, rfl, rfl⟩ := trodAll_nil hrest4
  exact ⟨v, v', v'', v3, v4, d, d', d'', d3, d4, p, p', p'', p3, p4, by cases args; simp_all, rfl, by simp, hd, hd', hd'', hd3, hd4⟩
end
end Go.Proofs.Ytkhokmfjnjfojaa
