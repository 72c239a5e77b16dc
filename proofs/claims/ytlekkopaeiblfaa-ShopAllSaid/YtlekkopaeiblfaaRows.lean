/-
  No cell of these rows narrows 'for every input' (looked for: loops, veiled, ifaces, maps, wideKeys, modest, calm, conditions, laid).
  DERIVED. THE GIVEN ROWS OF THIS SEAT. 13 by the template 'for every input the law returns true; each argument reads behind the call as it read before'; 0 by the template 'total and deterministic' (their statements: YtlekkopaeiblfaaTotals.lean).
  GIVEN WITH THE SEED: the statements are not yours to turn. If you find one false, say at which input.
  Laid BY PROGRAM, IN A SANDBOX (cutbox-rows.mjs): the forced cells as the released guide's own fill.sh prints them over the translation 45e6a33f3e6f6b10… (all of the seat's roots in one cut). By AI agents, Wed Nov 11 2026. No macro, syntax, notation, axiom, sorry.
-/
import Derived.Test.YtlekkopaeiblfaaChecked
import GoSem.Claim
import GoSem.ClaimJoined
import GoSem.ClaimMapViews
import Derived.JoinedTies
import Derived.KernelRfl
namespace Go.Proofs.Ytlekkopaeiblfaa
/- THE CELL 'sum', in the pinned program and in every row, IS THE sha256 OF THE DUMP (.gsa) THAT YtlekkopaeiblfaaProg.lean LOADS. Nothing in Lean hashes anything: it is a label: what it is worth is what the hold of that sum in a sandbox is worth. -/
noncomputable def Try.pinned : Pinned := { name := "ytlekkopaeiblfaa", sum := "45e6a33f3e6f6b100cb590aaef9c3ca4a542ff087c53dc2f61996c9c2a4560dc", checked := Try.checked }
namespace Rows
def none {H : Type} : Left H := { results := [], args := [] }

/-- 'fipplelaw03.ShopPlans': WHATEVER THE INPUT: true; the input reads as it did. -/
def shopPlansSpec : ChangeSpec := { name := "shopPlans", fn := fun _ => fun
  | [d1, d2, d3] => { results := [.lit (.bool true)], args := [d1, d2, d3] }
  | _ => none }
def shopPlansRow : OpenClaim := { program := "ytlekkopaeiblfaa", sum := "45e6a33f3e6f6b100cb590aaef9c3ca4a542ff087c53dc2f61996c9c2a4560dc", func := "fipple/fipplelaw03.ShopPlans", spec := "shopPlans", unfollowed := true, recurses := true, plainKeys := false, apart := false }
def ShopPlansSaid : Prop := shopPlansRow.holds Try.pinned (OpenSpec.ofChange shopPlansSpec)

/-- ITS FALSE NEIGHBOUR: 'it returns false'. Refute it at one input. -/
def shopPlansWrong : ChangeSpec := { name := "shopPlans", fn := fun _ => fun
  | [d1, d2, d3] => { results := [.lit (.bool false)], args := [d1, d2, d3] }
  | _ => none }
def ShopPlansWrongFalsely : Prop := shopPlansRow.holds Try.pinned (OpenSpec.ofChange shopPlansWrong)

/-- 'fipplelaw03.ShopBounds': WHATEVER THE INPUT: true; the input reads as it did. -/
def shopBoundsSpec : ChangeSpec := { name := "shopBounds", fn := fun _ => fun
  | [d1, d2, d3] => { results := [.lit (.bool true)], args := [d1, d2, d3] }
  | _ => none }
def shopBoundsRow : OpenClaim := { program := "ytlekkopaeiblfaa", sum := "45e6a33f3e6f6b100cb590aaef9c3ca4a542ff087c53dc2f61996c9c2a4560dc", func := "fipple/fipplelaw03.ShopBounds", spec := "shopBounds", unfollowed := true, recurses := true, plainKeys := false, apart := false }
def ShopBoundsSaid : Prop := shopBoundsRow.holds Try.pinned (OpenSpec.ofChange shopBoundsSpec)

/-- ITS FALSE NEIGHBOUR: 'it returns false'. Refute it at one input. -/
def shopBoundsWrong : ChangeSpec := { name := "shopBounds", fn := fun _ => fun
  | [d1, d2, d3] => { results := [.lit (.bool false)], args := [d1, d2, d3] }
  | _ => none }
def ShopBoundsWrongFalsely : Prop := shopBoundsRow.holds Try.pinned (OpenSpec.ofChange shopBoundsWrong)

/-- 'fipplelaw03.ShopOrders': WHATEVER THE INPUT: true; the input reads as it did. -/
def shopOrdersSpec : ChangeSpec := { name := "shopOrders", fn := fun _ => fun
  | [d1, d2] => { results := [.lit (.bool true)], args := [d1, d2] }
  | _ => none }
def shopOrdersRow : OpenClaim := { program := "ytlekkopaeiblfaa", sum := "45e6a33f3e6f6b100cb590aaef9c3ca4a542ff087c53dc2f61996c9c2a4560dc", func := "fipple/fipplelaw03.ShopOrders", spec := "shopOrders", unfollowed := true, recurses := true, plainKeys := false, apart := false }
def ShopOrdersSaid : Prop := shopOrdersRow.holds Try.pinned (OpenSpec.ofChange shopOrdersSpec)

/-- ITS FALSE NEIGHBOUR: 'it returns false'. Refute it at one input. -/
def shopOrdersWrong : ChangeSpec := { name := "shopOrders", fn := fun _ => fun
  | [d1, d2] => { results := [.lit (.bool false)], args := [d1, d2] }
  | _ => none }
def ShopOrdersWrongFalsely : Prop := shopOrdersRow.holds Try.pinned (OpenSpec.ofChange shopOrdersWrong)

/-- 'fipplelaw03.ShopCircles': WHATEVER THE INPUT: true; the input reads as it did. -/
def shopCirclesSpec : ChangeSpec := { name := "shopCircles", fn := fun _ => fun
  | [d1, d2, d3] => { results := [.lit (.bool true)], args := [d1, d2, d3] }
  | _ => none }
def shopCirclesRow : OpenClaim := { program := "ytlekkopaeiblfaa", sum := "45e6a33f3e6f6b100cb590aaef9c3ca4a542ff087c53dc2f61996c9c2a4560dc", func := "fipple/fipplelaw03.ShopCircles", spec := "shopCircles", unfollowed := true, recurses := true, plainKeys := false, apart := false }
def ShopCirclesSaid : Prop := shopCirclesRow.holds Try.pinned (OpenSpec.ofChange shopCirclesSpec)

/-- ITS FALSE NEIGHBOUR: 'it returns false'. Refute it at one input. -/
def shopCirclesWrong : ChangeSpec := { name := "shopCircles", fn := fun _ => fun
  | [d1, d2, d3] => { results := [.lit (.bool false)], args := [d1, d2, d3] }
  | _ => none }
def ShopCirclesWrongFalsely : Prop := shopCirclesRow.holds Try.pinned (OpenSpec.ofChange shopCirclesWrong)

/-- 'fipplelaw03.ShopProved': WHATEVER THE INPUT: true; the input reads as it did. -/
def shopProvedSpec : ChangeSpec := { name := "shopProved", fn := fun _ => fun
  | [d1, d2, d3, d4] => { results := [.lit (.bool true)], args := [d1, d2, d3, d4] }
  | _ => none }
def shopProvedRow : OpenClaim := { program := "ytlekkopaeiblfaa", sum := "45e6a33f3e6f6b100cb590aaef9c3ca4a542ff087c53dc2f61996c9c2a4560dc", func := "fipple/fipplelaw03.ShopProved", spec := "shopProved", unfollowed := true, recurses := true, plainKeys := false, apart := false }
def ShopProvedSaid : Prop := shopProvedRow.holds Try.pinned (OpenSpec.ofChange shopProvedSpec)

/-- ITS FALSE NEIGHBOUR: 'it returns false'. Refute it at one input. -/
def shopProvedWrong : ChangeSpec := { name := "shopProved", fn := fun _ => fun
  | [d1, d2, d3, d4] => { results := [.lit (.bool false)], args := [d1, d2, d3, d4] }
  | _ => none }
def ShopProvedWrongFalsely : Prop := shopProvedRow.holds Try.pinned (OpenSpec.ofChange shopProvedWrong)

/-- 'fipplelaw03.ShopEither': WHATEVER THE INPUT: true; the input reads as it did. -/
def shopEitherSpec : ChangeSpec := { name := "shopEither", fn := fun _ => fun
  | [d1, d2, d3] => { results := [.lit (.bool true)], args := [d1, d2, d3] }
  | _ => none }
def shopEitherRow : OpenClaim := { program := "ytlekkopaeiblfaa", sum := "45e6a33f3e6f6b100cb590aaef9c3ca4a542ff087c53dc2f61996c9c2a4560dc", func := "fipple/fipplelaw03.ShopEither", spec := "shopEither", unfollowed := true, recurses := true, plainKeys := false, apart := false }
def ShopEitherSaid : Prop := shopEitherRow.holds Try.pinned (OpenSpec.ofChange shopEitherSpec)

/-- ITS FALSE NEIGHBOUR: 'it returns false'. Refute it at one input. -/
def shopEitherWrong : ChangeSpec := { name := "shopEither", fn := fun _ => fun
  | [d1, d2, d3] => { results := [.lit (.bool false)], args := [d1, d2, d3] }
  | _ => none }
def ShopEitherWrongFalsely : Prop := shopEitherRow.holds Try.pinned (OpenSpec.ofChange shopEitherWrong)

/-- 'fipplelaw03.ShopEarly': WHATEVER THE INPUT: true; the input reads as it did. -/
def shopEarlySpec : ChangeSpec := { name := "shopEarly", fn := fun _ => fun
  | [d1, d2, d3] => { results := [.lit (.bool true)], args := [d1, d2, d3] }
  | _ => none }
def shopEarlyRow : OpenClaim := { program := "ytlekkopaeiblfaa", sum := "45e6a33f3e6f6b100cb590aaef9c3ca4a542ff087c53dc2f61996c9c2a4560dc", func := "fipple/fipplelaw03.ShopEarly", spec := "shopEarly", unfollowed := true, recurses := true, plainKeys := false, apart := false }
def ShopEarlySaid : Prop := shopEarlyRow.holds Try.pinned (OpenSpec.ofChange shopEarlySpec)

/-- ITS FALSE NEIGHBOUR: 'it returns false'. Refute it at one input. -/
def shopEarlyWrong : ChangeSpec := { name := "shopEarly", fn := fun _ => fun
  | [d1, d2, d3] => { results := [.lit (.bool false)], args := [d1, d2, d3] }
  | _ => none }
def ShopEarlyWrongFalsely : Prop := shopEarlyRow.holds Try.pinned (OpenSpec.ofChange shopEarlyWrong)

/-- 'fipplelaw03.ShopAll': WHATEVER THE INPUT: true; the input reads as it did. -/
def shopAllSpec : ChangeSpec := { name := "shopAll", fn := fun _ => fun
  | [d1, d2] => { results := [.lit (.bool true)], args := [d1, d2] }
  | _ => none }
def shopAllRow : OpenClaim := { program := "ytlekkopaeiblfaa", sum := "45e6a33f3e6f6b100cb590aaef9c3ca4a542ff087c53dc2f61996c9c2a4560dc", func := "fipple/fipplelaw03.ShopAll", spec := "shopAll", unfollowed := true, recurses := true, plainKeys := false, apart := false }
def ShopAllSaid : Prop := shopAllRow.holds Try.pinned (OpenSpec.ofChange shopAllSpec)

/-- ITS FALSE NEIGHBOUR: 'it returns false'. Refute it at one input. -/
def shopAllWrong : ChangeSpec := { name := "shopAll", fn := fun _ => fun
  | [d1, d2] => { results := [.lit (.bool false)], args := [d1, d2] }
  | _ => none }
def ShopAllWrongFalsely : Prop := shopAllRow.holds Try.pinned (OpenSpec.ofChange shopAllWrong)

/-- 'fipplelaw03.ShopMore': WHATEVER THE INPUT: true; the input reads as it did. -/
def shopMoreSpec : ChangeSpec := { name := "shopMore", fn := fun _ => fun
  | [d1, d2, d3, d4] => { results := [.lit (.bool true)], args := [d1, d2, d3, d4] }
  | _ => none }
def shopMoreRow : OpenClaim := { program := "ytlekkopaeiblfaa", sum := "45e6a33f3e6f6b100cb590aaef9c3ca4a542ff087c53dc2f61996c9c2a4560dc", func := "fipple/fipplelaw03.ShopMore", spec := "shopMore", unfollowed := true, recurses := true, plainKeys := false, apart := false }
def ShopMoreSaid : Prop := shopMoreRow.holds Try.pinned (OpenSpec.ofChange shopMoreSpec)

/-- ITS FALSE NEIGHBOUR: 'it returns false'. Refute it at one input. -/
def shopMoreWrong : ChangeSpec := { name := "shopMore", fn := fun _ => fun
  | [d1, d2, d3, d4] => { results := [.lit (.bool false)], args := [d1, d2, d3, d4] }
  | _ => none }
def ShopMoreWrongFalsely : Prop := shopMoreRow.holds Try.pinned (OpenSpec.ofChange shopMoreWrong)

/-- 'fipplelaw03.ShopTurned': WHATEVER THE INPUT: true; the input reads as it did. -/
def shopTurnedSpec : ChangeSpec := { name := "shopTurned", fn := fun _ => fun
  | [d1, d2] => { results := [.lit (.bool true)], args := [d1, d2] }
  | _ => none }
def shopTurnedRow : OpenClaim := { program := "ytlekkopaeiblfaa", sum := "45e6a33f3e6f6b100cb590aaef9c3ca4a542ff087c53dc2f61996c9c2a4560dc", func := "fipple/fipplelaw03.ShopTurned", spec := "shopTurned", unfollowed := true, recurses := true, plainKeys := false, apart := false }
def ShopTurnedSaid : Prop := shopTurnedRow.holds Try.pinned (OpenSpec.ofChange shopTurnedSpec)

/-- ITS FALSE NEIGHBOUR: 'it returns false'. Refute it at one input. -/
def shopTurnedWrong : ChangeSpec := { name := "shopTurned", fn := fun _ => fun
  | [d1, d2] => { results := [.lit (.bool false)], args := [d1, d2] }
  | _ => none }
def ShopTurnedWrongFalsely : Prop := shopTurnedRow.holds Try.pinned (OpenSpec.ofChange shopTurnedWrong)

/-- 'fipplelaw03.ShopScaled': WHATEVER THE INPUT: true; the input reads as it did. -/
def shopScaledSpec : ChangeSpec := { name := "shopScaled", fn := fun _ => fun
  | [d1, d2, d3] => { results := [.lit (.bool true)], args := [d1, d2, d3] }
  | _ => none }
def shopScaledRow : OpenClaim := { program := "ytlekkopaeiblfaa", sum := "45e6a33f3e6f6b100cb590aaef9c3ca4a542ff087c53dc2f61996c9c2a4560dc", func := "fipple/fipplelaw03.ShopScaled", spec := "shopScaled", unfollowed := true, recurses := true, plainKeys := false, apart := false }
def ShopScaledSaid : Prop := shopScaledRow.holds Try.pinned (OpenSpec.ofChange shopScaledSpec)

/-- ITS FALSE NEIGHBOUR: 'it returns false'. Refute it at one input. -/
def shopScaledWrong : ChangeSpec := { name := "shopScaled", fn := fun _ => fun
  | [d1, d2, d3] => { results := [.lit (.bool false)], args := [d1, d2, d3] }
  | _ => none }
def ShopScaledWrongFalsely : Prop := shopScaledRow.holds Try.pinned (OpenSpec.ofChange shopScaledWrong)

/-- 'fipplelaw03.ShopIdle': WHATEVER THE INPUT: true; the input reads as it did. -/
def shopIdleSpec : ChangeSpec := { name := "shopIdle", fn := fun _ => fun
  | [d1, d2] => { results := [.lit (.bool true)], args := [d1, d2] }
  | _ => none }
def shopIdleRow : OpenClaim := { program := "ytlekkopaeiblfaa", sum := "45e6a33f3e6f6b100cb590aaef9c3ca4a542ff087c53dc2f61996c9c2a4560dc", func := "fipple/fipplelaw03.ShopIdle", spec := "shopIdle", unfollowed := true, recurses := true, plainKeys := false, apart := false }
def ShopIdleSaid : Prop := shopIdleRow.holds Try.pinned (OpenSpec.ofChange shopIdleSpec)

/-- ITS FALSE NEIGHBOUR: 'it returns false'. Refute it at one input. -/
def shopIdleWrong : ChangeSpec := { name := "shopIdle", fn := fun _ => fun
  | [d1, d2] => { results := [.lit (.bool false)], args := [d1, d2] }
  | _ => none }
def ShopIdleWrongFalsely : Prop := shopIdleRow.holds Try.pinned (OpenSpec.ofChange shopIdleWrong)

/-- 'fipplelaw03.ShopKnown': WHATEVER THE INPUT: true; the input reads as it did. -/
def shopKnownSpec : ChangeSpec := { name := "shopKnown", fn := fun _ => fun
  | [] => { results := [.lit (.bool true)], args := [] }
  | _ => none }
def shopKnownRow : OpenClaim := { program := "ytlekkopaeiblfaa", sum := "45e6a33f3e6f6b100cb590aaef9c3ca4a542ff087c53dc2f61996c9c2a4560dc", func := "fipple/fipplelaw03.ShopKnown", spec := "shopKnown", unfollowed := true, recurses := true, plainKeys := false, apart := false }
def ShopKnownSaid : Prop := shopKnownRow.holds Try.pinned (OpenSpec.ofChange shopKnownSpec)

/-- ITS FALSE NEIGHBOUR: 'it returns false'. Refute it at one input. -/
def shopKnownWrong : ChangeSpec := { name := "shopKnown", fn := fun _ => fun
  | [] => { results := [.lit (.bool false)], args := [] }
  | _ => none }
def ShopKnownWrongFalsely : Prop := shopKnownRow.holds Try.pinned (OpenSpec.ofChange shopKnownWrong)

/- THE SECOND FORM. 'bulk': how many values and letters a reading holds, each counted each time it is reached (what is shared counts as often as it is met; a slice's spare places count too). A statement '..UptoSaid' is the law's where the arguments, and the package variables that the reading takes, are together of bulk at most 1048576: NARROWER than '..Said'. Prove '..Said' where nothing that the law and all that it calls make is longer than what came in: it says more and counts as full. Else prove '..UptoSaid'. A law counts once. -/
mutual
def uptoBulk {H : Type} : DataW H → Nat
  | .lit (.string bytes) => bytes.length + 1
  | .lit _ => 1
  | .nil => 1
  | .ptr d => uptoBulk d + 1
  | .slice elems spare => uptoBulkAll elems + uptoBulkAll spare + 1
  | .agg parts => uptoBulkAll parts + 1
  | .iface _ d => uptoBulk d + 1
  | .map entries => uptoBulkEntries entries + 1
  | .held _ => 1
def uptoBulkAll {H : Type} : List (DataW H) → Nat
  | [] => 0
  | d :: r => uptoBulk d + uptoBulkAll r
def uptoBulkEntries {H : Type} : List (Lit × DataW H) → Nat
  | [] => 0
  | x :: r => uptoBulkEntry x + uptoBulkEntries r
def uptoBulkEntry {H : Type} : Lit × DataW H → Nat
  | (.string bytes, d) => bytes.length + uptoBulk d + 1
  | (_, d) => uptoBulk d + 1
 end
def uptoSmall : (H : Type) → List (DataW H) → Bool := fun _ ds => decide (uptoBulkAll ds ≤ 1048576)
def OpenSpec.upto (s : _root_.Go.ChangeSpec) : _root_.Go.OpenSpec := { _root_.Go.OpenSpec.ofChange s with cond := some uptoSmall }

/-- 'fipplelaw03.ShopPlans', WHERE WHAT IT READS IS OF BULK AT MOST 1048576: true; the input reads as it did. -/
def shopPlansUptoRow : OpenClaim := { program := "ytlekkopaeiblfaa", sum := "45e6a33f3e6f6b100cb590aaef9c3ca4a542ff087c53dc2f61996c9c2a4560dc", func := "fipple/fipplelaw03.ShopPlans", spec := "shopPlans", unfollowed := true, recurses := true, plainKeys := false, apart := false, narrowed := true }
def ShopPlansUptoSaid : Prop := shopPlansUptoRow.holds Try.pinned (OpenSpec.upto shopPlansSpec)

/-- 'fipplelaw03.ShopBounds', WHERE WHAT IT READS IS OF BULK AT MOST 1048576: true; the input reads as it did. -/
def shopBoundsUptoRow : OpenClaim := { program := "ytlekkopaeiblfaa", sum := "45e6a33f3e6f6b100cb590aaef9c3ca4a542ff087c53dc2f61996c9c2a4560dc", func := "fipple/fipplelaw03.ShopBounds", spec := "shopBounds", unfollowed := true, recurses := true, plainKeys := false, apart := false, narrowed := true }
def ShopBoundsUptoSaid : Prop := shopBoundsUptoRow.holds Try.pinned (OpenSpec.upto shopBoundsSpec)

/-- 'fipplelaw03.ShopOrders', WHERE WHAT IT READS IS OF BULK AT MOST 1048576: true; the input reads as it did. -/
def shopOrdersUptoRow : OpenClaim := { program := "ytlekkopaeiblfaa", sum := "45e6a33f3e6f6b100cb590aaef9c3ca4a542ff087c53dc2f61996c9c2a4560dc", func := "fipple/fipplelaw03.ShopOrders", spec := "shopOrders", unfollowed := true, recurses := true, plainKeys := false, apart := false, narrowed := true }
def ShopOrdersUptoSaid : Prop := shopOrdersUptoRow.holds Try.pinned (OpenSpec.upto shopOrdersSpec)

/-- 'fipplelaw03.ShopCircles', WHERE WHAT IT READS IS OF BULK AT MOST 1048576: true; the input reads as it did. -/
def shopCirclesUptoRow : OpenClaim := { program := "ytlekkopaeiblfaa", sum := "45e6a33f3e6f6b100cb590aaef9c3ca4a542ff087c53dc2f61996c9c2a4560dc", func := "fipple/fipplelaw03.ShopCircles", spec := "shopCircles", unfollowed := true, recurses := true, plainKeys := false, apart := false, narrowed := true }
def ShopCirclesUptoSaid : Prop := shopCirclesUptoRow.holds Try.pinned (OpenSpec.upto shopCirclesSpec)

/-- 'fipplelaw03.ShopProved', WHERE WHAT IT READS IS OF BULK AT MOST 1048576: true; the input reads as it did. -/
def shopProvedUptoRow : OpenClaim := { program := "ytlekkopaeiblfaa", sum := "45e6a33f3e6f6b100cb590aaef9c3ca4a542ff087c53dc2f61996c9c2a4560dc", func := "fipple/fipplelaw03.ShopProved", spec := "shopProved", unfollowed := true, recurses := true, plainKeys := false, apart := false, narrowed := true }
def ShopProvedUptoSaid : Prop := shopProvedUptoRow.holds Try.pinned (OpenSpec.upto shopProvedSpec)

/-- 'fipplelaw03.ShopEither', WHERE WHAT IT READS IS OF BULK AT MOST 1048576: true; the input reads as it did. -/
def shopEitherUptoRow : OpenClaim := { program := "ytlekkopaeiblfaa", sum := "45e6a33f3e6f6b100cb590aaef9c3ca4a542ff087c53dc2f61996c9c2a4560dc", func := "fipple/fipplelaw03.ShopEither", spec := "shopEither", unfollowed := true, recurses := true, plainKeys := false, apart := false, narrowed := true }
def ShopEitherUptoSaid : Prop := shopEitherUptoRow.holds Try.pinned (OpenSpec.upto shopEitherSpec)

/-- 'fipplelaw03.ShopEarly', WHERE WHAT IT READS IS OF BULK AT MOST 1048576: true; the input reads as it did. -/
def shopEarlyUptoRow : OpenClaim := { program := "ytlekkopaeiblfaa", sum := "45e6a33f3e6f6b100cb590aaef9c3ca4a542ff087c53dc2f61996c9c2a4560dc", func := "fipple/fipplelaw03.ShopEarly", spec := "shopEarly", unfollowed := true, recurses := true, plainKeys := false, apart := false, narrowed := true }
def ShopEarlyUptoSaid : Prop := shopEarlyUptoRow.holds Try.pinned (OpenSpec.upto shopEarlySpec)

/-- 'fipplelaw03.ShopAll', WHERE WHAT IT READS IS OF BULK AT MOST 1048576: true; the input reads as it did. -/
def shopAllUptoRow : OpenClaim := { program := "ytlekkopaeiblfaa", sum := "45e6a33f3e6f6b100cb590aaef9c3ca4a542ff087c53dc2f61996c9c2a4560dc", func := "fipple/fipplelaw03.ShopAll", spec := "shopAll", unfollowed := true, recurses := true, plainKeys := false, apart := false, narrowed := true }
def ShopAllUptoSaid : Prop := shopAllUptoRow.holds Try.pinned (OpenSpec.upto shopAllSpec)

/-- 'fipplelaw03.ShopMore', WHERE WHAT IT READS IS OF BULK AT MOST 1048576: true; the input reads as it did. -/
def shopMoreUptoRow : OpenClaim := { program := "ytlekkopaeiblfaa", sum := "45e6a33f3e6f6b100cb590aaef9c3ca4a542ff087c53dc2f61996c9c2a4560dc", func := "fipple/fipplelaw03.ShopMore", spec := "shopMore", unfollowed := true, recurses := true, plainKeys := false, apart := false, narrowed := true }
def ShopMoreUptoSaid : Prop := shopMoreUptoRow.holds Try.pinned (OpenSpec.upto shopMoreSpec)

/-- 'fipplelaw03.ShopTurned', WHERE WHAT IT READS IS OF BULK AT MOST 1048576: true; the input reads as it did. -/
def shopTurnedUptoRow : OpenClaim := { program := "ytlekkopaeiblfaa", sum := "45e6a33f3e6f6b100cb590aaef9c3ca4a542ff087c53dc2f61996c9c2a4560dc", func := "fipple/fipplelaw03.ShopTurned", spec := "shopTurned", unfollowed := true, recurses := true, plainKeys := false, apart := false, narrowed := true }
def ShopTurnedUptoSaid : Prop := shopTurnedUptoRow.holds Try.pinned (OpenSpec.upto shopTurnedSpec)

/-- 'fipplelaw03.ShopScaled', WHERE WHAT IT READS IS OF BULK AT MOST 1048576: true; the input reads as it did. -/
def shopScaledUptoRow : OpenClaim := { program := "ytlekkopaeiblfaa", sum := "45e6a33f3e6f6b100cb590aaef9c3ca4a542ff087c53dc2f61996c9c2a4560dc", func := "fipple/fipplelaw03.ShopScaled", spec := "shopScaled", unfollowed := true, recurses := true, plainKeys := false, apart := false, narrowed := true }
def ShopScaledUptoSaid : Prop := shopScaledUptoRow.holds Try.pinned (OpenSpec.upto shopScaledSpec)

/-- 'fipplelaw03.ShopIdle', WHERE WHAT IT READS IS OF BULK AT MOST 1048576: true; the input reads as it did. -/
def shopIdleUptoRow : OpenClaim := { program := "ytlekkopaeiblfaa", sum := "45e6a33f3e6f6b100cb590aaef9c3ca4a542ff087c53dc2f61996c9c2a4560dc", func := "fipple/fipplelaw03.ShopIdle", spec := "shopIdle", unfollowed := true, recurses := true, plainKeys := false, apart := false, narrowed := true }
def ShopIdleUptoSaid : Prop := shopIdleUptoRow.holds Try.pinned (OpenSpec.upto shopIdleSpec)

/-- 'fipplelaw03.ShopKnown', WHERE WHAT IT READS IS OF BULK AT MOST 1048576: true; the input reads as it did. -/
def shopKnownUptoRow : OpenClaim := { program := "ytlekkopaeiblfaa", sum := "45e6a33f3e6f6b100cb590aaef9c3ca4a542ff087c53dc2f61996c9c2a4560dc", func := "fipple/fipplelaw03.ShopKnown", spec := "shopKnown", unfollowed := true, recurses := true, plainKeys := false, apart := false, narrowed := true }
def ShopKnownUptoSaid : Prop := shopKnownUptoRow.holds Try.pinned (OpenSpec.upto shopKnownSpec)

end Rows
end Go.Proofs.Ytlekkopaeiblfaa
