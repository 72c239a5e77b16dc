/-
  No cell of these rows narrows 'for every input' (looked for: loops, veiled, ifaces, maps, wideKeys, modest, calm, conditions, laid).
  DERIVED. THE GIVEN ROWS OF THIS SEAT. 13 by the template 'for every input the law returns true; each argument reads behind the call as it read before'; 0 by the template 'total and deterministic' (their statements: YtkhokmfjnjfojaaTotals.lean).
  GIVEN WITH THE SEED: the statements are not yours to turn. If you find one false, say at which input.
  Laid BY PROGRAM, IN A SANDBOX (cutbox-rows.mjs): the forced cells as the released guide's own fill.sh prints them over the translation 9992fced2fb1ace9… (all of the seat's roots in one cut). By AI agents, Wed Nov 11 2026. No macro, syntax, notation, axiom, sorry.
-/
import Derived.Test.YtkhokmfjnjfojaaChecked
import GoSem.Claim
import GoSem.ClaimJoined
import GoSem.ClaimMapViews
import Derived.JoinedTies
import Derived.KernelRfl
namespace Go.Proofs.Ytkhokmfjnjfojaa
/- THE CELL 'sum', in the pinned program and in every row, IS THE sha256 OF THE DUMP (.gsa) THAT YtkhokmfjnjfojaaProg.lean LOADS. Nothing in Lean hashes anything: it is a label: what it is worth is what the hold of that sum in a sandbox is worth. -/
noncomputable def Try.pinned : Pinned := { name := "ytkhokmfjnjfojaa", sum := "9992fced2fb1ace9ec6071cc34f8660c8127647145822c3f96aac57686aa2460", checked := Try.checked }
namespace Rows
def none {H : Type} : Left H := { results := [], args := [] }

/-- 'fipplelaw09.SearchTrees': WHATEVER THE INPUT: true; the input reads as it did. -/
def searchTreesSpec : ChangeSpec := { name := "searchTrees", fn := fun _ => fun
  | [d1, d2] => { results := [.lit (.bool true)], args := [d1, d2] }
  | _ => none }
def searchTreesRow : OpenClaim := { program := "ytkhokmfjnjfojaa", sum := "9992fced2fb1ace9ec6071cc34f8660c8127647145822c3f96aac57686aa2460", func := "fipple/fipplelaw09.SearchTrees", spec := "searchTrees", unfollowed := true, recurses := true, plainKeys := false, apart := false }
def SearchTreesSaid : Prop := searchTreesRow.holds Try.pinned (OpenSpec.ofChange searchTreesSpec)

/-- ITS FALSE NEIGHBOUR: 'it returns false'. Refute it at one input. -/
def searchTreesWrong : ChangeSpec := { name := "searchTrees", fn := fun _ => fun
  | [d1, d2] => { results := [.lit (.bool false)], args := [d1, d2] }
  | _ => none }
def SearchTreesWrongFalsely : Prop := searchTreesRow.holds Try.pinned (OpenSpec.ofChange searchTreesWrong)

/-- 'fipplelaw09.SearchCosts': WHATEVER THE INPUT: true; the input reads as it did. -/
def searchCostsSpec : ChangeSpec := { name := "searchCosts", fn := fun _ => fun
  | [d1, d2] => { results := [.lit (.bool true)], args := [d1, d2] }
  | _ => none }
def searchCostsRow : OpenClaim := { program := "ytkhokmfjnjfojaa", sum := "9992fced2fb1ace9ec6071cc34f8660c8127647145822c3f96aac57686aa2460", func := "fipple/fipplelaw09.SearchCosts", spec := "searchCosts", unfollowed := true, recurses := true, plainKeys := false, apart := false }
def SearchCostsSaid : Prop := searchCostsRow.holds Try.pinned (OpenSpec.ofChange searchCostsSpec)

/-- ITS FALSE NEIGHBOUR: 'it returns false'. Refute it at one input. -/
def searchCostsWrong : ChangeSpec := { name := "searchCosts", fn := fun _ => fun
  | [d1, d2] => { results := [.lit (.bool false)], args := [d1, d2] }
  | _ => none }
def SearchCostsWrongFalsely : Prop := searchCostsRow.holds Try.pinned (OpenSpec.ofChange searchCostsWrong)

/-- 'fipplelaw09.SearchOrders': WHATEVER THE INPUT: true; the input reads as it did. -/
def searchOrdersSpec : ChangeSpec := { name := "searchOrders", fn := fun _ => fun
  | [d1, d2, d3] => { results := [.lit (.bool true)], args := [d1, d2, d3] }
  | _ => none }
def searchOrdersRow : OpenClaim := { program := "ytkhokmfjnjfojaa", sum := "9992fced2fb1ace9ec6071cc34f8660c8127647145822c3f96aac57686aa2460", func := "fipple/fipplelaw09.SearchOrders", spec := "searchOrders", unfollowed := true, recurses := true, plainKeys := false, apart := false }
def SearchOrdersSaid : Prop := searchOrdersRow.holds Try.pinned (OpenSpec.ofChange searchOrdersSpec)

/-- ITS FALSE NEIGHBOUR: 'it returns false'. Refute it at one input. -/
def searchOrdersWrong : ChangeSpec := { name := "searchOrders", fn := fun _ => fun
  | [d1, d2, d3] => { results := [.lit (.bool false)], args := [d1, d2, d3] }
  | _ => none }
def SearchOrdersWrongFalsely : Prop := searchOrdersRow.holds Try.pinned (OpenSpec.ofChange searchOrdersWrong)

/-- 'fipplelaw09.SearchProved': WHATEVER THE INPUT: true; the input reads as it did. -/
def searchProvedSpec : ChangeSpec := { name := "searchProved", fn := fun _ => fun
  | [d1, d2, d3] => { results := [.lit (.bool true)], args := [d1, d2, d3] }
  | _ => none }
def searchProvedRow : OpenClaim := { program := "ytkhokmfjnjfojaa", sum := "9992fced2fb1ace9ec6071cc34f8660c8127647145822c3f96aac57686aa2460", func := "fipple/fipplelaw09.SearchProved", spec := "searchProved", unfollowed := true, recurses := true, plainKeys := false, apart := false }
def SearchProvedSaid : Prop := searchProvedRow.holds Try.pinned (OpenSpec.ofChange searchProvedSpec)

/-- ITS FALSE NEIGHBOUR: 'it returns false'. Refute it at one input. -/
def searchProvedWrong : ChangeSpec := { name := "searchProved", fn := fun _ => fun
  | [d1, d2, d3] => { results := [.lit (.bool false)], args := [d1, d2, d3] }
  | _ => none }
def SearchProvedWrongFalsely : Prop := searchProvedRow.holds Try.pinned (OpenSpec.ofChange searchProvedWrong)

/-- 'fipplelaw09.SearchTried': WHATEVER THE INPUT: true; the input reads as it did. -/
def searchTriedSpec : ChangeSpec := { name := "searchTried", fn := fun _ => fun
  | [d1, d2, d3] => { results := [.lit (.bool true)], args := [d1, d2, d3] }
  | _ => none }
def searchTriedRow : OpenClaim := { program := "ytkhokmfjnjfojaa", sum := "9992fced2fb1ace9ec6071cc34f8660c8127647145822c3f96aac57686aa2460", func := "fipple/fipplelaw09.SearchTried", spec := "searchTried", unfollowed := true, recurses := true, plainKeys := false, apart := false }
def SearchTriedSaid : Prop := searchTriedRow.holds Try.pinned (OpenSpec.ofChange searchTriedSpec)

/-- ITS FALSE NEIGHBOUR: 'it returns false'. Refute it at one input. -/
def searchTriedWrong : ChangeSpec := { name := "searchTried", fn := fun _ => fun
  | [d1, d2, d3] => { results := [.lit (.bool false)], args := [d1, d2, d3] }
  | _ => none }
def SearchTriedWrongFalsely : Prop := searchTriedRow.holds Try.pinned (OpenSpec.ofChange searchTriedWrong)

/-- 'fipplelaw09.SearchRooted': WHATEVER THE INPUT: true; the input reads as it did. -/
def searchRootedSpec : ChangeSpec := { name := "searchRooted", fn := fun _ => fun
  | [d1, d2, d3] => { results := [.lit (.bool true)], args := [d1, d2, d3] }
  | _ => none }
def searchRootedRow : OpenClaim := { program := "ytkhokmfjnjfojaa", sum := "9992fced2fb1ace9ec6071cc34f8660c8127647145822c3f96aac57686aa2460", func := "fipple/fipplelaw09.SearchRooted", spec := "searchRooted", unfollowed := true, recurses := true, plainKeys := false, apart := false }
def SearchRootedSaid : Prop := searchRootedRow.holds Try.pinned (OpenSpec.ofChange searchRootedSpec)

/-- ITS FALSE NEIGHBOUR: 'it returns false'. Refute it at one input. -/
def searchRootedWrong : ChangeSpec := { name := "searchRooted", fn := fun _ => fun
  | [d1, d2, d3] => { results := [.lit (.bool false)], args := [d1, d2, d3] }
  | _ => none }
def SearchRootedWrongFalsely : Prop := searchRootedRow.holds Try.pinned (OpenSpec.ofChange searchRootedWrong)

/-- 'fipplelaw09.SearchCrossed': WHATEVER THE INPUT: true; the input reads as it did. -/
def searchCrossedSpec : ChangeSpec := { name := "searchCrossed", fn := fun _ => fun
  | [d1, d2, d3, d4, d5] => { results := [.lit (.bool true)], args := [d1, d2, d3, d4, d5] }
  | _ => none }
def searchCrossedRow : OpenClaim := { program := "ytkhokmfjnjfojaa", sum := "9992fced2fb1ace9ec6071cc34f8660c8127647145822c3f96aac57686aa2460", func := "fipple/fipplelaw09.SearchCrossed", spec := "searchCrossed", unfollowed := true, recurses := true, plainKeys := false, apart := false }
def SearchCrossedSaid : Prop := searchCrossedRow.holds Try.pinned (OpenSpec.ofChange searchCrossedSpec)

/-- ITS FALSE NEIGHBOUR: 'it returns false'. Refute it at one input. -/
def searchCrossedWrong : ChangeSpec := { name := "searchCrossed", fn := fun _ => fun
  | [d1, d2, d3, d4, d5] => { results := [.lit (.bool false)], args := [d1, d2, d3, d4, d5] }
  | _ => none }
def SearchCrossedWrongFalsely : Prop := searchCrossedRow.holds Try.pinned (OpenSpec.ofChange searchCrossedWrong)

/-- 'fipplelaw09.SearchOrdered': WHATEVER THE INPUT: true; the input reads as it did. -/
def searchOrderedSpec : ChangeSpec := { name := "searchOrdered", fn := fun _ => fun
  | [d1, d2, d3, d4] => { results := [.lit (.bool true)], args := [d1, d2, d3, d4] }
  | _ => none }
def searchOrderedRow : OpenClaim := { program := "ytkhokmfjnjfojaa", sum := "9992fced2fb1ace9ec6071cc34f8660c8127647145822c3f96aac57686aa2460", func := "fipple/fipplelaw09.SearchOrdered", spec := "searchOrdered", unfollowed := true, recurses := true, plainKeys := false, apart := false }
def SearchOrderedSaid : Prop := searchOrderedRow.holds Try.pinned (OpenSpec.ofChange searchOrderedSpec)

/-- ITS FALSE NEIGHBOUR: 'it returns false'. Refute it at one input. -/
def searchOrderedWrong : ChangeSpec := { name := "searchOrdered", fn := fun _ => fun
  | [d1, d2, d3, d4] => { results := [.lit (.bool false)], args := [d1, d2, d3, d4] }
  | _ => none }
def SearchOrderedWrongFalsely : Prop := searchOrderedRow.holds Try.pinned (OpenSpec.ofChange searchOrderedWrong)

/-- 'fipplelaw09.SearchCounted': WHATEVER THE INPUT: true; the input reads as it did. -/
def searchCountedSpec : ChangeSpec := { name := "searchCounted", fn := fun _ => fun
  | [d] => { results := [.lit (.bool true)], args := [d] }
  | _ => none }
def searchCountedRow : OpenClaim := { program := "ytkhokmfjnjfojaa", sum := "9992fced2fb1ace9ec6071cc34f8660c8127647145822c3f96aac57686aa2460", func := "fipple/fipplelaw09.SearchCounted", spec := "searchCounted", unfollowed := true, recurses := true, plainKeys := false, apart := false }
def SearchCountedSaid : Prop := searchCountedRow.holds Try.pinned (OpenSpec.ofChange searchCountedSpec)

/-- ITS FALSE NEIGHBOUR: 'it returns false'. Refute it at one input. -/
def searchCountedWrong : ChangeSpec := { name := "searchCounted", fn := fun _ => fun
  | [d] => { results := [.lit (.bool false)], args := [d] }
  | _ => none }
def SearchCountedWrongFalsely : Prop := searchCountedRow.holds Try.pinned (OpenSpec.ofChange searchCountedWrong)

/-- 'fipplelaw09.SearchMirrored': WHATEVER THE INPUT: true; the input reads as it did. -/
def searchMirroredSpec : ChangeSpec := { name := "searchMirrored", fn := fun _ => fun
  | [d1, d2] => { results := [.lit (.bool true)], args := [d1, d2] }
  | _ => none }
def searchMirroredRow : OpenClaim := { program := "ytkhokmfjnjfojaa", sum := "9992fced2fb1ace9ec6071cc34f8660c8127647145822c3f96aac57686aa2460", func := "fipple/fipplelaw09.SearchMirrored", spec := "searchMirrored", unfollowed := true, recurses := true, plainKeys := false, apart := false }
def SearchMirroredSaid : Prop := searchMirroredRow.holds Try.pinned (OpenSpec.ofChange searchMirroredSpec)

/-- ITS FALSE NEIGHBOUR: 'it returns false'. Refute it at one input. -/
def searchMirroredWrong : ChangeSpec := { name := "searchMirrored", fn := fun _ => fun
  | [d1, d2] => { results := [.lit (.bool false)], args := [d1, d2] }
  | _ => none }
def SearchMirroredWrongFalsely : Prop := searchMirroredRow.holds Try.pinned (OpenSpec.ofChange searchMirroredWrong)

/-- 'fipplelaw09.SearchMore': WHATEVER THE INPUT: true; the input reads as it did. -/
def searchMoreSpec : ChangeSpec := { name := "searchMore", fn := fun _ => fun
  | [d1, d2, d3, d4, d5] => { results := [.lit (.bool true)], args := [d1, d2, d3, d4, d5] }
  | _ => none }
def searchMoreRow : OpenClaim := { program := "ytkhokmfjnjfojaa", sum := "9992fced2fb1ace9ec6071cc34f8660c8127647145822c3f96aac57686aa2460", func := "fipple/fipplelaw09.SearchMore", spec := "searchMore", unfollowed := true, recurses := true, plainKeys := false, apart := false }
def SearchMoreSaid : Prop := searchMoreRow.holds Try.pinned (OpenSpec.ofChange searchMoreSpec)

/-- ITS FALSE NEIGHBOUR: 'it returns false'. Refute it at one input. -/
def searchMoreWrong : ChangeSpec := { name := "searchMore", fn := fun _ => fun
  | [d1, d2, d3, d4, d5] => { results := [.lit (.bool false)], args := [d1, d2, d3, d4, d5] }
  | _ => none }
def SearchMoreWrongFalsely : Prop := searchMoreRow.holds Try.pinned (OpenSpec.ofChange searchMoreWrong)

/-- 'fipplelaw09.SearchLow': WHATEVER THE INPUT: true; the input reads as it did. -/
def searchLowSpec : ChangeSpec := { name := "searchLow", fn := fun _ => fun
  | [d1, d2, d3] => { results := [.lit (.bool true)], args := [d1, d2, d3] }
  | _ => none }
def searchLowRow : OpenClaim := { program := "ytkhokmfjnjfojaa", sum := "9992fced2fb1ace9ec6071cc34f8660c8127647145822c3f96aac57686aa2460", func := "fipple/fipplelaw09.SearchLow", spec := "searchLow", unfollowed := true, recurses := true, plainKeys := false, apart := false }
def SearchLowSaid : Prop := searchLowRow.holds Try.pinned (OpenSpec.ofChange searchLowSpec)

/-- ITS FALSE NEIGHBOUR: 'it returns false'. Refute it at one input. -/
def searchLowWrong : ChangeSpec := { name := "searchLow", fn := fun _ => fun
  | [d1, d2, d3] => { results := [.lit (.bool false)], args := [d1, d2, d3] }
  | _ => none }
def SearchLowWrongFalsely : Prop := searchLowRow.holds Try.pinned (OpenSpec.ofChange searchLowWrong)

/-- 'fipplelaw09.SearchKnown': WHATEVER THE INPUT: true; the input reads as it did. -/
def searchKnownSpec : ChangeSpec := { name := "searchKnown", fn := fun _ => fun
  | [] => { results := [.lit (.bool true)], args := [] }
  | _ => none }
def searchKnownRow : OpenClaim := { program := "ytkhokmfjnjfojaa", sum := "9992fced2fb1ace9ec6071cc34f8660c8127647145822c3f96aac57686aa2460", func := "fipple/fipplelaw09.SearchKnown", spec := "searchKnown", unfollowed := true, recurses := true, plainKeys := false, apart := false }
def SearchKnownSaid : Prop := searchKnownRow.holds Try.pinned (OpenSpec.ofChange searchKnownSpec)

/-- ITS FALSE NEIGHBOUR: 'it returns false'. Refute it at one input. -/
def searchKnownWrong : ChangeSpec := { name := "searchKnown", fn := fun _ => fun
  | [] => { results := [.lit (.bool false)], args := [] }
  | _ => none }
def SearchKnownWrongFalsely : Prop := searchKnownRow.holds Try.pinned (OpenSpec.ofChange searchKnownWrong)

/- THE SECOND FORM. 'bulk': how many values and letters a reading holds, each counted each time it is reached (what is shared counts as often as it is met; a slice's spare places count too). A statement '..UptoSaid' is the law's where the arguments, and the package variables that the reading takes, are together of bulk at most 1048576: NARROWER than '..Said'. Prove '..Said' where nothing that the law and all that it calls make is longer than what came in: it says more and counts as full. Else prove '..UptoSaid'. A law counts once. -/
mutual
def uptoBulk {H : Type} : DataW H → Nat
  | .lit (.string bytes) => bytes.length + 1
  | .lit _ => 1
  | .nil => 1
  | .ptr d => uptoBulk d + 1
  | .slice elems spare => uptoBulkAll elems + uptoBulkAll spare + 1
  | .agg parts => uptoBulkAll parts + 1
  | .iface _ d => uptoBulk d + 1
  | .map entries => uptoBulkEntries entries + 1
  | .held _ => 1
def uptoBulkAll {H : Type} : List (DataW H) → Nat
  | [] => 0
  | d :: r => uptoBulk d + uptoBulkAll r
def uptoBulkEntries {H : Type} : List (Lit × DataW H) → Nat
  | [] => 0
  | x :: r => uptoBulkEntry x + uptoBulkEntries r
def uptoBulkEntry {H : Type} : Lit × DataW H → Nat
  | (.string bytes, d) => bytes.length + uptoBulk d + 1
  | (_, d) => uptoBulk d + 1
 end
def uptoSmall : (H : Type) → List (DataW H) → Bool := fun _ ds => decide (uptoBulkAll ds ≤ 1048576)
def OpenSpec.upto (s : _root_.Go.ChangeSpec) : _root_.Go.OpenSpec := { _root_.Go.OpenSpec.ofChange s with cond := some uptoSmall }

/-- 'fipplelaw09.SearchTrees', WHERE WHAT IT READS IS OF BULK AT MOST 1048576: true; the input reads as it did. -/
def searchTreesUptoRow : OpenClaim := { program := "ytkhokmfjnjfojaa", sum := "9992fced2fb1ace9ec6071cc34f8660c8127647145822c3f96aac57686aa2460", func := "fipple/fipplelaw09.SearchTrees", spec := "searchTrees", unfollowed := true, recurses := true, plainKeys := false, apart := false, narrowed := true }
def SearchTreesUptoSaid : Prop := searchTreesUptoRow.holds Try.pinned (OpenSpec.upto searchTreesSpec)

/-- 'fipplelaw09.SearchCosts', WHERE WHAT IT READS IS OF BULK AT MOST 1048576: true; the input reads as it did. -/
def searchCostsUptoRow : OpenClaim := { program := "ytkhokmfjnjfojaa", sum := "9992fced2fb1ace9ec6071cc34f8660c8127647145822c3f96aac57686aa2460", func := "fipple/fipplelaw09.SearchCosts", spec := "searchCosts", unfollowed := true, recurses := true, plainKeys := false, apart := false, narrowed := true }
def SearchCostsUptoSaid : Prop := searchCostsUptoRow.holds Try.pinned (OpenSpec.upto searchCostsSpec)

/-- 'fipplelaw09.SearchOrders', WHERE WHAT IT READS IS OF BULK AT MOST 1048576: true; the input reads as it did. -/
def searchOrdersUptoRow : OpenClaim := { program := "ytkhokmfjnjfojaa", sum := "9992fced2fb1ace9ec6071cc34f8660c8127647145822c3f96aac57686aa2460", func := "fipple/fipplelaw09.SearchOrders", spec := "searchOrders", unfollowed := true, recurses := true, plainKeys := false, apart := false, narrowed := true }
def SearchOrdersUptoSaid : Prop := searchOrdersUptoRow.holds Try.pinned (OpenSpec.upto searchOrdersSpec)

/-- 'fipplelaw09.SearchProved', WHERE WHAT IT READS IS OF BULK AT MOST 1048576: true; the input reads as it did. -/
def searchProvedUptoRow : OpenClaim := { program := "ytkhokmfjnjfojaa", sum := "9992fced2fb1ace9ec6071cc34f8660c8127647145822c3f96aac57686aa2460", func := "fipple/fipplelaw09.SearchProved", spec := "searchProved", unfollowed := true, recurses := true, plainKeys := false, apart := false, narrowed := true }
def SearchProvedUptoSaid : Prop := searchProvedUptoRow.holds Try.pinned (OpenSpec.upto searchProvedSpec)

/-- 'fipplelaw09.SearchTried', WHERE WHAT IT READS IS OF BULK AT MOST 1048576: true; the input reads as it did. -/
def searchTriedUptoRow : OpenClaim := { program := "ytkhokmfjnjfojaa", sum := "9992fced2fb1ace9ec6071cc34f8660c8127647145822c3f96aac57686aa2460", func := "fipple/fipplelaw09.SearchTried", spec := "searchTried", unfollowed := true, recurses := true, plainKeys := false, apart := false, narrowed := true }
def SearchTriedUptoSaid : Prop := searchTriedUptoRow.holds Try.pinned (OpenSpec.upto searchTriedSpec)

/-- 'fipplelaw09.SearchRooted', WHERE WHAT IT READS IS OF BULK AT MOST 1048576: true; the input reads as it did. -/
def searchRootedUptoRow : OpenClaim := { program := "ytkhokmfjnjfojaa", sum := "9992fced2fb1ace9ec6071cc34f8660c8127647145822c3f96aac57686aa2460", func := "fipple/fipplelaw09.SearchRooted", spec := "searchRooted", unfollowed := true, recurses := true, plainKeys := false, apart := false, narrowed := true }
def SearchRootedUptoSaid : Prop := searchRootedUptoRow.holds Try.pinned (OpenSpec.upto searchRootedSpec)

/-- 'fipplelaw09.SearchCrossed', WHERE WHAT IT READS IS OF BULK AT MOST 1048576: true; the input reads as it did. -/
def searchCrossedUptoRow : OpenClaim := { program := "ytkhokmfjnjfojaa", sum := "9992fced2fb1ace9ec6071cc34f8660c8127647145822c3f96aac57686aa2460", func := "fipple/fipplelaw09.SearchCrossed", spec := "searchCrossed", unfollowed := true, recurses := true, plainKeys := false, apart := false, narrowed := true }
def SearchCrossedUptoSaid : Prop := searchCrossedUptoRow.holds Try.pinned (OpenSpec.upto searchCrossedSpec)

/-- 'fipplelaw09.SearchOrdered', WHERE WHAT IT READS IS OF BULK AT MOST 1048576: true; the input reads as it did. -/
def searchOrderedUptoRow : OpenClaim := { program := "ytkhokmfjnjfojaa", sum := "9992fced2fb1ace9ec6071cc34f8660c8127647145822c3f96aac57686aa2460", func := "fipple/fipplelaw09.SearchOrdered", spec := "searchOrdered", unfollowed := true, recurses := true, plainKeys := false, apart := false, narrowed := true }
def SearchOrderedUptoSaid : Prop := searchOrderedUptoRow.holds Try.pinned (OpenSpec.upto searchOrderedSpec)

/-- 'fipplelaw09.SearchCounted', WHERE WHAT IT READS IS OF BULK AT MOST 1048576: true; the input reads as it did. -/
def searchCountedUptoRow : OpenClaim := { program := "ytkhokmfjnjfojaa", sum := "9992fced2fb1ace9ec6071cc34f8660c8127647145822c3f96aac57686aa2460", func := "fipple/fipplelaw09.SearchCounted", spec := "searchCounted", unfollowed := true, recurses := true, plainKeys := false, apart := false, narrowed := true }
def SearchCountedUptoSaid : Prop := searchCountedUptoRow.holds Try.pinned (OpenSpec.upto searchCountedSpec)

/-- 'fipplelaw09.SearchMirrored', WHERE WHAT IT READS IS OF BULK AT MOST 1048576: true; the input reads as it did. -/
def searchMirroredUptoRow : OpenClaim := { program := "ytkhokmfjnjfojaa", sum := "9992fced2fb1ace9ec6071cc34f8660c8127647145822c3f96aac57686aa2460", func := "fipple/fipplelaw09.SearchMirrored", spec := "searchMirrored", unfollowed := true, recurses := true, plainKeys := false, apart := false, narrowed := true }
def SearchMirroredUptoSaid : Prop := searchMirroredUptoRow.holds Try.pinned (OpenSpec.upto searchMirroredSpec)

/-- 'fipplelaw09.SearchMore', WHERE WHAT IT READS IS OF BULK AT MOST 1048576: true; the input reads as it did. -/
def searchMoreUptoRow : OpenClaim := { program := "ytkhokmfjnjfojaa", sum := "9992fced2fb1ace9ec6071cc34f8660c8127647145822c3f96aac57686aa2460", func := "fipple/fipplelaw09.SearchMore", spec := "searchMore", unfollowed := true, recurses := true, plainKeys := false, apart := false, narrowed := true }
def SearchMoreUptoSaid : Prop := searchMoreUptoRow.holds Try.pinned (OpenSpec.upto searchMoreSpec)

/-- 'fipplelaw09.SearchLow', WHERE WHAT IT READS IS OF BULK AT MOST 1048576: true; the input reads as it did. -/
def searchLowUptoRow : OpenClaim := { program := "ytkhokmfjnjfojaa", sum := "9992fced2fb1ace9ec6071cc34f8660c8127647145822c3f96aac57686aa2460", func := "fipple/fipplelaw09.SearchLow", spec := "searchLow", unfollowed := true, recurses := true, plainKeys := false, apart := false, narrowed := true }
def SearchLowUptoSaid : Prop := searchLowUptoRow.holds Try.pinned (OpenSpec.upto searchLowSpec)

/-- 'fipplelaw09.SearchKnown', WHERE WHAT IT READS IS OF BULK AT MOST 1048576: true; the input reads as it did. -/
def searchKnownUptoRow : OpenClaim := { program := "ytkhokmfjnjfojaa", sum := "9992fced2fb1ace9ec6071cc34f8660c8127647145822c3f96aac57686aa2460", func := "fipple/fipplelaw09.SearchKnown", spec := "searchKnown", unfollowed := true, recurses := true, plainKeys := false, apart := false, narrowed := true }
def SearchKnownUptoSaid : Prop := searchKnownUptoRow.holds Try.pinned (OpenSpec.upto searchKnownSpec)

end Rows
end Go.Proofs.Ytkhokmfjnjfojaa
