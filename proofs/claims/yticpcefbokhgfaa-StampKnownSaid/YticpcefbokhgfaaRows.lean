/-
  No cell of these rows narrows 'for every input' (looked for: loops, veiled, ifaces, maps, wideKeys, modest, calm, conditions, laid).
  DERIVED. THE GIVEN ROWS OF THIS SEAT. 14 by the template 'for every input the law returns true; each argument reads behind the call as it read before'; 0 by the template 'total and deterministic' (their statements: YticpcefbokhgfaaTotals.lean).
  GIVEN WITH THE SEED: the statements are not yours to turn. If you find one false, say at which input.
  Laid BY PROGRAM, IN A SANDBOX (cutbox-rows.mjs): the forced cells as the released guide's own fill.sh prints them over the translation 3a1fc64fa93dba8e… (all of the seat's roots in one cut). By AI agents, Wed Nov 11 2026. No macro, syntax, notation, axiom, sorry.
-/
import Derived.Test.YticpcefbokhgfaaChecked
import GoSem.Claim
import GoSem.ClaimJoined
import GoSem.ClaimMapViews
import Derived.JoinedTies
import Derived.KernelRfl
namespace Go.Proofs.Yticpcefbokhgfaa
/- THE CELL 'sum', in the pinned program and in every row, IS THE sha256 OF THE DUMP (.gsa) THAT YticpcefbokhgfaaProg.lean LOADS. Nothing in Lean hashes anything: it is a label: what it is worth is what the hold of that sum in a sandbox is worth. -/
noncomputable def Try.pinned : Pinned := { name := "yticpcefbokhgfaa", sum := "3a1fc64fa93dba8eb8e7353cc7b1359e572d4619d480764cf048a2fdbae05089", checked := Try.checked }
namespace Rows
def none {H : Type} : Left H := { results := [], args := [] }

/-- 'fipplelaw06.StampJoints': WHATEVER THE INPUT: true; the input reads as it did. -/
def stampJointsSpec : ChangeSpec := { name := "stampJoints", fn := fun _ => fun
  | [d] => { results := [.lit (.bool true)], args := [d] }
  | _ => none }
def stampJointsRow : OpenClaim := { program := "yticpcefbokhgfaa", sum := "3a1fc64fa93dba8eb8e7353cc7b1359e572d4619d480764cf048a2fdbae05089", func := "fipple/fipplelaw06.StampJoints", spec := "stampJoints", unfollowed := true, recurses := true, plainKeys := false, apart := false }
def StampJointsSaid : Prop := stampJointsRow.holds Try.pinned (OpenSpec.ofChange stampJointsSpec)

/-- ITS FALSE NEIGHBOUR: 'it returns false'. Refute it at one input. -/
def stampJointsWrong : ChangeSpec := { name := "stampJoints", fn := fun _ => fun
  | [d] => { results := [.lit (.bool false)], args := [d] }
  | _ => none }
def StampJointsWrongFalsely : Prop := stampJointsRow.holds Try.pinned (OpenSpec.ofChange stampJointsWrong)

/-- 'fipplelaw06.StampMoves': WHATEVER THE INPUT: true; the input reads as it did. -/
def stampMovesSpec : ChangeSpec := { name := "stampMoves", fn := fun _ => fun
  | [d1, d2] => { results := [.lit (.bool true)], args := [d1, d2] }
  | _ => none }
def stampMovesRow : OpenClaim := { program := "yticpcefbokhgfaa", sum := "3a1fc64fa93dba8eb8e7353cc7b1359e572d4619d480764cf048a2fdbae05089", func := "fipple/fipplelaw06.StampMoves", spec := "stampMoves", unfollowed := true, recurses := true, plainKeys := false, apart := false }
def StampMovesSaid : Prop := stampMovesRow.holds Try.pinned (OpenSpec.ofChange stampMovesSpec)

/-- ITS FALSE NEIGHBOUR: 'it returns false'. Refute it at one input. -/
def stampMovesWrong : ChangeSpec := { name := "stampMoves", fn := fun _ => fun
  | [d1, d2] => { results := [.lit (.bool false)], args := [d1, d2] }
  | _ => none }
def StampMovesWrongFalsely : Prop := stampMovesRow.holds Try.pinned (OpenSpec.ofChange stampMovesWrong)

/-- 'fipplelaw06.StampHabits': WHATEVER THE INPUT: true; the input reads as it did. -/
def stampHabitsSpec : ChangeSpec := { name := "stampHabits", fn := fun _ => fun
  | [d1, d2, d3] => { results := [.lit (.bool true)], args := [d1, d2, d3] }
  | _ => none }
def stampHabitsRow : OpenClaim := { program := "yticpcefbokhgfaa", sum := "3a1fc64fa93dba8eb8e7353cc7b1359e572d4619d480764cf048a2fdbae05089", func := "fipple/fipplelaw06.StampHabits", spec := "stampHabits", unfollowed := true, recurses := true, plainKeys := false, apart := false }
def StampHabitsSaid : Prop := stampHabitsRow.holds Try.pinned (OpenSpec.ofChange stampHabitsSpec)

/-- ITS FALSE NEIGHBOUR: 'it returns false'. Refute it at one input. -/
def stampHabitsWrong : ChangeSpec := { name := "stampHabits", fn := fun _ => fun
  | [d1, d2, d3] => { results := [.lit (.bool false)], args := [d1, d2, d3] }
  | _ => none }
def StampHabitsWrongFalsely : Prop := stampHabitsRow.holds Try.pinned (OpenSpec.ofChange stampHabitsWrong)

/-- 'fipplelaw06.StampRoots': WHATEVER THE INPUT: true; the input reads as it did. -/
def stampRootsSpec : ChangeSpec := { name := "stampRoots", fn := fun _ => fun
  | [d1, d2] => { results := [.lit (.bool true)], args := [d1, d2] }
  | _ => none }
def stampRootsRow : OpenClaim := { program := "yticpcefbokhgfaa", sum := "3a1fc64fa93dba8eb8e7353cc7b1359e572d4619d480764cf048a2fdbae05089", func := "fipple/fipplelaw06.StampRoots", spec := "stampRoots", unfollowed := true, recurses := true, plainKeys := false, apart := false }
def StampRootsSaid : Prop := stampRootsRow.holds Try.pinned (OpenSpec.ofChange stampRootsSpec)

/-- ITS FALSE NEIGHBOUR: 'it returns false'. Refute it at one input. -/
def stampRootsWrong : ChangeSpec := { name := "stampRoots", fn := fun _ => fun
  | [d1, d2] => { results := [.lit (.bool false)], args := [d1, d2] }
  | _ => none }
def StampRootsWrongFalsely : Prop := stampRootsRow.holds Try.pinned (OpenSpec.ofChange stampRootsWrong)

/-- 'fipplelaw06.StampReadings': WHATEVER THE INPUT: true; the input reads as it did. -/
def stampReadingsSpec : ChangeSpec := { name := "stampReadings", fn := fun _ => fun
  | [d] => { results := [.lit (.bool true)], args := [d] }
  | _ => none }
def stampReadingsRow : OpenClaim := { program := "yticpcefbokhgfaa", sum := "3a1fc64fa93dba8eb8e7353cc7b1359e572d4619d480764cf048a2fdbae05089", func := "fipple/fipplelaw06.StampReadings", spec := "stampReadings", unfollowed := true, recurses := true, plainKeys := false, apart := false }
def StampReadingsSaid : Prop := stampReadingsRow.holds Try.pinned (OpenSpec.ofChange stampReadingsSpec)

/-- ITS FALSE NEIGHBOUR: 'it returns false'. Refute it at one input. -/
def stampReadingsWrong : ChangeSpec := { name := "stampReadings", fn := fun _ => fun
  | [d] => { results := [.lit (.bool false)], args := [d] }
  | _ => none }
def StampReadingsWrongFalsely : Prop := stampReadingsRow.holds Try.pinned (OpenSpec.ofChange stampReadingsWrong)

/-- 'fipplelaw06.StampFewest': WHATEVER THE INPUT: true; the input reads as it did. -/
def stampFewestSpec : ChangeSpec := { name := "stampFewest", fn := fun _ => fun
  | [d1, d2] => { results := [.lit (.bool true)], args := [d1, d2] }
  | _ => none }
def stampFewestRow : OpenClaim := { program := "yticpcefbokhgfaa", sum := "3a1fc64fa93dba8eb8e7353cc7b1359e572d4619d480764cf048a2fdbae05089", func := "fipple/fipplelaw06.StampFewest", spec := "stampFewest", unfollowed := true, recurses := true, plainKeys := false, apart := false }
def StampFewestSaid : Prop := stampFewestRow.holds Try.pinned (OpenSpec.ofChange stampFewestSpec)

/-- ITS FALSE NEIGHBOUR: 'it returns false'. Refute it at one input. -/
def stampFewestWrong : ChangeSpec := { name := "stampFewest", fn := fun _ => fun
  | [d1, d2] => { results := [.lit (.bool false)], args := [d1, d2] }
  | _ => none }
def StampFewestWrongFalsely : Prop := stampFewestRow.holds Try.pinned (OpenSpec.ofChange stampFewestWrong)

/-- 'fipplelaw06.StampSteps': WHATEVER THE INPUT: true; the input reads as it did. -/
def stampStepsSpec : ChangeSpec := { name := "stampSteps", fn := fun _ => fun
  | [d1, d2] => { results := [.lit (.bool true)], args := [d1, d2] }
  | _ => none }
def stampStepsRow : OpenClaim := { program := "yticpcefbokhgfaa", sum := "3a1fc64fa93dba8eb8e7353cc7b1359e572d4619d480764cf048a2fdbae05089", func := "fipple/fipplelaw06.StampSteps", spec := "stampSteps", unfollowed := true, recurses := true, plainKeys := false, apart := false }
def StampStepsSaid : Prop := stampStepsRow.holds Try.pinned (OpenSpec.ofChange stampStepsSpec)

/-- ITS FALSE NEIGHBOUR: 'it returns false'. Refute it at one input. -/
def stampStepsWrong : ChangeSpec := { name := "stampSteps", fn := fun _ => fun
  | [d1, d2] => { results := [.lit (.bool false)], args := [d1, d2] }
  | _ => none }
def StampStepsWrongFalsely : Prop := stampStepsRow.holds Try.pinned (OpenSpec.ofChange stampStepsWrong)

/-- 'fipplelaw06.StampAgain': WHATEVER THE INPUT: true; the input reads as it did. -/
def stampAgainSpec : ChangeSpec := { name := "stampAgain", fn := fun _ => fun
  | [d1, d2, d3] => { results := [.lit (.bool true)], args := [d1, d2, d3] }
  | _ => none }
def stampAgainRow : OpenClaim := { program := "yticpcefbokhgfaa", sum := "3a1fc64fa93dba8eb8e7353cc7b1359e572d4619d480764cf048a2fdbae05089", func := "fipple/fipplelaw06.StampAgain", spec := "stampAgain", unfollowed := true, recurses := true, plainKeys := false, apart := false }
def StampAgainSaid : Prop := stampAgainRow.holds Try.pinned (OpenSpec.ofChange stampAgainSpec)

/-- ITS FALSE NEIGHBOUR: 'it returns false'. Refute it at one input. -/
def stampAgainWrong : ChangeSpec := { name := "stampAgain", fn := fun _ => fun
  | [d1, d2, d3] => { results := [.lit (.bool false)], args := [d1, d2, d3] }
  | _ => none }
def StampAgainWrongFalsely : Prop := stampAgainRow.holds Try.pinned (OpenSpec.ofChange stampAgainWrong)

/-- 'fipplelaw06.StampJoined': WHATEVER THE INPUT: true; the input reads as it did. -/
def stampJoinedSpec : ChangeSpec := { name := "stampJoined", fn := fun _ => fun
  | [d1, d2, d3] => { results := [.lit (.bool true)], args := [d1, d2, d3] }
  | _ => none }
def stampJoinedRow : OpenClaim := { program := "yticpcefbokhgfaa", sum := "3a1fc64fa93dba8eb8e7353cc7b1359e572d4619d480764cf048a2fdbae05089", func := "fipple/fipplelaw06.StampJoined", spec := "stampJoined", unfollowed := true, recurses := true, plainKeys := false, apart := false }
def StampJoinedSaid : Prop := stampJoinedRow.holds Try.pinned (OpenSpec.ofChange stampJoinedSpec)

/-- ITS FALSE NEIGHBOUR: 'it returns false'. Refute it at one input. -/
def stampJoinedWrong : ChangeSpec := { name := "stampJoined", fn := fun _ => fun
  | [d1, d2, d3] => { results := [.lit (.bool false)], args := [d1, d2, d3] }
  | _ => none }
def StampJoinedWrongFalsely : Prop := stampJoinedRow.holds Try.pinned (OpenSpec.ofChange stampJoinedWrong)

/-- 'fipplelaw06.StampRoot': WHATEVER THE INPUT: true; the input reads as it did. -/
def stampRootSpec : ChangeSpec := { name := "stampRoot", fn := fun _ => fun
  | [d1, d2] => { results := [.lit (.bool true)], args := [d1, d2] }
  | _ => none }
def stampRootRow : OpenClaim := { program := "yticpcefbokhgfaa", sum := "3a1fc64fa93dba8eb8e7353cc7b1359e572d4619d480764cf048a2fdbae05089", func := "fipple/fipplelaw06.StampRoot", spec := "stampRoot", unfollowed := true, recurses := true, plainKeys := false, apart := false }
def StampRootSaid : Prop := stampRootRow.holds Try.pinned (OpenSpec.ofChange stampRootSpec)

/-- ITS FALSE NEIGHBOUR: 'it returns false'. Refute it at one input. -/
def stampRootWrong : ChangeSpec := { name := "stampRoot", fn := fun _ => fun
  | [d1, d2] => { results := [.lit (.bool false)], args := [d1, d2] }
  | _ => none }
def StampRootWrongFalsely : Prop := stampRootRow.holds Try.pinned (OpenSpec.ofChange stampRootWrong)

/-- 'fipplelaw06.StampAlike': WHATEVER THE INPUT: true; the input reads as it did. -/
def stampAlikeSpec : ChangeSpec := { name := "stampAlike", fn := fun _ => fun
  | [d1, d2, d3] => { results := [.lit (.bool true)], args := [d1, d2, d3] }
  | _ => none }
def stampAlikeRow : OpenClaim := { program := "yticpcefbokhgfaa", sum := "3a1fc64fa93dba8eb8e7353cc7b1359e572d4619d480764cf048a2fdbae05089", func := "fipple/fipplelaw06.StampAlike", spec := "stampAlike", unfollowed := true, recurses := true, plainKeys := false, apart := false }
def StampAlikeSaid : Prop := stampAlikeRow.holds Try.pinned (OpenSpec.ofChange stampAlikeSpec)

/-- ITS FALSE NEIGHBOUR: 'it returns false'. Refute it at one input. -/
def stampAlikeWrong : ChangeSpec := { name := "stampAlike", fn := fun _ => fun
  | [d1, d2, d3] => { results := [.lit (.bool false)], args := [d1, d2, d3] }
  | _ => none }
def StampAlikeWrongFalsely : Prop := stampAlikeRow.holds Try.pinned (OpenSpec.ofChange stampAlikeWrong)

/-- 'fipplelaw06.StampRead': WHATEVER THE INPUT: true; the input reads as it did. -/
def stampReadSpec : ChangeSpec := { name := "stampRead", fn := fun _ => fun
  | [d1, d2, d3] => { results := [.lit (.bool true)], args := [d1, d2, d3] }
  | _ => none }
def stampReadRow : OpenClaim := { program := "yticpcefbokhgfaa", sum := "3a1fc64fa93dba8eb8e7353cc7b1359e572d4619d480764cf048a2fdbae05089", func := "fipple/fipplelaw06.StampRead", spec := "stampRead", unfollowed := true, recurses := true, plainKeys := false, apart := false }
def StampReadSaid : Prop := stampReadRow.holds Try.pinned (OpenSpec.ofChange stampReadSpec)

/-- ITS FALSE NEIGHBOUR: 'it returns false'. Refute it at one input. -/
def stampReadWrong : ChangeSpec := { name := "stampRead", fn := fun _ => fun
  | [d1, d2, d3] => { results := [.lit (.bool false)], args := [d1, d2, d3] }
  | _ => none }
def StampReadWrongFalsely : Prop := stampReadRow.holds Try.pinned (OpenSpec.ofChange stampReadWrong)

/-- 'fipplelaw06.StampReached': WHATEVER THE INPUT: true; the input reads as it did. -/
def stampReachedSpec : ChangeSpec := { name := "stampReached", fn := fun _ => fun
  | [d] => { results := [.lit (.bool true)], args := [d] }
  | _ => none }
def stampReachedRow : OpenClaim := { program := "yticpcefbokhgfaa", sum := "3a1fc64fa93dba8eb8e7353cc7b1359e572d4619d480764cf048a2fdbae05089", func := "fipple/fipplelaw06.StampReached", spec := "stampReached", unfollowed := true, recurses := true, plainKeys := false, apart := false }
def StampReachedSaid : Prop := stampReachedRow.holds Try.pinned (OpenSpec.ofChange stampReachedSpec)

/-- ITS FALSE NEIGHBOUR: 'it returns false'. Refute it at one input. -/
def stampReachedWrong : ChangeSpec := { name := "stampReached", fn := fun _ => fun
  | [d] => { results := [.lit (.bool false)], args := [d] }
  | _ => none }
def StampReachedWrongFalsely : Prop := stampReachedRow.holds Try.pinned (OpenSpec.ofChange stampReachedWrong)

/-- 'fipplelaw06.StampKnown': WHATEVER THE INPUT: true; the input reads as it did. -/
def stampKnownSpec : ChangeSpec := { name := "stampKnown", fn := fun _ => fun
  | [] => { results := [.lit (.bool true)], args := [] }
  | _ => none }
def stampKnownRow : OpenClaim := { program := "yticpcefbokhgfaa", sum := "3a1fc64fa93dba8eb8e7353cc7b1359e572d4619d480764cf048a2fdbae05089", func := "fipple/fipplelaw06.StampKnown", spec := "stampKnown", unfollowed := true, recurses := true, plainKeys := false, apart := false }
def StampKnownSaid : Prop := stampKnownRow.holds Try.pinned (OpenSpec.ofChange stampKnownSpec)

/-- ITS FALSE NEIGHBOUR: 'it returns false'. Refute it at one input. -/
def stampKnownWrong : ChangeSpec := { name := "stampKnown", fn := fun _ => fun
  | [] => { results := [.lit (.bool false)], args := [] }
  | _ => none }
def StampKnownWrongFalsely : Prop := stampKnownRow.holds Try.pinned (OpenSpec.ofChange stampKnownWrong)

/- THE SECOND FORM. 'bulk': how many values and letters a reading holds, each counted each time it is reached (what is shared counts as often as it is met; a slice's spare places count too). A statement '..UptoSaid' is the law's where the arguments, and the package variables that the reading takes, are together of bulk at most 1048576: NARROWER than '..Said'. Prove '..Said' where nothing that the law and all that it calls make is longer than what came in: it says more and counts as full. Else prove '..UptoSaid'. A law counts once. -/
mutual
def uptoBulk {H : Type} : DataW H → Nat
  | .lit (.string bytes) => bytes.length + 1
  | .lit _ => 1
  | .nil => 1
  | .ptr d => uptoBulk d + 1
  | .slice elems spare => uptoBulkAll elems + uptoBulkAll spare + 1
  | .agg parts => uptoBulkAll parts + 1
  | .iface _ d => uptoBulk d + 1
  | .map entries => uptoBulkEntries entries + 1
  | .held _ => 1
def uptoBulkAll {H : Type} : List (DataW H) → Nat
  | [] => 0
  | d :: r => uptoBulk d + uptoBulkAll r
def uptoBulkEntries {H : Type} : List (Lit × DataW H) → Nat
  | [] => 0
  | x :: r => uptoBulkEntry x + uptoBulkEntries r
def uptoBulkEntry {H : Type} : Lit × DataW H → Nat
  | (.string bytes, d) => bytes.length + uptoBulk d + 1
  | (_, d) => uptoBulk d + 1
 end
def uptoSmall : (H : Type) → List (DataW H) → Bool := fun _ ds => decide (uptoBulkAll ds ≤ 1048576)
def OpenSpec.upto (s : _root_.Go.ChangeSpec) : _root_.Go.OpenSpec := { _root_.Go.OpenSpec.ofChange s with cond := some uptoSmall }

/-- 'fipplelaw06.StampJoints', WHERE WHAT IT READS IS OF BULK AT MOST 1048576: true; the input reads as it did. -/
def stampJointsUptoRow : OpenClaim := { program := "yticpcefbokhgfaa", sum := "3a1fc64fa93dba8eb8e7353cc7b1359e572d4619d480764cf048a2fdbae05089", func := "fipple/fipplelaw06.StampJoints", spec := "stampJoints", unfollowed := true, recurses := true, plainKeys := false, apart := false, narrowed := true }
def StampJointsUptoSaid : Prop := stampJointsUptoRow.holds Try.pinned (OpenSpec.upto stampJointsSpec)

/-- 'fipplelaw06.StampMoves', WHERE WHAT IT READS IS OF BULK AT MOST 1048576: true; the input reads as it did. -/
def stampMovesUptoRow : OpenClaim := { program := "yticpcefbokhgfaa", sum := "3a1fc64fa93dba8eb8e7353cc7b1359e572d4619d480764cf048a2fdbae05089", func := "fipple/fipplelaw06.StampMoves", spec := "stampMoves", unfollowed := true, recurses := true, plainKeys := false, apart := false, narrowed := true }
def StampMovesUptoSaid : Prop := stampMovesUptoRow.holds Try.pinned (OpenSpec.upto stampMovesSpec)

/-- 'fipplelaw06.StampHabits', WHERE WHAT IT READS IS OF BULK AT MOST 1048576: true; the input reads as it did. -/
def stampHabitsUptoRow : OpenClaim := { program := "yticpcefbokhgfaa", sum := "3a1fc64fa93dba8eb8e7353cc7b1359e572d4619d480764cf048a2fdbae05089", func := "fipple/fipplelaw06.StampHabits", spec := "stampHabits", unfollowed := true, recurses := true, plainKeys := false, apart := false, narrowed := true }
def StampHabitsUptoSaid : Prop := stampHabitsUptoRow.holds Try.pinned (OpenSpec.upto stampHabitsSpec)

/-- 'fipplelaw06.StampRoots', WHERE WHAT IT READS IS OF BULK AT MOST 1048576: true; the input reads as it did. -/
def stampRootsUptoRow : OpenClaim := { program := "yticpcefbokhgfaa", sum := "3a1fc64fa93dba8eb8e7353cc7b1359e572d4619d480764cf048a2fdbae05089", func := "fipple/fipplelaw06.StampRoots", spec := "stampRoots", unfollowed := true, recurses := true, plainKeys := false, apart := false, narrowed := true }
def StampRootsUptoSaid : Prop := stampRootsUptoRow.holds Try.pinned (OpenSpec.upto stampRootsSpec)

/-- 'fipplelaw06.StampReadings', WHERE WHAT IT READS IS OF BULK AT MOST 1048576: true; the input reads as it did. -/
def stampReadingsUptoRow : OpenClaim := { program := "yticpcefbokhgfaa", sum := "3a1fc64fa93dba8eb8e7353cc7b1359e572d4619d480764cf048a2fdbae05089", func := "fipple/fipplelaw06.StampReadings", spec := "stampReadings", unfollowed := true, recurses := true, plainKeys := false, apart := false, narrowed := true }
def StampReadingsUptoSaid : Prop := stampReadingsUptoRow.holds Try.pinned (OpenSpec.upto stampReadingsSpec)

/-- 'fipplelaw06.StampFewest', WHERE WHAT IT READS IS OF BULK AT MOST 1048576: true; the input reads as it did. -/
def stampFewestUptoRow : OpenClaim := { program := "yticpcefbokhgfaa", sum := "3a1fc64fa93dba8eb8e7353cc7b1359e572d4619d480764cf048a2fdbae05089", func := "fipple/fipplelaw06.StampFewest", spec := "stampFewest", unfollowed := true, recurses := true, plainKeys := false, apart := false, narrowed := true }
def StampFewestUptoSaid : Prop := stampFewestUptoRow.holds Try.pinned (OpenSpec.upto stampFewestSpec)

/-- 'fipplelaw06.StampSteps', WHERE WHAT IT READS IS OF BULK AT MOST 1048576: true; the input reads as it did. -/
def stampStepsUptoRow : OpenClaim := { program := "yticpcefbokhgfaa", sum := "3a1fc64fa93dba8eb8e7353cc7b1359e572d4619d480764cf048a2fdbae05089", func := "fipple/fipplelaw06.StampSteps", spec := "stampSteps", unfollowed := true, recurses := true, plainKeys := false, apart := false, narrowed := true }
def StampStepsUptoSaid : Prop := stampStepsUptoRow.holds Try.pinned (OpenSpec.upto stampStepsSpec)

/-- 'fipplelaw06.StampAgain', WHERE WHAT IT READS IS OF BULK AT MOST 1048576: true; the input reads as it did. -/
def stampAgainUptoRow : OpenClaim := { program := "yticpcefbokhgfaa", sum := "3a1fc64fa93dba8eb8e7353cc7b1359e572d4619d480764cf048a2fdbae05089", func := "fipple/fipplelaw06.StampAgain", spec := "stampAgain", unfollowed := true, recurses := true, plainKeys := false, apart := false, narrowed := true }
def StampAgainUptoSaid : Prop := stampAgainUptoRow.holds Try.pinned (OpenSpec.upto stampAgainSpec)

/-- 'fipplelaw06.StampJoined', WHERE WHAT IT READS IS OF BULK AT MOST 1048576: true; the input reads as it did. -/
def stampJoinedUptoRow : OpenClaim := { program := "yticpcefbokhgfaa", sum := "3a1fc64fa93dba8eb8e7353cc7b1359e572d4619d480764cf048a2fdbae05089", func := "fipple/fipplelaw06.StampJoined", spec := "stampJoined", unfollowed := true, recurses := true, plainKeys := false, apart := false, narrowed := true }
def StampJoinedUptoSaid : Prop := stampJoinedUptoRow.holds Try.pinned (OpenSpec.upto stampJoinedSpec)

/-- 'fipplelaw06.StampRoot', WHERE WHAT IT READS IS OF BULK AT MOST 1048576: true; the input reads as it did. -/
def stampRootUptoRow : OpenClaim := { program := "yticpcefbokhgfaa", sum := "3a1fc64fa93dba8eb8e7353cc7b1359e572d4619d480764cf048a2fdbae05089", func := "fipple/fipplelaw06.StampRoot", spec := "stampRoot", unfollowed := true, recurses := true, plainKeys := false, apart := false, narrowed := true }
def StampRootUptoSaid : Prop := stampRootUptoRow.holds Try.pinned (OpenSpec.upto stampRootSpec)

/-- 'fipplelaw06.StampAlike', WHERE WHAT IT READS IS OF BULK AT MOST 1048576: true; the input reads as it did. -/
def stampAlikeUptoRow : OpenClaim := { program := "yticpcefbokhgfaa", sum := "3a1fc64fa93dba8eb8e7353cc7b1359e572d4619d480764cf048a2fdbae05089", func := "fipple/fipplelaw06.StampAlike", spec := "stampAlike", unfollowed := true, recurses := true, plainKeys := false, apart := false, narrowed := true }
def StampAlikeUptoSaid : Prop := stampAlikeUptoRow.holds Try.pinned (OpenSpec.upto stampAlikeSpec)

/-- 'fipplelaw06.StampRead', WHERE WHAT IT READS IS OF BULK AT MOST 1048576: true; the input reads as it did. -/
def stampReadUptoRow : OpenClaim := { program := "yticpcefbokhgfaa", sum := "3a1fc64fa93dba8eb8e7353cc7b1359e572d4619d480764cf048a2fdbae05089", func := "fipple/fipplelaw06.StampRead", spec := "stampRead", unfollowed := true, recurses := true, plainKeys := false, apart := false, narrowed := true }
def StampReadUptoSaid : Prop := stampReadUptoRow.holds Try.pinned (OpenSpec.upto stampReadSpec)

/-- 'fipplelaw06.StampReached', WHERE WHAT IT READS IS OF BULK AT MOST 1048576: true; the input reads as it did. -/
def stampReachedUptoRow : OpenClaim := { program := "yticpcefbokhgfaa", sum := "3a1fc64fa93dba8eb8e7353cc7b1359e572d4619d480764cf048a2fdbae05089", func := "fipple/fipplelaw06.StampReached", spec := "stampReached", unfollowed := true, recurses := true, plainKeys := false, apart := false, narrowed := true }
def StampReachedUptoSaid : Prop := stampReachedUptoRow.holds Try.pinned (OpenSpec.upto stampReachedSpec)

/-- 'fipplelaw06.StampKnown', WHERE WHAT IT READS IS OF BULK AT MOST 1048576: true; the input reads as it did. -/
def stampKnownUptoRow : OpenClaim := { program := "yticpcefbokhgfaa", sum := "3a1fc64fa93dba8eb8e7353cc7b1359e572d4619d480764cf048a2fdbae05089", func := "fipple/fipplelaw06.StampKnown", spec := "stampKnown", unfollowed := true, recurses := true, plainKeys := false, apart := false, narrowed := true }
def StampKnownUptoSaid : Prop := stampKnownUptoRow.holds Try.pinned (OpenSpec.upto stampKnownSpec)

end Rows
end Go.Proofs.Yticpcefbokhgfaa
