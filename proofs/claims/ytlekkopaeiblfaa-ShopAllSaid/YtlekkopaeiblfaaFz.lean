/- Rows of rows; shifts; a walk's world as a new beginning. Generic. -/
import Derived.Test.YtlekkopaeiblfaaFip
import Derived.Laws.Entries
set_option linter.unusedVariables false
set_option linter.unusedSimpArgs false
set_option linter.unusedSectionVars false
set_option linter.unnecessarySimpa false
namespace Go.Fip
open Go.RowKit
/-- A slice of a row of its own, by its block, its length and its capacity. -/
def sv (s : Nat × Nat × Nat) : Value := .slice (some ⟨s.1, 0, none⟩) s.2.1 s.2.2
def encS (s : Nat × Nat × Nat) : List Value := [sv s]
theorem Ow.sv {α : Type} {lo hi E sz : Nat} {enc : α → List Value} {v : Value} {xs : List α} {w : World} (h : Ow lo hi E sz enc v xs w) (hx : 1 ≤ xs.length) : ∃ s, v = sv s := by
  rcases h.1.2 with ⟨_, h3⟩ | ⟨g, cap, cur, rfl, _⟩
  · omega
  · exact ⟨(g, xs.length, cap), rfl⟩
theorem Heap.sv {α : Type} {lo hi E sz n : Nat} {enc : α → List Value} {v : Value} {xs : List α} {H : List Item} {w : World} (hH : Heap H w) (hn : H[n]? = some (ow lo hi E sz enc v xs)) (hx : 1 ≤ xs.length) : ∃ s, v = Fip.sv s :=
  Ow.sv (show Ow _ _ _ _ _ _ _ _ from hH.get hn) hx
theorem Heap.unbase {H : List Item} {w0 wb w : World} (hH : Heap (base wb :: H) w) (hb : Below w0.heap.size w0 wb) : Heap (base w0 :: H) w := by
  have hbw : Below wb.heap.size wb w := hH.get (n := 0) rfl
  refine ⟨fun i hi => ?_, ?_⟩
  · rcases List.mem_cons.1 hi with rfl | hi
    · refine ⟨Nat.zero_le _, Nat.le_trans hb.size hbw.size, fun w' ha => ?_⟩
      exact (hb.trans (hbw.mono hb.size)).trans ha.below
    · exact hH.ok i (List.mem_cons_of_mem _ hi)
  · have hp := hH.apart
    rw [List.pairwise_cons] at hp ⊢
    refine ⟨fun j hj => ?_, hp.2⟩
    rcases hp.1 j hj with h | h
    · exact .inl (Nat.le_trans hb.size h)
    · exact .inr h
section yv3
variable {P : Program} {N : Nat} {ds : List Deferred} {env : Env} {S : World → Prop} {x y : Operand}
theorem yv_shl1 {T T' : TypeId} {n : Int} {m : Int} (hx : ev env x = some (.int .i64 1)) (hy : ev env y = some (.int .i64 n)) (h0 : 0 ≤ n ∧ n ≤ 60) (hm : IntKind.i64.wrap (1 * 2 ^ n.toNat) = m) : Yv P N ds env (.binOp .shl T x y T') (.int .i64 m) S := fun act hact w _ _ _ _ _ _ => by
  have e := shift_shl .i64 .i64 1 n h0.1 (show n ≤ IntKind.i64.bits by show n ≤ 64; omega)
  simp only [execOp, hact.ev hx, hact.ev hy, eqGuard, binOp, Sem.run_bind]
  rw [e, hm]
  rfl
theorem yv_shr {T T' : TypeId} {n m : Int} (hx : ev env x = some (.int .i64 m)) (hy : ev env y = some (.int .i64 n)) (h0 : 0 ≤ n ∧ n ≤ 60) : Yv P N ds env (.binOp .shr T x y T') (.int .i64 (m / 2 ^ n.toNat)) S := fun act hact w _ _ _ _ _ _ => by
  have e := shift_shr .i64 .i64 m n h0.1 (show n ≤ IntKind.i64.bits by show n ≤ 64; omega)
  simp only [execOp, hact.ev hx, hact.ev hy, eqGuard, binOp, Sem.run_bind]
  rw [e]
  rfl
theorem and_one (m : Int) (h0 : 0 ≤ m) (h1 : m ≤ 1000000) : IntKind.i64.wrap ((BitVec.ofInt 64 m &&& BitVec.ofInt 64 1).toNat : Int) = m % 2 := by
  obtain ⟨n, rfl⟩ := Int.eq_ofNat_of_zero_le h0
  have e1 : (BitVec.ofInt 64 (n : Int)).toNat = n := by
    rw [BitVec.toNat_ofInt]; omega
  have e2 : (BitVec.ofInt 64 1).toNat = 1 := rfl
  rw [BitVec.toNat_and, e1, e2, Nat.and_one_is_mod]
  rw [wrap_i64 (by omega)]
  omega
theorem yv_and1 {T T' : TypeId} {m : Int} (hx : ev env x = some (.int .i64 m)) (hy : ev env y = some (.int .i64 1)) (h0 : 0 ≤ m) (h1 : m ≤ 1000000) : Yv P N ds env (.binOp .and T x y T') (.int .i64 (m % 2)) S := fun act hact w _ _ _ _ _ _ => by
  have h2 := and_one m h0 h1
  simp only [execOp, hact.ev hx, hact.ev hy, eqGuard, binOp, Op.intBits, Sem.run_bind]
  have e : IntKind.i64.bits = 64 := rfl
  simp [Result.andThen]
  exact h2
end yv3
end Go.Fip
