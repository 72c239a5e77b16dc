/- Joined texts: Fx, Fy, Fz, Fu, Ga, Ba, Fr, Gb, Rk, Gc, Bb, Gi, Gh, Fh, Fj, Fk, Fm, Bc, Bd, Be, Bf, Bg, Bh, Bi. -/
import Derived.Test.YtfomadbnfcadnaaGreatDoorMA
import Derived.Laws.Entries
import Derived.Laws.IdiomStrings
import Derived.Laws.Concat
import Derived.Laws.Strings
import Derived.Lib.Strings
import Derived.Laws.BitsAllLaws
import Derived.WalkKit
import Derived.ProofKit
import Derived.OpenShut
import Derived.Carry
import Derived.Deep.SlicePairs
import Derived.Lib.Repeat
set_option linter.unusedVariables false
set_option linter.unusedSimpArgs false
set_option linter.unusedSectionVars false
set_option linter.unnecessarySimpa false
namespace Go.Fip
open Go.RowKit
section drawX
variable {r : Option Nat} {P : Program} {ops : Array Oper} {S : World → Prop} {X : List Nat}
def AnyX (r : Option Nat) (P : Program) (S : World → Prop) (X : List Nat) (ops : Array Oper) (K0 : Act → World → Prop) : Nat → Array Bool → Act → World → Prop
  | 0, listed, a, w => Region.ready .any ops listed = [] ∧ K0 a w
  | fuel + 1, listed, a, w => (Region.ready .any ops listed = [] → K0 a w) ∧
    ∀ i ∈ Region.ready .any ops listed, wpOpIn (Fr r) 0 P ops (only K0) i (fun a' w' => (X.contains i = false → S w') ∧ AnyX r P S X ops K0 fuel (listed.setIfInBounds i true) a' w') a w
def Closed (ops : Array Oper) (listed : Array Bool) : Prop := ∀ k ok, ops[k]? = some ok → listed.getD k false = true → ∀ e ∈ ok.after, Region.binds .any e = true → listed.getD e.on false = true
theorem Closed.set {listed : Array Bool} (hc : Closed ops listed) {j : Nat} (hj : j ∈ Region.ready .any ops listed) : Closed ops (listed.setIfInBounds j true) := fun k ok hk hl e he hb => by
  obtain ⟨_, oj, hoj, hall⟩ := mem_ready.1 hj
  by_cases hjk : j = k
  · subst hjk
    rw [hk] at hoj
    cases hoj
    exact getD_set_true (hall e he hb)
  · rw [getD_set_ne false hjk] at hl
    exact getD_set_true (hc k ok hk hl e he hb)
end drawX
section drawEX
variable {r : Option Nat} {P : Program} {N : Nat} {S : World → Prop} {X : List Nat} {ops : Array Oper} {ds : List Deferred} {env : Env} {w : World} {Q : Post} {listed : Array Bool} {fuel : Nat}
def AnyEX (r : Option Nat) (P : Program) (N : Nat) (S : World → Prop) (X : List Nat) (ops : Array Oper) (fuel : Nat) (listed : Array Bool) (ds : List Deferred) (env : Env) (w : World) (Q : Post) : Prop :=
  ∀ a, Fits N a ds env → AnyX r P S X ops (fun a w => lift N Q .normal a w) fuel listed a w
def stepPostX (r : Option Nat) (P : Program) (N : Nat) (S : World → Prop) (X : List Nat) (i : Nat) (ops : Array Oper) (fuel : Nat) (listed : Array Bool) (Q : Post) : Post
  | .normal, ds, env, w => (X.contains i = false → S w) ∧ AnyEX r P N S X ops fuel listed ds env w Q
  | _, _, _, _ => False
def AllRX (r : Option Nat) (P : Program) (N : Nat) (S : World → Prop) (X : List Nat) (ops : Array Oper) (fuel : Nat) (listed : Array Bool) (ds : List Deferred) (env : Env) (w : World) (Q : Post) : List Nat → Prop
  | [] => True
  | i :: is => (∃ o, ops[i]? = some o ∧ Ops r P N ops [o] ds env w (stepPostX r P N S X i ops fuel (listed.setIfInBounds i true) Q)) ∧ AllRX r P N S X ops fuel listed ds env w Q is
theorem AllRX.mem {is : List Nat} (h : AllRX r P N S X ops fuel listed ds env w Q is) {i : Nat} (hi : i ∈ is) : ∃ o, ops[i]? = some o ∧ Ops r P N ops [o] ds env w (stepPostX r P N S X i ops fuel (listed.setIfInBounds i true) Q) := by
  induction is with
  | nil => cases hi
  | cons j is ih =>
    rcases List.mem_cons.1 hi with rfl | hi
    · exact h.1
    · exact ih h.2 hi
end drawEX
end Go.Fip
namespace Go.Fip
open Go.RowKit
section drawY
variable {r : Option Nat} {P : Program} {ops : Array Oper} {S : World → Prop} {X : List Nat}
def AnyY (r : Option Nat) (P : Program) (S : World → Prop) (X : List Nat) (ops : Array Oper) (K0 : Act → World → Prop) : Nat → Array Bool → Act → World → Prop
  | 0, listed, a, w => Region.ready .any ops listed = [] ∧ K0 a w
  | fuel + 1, listed, a, w => (Region.ready .any ops listed = [] → K0 a w) ∧
    ∀ i ∈ Region.ready .any ops listed, wpOpIn (Fr r) 0 P ops (only K0) i (fun a' w' => (X.contains i = false → S w → S w') ∧ AnyY r P S X ops K0 fuel (listed.setIfInBounds i true) a' w') a w
theorem wpAnyY_of {K0 : Act → World → Prop} : ∀ (fuel : Nat) (listed : Array Bool) (a : Act) (w : World), AnyY r P S X ops K0 fuel listed a w → wpAnyIn (Fr r) 0 P .any ops (only K0) fuel listed a w
  | 0, _, _, _, h => h
  | fuel + 1, _, _, _, h => ⟨h.1, fun i hi => wpOpIn_mono (fun a' w' h' => wpAnyY_of fuel _ a' w' h'.2) (h.2 i hi)⟩
def behindY (ops : Array Oper) : Nat → Nat → Nat → Bool
  | 0, _, _ => false
  | f + 1, i, j => match ops[j]? with
    | some o => o.after.any fun e => Region.binds .any e && (Nat.beq e.on i || behindY ops f i e.on)
    | none => false
def ClosedY (ops : Array Oper) (listed : Array Bool) : Prop := ∀ k ok, ops[k]? = some ok → listed.getD k false = true → ∀ e ∈ ok.after, Region.binds .any e = true → listed.getD e.on false = true
theorem behindY_spec {listed : Array Bool} (hc : ClosedY ops listed) {i : Nat} (f : Nat) : ∀ j oj, behindY ops f i j = true → ops[j]? = some oj → (∀ e ∈ oj.after, Region.binds .any e = true → listed.getD e.on false = true) → listed.getD i false = true := by
  induction f with
  | zero => intro j oj h; cases h
  | succ f ih =>
    intro j oj h hj ha
    unfold behindY at h
    simp only [hj] at h
    obtain ⟨k, hk, h2⟩ := Array.any_eq_true.1 h
    rw [Bool.and_eq_true, Bool.or_eq_true] at h2
    have hl := ha _ (Array.getElem_mem hk) h2.1
    rcases h2.2 with h3 | h3
    · rw [← Nat.eq_of_beq_eq_true h3]; exact hl
    · cases ho : ops[(oj.after[k]).on]? with
      | some o => exact ih _ o h3 ho (hc _ o ho hl)
      | none =>
        cases f with
        | zero => cases h3
        | succ f => unfold behindY at h3; simp only [ho] at h3; cases h3
theorem ClosedY.set {listed : Array Bool} (hc : ClosedY ops listed) {j : Nat} (hj : j ∈ Region.ready .any ops listed) : ClosedY ops (listed.setIfInBounds j true) := fun k ok hk hl e he hb => by
  obtain ⟨_, oj, hoj, hall⟩ := mem_ready.1 hj
  by_cases hjk : j = k
  · subst hjk
    rw [hk] at hoj
    cases hoj
    exact getD_set_true (hall e he hb)
  · rw [getD_set_ne false hjk] at hl
    exact getD_set_true (hc k ok hk hl e he hb)
theorem AnyY_first {K0 : Act → World → Prop} {i : Nat} {oi : Oper} {v : Value} (hi : ops[i]? = some oi) (hnd : noDefer ops = true)
    (hX : ∀ j, X.contains j = true → behindY ops ops.size i j = true) :
    ∀ (fuel : Nat) (listed : Array Bool) (a : Act) (w : World), ClosedY ops listed →
      (∀ j oj, ops[j]? = some oj → j ≠ i → listed.getD j true = false → (∀ e ∈ oj.after, Region.binds .any e = true → e.on ≠ i) → oi.apart ops oj = true) →
      i ∈ Region.ready .any ops listed → YieldsS P ops S oi v a → S w →
      AnyY r P S X ops K0 fuel (listed.setIfInBounds i true) (a.put oi.dst v) w → AnyY r P S X ops K0 (fuel + 1) listed a w := by
  intro fuel
  induction fuel with
  | zero =>
    intro listed a w _ _ hr hy hS H
    refine ⟨fun h => (by rw [h] at hr; cases hr), fun j hj => ?_⟩
    by_cases hji : j = i
    · subst hji; exact hy.wpOp hi (noDefer_spec hnd hi).1 hS ⟨fun _ _ => hS, H⟩
    · have := ready_mono hj hji
      rw [H.1] at this
      cases this
  | succ fuel ih =>
    intro listed a w hc hfree hr hy hS H
    refine ⟨fun h => (by rw [h] at hr; cases hr), fun j hj => ?_⟩
    by_cases hji : j = i
    · subst hji; exact hy.wpOp hi (noDefer_spec hnd hi).1 hS ⟨fun _ _ => hS, H⟩
    · have h1 := H.2 j (ready_mono hj hji)
      obtain ⟨hjun, oj, hoj, hall⟩ := mem_ready.1 hj
      have hnot : ∀ e ∈ oj.after, Region.binds .any e = true → e.on ≠ i := fun e he hb heq => by
        have h1 := hall e he hb
        have h0 := (mem_ready.1 hr).1
        rw [heq] at h1
        rcases Nat.lt_or_ge i listed.size with h' | h'
        · simp [h'] at h0 h1; rw [h0] at h1; cases h1
        · simp [Array.getElem?_eq_none h'] at h1
      have hjX : X.contains j = false := by
        cases hcj : X.contains j with
        | false => rfl
        | true =>
          have h3 := behindY_spec hc _ j oj (hX j hcj) hoj hall
          have h0 := (mem_ready.1 hr).1
          rcases Nat.lt_or_ge i listed.size with h' | h'
          · simp [h'] at h0 h3; rw [h0] at h3; cases h3
          · simp [Array.getElem?_eq_none h'] at h3
      have h2 := wpOp_putS hoj (hfree j oj hoj hji hjun hnot) hnd (noDefer_spec hnd hi).2 hy h1
      have hfree' : ∀ k ok, ops[k]? = some ok → k ≠ i → (listed.setIfInBounds j true).getD k true = false →
          (∀ e ∈ ok.after, Region.binds .any e = true → e.on ≠ i) → oi.apart ops ok = true := fun k ok hk hki hun hno => by
        refine hfree k ok hk hki ?_ hno
        by_cases hjk : j = k
        · subst hjk; exact hjun
        · rw [getD_set_ne true hjk] at hun; exact hun
      refine wpOpIn_mono (fun a' w' h3 => ⟨h3.2.1, ih (listed.setIfInBounds j true) a' w' (hc.set hj) hfree' (ready_mono hr (Ne.symm hji)) h3.1 (h3.2.1 hjX hS) ?_⟩) h2
      rw [Array.setIfInBounds_comm _ _ hji]
      exact h3.2.2
theorem AnyY_firstT {K0 : Act → World → Prop} {i : Nat} {oi : Oper} {v : Value} (hi : ops[i]? = some oi) (hnd : noDefer ops = true) :
    ∀ (fuel : Nat) (listed : Array Bool) (a : Act) (w : World),
      (∀ j oj, ops[j]? = some oj → j ≠ i → listed.getD j true = false → (∀ e ∈ oj.after, Region.binds .any e = true → e.on ≠ i) → oi.apart ops oj = true) →
      i ∈ Region.ready .any ops listed → YieldsS P ops (fun _ => True) oi v a →
      AnyY r P S X ops K0 fuel (listed.setIfInBounds i true) (a.put oi.dst v) w → AnyY r P S X ops K0 (fuel + 1) listed a w := by
  intro fuel
  induction fuel with
  | zero =>
    intro listed a w _ hr hy H
    refine ⟨fun h => (by rw [h] at hr; cases hr), fun j hj => ?_⟩
    by_cases hji : j = i
    · subst hji; exact hy.wpOp hi (noDefer_spec hnd hi).1 trivial ⟨fun _ h => h, H⟩
    · have := ready_mono hj hji
      rw [H.1] at this
      cases this
  | succ fuel ih =>
    intro listed a w hfree hr hy H
    refine ⟨fun h => (by rw [h] at hr; cases hr), fun j hj => ?_⟩
    by_cases hji : j = i
    · subst hji; exact hy.wpOp hi (noDefer_spec hnd hi).1 trivial ⟨fun _ h => h, H⟩
    · have h1 := H.2 j (ready_mono hj hji)
      obtain ⟨hjun, oj, hoj, hall⟩ := mem_ready.1 hj
      have hnot : ∀ e ∈ oj.after, Region.binds .any e = true → e.on ≠ i := fun e he hb heq => by
        have h1 := hall e he hb
        have h0 := (mem_ready.1 hr).1
        rw [heq] at h1
        rcases Nat.lt_or_ge i listed.size with h' | h'
        · simp [h'] at h0 h1; rw [h0] at h1; cases h1
        · simp [Array.getElem?_eq_none h'] at h1
      have h2 := wpOp_putS hoj (hfree j oj hoj hji hjun hnot) hnd (noDefer_spec hnd hi).2 hy h1
      have hfree' : ∀ k ok, ops[k]? = some ok → k ≠ i → (listed.setIfInBounds j true).getD k true = false →
          (∀ e ∈ ok.after, Region.binds .any e = true → e.on ≠ i) → oi.apart ops ok = true := fun k ok hk hki hun hno => by
        refine hfree k ok hk hki ?_ hno
        by_cases hjk : j = k
        · subst hjk; exact hjun
        · rw [getD_set_ne true hjk] at hun; exact hun
      refine wpOpIn_mono (fun a' w' h3 => ⟨h3.2.1, ih (listed.setIfInBounds j true) a' w' hfree' (ready_mono hr (Ne.symm hji)) h3.1 ?_⟩) h2
      rw [Array.setIfInBounds_comm _ _ hji]
      exact h3.2.2
end drawY
section drawEY
variable {r : Option Nat} {P : Program} {N : Nat} {S : World → Prop} {X : List Nat} {ops : Array Oper} {ds : List Deferred} {env : Env} {w : World} {Q : Post} {listed : Array Bool} {fuel : Nat}
def AnyEY (r : Option Nat) (P : Program) (N : Nat) (S : World → Prop) (X : List Nat) (ops : Array Oper) (fuel : Nat) (listed : Array Bool) (ds : List Deferred) (env : Env) (w : World) (Q : Post) : Prop :=
  ∀ a, Fits N a ds env → AnyY r P S X ops (fun a w => lift N Q .normal a w) fuel listed a w
def takesOKY (X : List Nat) (ops : Array Oper) (fuel : Nat) (listed : Array Bool) : List Nat → Bool
  | [] => true
  | i :: is => match fuel with
    | 0 => false
    | fuel + 1 => Region.free .any ops listed i && (Region.ready .any ops listed).contains i && X.all (behindY ops ops.size i) && takesOKY X ops fuel (listed.setIfInBounds i true) is
def closedYB (ops : Array Oper) (listed : Array Bool) : Bool := (List.range ops.size).all fun k => !(listed.getD k false) || (match ops[k]? with
  | some o => o.after.all fun e => !(Region.binds .any e) || listed.getD e.on false
  | none => true)
theorem closedYB_spec (h : closedYB ops listed = true) : ClosedY ops listed := fun k ok hk hl e he hb => by
  have h1 := List.all_eq_true.1 h k (List.mem_range.2 (Array.getElem?_eq_some_iff.1 hk).1)
  rw [hk, hl] at h1
  simp only [Bool.not_true, Bool.false_or] at h1
  obtain ⟨q, hq, rfl⟩ := Array.getElem_of_mem he
  have h2 := Array.all_eq_true.1 h1 q hq
  rw [hb] at h2
  simpa using h2
theorem any_takesY' (is : List Nat) (hnd : noDefer ops = true) (hs : S w)
    : ∀ (fuel : Nat) (listed : Array Bool) (env : Env), ClosedY ops listed → takesOKY X ops fuel listed is = true →
      Qs P N S ops ds (fun env => AnyEY r P N S X ops (fuel - is.length) (setAll listed is) ds env w Q) is env → AnyEY r P N S X ops fuel listed ds env w Q := by
  induction is with
  | nil => intro fuel listed env _ _ h; exact h
  | cons i is ih =>
    intro fuel listed env hc hok h
    obtain ⟨o, d, v, ho, hd, hN, hy, h⟩ := h
    cases fuel with
    | zero => simp [takesOKY] at hok
    | succ fuel =>
      simp only [takesOKY, Bool.and_eq_true] at hok
      obtain ⟨⟨⟨hf, hr⟩, hx⟩, hok⟩ := hok
      intro a ha
      refine AnyY_first ho hnd (fun j hj => List.all_eq_true.1 hx j (by simpa using hj)) fuel listed a w hc (Region.free_spec ho hf) (by simpa using hr) (hy a ha) hs ?_
      have e : fuel + 1 - (i :: is).length = fuel - is.length := by simp
      rw [e] at h
      exact ih fuel _ _ (hc.set (by simpa using hr)) hok h _ (by rw [hd]; exact ha.put hN v)
theorem any_takesY (is : List Nat) (hnd : noDefer ops = true) (hs : S w)
    : ∀ (fuel : Nat) (listed : Array Bool) (env : Env), (closedYB ops listed && takesOKY X ops fuel listed is) = true →
      Qs P N S ops ds (fun env => AnyEY r P N S X ops (fuel - is.length) (setAll listed is) ds env w Q) is env → AnyEY r P N S X ops fuel listed ds env w Q := by
  intro fuel listed env hok h
  rw [Bool.and_eq_true] at hok
  exact any_takesY' is hnd hs fuel listed env (closedYB_spec hok.1) hok.2 h
theorem any_takesT (is : List Nat) (hnd : noDefer ops = true)
    : ∀ (fuel : Nat) (listed : Array Bool) (env : Env), takesOK ops fuel listed is = true →
      Qs P N (fun _ => True) ops ds (fun env => AnyEY r P N S X ops (fuel - is.length) (setAll listed is) ds env w Q) is env → AnyEY r P N S X ops fuel listed ds env w Q := by
  induction is with
  | nil => intro fuel listed env _ h; exact h
  | cons i is ih =>
    intro fuel listed env hok h
    obtain ⟨o, d, v, ho, hd, hN, hy, h⟩ := h
    cases fuel with
    | zero => simp [takesOK] at hok
    | succ fuel =>
      simp only [takesOK, Bool.and_eq_true] at hok
      obtain ⟨⟨hf, hr⟩, hok⟩ := hok
      intro a ha
      refine AnyY_firstT ho hnd fuel listed a w (Region.free_spec ho hf) (by simpa using hr) (hy a ha) ?_
      have e : fuel + 1 - (i :: is).length = fuel - is.length := by simp
      rw [e] at h
      exact ih fuel _ _ hok h _ (by rw [hd]; exact ha.put hN v)
theorem any_doneY (hr : Region.ready .any ops listed = []) (h : Q .normal ds env w) : AnyEY r P N S X ops fuel listed ds env w Q := fun a ha => by
  cases fuel with
  | zero => exact ⟨hr, ds, env, ha, h⟩
  | succ fuel => exact ⟨fun _ => ⟨ds, env, ha, h⟩, by rw [hr]; simp⟩
def stepPostY (r : Option Nat) (P : Program) (N : Nat) (S : World → Prop) (X : List Nat) (w0 : World) (i : Nat) (ops : Array Oper) (fuel : Nat) (listed : Array Bool) (Q : Post) : Post
  | .normal, ds, env, w => (X.contains i = false → S w0 → S w) ∧ AnyEY r P N S X ops fuel listed ds env w Q
  | _, _, _, _ => False
def AllRY (r : Option Nat) (P : Program) (N : Nat) (S : World → Prop) (X : List Nat) (ops : Array Oper) (fuel : Nat) (listed : Array Bool) (ds : List Deferred) (env : Env) (w : World) (Q : Post) : List Nat → Prop
  | [] => True
  | i :: is => (∃ o, ops[i]? = some o ∧ Ops r P N ops [o] ds env w (stepPostY r P N S X w i ops fuel (listed.setIfInBounds i true) Q)) ∧ AllRY r P N S X ops fuel listed ds env w Q is
theorem AllRY.mem {is : List Nat} (h : AllRY r P N S X ops fuel listed ds env w Q is) {i : Nat} (hi : i ∈ is) : ∃ o, ops[i]? = some o ∧ Ops r P N ops [o] ds env w (stepPostY r P N S X w i ops fuel (listed.setIfInBounds i true) Q) := by
  induction is with
  | nil => cases hi
  | cons j is ih =>
    rcases List.mem_cons.1 hi with rfl | hi
    · exact h.1
    · exact ih h.2 hi
theorem any_allY (rs : List Nat) (hr : Region.ready .any ops listed = rs) (hne : rs.isEmpty = false) (h : AllRY r P N S X ops fuel listed ds env w Q rs) : AnyEY r P N S X ops (fuel + 1) listed ds env w Q := by
  intro a ha
  refine ⟨fun h0 => (by rw [hr] at h0; subst h0; cases hne), fun i hi => ?_⟩
  rw [hr] at hi
  obtain ⟨o, ho, hop⟩ := h.mem hi
  have h1 := hop a ha
  unfold wpOpIn
  simp only [ho]
  simp only [wpListIn] at h1
  split
  · rename_i hw
    rw [if_pos hw] at h1
    refine ⟨h1.1, ?_⟩
    have h2 := h1.2
    generalize (o.semAt (Fr r).round a.eval).run P w = res at *
    have fin : ∀ a' w', lift N (stepPostY r P N S X w i ops fuel (listed.setIfInBounds i true) Q) .normal a' w' →
        (X.contains i = false → S w → S w') ∧ AnyY r P S X ops (fun a w => lift N Q .normal a w) fuel (listed.setIfInBounds i true) a' w' := fun a' w' ⟨ds', env', hf, hs, hA⟩ => ⟨hs, hA a' hf⟩
    cases res with
    | ok x w' =>
      cases x <;> simp only [Oper.uponIn] at h2 ⊢
      case value u => exact fin _ _ h2
      case skip => exact fin _ _ h2
      case defer d => exact fin _ _ h2
      case enter f args =>
        refine ⟨h2.1, CallsIn.mono h2.2 fun e w'' he => ?_⟩
        cases e with
        | returned u => exact fin _ _ he
        | panicked c => obtain ⟨_, _, _, hx⟩ := he; exact hx.elim
        | outgrown => obtain ⟨_, _, _, _, _, hx⟩ := he; exact hx.elim
      case row row args => exact ⟨h2.1, RowsIn.mono h2.2 fun u w'' he => fin _ _ he⟩
      case round l f tmps assign body =>
        refine ⟨h2.1, RoundIn.mono h2.2 fun e w'' he => ?_⟩
        cases e with
        | returned u => exact fin _ _ he
        | panicked c => obtain ⟨_, _, _, hx⟩ := he; exact hx.elim
        | outgrown => obtain ⟨_, _, _, _, _, hx⟩ := he; exact hx.elim
    | halt x w' =>
      cases x <;> simp only [Oper.uponIn] at h2 ⊢
      case panic u => obtain ⟨_, _, _, hx⟩ := h2; exact hx.elim
  · rename_i hw
    rw [if_neg hw] at h1
    obtain ⟨ds', env', hf, hs, hA⟩ := h1.2
    exact ⟨h1.1, hs, hA _ hf⟩
theorem region_drawY {id : Nat} {l : List Oper} (S : World → Prop) (X : List Nat) (hm : P.follows .mixedOrders = true)
    (h : ∀ w1, Redrawn w w1 → AnyEY r P N S X l.toArray l.length (Array.replicate l.length false) ds env w1 Q) : Holds r P N (.region id l.toArray true) ds env w Q := by
  intro a ha
  refine Go.wpIn_mono (Q := only fun a w => lift N Q .normal a w) ?_ ?_
  · refine wpIn_region_any hm (wpAnyY_of (S := S) (X := X) _ _ _ _ ?_)
    have := h { w with drawn := w.drawn + 1 } ⟨rfl, rfl, rfl, rfl⟩ a ha
    simpa using this
  · intro e a' w' hq
    cases e with
    | normal => exact hq
    | _ => exact hq.elim
end drawEY
end Go.Fip
namespace Go.Fip
open Go.RowKit
def sv (s : Nat × Nat × Nat) : Value := .slice (some ⟨s.1, 0, none⟩) s.2.1 s.2.2
def encS (s : Nat × Nat × Nat) : List Value := [sv s]
theorem Ow.sv {α : Type} {lo hi E sz : Nat} {enc : α → List Value} {v : Value} {xs : List α} {w : World} (h : Ow lo hi E sz enc v xs w) (hx : 1 ≤ xs.length) : ∃ s, v = sv s := by
  rcases h.1.2 with ⟨_, h3⟩ | ⟨g, cap, cur, rfl, _⟩
  · omega
  · exact ⟨(g, xs.length, cap), rfl⟩
theorem Heap.sv {α : Type} {lo hi E sz n : Nat} {enc : α → List Value} {v : Value} {xs : List α} {H : List Item} {w : World} (hH : Heap H w) (hn : H[n]? = some (ow lo hi E sz enc v xs)) (hx : 1 ≤ xs.length) : ∃ s, v = Fip.sv s :=
  Ow.sv (show Ow _ _ _ _ _ _ _ _ from hH.get hn) hx
theorem Heap.unbase {H : List Item} {w0 wb w : World} (hH : Heap (base wb :: H) w) (hb : Below w0.heap.size w0 wb) : Heap (base w0 :: H) w := by
  have hbw : Below wb.heap.size wb w := hH.get (n := 0) rfl
  refine ⟨fun i hi => ?_, ?_⟩
  · rcases List.mem_cons.1 hi with rfl | hi
    · refine ⟨Nat.zero_le _, Nat.le_trans hb.size hbw.size, fun w' ha => ?_⟩
      exact (hb.trans (hbw.mono hb.size)).trans ha.below
    · exact hH.ok i (List.mem_cons_of_mem _ hi)
  · have hp := hH.apart
    rw [List.pairwise_cons] at hp ⊢
    refine ⟨fun j hj => ?_, hp.2⟩
    rcases hp.1 j hj with h | h
    · exact .inl (Nat.le_trans hb.size h)
    · exact .inr h
end Go.Fip
namespace Go.Fip
open Go.RowKit
theorem yv_all {P : Program} {N : Nat} {ds : List Deferred} {env : Env} {S : World → Prop} {x : Operand} {T n E sz b : Nat} (hT : TArr P T n E sz) (hx : ev env x = some (.pointer (some ⟨b, 0, none⟩))) : Yv P N ds env (.slice T x none none none) (.slice (some ⟨b, 0, none⟩) n n) S := fun a ha w _ _ _ _ _ _ => by
  have e : (⟨b, 0, none⟩ : Addr).add 0 = ⟨b, 0, none⟩ := by unfold Addr.add; split <;> rfl
  simp [execOp, ha.ev hx, Instr.sliceAt, run_underlying hT.1, Instr.sliceBounds, run_size hT.2, Result.andThen, Instr.sureAddr, asAddr, e]
def ints (C : List Int) : List Value := C.map (Value.int .i64)
theorem ints_at {C : List Int} {i : Int} (h : 0 ≤ i ∧ i < (C.length : Int)) : (ints C)[i.toNat]? = some (.int .i64 (nth C i)) := by
  unfold ints
  rw [List.getElem?_map, nth_get h]; rfl
theorem ints_len {C : List Int} : (ints C).length = C.length := List.length_map ..
theorem ints_splice {C : List Int} {i x : Int} (h : 0 ≤ i ∧ i < (C.length : Int)) : splice (ints C) i.toNat [.int .i64 x] = ints (C.set i.toNat x) := by
  unfold splice ints
  rw [List.map_set, List.set_eq_take_append_cons_drop, if_pos (by rw [List.length_map]; omega)]
  simp
theorem splice_all {cs us : List Value} (h : us.length = cs.length) : splice cs 0 us = us := by
  unfold splice
  simp [h]
theorem ints_one {C : List Int} : (ints C).all (·.oneCell') = true := by
  unfold ints
  rw [List.all_eq_true]
  intro x hx
  obtain ⟨y, _, rfl⟩ := List.mem_map.1 hx
  rfl
theorem eqItems_int {P : Program} {E : Nat} {d : Nat} {w : World} (hi : ∀ w, (isAgg E).run P w = .ok false w) (hE2 : P.underlying E = some (.int .i64)) {a b : List Int} : ∀ is : List Nat, (∀ i ∈ is, i < a.length ∧ i < b.length) →
    (Op.eqItems (d + 1) E 1 (a.map (Value.int .i64)).toArray (b.map (Value.int .i64)).toArray is).run P w = .ok (decide (∀ i ∈ is, nth a (i : Int) = nth b (i : Int))) w := by
  intro is
  induction is with
  | nil => intro _; simp [Op.eqItems]
  | cons j is ih =>
    intro h
    have hj := h j List.mem_cons_self
    have e1 := fun x y => run_equalIn_int (P := P) w d E .i64 .i64 x y hE2
    have hp : ∀ c : List Int, j < c.length → (part E (c.map (Value.int .i64)).toArray j).run P w = .ok (.int .i64 (nth c (j : Int))) w := fun c hc => by
      have := ints_at (C := c) (i := (j : Int)) (by omega)
      unfold ints at this
      simp only [Int.toNat_natCast] at this
      simp [part, hi w, Result.andThen]
      rw [List.getElem?_map] at this
      obtain ⟨z, hz, he⟩ := Option.map_eq_some_iff.1 this
      cases he
      rw [hz]
      rfl
    have ih2 := ih (fun i hi => h i (List.mem_cons_of_mem _ hi))
    simp only [Op.eqItems, Sem.run_bind, Nat.mul_one, hp a hj.1, hp b hj.2, Result.andThen, e1]
    by_cases h0 : nth a (j : Int) = nth b (j : Int)
    · simp [h0, ih2]
    · simp [h0]
theorem eqi_arr {P : Program} {T E n : Nat} {i : TypeInfo} (hu : P.underlying T = some (.array n E)) (hE : P.info? E = some i) (hc : P.cellsOf E = 1) (hi : ∀ w, (isAgg E).run P w = .ok false w) (hE2 : P.underlying E = some (.int .i64)) (hg : P.eqGuardType P.depth T = false) : EqI P T n := by
  refine ⟨fun a b w ha hb => ?_, hg⟩
  have h := run_equalIn_array (P := P) (w := w) (9998 + 1) (a.map (Value.int .i64)).toArray (b.map (Value.int .i64)).toArray hu hE
  rw [hc, eqItems_int hi hE2 (List.range n) (fun i hi => by rw [List.mem_range] at hi; omega)] at h
  refine (show (Op.equal T (ag a) (ag b)).run P w = _ from h).trans ?_
  congr 1
  refine decide_eq_decide.2 ⟨fun h => ?_, fun h => by subst h; exact fun _ _ => rfl⟩
  refine List.ext_getElem (by omega) fun k h1 h2 => ?_
  have := h k (List.mem_range.2 (by omega))
  rwa [nth_nat h1, nth_nat h2] at this
theorem op_clearA {r : Option Nat} {P : Program} {N : Nat} {ds : List Deferred} {env : Env} {w : World} {Q : Post} {all : Array Oper} {rest : List Oper} {H : List Item} {x : Operand} {dst : Option Nat} {ty : TypeId} {pos : String} {after : Array Edge} {T E n b t m : Nat} (hE : El P T E 1 encI)
    (hz0 : ∀ i, P.info? E = some i → i.zero.map (·.cells.toList) = some (encI 0)) {C : List Int} (hs : ev env x = some (.slice (some ⟨b, 0, none⟩) m m)) (hm : C.length = m) (hm0 : 0 < m) (hd : dstOK N dst = true) (hH : Heap H w) (hn : H[n]? = some (bx b t (ints C)))
    (h : ∀ w', Heap (H.set n (bx b t (ints (List.replicate m 0)))) w' → Ops r P N all rest ds (putE dst (.tuple #[]) env) w' Q) :
    Ops r P N all (⟨dst, .call ⟨.builtin .clear, #[x], #[T]⟩, ty, pos, after, none⟩ :: rest) ds env w Q := by
  obtain ⟨i, z, hi1, hz, hsz, hby, hzs⟩ := hE.info
  have hzc := hz0 i hi1
  rw [hz] at hzc
  simp only [Option.map_some, Option.some.injEq] at hzc
  have hb : w.heap[b]? = some (.cells (ints C).toArray t (0, 0)) := hH.get hn
  have hzl : (Builtin.zeroCells z.cells m).toList = ints (List.replicate m 0) := by
    have := madeCells_flat hE.len hE.pos hzc m
    have e : (List.replicate m (0 : Int)).flatMap encI = ints (List.replicate m 0) := by
      unfold ints encI; rw [← List.map_eq_flatMap]
    rw [← e, ← this]
    simp [Builtin.zeroCells, madeCells, hzs]
  have hst := run_storeCells_at (P := P) b 0 t (ints (List.replicate m 0)) 0 (ints C).toArray w hb (by simp [ints_len, hm]) (fun u hu => List.all_eq_true.1 ints_one u hu)
  have hnew : ((ints C).toArray.toList.take (0 + 0) ++ ints (List.replicate m 0) ++ (ints C).toArray.toList.drop (0 + 0 + (ints (List.replicate m 0)).length)).toArray = (ints (List.replicate m 0)).toArray := by
    congr 1
    simp [ints_len, hm]
  rw [hnew] at hst
  have hzv : (zeroValue E).run P w = .ok z w := by simp [zeroValue, typeInfo, hi1, hz, Result.andThen]
  have hcl : (Builtin.clear_ #[T] ty #[.slice (some ⟨b, 0, none⟩) m m]).run P w = .ok (.tuple #[]) (w.setRow b (ints (List.replicate m 0)).toArray) := by
    obtain ⟨k, rfl⟩ : ∃ k, m = k + 1 := ⟨m - 1, by omega⟩
    unfold Builtin.clear_
    simp [run_underlying hE.und, hzv, hzl, hst, Result.andThen]
  refine ops_valO hd (fun c hc => by cases hc) (fun a ha => ?_) (h _ (hH.set hn (off_setRow w b _) (.inl ⟨Nat.le_refl _, Nat.le_refl _⟩) (bx_ok (setRow_heap w b _ _ t (0, 0) hb))))
  simp only [execOp, resolve, invoke, builtin, Sem.run_bind, Sem.run_pure, Result.andThen, List.map_toArray, List.map_cons, List.map_nil, ha.ev hs, hcl]
section symops
variable {r : Option Nat} {P : Program} {N : Nat} {ds : List Deferred} {env : Env} {w : World} {Q : Post} {all : Array Oper} {rest : List Oper} {H : List Item} {x y : Operand} {ty : TypeId} {pos : String} {after : Array Edge}
theorem op_setA {T b n t : Nat} {C : List Int} {i z : Int} (hp : ev env x = some (.pointer (some ⟨b, 0 + i.toNat * 1, none⟩))) (hx : ev env y = some (.int .i64 z)) (hH : Heap H w) (hn : H[n]? = some (bx b t (ints C))) (hsz : (P.info? T).map (·.size) = some 1) (hi : 0 ≤ i ∧ i < (C.length : Int))
    (h : ∀ w', Heap (H.set n (bx b t (ints (C.set i.toNat z)))) w' → Ops r P N all rest ds env w' Q) : Ops r P N all (⟨none, .store T x y, ty, pos, after, none⟩ :: rest) ds env w Q :=
  op_store (j := i.toNat) (us := [.int .i64 z]) (by rw [hp]; simp) hx hH hn hsz rfl rfl (by rw [Nat.ble_eq, ints_len]; simp; omega) rfl (fun w' hw => h w' (by rwa [ints_splice hi] at hw))
theorem op_putA {T b n t m : Nat} {cs : List Value} {C : List Int} (hp : ev env x = some (.pointer (some ⟨b, 0, none⟩))) (hx : ev env y = some (ag C)) (hH : Heap H w) (hn : H[n]? = some (bx b t cs)) (hsz : (P.info? T).map (·.size) = some m) (hm : C.length = m) (hl : cs.length = m)
    (h : ∀ w', Heap (H.set n (bx b t (ints C))) w' → Ops r P N all rest ds env w' Q) : Ops r P N all (⟨none, .store T x y, ty, pos, after, none⟩ :: rest) ds env w Q :=
  op_store (j := 0) (us := ints C) hp hx hH hn hsz rfl (by rw [ints_len]; exact hm) (by rw [Nat.ble_eq, ints_len]; omega) ints_one (fun w' hw => h w' (by rwa [splice_all (by rw [ints_len]; omega)] at hw))
theorem yv_loadE {S : World → Prop} {T b t : Nat} {C : List Int} {i : Int} (hT : TOne P T) (hx : ev env x = some (.pointer (some ⟨b, 0 + i.toNat * 1, none⟩))) (hi : 0 ≤ i ∧ i < (C.length : Int)) (hb : ∀ w, S w → Bx b t (ints C) w) : Yv P N ds env (.load T x) (.int .i64 (nth C i)) S :=
  yv_load (o := i.toNat) hT (by rw [hx]; simp) (fun w hw => bx_cell (hb w hw) (ints_at hi))
theorem yv_loadC {S : World → Prop} {T n b t : Nat} {C : List Int} (hT : TAgg P T n) (hn : C.length = n) (hx : ev env x = some (.pointer (some ⟨b, 0, none⟩))) (hb : ∀ w, S w → Bx b t (ints C) w) : Yv P N ds env (.load T x) (ag C) S :=
  yv_loadA (cs := ints C) hT (by rw [ints_len]; exact hn) hx (fun w hw j u hj => by rw [Nat.zero_add]; exact bx_cell (hb w hw) hj)
theorem rvC {T n b t k : Nat} {C : List Int} (hx : env.find k = some (.pointer (some ⟨b, 0, none⟩))) (hT : TAgg P T n) (hn : C.length = n) (hb : Bx b t (ints C) w) : RV P env w (.cell k T) (ag C) :=
  rvA (cs := ints C) hx hT (by rw [ints_len]; exact hn) (fun j u hj => by rw [Nat.zero_add]; exact bx_cell hb hj)
end symops
section kinds
variable {P : Program} {N : Nat} {ds : List Deferred} {env : Env} {S : World → Prop} {x y : Operand} {k : IntKind} {m n : Int} {T T' : TypeId}
theorem yv_subK (hx : ev env x = some (.int k m)) (hy : ev env y = some (.int k n)) (hw : k.wrap (m - n) = m - n) : Yv P N ds env (.binOp .sub T x y T') (.int k (m - n)) S := fun a ha w _ _ _ _ _ _ => by
  simp [execOp, ha.ev hx, ha.ev hy, eqGuard, binOp, Op.intArith, hw, Result.andThen]
theorem wrap_u64 {m : Int} (h : 0 ≤ m ∧ m ≤ 18446744073709551615) : IntKind.u64.wrap m = m := IntWalk.u64_in m h
end kinds
theorem yv_castB {P : Program} {N : Nat} {ds : List Deferred} {env : Env} {op : Op} {a b : Bool} {S : World → Prop} (h : a = b) (hy : Yv P N ds env op (.bool a) S) : Yv P N ds env op (.bool b) S := h ▸ hy
end Go.Fip
namespace Go.Fip
open Go.RowKit
def str (l : List UInt8) : Value := .string ⟨l.toArray⟩
theorem size_str (l : List UInt8) : (⟨l.toArray⟩ : ByteArray).size = l.length := by simp [ByteArray.size]
theorem toList_str (l : List UInt8) : (⟨l.toArray⟩ : ByteArray).toList = l := by rw [Go.Lib.toList_data]
section
variable {P : Program} {N : Nat} {ds : List Deferred} {env : Env} {S : World → Prop} {x y z : Operand} {T T' : TypeId} {a b : List UInt8}
theorem yv_cat (hx : ev env x = some (str a)) (hy : ev env y = some (str b)) (h : a.length + b.length ≤ 9223372036854775807) : Yv P N ds env (.binOp .add T x y T') (str (a ++ b)) S := fun act hact w _ _ _ _ _ _ => by
  have e := run_string_add_sum (P := P) w ⟨a.toArray⟩ ⟨b.toArray⟩ (by rw [size_str, size_str]; exact h)
  rw [ByteArray.mk_append_mk] at e
  simp [execOp, hact.ev hx, hact.ev hy, str, eqGuard, binOp, e, Result.andThen]
theorem yv_eqlS (hx : ev env x = some (str a)) (hy : ev env y = some (str b)) : Yv P N ds env (.binOp .eql T x y T') (.bool (decide (a = b))) S := fun act hact w _ _ _ _ _ _ => by
  have e : (a == b) = decide (a = b) := by by_cases h : a = b <;> simp [h]
  simp [execOp, hact.ev hx, hact.ev hy, str, eqGuard, binOp, Op.stringOp, toList_str, Result.andThen, e]
theorem yv_neqS (hx : ev env x = some (str a)) (hy : ev env y = some (str b)) : Yv P N ds env (.binOp .neq T x y T') (.bool (!decide (a = b))) S := fun act hact w _ _ _ _ _ _ => by
  have e : (a == b) = decide (a = b) := by by_cases h : a = b <;> simp [h]
  simp [execOp, hact.ev hx, hact.ev hy, str, eqGuard, binOp, Op.stringOp, toList_str, Result.andThen, e, bne]
theorem yv_lenS (hT : P.underlying T = some .string) (hx : ev env x = some (str a)) : Yv P N ds env (.call ⟨.builtin .len, #[x], #[T]⟩) (.int .i64 (a.length : Int)) S := fun act hact w _ _ _ _ _ _ => by
  simp [execOp, resolve, invoke, builtin, Builtin.len_, hact.ev hx, str, run_underlying hT, goInt, size_str, Result.andThen]
def byteAt (a : List UInt8) (i : Int) : Int := ((a.getD i.toNat 0).toNat : Int)
theorem byteAt_bd {a : List UInt8} {i : Int} : 0 ≤ byteAt a i ∧ byteAt a i ≤ 255 := by
  unfold byteAt
  have := (a.getD i.toNat 0).toNat_lt
  omega
theorem yv_idxS {k : IntKind} {i : Int} (hT : P.underlying T = some .string) (hx : ev env x = some (str a)) (hy : ev env y = some (.int k i)) (hi : 0 ≤ i ∧ i < (a.length : Int)) : Yv P N ds env (.index T x y) (.int .u8 (byteAt a i)) S := fun act hact w _ _ _ _ _ _ => by
  have h1 : i.toNat < a.length := by omega
  have h2 : (⟨a.toArray⟩ : ByteArray)[i.toNat]? = some a[i.toNat] := by
    rw [getElem?_pos _ _ (by rw [size_str]; exact h1)]
    rfl
  have h3 : byteAt a i = ((a[i.toNat]).toNat : Int) := by
    unfold byteAt
    rw [List.getD_eq_getElem?_getD, List.getElem?_eq_getElem h1]; rfl
  rw [h3]
  simp [execOp, hact.ev hx, hact.ev hy, str, Instr.index, asIntOf, run_underlying hT, hi.1, h2, Result.andThen]
theorem run_bound {w : World} {k : IntKind} {i : Int} {n : Nat} {code : BoundsCode} (h0 : 0 ≤ i) (h1 : i ≤ n) : (Instr.sliceBound (.int k i) n code).run P w = .ok i.toNat w := by
  simp [Instr.sliceBound, asIntOf, h0, h1]
theorem yv_subS {k k2 : IntKind} {l h : Int} (hT : P.underlying T = some .string) (hx : ev env x = some (str a)) (hy : ev env y = some (.int k l)) (hz : ev env z = some (.int k2 h)) (hb : 0 ≤ l ∧ l ≤ h ∧ h ≤ (a.length : Int)) : Yv P N ds env (.slice T x (some y) (some z) none) (str ((a.take h.toNat).drop l.toNat)) S := fun act hact w _ _ _ _ _ _ => by
  have e1 := run_bound (P := P) (w := w) (k := k2) (i := h) (n := a.length) (code := .sliceAlen) (by omega) hb.2.2
  have e2 := run_bound (P := P) (w := w) (k := k) (i := l) (n := h.toNat) (code := .sliceB) hb.1 (by omega)
  have e3 : (⟨a.toArray⟩ : ByteArray).extract l.toNat h.toNat = ⟨((a.take h.toNat).drop l.toNat).toArray⟩ := by
    rw [Go.Lib.extract_eq]
    show (⟨((a.drop l.toNat).take (h.toNat - l.toNat)).toArray⟩ : ByteArray) = _
    rw [List.drop_take]
  simp [execOp, hact.ev hx, hact.ev hy, hact.ev hz, str, Instr.sliceAt, Instr.slice, Instr.sliceBounds, run_underlying hT, size_str, e1, e2, e3, Result.andThen]
end
def ofB (l : List Int) : List UInt8 := l.map fun n => UInt8.ofNat n.toNat
def toB (l : List UInt8) : List Int := l.map fun b => (b.toNat : Int)
theorem toB_ofB {l : List Int} (h : ∀ n ∈ l, 0 ≤ n ∧ n ≤ 255) : toB (ofB l) = l := by
  unfold ofB toB
  rw [List.map_map]
  conv => rhs; rw [← List.map_id l]
  exact List.map_congr_left fun n hn => by
    have := h n hn
    simp
    omega
theorem toB_length {l : List UInt8} : (toB l).length = l.length := by simp [toB]
theorem ofB_length {l : List Int} : (ofB l).length = l.length := by simp [ofB]
end Go.Fip
namespace Go.Fip.B
def dg (n : Nat) : UInt8 := UInt8.ofNat (48 + n % 10)
theorem dg_val (n : Nat) : (dg n).toNat = 48 + n % 10 := by
  unfold dg
  simp
  omega
def digF : Nat → Nat → List UInt8
  | 0, n => [dg n]
  | f + 1, n => if n < 10 then [dg n] else digF f (n / 10) ++ [dg n]
def dig (n : Nat) : List UInt8 := digF 20 n
theorem digF_fuel : ∀ (f g n : Nat), n < 10 ^ (f + 1) → n < 10 ^ (g + 1) → digF f n = digF g n
  | 0, 0, _, _, _ => rfl
  | 0, g + 1, n, h, _ => by unfold digF; rw [if_pos (by simpa using h)]
  | f + 1, 0, n, _, h => by unfold digF; rw [if_pos (by simpa using h)]
  | f + 1, g + 1, n, h1, h2 => by
    unfold digF
    by_cases h : n < 10
    · rw [if_pos h, if_pos h]
    · rw [if_neg h, if_neg h, digF_fuel f g (n / 10) (by rw [Nat.div_lt_iff_lt_mul (by decide)]; rw [Nat.pow_succ] at h1; exact h1) (by rw [Nat.div_lt_iff_lt_mul (by decide)]; rw [Nat.pow_succ] at h2; exact h2)]
theorem dig_small {n : Nat} (h : n < 10) : dig n = [dg n] := by unfold dig digF; rw [if_pos h]
theorem dig_rec {n : Nat} (h : 10 ≤ n) (h2 : n < 10 ^ 20) : dig n = dig (n / 10) ++ [dg n] := by
  unfold dig
  conv => lhs; unfold digF
  rw [if_neg (by omega), digF_fuel 19 20 (n / 10) (by omega) (by omega)]
def val (l : List UInt8) : Nat := l.foldl (fun n b => 10 * n + (b.toNat - 48)) 0
theorem val_snoc (l : List UInt8) (b : UInt8) : val (l ++ [b]) = 10 * val l + (b.toNat - 48) := by simp [val, List.foldl_append]
def isD (b : UInt8) : Prop := 48 ≤ b.toNat ∧ b.toNat ≤ 57
instance {b : UInt8} : Decidable (isD b) := by unfold isD; infer_instance
theorem isD_dg (n : Nat) : isD (dg n) := by unfold isD; rw [dg_val]; omega
theorem dg_of {b : UInt8} (h : isD b) {n : Nat} (e : n % 10 = b.toNat - 48) : dg n = b := by
  apply UInt8.toNat_inj.1
  rw [dg_val, e]
  unfold isD at h
  omega
def Dec (l : List UInt8) : Prop := l ≠ [] ∧ (∀ b ∈ l, isD b) ∧ (1 < l.length → l.head? ≠ some 48)
theorem dig_ne : ∀ (f n : Nat), digF f n ≠ []
  | 0, _ => by simp [digF]
  | f + 1, n => by
    unfold digF
    split
    · simp
    · simp
theorem digF_spec : ∀ (f n : Nat), n < 10 ^ (f + 1) → val (digF f n) = n ∧ (∀ b ∈ digF f n, isD b) ∧ (1 < (digF f n).length → (digF f n).head? ≠ some 48) ∧ (1 ≤ n → (digF f n).head? ≠ some 48) ∧ (digF f n).length ≤ f + 1
  | 0, n, h => by
    have h9 : n < 10 := by simpa using h
    refine ⟨?_, fun b hb => ?_, fun h => by simp [digF] at h, fun h1 hc => ?_, by simp [digF]⟩
    · show 10 * 0 + ((dg n).toNat - 48) = n
      rw [dg_val]; omega
    · simp [digF] at hb; subst hb; exact isD_dg n
    · have h3 : dg n = 48 := by simpa [digF] using hc
      have h4 := congrArg UInt8.toNat h3
      rw [dg_val] at h4
      have h5 : (48 : UInt8).toNat = 48 := rfl
      omega
  | f + 1, n, h => by
    unfold digF
    by_cases h9 : n < 10
    · rw [if_pos h9]
      refine ⟨?_, fun b hb => ?_, fun h => by simp at h, fun h1 hc => ?_, by simp⟩
      · show 10 * 0 + ((dg n).toNat - 48) = n
        rw [dg_val]; omega
      · simp at hb; subst hb; exact isD_dg n
      · have h3 : dg n = 48 := by simpa using hc
        have h4 := congrArg UInt8.toNat h3
        rw [dg_val] at h4
        have h5 : (48 : UInt8).toNat = 48 := rfl
        omega
    · rw [if_neg h9]
      have hlt : n / 10 < 10 ^ (f + 1) := by rw [Nat.div_lt_iff_lt_mul (by decide)]; rw [Nat.pow_succ] at h; exact h
      obtain ⟨i1, i2, i3, i4, i5⟩ := digF_spec f (n / 10) hlt
      have hh : (digF f (n / 10) ++ [dg n]).head? = (digF f (n / 10)).head? := by
        cases e : digF f (n / 10) with
        | nil => exact absurd e (dig_ne f _)
        | cons a l => rfl
      refine ⟨?_, fun b hb => ?_, fun _ => ?_, fun _ => ?_, by simp; omega⟩
      · rw [val_snoc, i1, dg_val]; omega
      · rcases List.mem_append.1 hb with hb | hb
        · exact i2 b hb
        · rw [List.mem_singleton] at hb; subst hb; exact isD_dg n
      · rw [hh]; exact i4 (by omega)
      · rw [hh]; exact i4 (by omega)
theorem big : (10 : Nat) ^ 20 ≤ 10 ^ 21 := by decide
theorem dig_val {n : Nat} (h : n < 10 ^ 20) : val (dig n) = n := (digF_spec 20 n (Nat.lt_of_lt_of_le h big)).1
theorem dig_dec {n : Nat} (h : n < 10 ^ 20) : Dec (dig n) := ⟨dig_ne 20 n, (digF_spec 20 n (Nat.lt_of_lt_of_le h big)).2.1, (digF_spec 20 n (Nat.lt_of_lt_of_le h big)).2.2.1⟩
theorem dig_inj {m n : Nat} (hm : m < 10 ^ 20) (hn : n < 10 ^ 20) (h : dig m = dig n) : m = n := by rw [← dig_val hm, ← dig_val hn, h]
theorem val_lt : ∀ l : List UInt8, (∀ b ∈ l, isD b) → val l < 10 ^ l.length := by
  intro l
  induction hl : l.length generalizing l with
  | zero => intro _; rw [List.eq_nil_of_length_eq_zero hl]; decide
  | succ k ih =>
    intro h
    obtain ⟨l', b, rfl⟩ : ∃ l' b, l = l' ++ [b] := ⟨l.dropLast, l.getLast (by intro e; rw [e] at hl; simp at hl), (List.dropLast_concat_getLast _).symm⟩
    have hl2 : l'.length = k := by simpa using hl
    have := ih l' hl2 (fun c hc => h c (List.mem_append_left _ hc))
    have hb := h b (by simp)
    unfold isD at hb
    rw [val_snoc, Nat.pow_succ]
    omega
theorem val_pos : ∀ l : List UInt8, (∀ b ∈ l, isD b) → l ≠ [] → l.head? ≠ some 48 → 1 ≤ val l := by
  intro l
  induction hl : l.length generalizing l with
  | zero => intro _ h; exact absurd (List.eq_nil_of_length_eq_zero hl) h
  | succ k ih =>
    intro h _ h3
    obtain ⟨l', b, rfl⟩ : ∃ l' b, l = l' ++ [b] := ⟨l.dropLast, l.getLast (by intro e; rw [e] at hl; simp at hl), (List.dropLast_concat_getLast _).symm⟩
    have hl2 : l'.length = k := by simpa using hl
    rw [val_snoc]
    by_cases e : l' = []
    · subst e
      have hb := h b (by simp)
      unfold isD at hb
      have h4 : b.toNat ≠ 48 := fun h5 => h3 (by
        have : b = 48 := UInt8.toNat_inj.1 h5
        simp [this])
      omega
    · have := ih l' hl2 (fun c hc => h c (List.mem_append_left _ hc)) e (by
        cases l' with
        | nil => exact absurd rfl e
        | cons a l'' => simpa using h3)
      omega
theorem digF_of_val : ∀ (f : Nat) (l : List UInt8), Dec l → l.length ≤ f + 1 → digF f (val l) = l := by
  intro f
  induction f with
  | zero =>
    intro l h hl
    match l, h, hl with
    | [b], h, _ =>
      have hb := h.2.1 b (by simp)
      show [dg (val [b])] = [b]
      rw [dg_of hb (by
        show (10 * 0 + (b.toNat - 48)) % 10 = _
        unfold isD at hb
        omega)]
    | [], h, _ => exact absurd rfl h.1
    | _ :: _ :: _, _, hl => simp at hl
  | succ f ih =>
    intro l h hl
    obtain ⟨l', b, rfl⟩ : ∃ l' b, l = l' ++ [b] := ⟨l.dropLast, l.getLast h.1, (List.dropLast_concat_getLast _).symm⟩
    have hb := h.2.1 b (by simp)
    have hb2 := hb
    unfold isD at hb2
    rw [val_snoc]
    unfold digF
    by_cases e : l' = []
    · subst e
      have e0 : val ([] : List UInt8) = 0 := rfl
      rw [e0, if_pos (by omega), dg_of hb (by omega)]; rfl
    · have hh : l'.head? ≠ some 48 := by
        have := h.2.2 (by
          have := List.length_pos_iff.2 e
          simp; omega)
        cases l' with
        | nil => exact absurd rfl e
        | cons a l'' => simpa using this
      have hD : ∀ c ∈ l', isD c := fun c hc => h.2.1 c (List.mem_append_left _ hc)
      have hp := val_pos l' hD e hh
      rw [if_neg (by omega), show (10 * val l' + (b.toNat - 48)) / 10 = val l' by omega, ih l' ⟨e, hD, fun _ => hh⟩ (by simpa using hl), dg_of hb (by omega)]
theorem dig_of_val {l : List UInt8} (h : Dec l) (hl : l.length ≤ 20) : dig (val l) = l := digF_of_val 20 l h (by omega)
def hd (n : Nat) : UInt8 := if n % 16 < 10 then UInt8.ofNat (48 + n % 16) else UInt8.ofNat (87 + n % 16)
theorem hd_val (n : Nat) : (hd n).toNat = if n % 16 < 10 then 48 + n % 16 else 87 + n % 16 := by
  unfold hd
  split
  · simp; omega
  · simp; omega
theorem hd_inj {m n : Nat} (h : hd m = hd n) : m % 16 = n % 16 := by
  have := congrArg UInt8.toNat h
  rw [hd_val, hd_val] at this
  split at this <;> split at this <;> omega
def hexN : Nat → Nat → List UInt8
  | 0, _ => []
  | k + 1, n => hexN k (n / 16) ++ [hd n]
theorem hexN_length : ∀ (k n : Nat), (hexN k n).length = k
  | 0, _ => rfl
  | k + 1, n => by simp [hexN, hexN_length k]
theorem hexN_inj : ∀ (k m n : Nat), m < 16 ^ k → n < 16 ^ k → hexN k m = hexN k n → m = n
  | 0, m, n, hm, hn, _ => by simp at hm hn; omega
  | k + 1, m, n, hm, hn, h => by
    unfold hexN at h
    obtain ⟨h1, h2⟩ := List.append_inj h (by rw [hexN_length, hexN_length])
    have h3 := hexN_inj k (m / 16) (n / 16) (by rw [Nat.div_lt_iff_lt_mul (by decide)]; rw [Nat.pow_succ] at hm; exact hm) (by rw [Nat.div_lt_iff_lt_mul (by decide)]; rw [Nat.pow_succ] at hn; exact hn) h1
    have h4 := hd_inj (List.singleton_inj.1 h2)
    omega
def hex (n : UInt64) : List UInt8 := hexN 16 n.toNat
theorem hex_length (n : UInt64) : (hex n).length = 16 := hexN_length _ _
theorem hex_inj {m n : UInt64} (h : hex m = hex n) : m = n := by
  refine UInt64.toNat_inj.1 (hexN_inj 16 _ _ ?_ ?_ h)
  · exact Nat.lt_of_lt_of_le m.toNat_lt (by decide)
  · exact Nat.lt_of_lt_of_le n.toNat_lt (by decide)
end Go.Fip.B
namespace Go.Fip
open Go.RowKit
abbrev Hd := Nat × Nat × Nat
def RowsAt (u : Value) (TT : List Hd) (RR : List (List Int)) (w : World) : Prop :=
  Rd encS 1 u TT w ∧ TT.length = RR.length ∧ ∀ i : Nat, i < TT.length → Rd encI 1 (sv (nth TT (i : Int))) (nth RR (i : Int)) w
theorem RowsAt.nil {w : World} : RowsAt (.slice none 0 0) [] [] w := ⟨⟨⟨none, 0, rfl, Nat.le_refl _, .inl ⟨rfl, rfl⟩⟩, fun i x hi => by simp at hi⟩, rfl, fun i hi => absurd hi (Nat.not_lt_zero _)⟩
theorem RowsAt.below {u : Value} {TT : List Hd} {RR : List (List Int)} {w w' : World} (h : RowsAt u TT RR w) (hb : Below w.heap.size w w') : RowsAt u TT RR w' :=
  ⟨h.1.below hb, h.2.1, fun i hi => (h.2.2 i hi).below hb⟩
theorem RowsAt.now {u : Value} {TT : List Hd} {RR : List (List Int)} {w w' : World} (h : RowsAt u TT RR w) {H : List Item} {n : Nat} (hH : Heap H w') (hn : H[n]? = some (base w)) : RowsAt u TT RR w' := h.below (hH.get hn)
theorem RowsAt.at {u : Value} {TT : List Hd} {RR : List (List Int)} {w : World} (h : RowsAt u TT RR w) {i : Int} (h0 : 0 ≤ i) (h1 : i < (TT.length : Int)) : Rd encI 1 (sv (nth TT i)) (nth RR i) w := by
  have := h.2.2 i.toNat (by omega)
  rwa [Int.toNat_of_nonneg h0] at this
theorem Rd.block {α : Type} {enc : α → List Value} {sz : Nat} {v : Value} {x : α} {xs : List α} {w : World} (h : Rd enc sz v (x :: xs) w) {u : Value} {us : List Value} (hu : enc x = u :: us) : ∃ o, w.cell? ⟨eb v, o, none⟩ = some u :=
  ⟨_, h.2 0 x rfl 0 u (by rw [hu]; rfl)⟩
theorem block_some {w : World} {b o : Nat} {u : Value} (h : w.cell? ⟨b, o, none⟩ = some u) : ∃ ob, w.heap[b]? = some ob := by
  cases hb : w.heap[b]? with
  | some ob => exact ⟨ob, rfl⟩
  | none => simp [World.cell?, hb] at h
theorem Rd.agree {α : Type} {enc : α → List Value} {sz lo hi : Nat} {v : Value} {xs : List α} {w w' : World} (h : Rd enc sz v xs w) (ha : Agree lo hi w w') (hb : xs ≠ [] → lo ≤ eb v ∧ eb v < hi) : Rd enc sz v xs w' := by
  refine ⟨h.1, fun i x hi j u hj => ?_⟩
  have hne : xs ≠ [] := fun e => by subst e; simp at hi
  have := hb hne
  rw [ha.cell (p := ⟨eb v, eo v + i * sz + j, none⟩) this.1 this.2]
  exact h.2 i x hi j u hj
theorem Heap.swapItem {H : List Item} {w : World} (hH : Heap H w) {n lo hi : Nat} {φ ψ : World → Prop} (hn : H[n]? = some ⟨lo, hi, φ⟩) (ho : (⟨lo, hi, ψ⟩ : Item).ok w) : Heap (H.set n ⟨lo, hi, ψ⟩) w :=
  hH.set hn ⟨rfl, rfl, rfl, Nat.le_refl _, fun _ _ _ => rfl⟩ (.inl ⟨Nat.le_refl _, Nat.le_refl _⟩) ho
structure RwI where
  lo : Nat
  hi : Nat
  s : Hd
  l : List Int
theorem Rd.nil {α : Type} {enc : α → List Value} {sz : Nat} {w : World} : Rd enc sz (.slice none 0 0) ([] : List α) w := ⟨⟨none, 0, rfl, Nat.le_refl _, .inl ⟨rfl, rfl⟩⟩, fun i x hi => by simp at hi⟩
end Go.Fip
namespace Go.Fip
open Go.RowKit
structure En where
  n : Int
  d : Int
  f : Int
  t : Int
  a : Int
instance : DecidableEq En := fun x y => decidable_of_iff (x.n = y.n ∧ x.d = y.d ∧ x.f = y.f ∧ x.t = y.t ∧ x.a = y.a) (by cases x; cases y; simp)
instance : Inhabited En := ⟨⟨0, 0, 0, 0, 0⟩⟩
def encE (e : En) : List Value := [.int .i64 e.n, .int .i64 e.d, .int .i64 e.f, .int .i64 e.t, .int .i64 e.a]
def encW (x : UInt64) : List Value := [.int .u64 (x.toNat : Int)]
def encT (l : List UInt8) : List Value := [str l]
def encBo (b : Bool) : List Value := [.bool b]
section
variable {P : Program} {N : Nat} {ds : List Deferred} {env : Env} {S : World → Prop} {x y : Operand} {T T' : TypeId} {a b : UInt64}
theorem yv_xorW (hx : ev env x = some (.int .u64 (a.toNat : Int))) (hy : ev env y = some (.int .u64 (b.toNat : Int))) : Yv P N ds env (.binOp .xor T x y T') (.int .u64 ((a ^^^ b).toNat : Int)) S := fun act hact w _ _ _ _ _ _ => by
  have e := u64_xor_nat a.toNat b.toNat a.toNat_lt b.toNat_lt
  rw [← UInt64.toNat_xor] at e
  simp only [execOp, hact.ev hx, hact.ev hy, eqGuard, binOp_xor, intBits_xor, Sem.run_bind, e]
  rfl
theorem wrap_mulW : IntKind.u64.wrap ((a.toNat : Int) * (b.toNat : Int)) = ((a * b).toNat : Int) := by
  rw [UInt64.toNat_mul]
  unfold IntKind.wrap
  simp [IntKind.bits, IntKind.signed]
theorem yv_mulW (hx : ev env x = some (.int .u64 (a.toNat : Int))) (hy : ev env y = some (.int .u64 (b.toNat : Int))) : Yv P N ds env (.binOp .mul T x y T') (.int .u64 ((a * b).toNat : Int)) S := fun act hact w _ _ _ _ _ _ => by
  simp [execOp, hact.ev hx, hact.ev hy, eqGuard, binOp, Op.intArith, wrap_mulW, Result.andThen]
end
end Go.Fip
namespace Go.Fip
open Go.ChangeShapes Go.WideShapes Go.ChangeAt Go.RowKit
section
variable {H : Type} {enc : TypeId × Value → H} {P : Program} {w : World}
theorem cell_ints {t e b : Nat} {k : IntKind} (ht : P.underlying t = some (.slice e)) (he : P.underlying e = some (.int k)) (hc : P.cellsOf e = 1) {fuel : Nat} {v : Value} {x : DataW H × List MemPlace}
    (hok : Cell.okWide P w .any b t v) (h : DataW.trod enc P w 0 (fun _ => true) true fuel t [v] = some x) : ∃ xs : List Int, Rd (fun n => [.int k n]) 1 v xs w ∧ ∀ n ∈ xs, (Lit.int k n).wf = true := by
  rcases open_ints ht he hc h with ⟨e1, _⟩ | ⟨a, len, cap, zs, e1, _, h2, _, h4, _, h6, h7⟩
  · cases e1
    exact ⟨[], ⟨⟨none, 0, rfl, Nat.le_refl _, .inl ⟨rfl, rfl⟩⟩, fun i x hx => by simp at hx⟩, fun n hn => by cases hn⟩
  · cases e1
    simp [Cell.okWide, Cell.ok, ht] at hok
    have hsp : a.spot = none := hok.2.2.2.1
    obtain ⟨ab, ao, as⟩ := a
    simp only at hsp
    subst hsp
    simp only [if_true] at h4
    refine ⟨zs.take len, ⟨⟨some ⟨ab, ao, none⟩, cap, by rw [List.length_take]; congr 1; omega, by rw [List.length_take]; omega, .inr ⟨ab, ao, rfl⟩⟩, fun i x hx j u hj => ?_⟩, fun n hn => h7 n (List.mem_of_mem_take hn)⟩
    obtain ⟨hlt, hx⟩ := List.getElem?_eq_some_iff.1 hx
    rw [List.length_take] at hlt
    rw [List.getElem_take] at hx
    match j, hj with
    | 0, hj =>
      simp at hj
      subst hj
      have h8 := h6 i (by omega)
      rw [List.getD_eq_getElem?_getD, List.getElem?_eq_getElem (by omega), Option.getD_some, hx] at h8
      simp only [eb, eo, Nat.mul_one, Nat.add_zero]
      rw [← h8]
      unfold Addr.add
      split
      · subst_vars; simp
      · rfl
    | j + 1, hj => simp at hj
theorem slice_cells {t e b : Nat} (ht : P.underlying t = some (.slice e)) {v : Value} (hok : Value.okWide P w .any b t v) : Cell.okWide P w .any b t v ∧ v.cells.toList = [v] := by
  simp only [Value.okWide, ht] at hok
  refine ⟨hok, ?_⟩
  cases v <;> simp [Cell.okWide, Cell.ok, ht] at hok
  rfl
theorem arg_ints {t e b : Nat} {k : IntKind} (ht : P.underlying t = some (.slice e)) (he : P.underlying e = some (.int k)) (hc : P.cellsOf e = 1) {v : Value} {d : DataW H} {ps : List MemPlace}
    (hok : Value.okWide P w .any b t v) (h : DataW.Trod enc P w 0 (fun _ => true) true t v d ps) : ∃ xs : List Int, Rd (fun n => [.int k n]) 1 v xs w ∧ ∀ n ∈ xs, (Lit.int k n).wf = true := by
  obtain ⟨fuel, h⟩ := h
  obtain ⟨h1, h2⟩ := slice_cells ht hok
  rw [h2] at h
  exact cell_ints ht he hc h1 h
end
end Go.Fip
namespace Go.Fip
open Go.RowKit
theorem Rd.bytes {b : Nat} {C : Array Value} {e : TypeId} {fr : Nat × Nat} {cap : Nat} {l : List UInt8} {w : World} (hb : w.heap[b]? = some (.cells C e fr)) (hc : l.length ≤ cap) (hC : ∀ (j : Nat) (h : j < l.length), C[j]? = some (.int .u8 (l[j].toNat : Int))) :
    Rd encB 1 (.slice (some ⟨b, 0, none⟩) l.length cap) (toB l) w := by
  refine ⟨⟨some ⟨b, 0, none⟩, cap, by rw [toB_length], by rw [toB_length]; exact hc, .inr ⟨b, 0, rfl⟩⟩, fun i x hi j u hj => ?_⟩
  have hil : i < l.length := by
    have := (List.getElem?_eq_some_iff.1 hi).1
    rwa [toB_length] at this
  have hx : x = (l[i].toNat : Int) := by
    unfold toB at hi
    rw [List.getElem?_map, List.getElem?_eq_getElem hil] at hi
    simpa using hi.symm
  match j, hj with
  | 0, hj =>
    simp [encB] at hj
    subst hj
    simp only [eb, eo, Nat.mul_one, Nat.zero_add, Nat.add_zero]
    unfold World.cell?
    simp only [hb]
    simp [hC i hil, hx]
  | j + 1, hj => simp [encB] at hj
section
variable {r : Option Nat} {P : Program} {N : Nat} {ds : List Deferred} {env : Env} {w : World} {Q : Post} {all : Array Oper} {rest : List Oper} {H : List Item}
theorem op_s2b {A B e : TypeId} {x : Operand} {d : Nat} {ty : TypeId} {pos : String} {after : Array Edge} {l : List UInt8} (hs : P.underlying A = some .string) (hd : P.underlying B = some (.slice e)) (he : P.underlying e = some (.int .u8))
    (hx : ev env x = some (str l)) (hN : Nat.blt d N = true) (hH : Heap H w)
    (h : ∀ v lo hi w', Heap (⟨lo, hi, Rd encB 1 v (toB l)⟩ :: H) w' → Rd encB 1 v (toB l) w' → Ops r P N all rest ds ((d, v) :: env) w' Q) :
    Ops r P N all (⟨some d, .convert A B x, ty, pos, after, none⟩ :: rest) ds env w Q := by
  have hr := run_bytes_of_string (P := P) w A B e ⟨l.toArray⟩ hs hd he
  rw [size_str] at hr
  have hge := grownCap_ge w l.length 0 e
  have bel : ∀ o, Below w.heap.size w (w.drew.alloc o) := fun o => ⟨rfl, rfl, rfl, by simp, fun k hk => Below.heap_alloc w.drew o k hk⟩
  have hC : ∀ (j : Nat) (hj : j < l.length), (bytesRow (⟨l.toArray⟩ : ByteArray) (grownCap w l.length 0 e))[j]? = some (.int .u8 (l[j].toNat : Int)) := fun j hj => by
    have := bytesRow_at ⟨l.toArray⟩ (grownCap w l.length 0 e) j (by simpa using hj)
    simpa using this
  have hnew : ∀ o, (w.drew.alloc o).heap[w.heap.size]? = some o := fun o => heap_alloc_new w.drew o
  refine ops_val (v := .slice (some ⟨w.heap.size, 0, none⟩) l.length (grownCap w l.length 0 e)) (w' := w.drew.alloc (.cells (bytesRow ⟨l.toArray⟩ (grownCap w l.length 0 e)) e ((bytesRow ⟨l.toArray⟩ (grownCap w l.length 0 e)).size, (bytesRow ⟨l.toArray⟩ (grownCap w l.length 0 e)).size + 1))) hN (fun c hc => by cases hc) (fun a ha => ?_) (h _ w.heap.size (w.heap.size + 1) _ (hH.add (bel _) (Nat.le_refl _) ⟨Nat.le_succ _, by simp, fun w' hw' => ?_⟩) ?_)
  · simp only [execOp, ha.ev hx, str, Sem.run_bind, hr, Sem.run_pure, Result.andThen]
  · exact Rd.bytes ((hw'.block w.heap.size (Nat.le_refl _) (Nat.lt_succ_self _)).trans (hnew _)) hge hC
  · exact Rd.bytes (hnew _) hge hC
end
section
variable {P : Program} {N : Nat} {ds : List Deferred} {env : Env} {S : World → Prop} {x : Operand}
theorem yv_b2s {A B e : TypeId} {v : Value} {l : List Int} (hs : P.underlying A = some (.slice e)) (hd : P.underlying B = some .string) (he : P.underlying e = some (.int .u8)) (hx : ev env x = some v) (hr : ∀ w, S w → Rd encB 1 v l w) (hl : ∀ n ∈ l, 0 ≤ n ∧ n ≤ 255) : Yv P N ds env (.convert A B x) (str (ofB l)) S := fun act hact w hw _ _ _ _ _ => by
  have hrd := hr w hw
  obtain ⟨a, c, e1, hc, ha⟩ := hrd.1
  rcases ha with ⟨rfl, rfl⟩ | ⟨b, o, rfl⟩
  · have hl0 : l = [] := List.eq_nil_of_length_eq_zero (by omega)
    subst hl0
    subst e1
    have e2 := run_convert_bytes_string (P := P) w A B e none 0 0 hs he hd
    simp only [List.length_nil] at hx
    simp only [execOp, hact.ev hx, Sem.run_bind, List.length_nil, e2]
    rfl
  · have e2 := run_convert_bytes_back (P := P) w A B e ⟨b, o, none⟩ c (ofB l) hs he hd (fun j hj => by
      rw [ofB_length] at hj
      have h1 := hrd.2 j l[j] (List.getElem?_eq_getElem hj) 0 _ rfl
      rw [e1] at h1
      simp only [eb, eo, Nat.mul_one, Nat.add_zero] at h1
      have ea : (⟨b, o, none⟩ : Addr).add j = ⟨b, o + j, none⟩ := by
        unfold Addr.add
        split
        · subst_vars; rfl
        · rfl
      rw [ea, h1]
      have e4 := toB_ofB hl
      have e5 : ((ofB l)[j]'(by rw [ofB_length]; exact hj)).toNat = (l[j].toNat : Int) := by
        have e6 : (toB (ofB l))[j]'(by rw [e4]; exact hj) = l[j] := by simp only [e4]
        have h7 := hl l[j] (List.getElem_mem hj)
        unfold toB at e6
        rw [List.getElem_map] at e6
        omega
      rw [e5]
      have h7 := hl l[j] (List.getElem_mem hj)
      rw [Int.toNat_of_nonneg h7.1])
    rw [ofB_length] at e2
    rw [e1] at hx
    simp only [execOp, hact.ev hx, Sem.run_bind, e2, Sem.run_pure, Result.andThen, str]
end
end Go.Fip
namespace Go.Fip
open Go.RowKit
section
variable {P : Program} {N : Nat} {ds : List Deferred} {env : Env} {S : World → Prop} {x y : Operand} {T T' : TypeId} {op : Op}
theorem yv_castS {a b : List UInt8} (h : a = b) (hy : Yv P N ds env op (str a) S) : Yv P N ds env op (str b) S := h ▸ hy
theorem yv_quoK {k : IntKind} {m n : Int} (hx : ev env x = some (.int k m)) (hy : ev env y = some (.int k n)) (h0 : 0 ≤ m) (h1 : 0 < n) (hw : k.wrap (m / n) = m / n) : Yv P N ds env (.binOp .quo T x y T') (.int k (m / n)) S := fun act hact w _ _ _ _ _ _ => by
  have e : m.tdiv n = m / n := Int.tdiv_eq_ediv_of_nonneg h0
  have hn : n ≠ 0 := by omega
  simp [execOp, hact.ev hx, hact.ev hy, eqGuard, binOp, Op.intDiv, hn, e, hw, Result.andThen]
end
end Go.Fip
namespace Go.Fip.B
open Go.Fip
def fs (n : UInt64) (b : UInt8) : UInt64 := (n ^^^ b.toUInt64) * 1099511628211
def smF (l : List UInt8) : UInt64 := l.foldl fs 14695981039346656037
def smTo (l : List UInt8) (k : Nat) : UInt64 := smF (l.take k)
def sm (l : List UInt8) : UInt64 := smF l
theorem smTo_succ {l : List UInt8} {k : Nat} (h : k < l.length) : smTo l (k + 1) = (smTo l k ^^^ (l.getD k 0).toUInt64) * 1099511628211 := by
  unfold smTo smF
  rw [List.take_succ_eq_append_getElem h, List.foldl_append, List.getD_eq_getElem?_getD, List.getElem?_eq_getElem h]; rfl
theorem smTo_all {l : List UInt8} {k : Nat} (h : l.length ≤ k) : smTo l k = sm l := by unfold smTo sm; rw [List.take_of_length_le h]
theorem byte_word {l : List UInt8} {k : Nat} : byteAt l (k : Int) = ((l.getD k 0).toUInt64.toNat : Int) := by
  unfold byteAt
  rw [Int.toNat_natCast]; simp
def text (e : En) : List UInt8 := dig e.n.toNat ++ [32] ++ dig e.d.toNat ++ [32] ++ dig e.f.toNat ++ [32] ++ dig e.t.toNat ++ [32] ++ dig e.a.toNat
def leaf (e : En) : List UInt8 := [101] ++ text e
def both (a b : UInt64) : List UInt8 := [110] ++ hex a ++ hex b
theorem both_inj {a b c d : UInt64} (h : both a b = both c d) : a = c ∧ b = d := by
  unfold both at h
  rw [List.append_assoc, List.append_assoc] at h
  obtain ⟨-, h1⟩ := List.append_inj h rfl
  obtain ⟨h2, h3⟩ := List.append_inj h1 (by rw [hex_length, hex_length])
  exact ⟨hex_inj h2, hex_inj h3⟩
theorem dig_no {n : Nat} (h : n < 10 ^ 20) : ∀ b ∈ dig n, b ≠ 32 := fun b hb e => by
  have := (dig_dec h).2.1 b hb
  unfold isD at this
  rw [e] at this
  exact absurd this.1 (by decide)
theorem split_sp {a b c d : List UInt8} (ha : ∀ x ∈ a, x ≠ 32) (hc : ∀ x ∈ c, x ≠ 32) (h : a ++ 32 :: b = c ++ 32 :: d) : a = c ∧ b = d := by
  induction a generalizing c with
  | nil =>
    cases c with
    | nil => exact ⟨rfl, by simpa using h⟩
    | cons y c => simp at h; exact absurd h.1.symm (hc y (by simp))
  | cons x a ih =>
    cases c with
    | nil => simp at h; exact absurd h.1 (ha x (by simp))
    | cons y c =>
      simp at h
      obtain ⟨h1, h2⟩ := h
      obtain ⟨h3, h4⟩ := ih (fun z hz => ha z (List.mem_cons_of_mem _ hz)) (fun z hz => hc z (List.mem_cons_of_mem _ hz)) h2
      exact ⟨by rw [h1, h3], h4⟩
def isEn (e : En) : Prop := (1 ≤ e.n ∧ e.n ≤ 1099511627776) ∧ (0 ≤ e.d ∧ e.d ≤ 36500) ∧ (0 ≤ e.f ∧ e.f ≤ 9) ∧ (0 ≤ e.t ∧ e.t ≤ 9) ∧ (1 ≤ e.a ∧ e.a ≤ 1000000)
instance {e : En} : Decidable (isEn e) := by unfold isEn; infer_instance
theorem small20 {n : Int} (h : 0 ≤ n) (h2 : n ≤ 1099511627776) : n.toNat < 10 ^ 20 := by
  have : (1099511627776 : Nat) < 10 ^ 20 := by decide
  omega
theorem text_inj {e e' : En} (h : isEn e) (h' : isEn e') (ht : text e = text e') : e = e' := by
  obtain ⟨a1, a2, a3, a4, a5⟩ := h
  obtain ⟨b1, b2, b3, b4, b5⟩ := h'
  have s1 := small20 (n := e.n) (by omega) (by omega)
  have s2 := small20 (n := e.d) (by omega) (by omega)
  have s3 := small20 (n := e.f) (by omega) (by omega)
  have s4 := small20 (n := e.t) (by omega) (by omega)
  have s5 := small20 (n := e.a) (by omega) (by omega)
  have r1 := small20 (n := e'.n) (by omega) (by omega)
  have r2 := small20 (n := e'.d) (by omega) (by omega)
  have r3 := small20 (n := e'.f) (by omega) (by omega)
  have r4 := small20 (n := e'.t) (by omega) (by omega)
  have r5 := small20 (n := e'.a) (by omega) (by omega)
  unfold text at ht
  simp only [List.append_assoc, List.singleton_append] at ht
  obtain ⟨t1, ht⟩ := split_sp (dig_no s1) (dig_no r1) ht
  obtain ⟨t2, ht⟩ := split_sp (dig_no s2) (dig_no r2) ht
  obtain ⟨t3, ht⟩ := split_sp (dig_no s3) (dig_no r3) ht
  obtain ⟨t4, t5⟩ := split_sp (dig_no s4) (dig_no r4) ht
  have u1 := dig_inj s1 r1 t1
  have u2 := dig_inj s2 r2 t2
  have u3 := dig_inj s3 r3 t3
  have u4 := dig_inj s4 r4 t4
  have u5 := dig_inj s5 r5 t5
  cases e; cases e'
  simp only [En.mk.injEq]
  simp only at *
  omega
theorem leaf_inj {e e' : En} (h : isEn e) (h' : isEn e') (ht : leaf e = leaf e') : e = e' := text_inj h h' (by unfold leaf at ht; simpa using ht)
def half (n : Nat) : Nat := if n ≤ 2 then 1 else if n ≤ 4 then 2 else if n ≤ 8 then 4 else if n ≤ 16 then 8 else if n ≤ 32 then 16 else 32
end Go.Fip.B
namespace Go.Fip.B
open Go.Fip
theorem p18 : (1000000000000000000 : Nat) ≤ 10 ^ 20 := by decide
theorem dig_len {n : Nat} (h : n < 1000000000000000000) : (dig n).length ≤ 21 := (digF_spec 20 n (Nat.lt_of_lt_of_le h (by decide))).2.2.2.2
theorem dig_rec2 {n : Nat} (h : 10 ≤ n) (h2 : n < 1000000000000000000) : dig n = dig (n / 10) ++ [dg n] := dig_rec h (Nat.lt_of_lt_of_le h2 p18)
end Go.Fip.B
namespace Go.Fip
theorem mapT_two2 {P : Program} {MT KT ET : Nat} {f g : Field} {V : Type} {vv : V → Value} {z : V} (hu : P.underlying MT = some (.map KT ET)) (hk : P.underlying KT = some (.struct #[f, g])) (hf' : intField P 0 f = true) (hg2 : intField P 1 g = true) (hs : P.stoodInHeld KT = false)
    (hg : P.eqGuardType P.depth KT = false) (hz : ∀ w, (zeroValue ET).run P w = .ok (vv z) w) : MapT P MT KT ET (fun n : Int × Int => .agg #[.int .i64 n.1, .int .i64 n.2]) vv z := by
  have hf := intField_of hf'
  have hgi := intField_of hg2
  have hfo : P.fieldsOf KT = #[f, g] := by simp [Program.fieldsOf, hk]
  refine ⟨hu, ⟨_, hk, fun _ _ => rfl⟩, fun a b w => ?_, fun a w e => ?_, hz, fun a => ?_⟩
  · have := (eqi_struct (n := 2) (fs := [f, g]) (by rw [hfo]; exact hk) (by rw [hfo]) hs hg rfl (fun i f' hi => by
      match i with
      | 0 => simp at hi; subst hi; exact hf
      | 1 => simp at hi; subst hi; exact hgi
      | i + 2 => simp at hi)).eq [a.1, a.2] [b.1, b.2] w rfl rfl
    simpa [ag, Prod.ext_iff] using this
  · obtain ⟨h1, h2, h3, h4⟩ := hf
    obtain ⟨k1, k2, k3, k4⟩ := hgi
    have e1 : (part f.type #[Value.int .i64 a.1, Value.int .i64 a.2] 0).run P w = .ok (.int .i64 a.1) w := by simp [part, h3 w, Result.andThen]
    have e1' : (part g.type #[Value.int .i64 a.1, Value.int .i64 a.2] 1).run P w = .ok (.int .i64 a.2) w := by simp [part, k3 w, Result.andThen]
    have key : ∀ d, (Instr.checkKey e (d + 2) KT (.agg #[.int .i64 a.1, .int .i64 a.2])).run P w = .ok () w := fun d => by
      have e2 : (Instr.checkKey e (d + 1) f.type (.int .i64 a.1)).run P w = .ok () w := by simp [Instr.checkKey, run_underlying h4, Result.andThen]
      have e3 : (Instr.checkKey e (d + 1) g.type (.int .i64 a.2)).run P w = .ok () w := by simp [Instr.checkKey, run_underlying k4, Result.andThen]
      rw [Instr.checkKey]
      simp [run_underlying hk, Result.andThen, h1, h2, e1, e2, k1, k2, e1', e3]
    exact key 9998
  · have key : ∀ d, Instr.sameBits (d + 1) (.agg #[.int .i64 a.1, .int .i64 a.2]) (.agg #[.int .i64 a.1, .int .i64 a.2]) = true := fun d => by simp [Instr.sameBits]
    exact key 9999
end Go.Fip
namespace Go.Fip
open Go.RowKit
structure IterO (P : Program) (g : FuncId) (cap : List Value) (lo hi : Nat) (A : World → Prop) (xs : List Value) : Prop where
  enters : ∀ (as : Array Value) (w : World), (callFunc g as).run P w = .ok (.enter g as) w
  calls : ∀ (l : Nat) (J : Nat → World → Prop) (Jx : World → Prop),
    (∀ i w w', J i w → Off lo hi w w' → J i w') → (∀ w w', Jx w → Below w.heap.size w w' → Jx w') →
    (∀ i x, xs[i]? = some x → ∀ w, J i w → hi ≤ w.heap.size → YieldAt Fence.wide 0 P l #[x] w fun e w' => (e = .returned (.bool true) ∧ J (i + 1) w' ∧ Agree lo hi w w') ∨ (e = .returned (.bool false) ∧ Jx w')) →
    ∀ w, J 0 w → (⟨lo, hi, A⟩ : Item).ok w → CallsIn Fence.wide 0 P g (.func (.yield l) #[] #[] :: cap).toArray w fun e w' => (∃ v, e = .returned v) ∧ (J xs.length w' ∨ Jx w')
def held (lo hi : Nat) (w0 : World) : Item := ⟨lo, hi, Agree lo hi w0⟩
def spare (lo hi : Nat) : Item := ⟨lo, hi, fun _ => True⟩
theorem rangeFuncO {P : Program} {N : Nat} {ds : List Deferred} {env : Env} {w : World} {Q : Post} {g : Operand} {p : Nat} {assign body : Code} {gf : FuncId} {cap : List Value} {lo hi : Nat} {A : World → Prop} {xs : List Value} {H : List Item}
    (hg : ev env g = some (.func (.func gf) #[] cap.toArray)) (hit : IterO P gf cap lo hi A xs) (hp : Nat.blt p N = true) (hH : Heap (⟨lo, hi, A⟩ :: H) w)
    (I : Nat → List Item → Prop) (Ix : Code → List Item → Prop) (h0 : I 0 H)
    (hround : ∀ (l D0 : Nat) (i : Nat) (x : Value) (H : List Item) (w w0 : World) (rc : Loop), xs[i]? = some x → I i H → Heap (recItem l rc :: markItem D0 :: held lo hi w0 :: H) w →
      Holds (some l) P N assign [] ((p, x) :: env) w (asgQ P N l body (fun H' => ∃ H2, I (i + 1) H2 ∧ H' = markItem D0 :: held lo hi w0 :: H2) (fun c H' => ∃ H2, Ix c H2 ∧ H' = markItem D0 :: held lo hi w0 :: H2) rc))
    (hdone : ∀ (D0 : Nat) (H : List Item) (w : World), I xs.length H → Heap (markItem D0 :: spare lo hi :: H) w → Q .normal (isMark D0 :: ds) env w)
    (hstop : ∀ (D0 : Nat) (c : Code) (H : List Item) (w : World), Ix c H → Heap (markItem D0 :: H) w → Holds none P N c (isMark D0 :: ds) env w Q) :
    Holds none P N (.rangeFunc g #[p] assign body) ds env w Q := by
  intro a ha
  refine wpIn_rangeFunc ?_
  intro fn _
  obtain ⟨rec, hrec⟩ : ∃ rec : LoopState → Option Code → Loop, rec = fun st pe => { state := st, pending := pe, fn, tmps := a.tmps, params := #[p], assign, body, defers := w.heap.size } := ⟨_, rfl⟩
  obtain ⟨W1, hW1⟩ : ∃ W1, (w.alloc (.deferred (some []))).alloc (.loop (rec .ready none)) = W1 := ⟨_, rfl⟩
  have hHd : Heap (markItem w.heap.size :: ⟨lo, hi, A⟩ :: H) (w.alloc (.deferred (some []))) := hH.add (below_alloc w _) (Nat.le_refl _) (markItem_ok (heap_new w _))
  have hH1 : Heap (recItem (w.heap.size + 1) (rec .ready none) :: markItem w.heap.size :: ⟨lo, hi, A⟩ :: H) W1 := by
    rw [← hW1]
    refine hHd.add (below_alloc _ _) (by simp [recItem]) (recItem_ok ?_)
    have := heap_new (w.alloc (.deferred (some []))) (.loop (rec .ready none))
    rwa [World.size_alloc] at this
  have hro : Fence.wide.round = none := rfl
  refine ⟨w.heap.size + 1, [isMark w.heap.size], W1, { target := .fn (.func gf) cap.toArray, args := #[.func (.yield (w.heap.size + 1)) #[] #[]] }, W1, gf,
    (.func (.yield (w.heap.size + 1)) #[] #[] :: cap).toArray, W1, ?_, ?_, ?_, ?_, fun h => by simp [Fr_depth] at h, ?_⟩
  · rw [Fr_round, ← hW1, hrec]; exact run_enterLoop_outer _ _ _ _ _
  · simp only [resolve, rangeCall, ha.ev hg]
    simp [go_sem]
  · intro f' _; exact Fr_fn _ _
  · simp only [invoke]
    have e : (#[Value.func (.yield (w.heap.size + 1)) #[] #[]] : Array Value) ++ cap.toArray = (.func (.yield (w.heap.size + 1)) #[] #[] :: cap).toArray := by simp
    rw [e]
    exact hit.enters _ W1
  · refine CallsIn.mono (hit.calls (w.heap.size + 1)
      (fun i W => ∃ H2, I i H2 ∧ Heap (recItem (w.heap.size + 1) (rec .ready none) :: markItem w.heap.size :: spare lo hi :: H2) W)
      (fun W => ∃ c H2, Ix c H2 ∧ Heap (recItem (w.heap.size + 1) (rec .done (some c)) :: markItem w.heap.size :: H2) W)
      (fun i W W' ⟨H2, hi', hh⟩ ho => ⟨H2, hi', (hh.set (n := 2) (i := spare lo hi) (j := spare lo hi) rfl ho (.inl ⟨Nat.le_refl _, Nat.le_refl _⟩) ⟨(hh.okAt (n := 2) rfl).1, Nat.le_trans (hh.okAt (n := 2) rfl).2.1 ho.size, fun _ _ => trivial⟩)⟩) (fun W W' ⟨c, H2, hi', hh⟩ hb => ⟨c, H2, hi', hh.grow hb⟩) ?_ W1 ⟨H, h0, hH1.weaken (n := 2) (φ := fun _ => True) rfl (fun _ _ => trivial)⟩ (hH1.okAt (n := 2) rfl)) ?_
    · rintro i x hx W ⟨H2, hi', hh⟩ hsz
      have hl : W.heap[w.heap.size + 1]? = some (.loop (rec .ready none)) := hh.get (n := 0) rfl
      have hh0 : Heap (recItem (w.heap.size + 1) (rec .ready none) :: markItem w.heap.size :: held lo hi W :: H2) W :=
        hh.swapItem (n := 2) (ψ := Agree lo hi W) rfl ⟨(hh.okAt (n := 2) rfl).1, hsz, fun _ h => h⟩
      have hy := run_yield (P := P) (args := #[x]) hl (by rw [hrec]; rfl)
      rw [hrec] at hy
      refine ⟨fn, _, assign, body, hy, roundIn_of_wpIn trivial ?_⟩
      have hfit : Fits N { tmps := (#[p].zip #[x]).foldl (fun tmps (t, a) => tmps.setIfInBounds t a) a.tmps, defers := [] } [] ((p, x) :: env) := by
        have h1 : Fits N { tmps := a.tmps, defers := [] } [] env := ⟨ha.size, rfl, ha.slot⟩
        have := h1.put (by simpa [Nat.blt_eq] using hp : p < N) x
        simpa [Act.put] using this
      refine Go.wpIn_mono (hround (w.heap.size + 1) w.heap.size i x H2 W W (rec .ready none) hx hi' hh0 _ hfit) ?_
      rintro e a' w' ⟨ds', env', hf', q⟩
      cases e with
      | normal =>
        obtain ⟨H3, hh3, hb⟩ := q
        have hl3 : w'.heap[w.heap.size + 1]? = some (.loop (rec .ready none)) := hh3.get (n := 0) rfl
        refine ⟨_, run_beginRound hl3 (by rw [hrec]), ?_⟩
        refine Go.wpIn_mono (hb _ (hh3.putRec _) a' hf') ?_
        have fin : ∀ (jump : Option Code) (H5 : List Item) (W3 : World), Heap (recItem (w.heap.size + 1) { rec .ready none with state := .busy } :: H5) W3 →
            (Instr.endRound (w.heap.size + 1) jump).run P W3 = .ok (.bool jump.isNone) (W3.putObj (w.heap.size + 1) (.loop (rec (if jump.isNone then .ready else .done) jump))) ∧
            Heap (recItem (w.heap.size + 1) (rec (if jump.isNone then .ready else .done) jump) :: H5) (W3.putObj (w.heap.size + 1) (.loop (rec (if jump.isNone then .ready else .done) jump))) := fun jump H5 W3 h5 => by
          have hl5 : W3.heap[w.heap.size + 1]? = some (.loop { rec .ready none with state := .busy }) := h5.get (n := 0) rfl
          have := run_endRound (P := P) jump hl5
          rw [hrec] at this ⊢
          refine ⟨this, ?_⟩
          have := h5.putRec (rec (if jump.isNone then .ready else .done) jump)
          rw [hrec] at this
          exact this
        have less : ∀ {rc : Loop} {H6 : List Item} {W3 : World}, Heap (recItem (w.heap.size + 1) rc :: markItem w.heap.size :: held lo hi W :: H6) W3 → Heap (recItem (w.heap.size + 1) rc :: markItem w.heap.size :: H6) W3 := fun h => h.sub ((List.sublist_cons_self _ _).cons_cons _ |>.cons_cons _)
        rintro e2 a2 w2 ⟨ds2, env2, hf2, q2⟩
        cases e2 with
        | normal =>
          obtain ⟨_, ⟨H6, hi6, rfl⟩, hh6⟩ := q2
          obtain ⟨hr, hk⟩ := fin none _ w2 hh6
          exact ⟨_, _, hr, .inl ⟨rfl, ⟨H6, hi6, hk.weaken (n := 2) (φ := fun _ => True) rfl (fun _ _ => trivial)⟩, hk.get (n := 2) rfl⟩⟩
        | ret =>
          obtain ⟨_, ⟨H6, hi6, rfl⟩, hh6⟩ := q2
          obtain ⟨hr, hk⟩ := fin (some .ret) _ w2 hh6
          exact ⟨_, _, hr, .inr ⟨rfl, _, H6, hi6, less hk⟩⟩
        | exit t =>
          obtain ⟨_, ⟨H6, hi6, rfl⟩, hh6⟩ := q2
          obtain ⟨hr, hk⟩ := fin (some (.exit t)) _ w2 hh6
          exact ⟨_, _, hr, .inr ⟨rfl, _, H6, hi6, less hk⟩⟩
        | goto t =>
          obtain ⟨_, ⟨H6, hi6, rfl⟩, hh6⟩ := q2
          obtain ⟨hr, hk⟩ := fin (some (.goto t)) _ w2 hh6
          exact ⟨_, _, hr, .inr ⟨rfl, _, H6, hi6, less hk⟩⟩
        | panic c => exact q2.elim
        | outgrown => exact q2.elim
      | ret => exact q.elim
      | exit t => exact q.elim
      | goto t => exact q.elim
      | panic c => exact q.elim
      | outgrown => exact q.elim
    · rintro e W2 ⟨⟨v, rfl⟩, (⟨H2, hi', hh⟩ | ⟨c, H2, hi', hh⟩)⟩
      · have hl : W2.heap[w.heap.size + 1]? = some (.loop (rec .ready none)) := hh.get (n := 0) rfl
        have hr := run_endLoop (P := P) hl (by rw [hrec]; simp)
        rw [hrec] at hr
        refine ⟨none, _, hr, ?_⟩
        have := (hh.putRec (rec .exhausted none)).sub (List.sublist_cons_self _ _)
        rw [hrec] at this
        exact ⟨_, _, ⟨ha.size, by simp [ha.defers], ha.slot⟩, hdone w.heap.size H2 _ hi' this⟩
      · have hl : W2.heap[w.heap.size + 1]? = some (.loop (rec .done (some c))) := hh.get (n := 0) rfl
        have hr := run_endLoop (P := P) hl (by rw [hrec]; simp)
        rw [hrec] at hr
        refine ⟨some c, _, hr, ?_⟩
        have := (hh.putRec (rec .exhausted (some c))).sub (List.sublist_cons_self _ _)
        rw [hrec] at this
        exact hstop w.heap.size c H2 _ hi' this _ ⟨ha.size, by simp [ha.defers], ha.slot⟩
def restI (w0 : World) (lo : Nat) : Item := ⟨0, lo, Agree 0 lo w0⟩
def restJ (w0 : World) (hi : Nat) : Item := ⟨hi, w0.heap.size, Agree hi w0.heap.size w0⟩
theorem off_of {lo hi : Nat} {w w' : World} (h1 : Agree 0 lo w w') (h2 : Agree hi w.heap.size w w') : Off lo hi w w' := ⟨h1.os, h1.tape, h1.output, h1.size, fun k hk h => by
  rcases h with h | h
  · exact h1.block k (Nat.zero_le _) h
  · exact h2.block k h hk⟩
theorem iterO_of {P : Program} {g : FuncId} {fn : Func} {c : Code} {cap : List Value} {lo hi : Nat} {A : World → Prop} {xs : List Value} {N : Nat}
    (hf : P.funcs[g]? = some fn) (hb : fn.body = some c) (hen : ∀ (as : Array Value) (w' : World), (callFunc g as).run P w' = .ok (.enter g as) w') (hres : fn.results = #[])
    (hN : fn.ntmps = N) (hargs : Nat.ble (cap.length + 1) N = true)
    (h : ∀ (l : Nat) (J : Nat → World → Prop) (Jx : World → Prop), (∀ i w w', J i w → Off lo hi w w' → J i w') → (∀ w w', Jx w → Below w.heap.size w w' → Jx w') →
      (∀ i x, xs[i]? = some x → ∀ w, J i w → hi ≤ w.heap.size → YieldAt (Fr none) 0 P l #[x] w fun e w' => (e = .returned (.bool true) ∧ J (i + 1) w' ∧ Agree lo hi w w') ∨ (e = .returned (.bool false) ∧ Jx w')) →
      ∀ w, J 0 w → Heap [⟨lo, hi, A⟩, restI w lo, restJ w hi] w → Holds none P N c [] (argEnv 0 (.func (.yield l) #[] #[] :: cap)) w (iterQ (J xs.length) Jx)) : IterO P g cap lo hi A xs := by
  refine ⟨hen, fun l J Jx hJ hJx hY w hw hA => ?_⟩
  refine callsIn_of_wp hf hb trivial ?_
  have hH : Heap [⟨lo, hi, A⟩, restI w lo, restJ w hi] w := by
    refine ⟨fun i hi' => ?_, ?_⟩
    · simp at hi'
      rcases hi' with rfl | rfl | rfl
      · exact hA
      · exact ⟨Nat.zero_le _, Nat.le_trans hA.1 hA.2.1, fun w' h => h⟩
      · exact ⟨hA.2.1, Nat.le_refl _, fun w' h => h⟩
    · have h9 : lo ≤ hi := hA.1
      simp [Item.apart, restI, restJ]
      omega
  refine Go.wpIn_mono (h l J Jx hJ hJx hY w hw hH { tmps := (.func (.yield l) #[] #[] :: cap).toArray ++ Array.replicate (fn.ntmps - (.func (.yield l) #[] #[] :: cap).toArray.size) undef, defers := [] } ⟨?_, rfl, fun i v hi => ?_⟩) ?_
  · have : cap.length + 1 ≤ N := by simpa [Nat.ble_eq] using hargs
    simp [hN]; omega
  · have h1 : (.func (.yield l) #[] #[] :: cap)[i]? = some v := by simpa using (argEnv_find (.func (.yield l) #[] #[] :: cap) 0 i v hi).2
    have hlt := (List.getElem?_eq_some_iff.1 h1).1
    simp only [Array.getElem?_append, List.size_toArray, hlt, if_true, List.getElem?_toArray]
    exact h1
  · rintro e a' w' ⟨ds, env', hf', hq⟩
    cases e with
    | normal =>
      obtain ⟨rfl, hq⟩ := hq
      exact ⟨hf'.defers, _, res0 hres a' hf', ⟨_, rfl⟩, hq⟩
    | ret =>
      obtain ⟨rfl, hq⟩ := hq
      exact ⟨hf'.defers, _, res0 hres a' hf', ⟨_, rfl⟩, hq⟩
    | exit i => exact hq.elim
    | goto i => exact hq.elim
    | panic i => exact hq.elim
    | outgrown => exact hq.elim
def Two (t1 t2 c1 c2 : Nat) (x y : Value) (w : World) : Prop := Bx c1 t1 [x] w ∧ Bx c2 t2 [y] w
theorem two_open {t1 t2 c1 c2 lo hi : Nat} {x y : Value} {R : List Item} {w : World} (hne : c1 ≠ c2) (h1 : lo ≤ c1 ∧ c1 < hi) (h2 : lo ≤ c2 ∧ c2 < hi) (hH : Heap (⟨lo, hi, Two t1 t2 c1 c2 x y⟩ :: R) w) : Heap (bx c1 t1 [x] :: bx c2 t2 [y] :: R) w := by
  have hok := hH.okAt (n := 0) rfl
  have hap := (List.pairwise_cons.1 hH.apart)
  have hR : Heap R w := hH.sub (List.sublist_cons_self _ _)
  have ok1 : (bx c1 t1 [x]).ok w := ⟨Nat.le_succ _, by show c1 + 1 ≤ _; have h3 : hi ≤ w.heap.size := hok.2.1; omega, fun w' ha => by
    have h3 := hok.now.1
    show w'.heap[c1]? = _
    unfold Bx at h3
    rw [ha.block c1 (Nat.le_refl _) (Nat.lt_succ_self _)]; exact h3⟩
  have ok2 : (bx c2 t2 [y]).ok w := ⟨Nat.le_succ _, by show c2 + 1 ≤ _; have h3 : hi ≤ w.heap.size := hok.2.1; omega, fun w' ha => by
    have h3 := hok.now.2
    show w'.heap[c2]? = _
    unfold Bx at h3
    rw [ha.block c2 (Nat.le_refl _) (Nat.lt_succ_self _)]; exact h3⟩
  refine ⟨fun i hi' => ?_, ?_⟩
  · rcases List.mem_cons.1 hi' with rfl | hi'
    · exact ok1
    · rcases List.mem_cons.1 hi' with rfl | hi'
      · exact ok2
      · exact hR.ok i hi'
  · refine List.Pairwise.cons (fun j hj => ?_) (List.Pairwise.cons (fun j hj => ?_) hR.apart)
    · rcases List.mem_cons.1 hj with rfl | hj
      · show c1 + 1 ≤ c2 ∨ c2 + 1 ≤ c1; omega
      · have := hap.1 j hj
        rcases this with h | h
        · left; show c1 + 1 ≤ _; have h3 : hi ≤ j.lo := h; omega
        · right; show _ ≤ c1; have h3 : j.hi ≤ lo := h; omega
    · have := hap.1 j hj
      rcases this with h | h
      · left; show c2 + 1 ≤ _; have h3 : hi ≤ j.lo := h; omega
      · right; show _ ≤ c2; have h3 : j.hi ≤ lo := h; omega
theorem two_round {t1 t2 c1 c2 lo hi : Nat} {cs1 cs2 : List Value} {wj w w' : World} (hne : c1 ≠ c2) (h1 : lo ≤ c1 ∧ c1 < hi) (h2 : lo ≤ c2 ∧ c2 < hi) (hlh : hi ≤ w.heap.size) (hH : Heap [bx c1 t1 cs1, bx c2 t2 cs2, restI wj lo, restJ wj hi] w) (ha : Agree lo hi w w') :
    Heap [bx c1 t1 cs1, bx c2 t2 cs2, restI w' lo, restJ w' hi] w' := by
  have hb1 : w.heap[c1]? = _ := hH.get (n := 0) rfl
  have hb2 : w.heap[c2]? = _ := hH.get (n := 1) rfl
  have hs := ha.size
  have k1 : Bx c1 t1 cs1 w' := by unfold Bx; rw [ha.block c1 h1.1 h1.2]; exact hb1
  have k2 : Bx c2 t2 cs2 w' := by unfold Bx; rw [ha.block c2 h2.1 h2.2]; exact hb2
  have ok1 : (bx c1 t1 cs1).ok w' := ⟨Nat.le_succ _, by show c1 + 1 ≤ _; omega, fun w2 h => by show w2.heap[c1]? = _; unfold Bx at k1; rw [h.block c1 (Nat.le_refl _) (Nat.lt_succ_self _)]; exact k1⟩
  have ok2 : (bx c2 t2 cs2).ok w' := ⟨Nat.le_succ _, by show c2 + 1 ≤ _; omega, fun w2 h => by show w2.heap[c2]? = _; unfold Bx at k2; rw [h.block c2 (Nat.le_refl _) (Nat.lt_succ_self _)]; exact k2⟩
  refine ⟨fun i hi' => ?_, ?_⟩
  · simp at hi'
    rcases hi' with rfl | rfl | rfl | rfl
    · exact ok1
    · exact ok2
    · exact ⟨Nat.zero_le _, by show lo ≤ _; omega, fun w2 h => h⟩
    · exact ⟨by show hi ≤ w'.heap.size; omega, Nat.le_refl _, fun w2 h => h⟩
  · simp [Item.apart, restI, restJ, bx]
    omega
structure FnO (P : Program) (f : FuncId) (args : Array Value) (w : World) (lo hi : Nat) (R : Value → World → Prop) : Prop where
  enters : ∀ w', (callFunc f args).run P w' = .ok (.enter f args) w'
  calls : CallsIn Fence.wide 0 P f args w fun e w' => ∃ v, e = .returned v ∧ Off lo hi w w' ∧ ∀ w'', Agree w.heap.size w'.heap.size w' w'' → R v w''
theorem FnO.callsFr {P : Program} {f : FuncId} {args : Array Value} {w : World} {lo hi : Nat} {R : Value → World → Prop} (h : FnO P f args w lo hi R) (r : Option Nat) :
    CallsIn (Fr r) 0 P f args w fun e w' => ∃ v, e = .returned v ∧ Off lo hi w w' ∧ ∀ w'', Agree w.heap.size w'.heap.size w' w'' → R v w'' := by
  cases r with
  | none => exact h.calls
  | some l => exact h.calls
section
variable {r : Option Nat} {P : Program} {N : Nat} {ds : List Deferred} {env : Env} {w : World} {Q : Post} {all : Array Oper} {rest : List Oper} {H : List Item}
theorem op_fnO {d : Nat} {c : Operand} {xs : List Operand} {vs : List Value} {ats : Array TypeId} {ty : TypeId} {pos : String} {after : Array Edge} {f : FuncId} {first cap : List Value} {R : Value → World → Prop} {n lo hi : Nat} {A : World → Prop}
    (hf : ev env c = some (.func (.func f) first.toArray cap.toArray)) (hx : evs env xs = some vs) (hd : Nat.blt d N = true) (hH : Heap H w) (hn : H[n]? = some ⟨lo, hi, A⟩)
    (hc : FnO P f (first ++ (vs ++ cap)).toArray w lo hi R)
    (h : ∀ v w' lo' hi', Heap (⟨lo', hi', R v⟩ :: H.set n (spare lo hi)) w' → R v w' → Ops r P N all rest ds ((d, v) :: env) w' Q) :
    Ops r P N all (⟨some d, .call ⟨.value c, xs.toArray, ats⟩, ty, pos, after, none⟩ :: rest) ds env w Q := by
  intro a ha
  refine wpListIn_plain rfl fun K hK => ⟨fun f _ => Fr_fn r f, ?_⟩
  rw [semAt_Fr r _ _ (fun c hc => by cases hc)]
  have hargs : (xs.toArray.map a.eval) = vs.toArray := by rw [List.map_toArray, ha.evs hx]
  have hrun : (execOp a.eval ⟨some d, .call ⟨.value c, xs.toArray, ats⟩, ty, pos, after, none⟩).run P w = .ok (.enter f (first ++ (vs ++ cap)).toArray) w := by
    simp only [execOp, resolve, hargs, ha.ev hf, Deferred.ofValue, Sem.run_bind, Sem.run_pure, Result.andThen, invoke]
    have e : first.toArray ++ vs.toArray ++ cap.toArray = (first ++ (vs ++ cap)).toArray := by simp
    rw [e]
    exact hc.enters w
  rw [hrun]
  refine ⟨fun h => by simp [Fr_depth] at h, CallsIn.mono (hc.callsFr r) ?_⟩
  rintro e w' ⟨v, rfl, ho, hR⟩
  have hok := hH.okAt hn
  have h2 : Heap (H.set n (spare lo hi)) w' := hH.set hn ho (.inl ⟨Nat.le_refl _, Nat.le_refl _⟩) ⟨hok.1, Nat.le_trans hok.2.1 ho.size, fun _ _ => trivial⟩
  have h3 : Heap (⟨w.heap.size, w'.heap.size, R v⟩ :: H.set n (spare lo hi)) w' := by
    refine ⟨fun j hj => ?_, List.Pairwise.cons (fun j hj => .inr ?_) h2.apart⟩
    · rcases List.mem_cons.1 hj with rfl | hj
      · exact ⟨ho.size, Nat.le_refl _, hR⟩
      · exact h2.ok j hj
    · rcases List.mem_or_eq_of_mem_set hj with hj | rfl
      · exact (hH.ok j hj).2.1
      · exact hok.2.1
  exact hK _ _ (h v w' w.heap.size w'.heap.size h3 (hR w' (Agree.refl _ _ _)) _ (ha.put (by simpa [Nat.blt_eq] using hd) v))
end
def bodyQO (P : Program) (fn : Func) (N : Nat) (w0 : World) (lo hi : Nat) (R : Value → World → Prop) : Post
  | .normal, ds, env, w | .ret, ds, env, w => ∃ (Ds : List Nat) (H : List Item) (v : Value), ds = Ds.map isMark ∧ Heap (Ds.map markItem ++ restI w0 lo :: spare lo hi :: restJ w0 hi :: H) w ∧
      (∀ w', Heap H w' → Results P fn N ds env w' v) ∧ ∀ w', Heap H w' → R v w'
  | _, _, _, _ => False
theorem Heap.keptO {H : List Item} {w0 w w' : World} {lo hi : Nat} (h : Heap (restI w0 lo :: spare lo hi :: restJ w0 hi :: H) w) (ha : Agree w0.heap.size w.heap.size w w') : Heap H w' := by
  have hp := List.pairwise_cons.1 h.apart
  have hp2 := List.pairwise_cons.1 hp.2
  have hp3 := List.pairwise_cons.1 hp2.2
  refine ⟨fun i hi' => ?_, hp3.2⟩
  have h1 := h.ok i (by simp [hi'])
  have a1 := hp.1 i (by simp [hi'])
  have a2 := hp2.1 i (by simp [hi'])
  have a3 := hp3.1 i hi'
  refine h1.agree ⟨ha.os, ha.tape, ha.output, ha.size, fun k a b => ha.block k ?_ (Nat.lt_of_lt_of_le b h1.2.1)⟩
  unfold Item.apart at a1 a2 a3
  simp only [restI, spare, restJ] at a1 a2 a3
  omega
theorem leaves_marksO {P : Program} {fn : Func} {w0 : World} {lo hi : Nat} {R : Value → World → Prop} {v : Value} {H : List Item} (tmps : Array Value)
    (hres : ∀ w', Heap H w' → (results fn tmps).run P w' = .ok v w') (hR : ∀ w', Heap H w' → R v w') : ∀ (Ds : List Nat) (w : World),
    Heap (Ds.map markItem ++ restI w0 lo :: spare lo hi :: restJ w0 hi :: H) w →
    LeavesInM Fence.wide 0 P fn tmps (fun e w' => ∃ v, e = .returned v ∧ Off lo hi w0 w' ∧ ∀ w'', Agree w0.heap.size w'.heap.size w' w'' → R v w'') (Ds.map isMark) .returning w
  | [], w, hH => ⟨v, hres w (hH.sub (((List.sublist_cons_self _ _).trans (List.sublist_cons_self _ _)).trans (List.sublist_cons_self _ _))), v, rfl, off_of (hH.get (n := 0) rfl) (hH.get (n := 2) rfl), fun _ h2 => hR _ (hH.keptO h2)⟩
  | D :: Ds, w, hH => by
    have hD : w.heap[D]? = some (.deferred (some [])) := hH.get (n := 0) rfl
    have hlt : D < w.heap.size := (Array.getElem?_eq_some_iff.1 hD).1
    refine ⟨by simp, .inl ⟨D, _, rfl, run_takeDeferred hD, ?_⟩⟩
    have h0 : Heap (Ds.map markItem ++ restI w0 lo :: spare lo hi :: restJ w0 hi :: H) (w.putObj D (.deferred none)) := by
      have := hH.set (n := 0) (i := markItem D) (j := ⟨D, D + 1, fun _ => True⟩) (w' := w.putObj D (.deferred none)) rfl (putObj_off w D _) (.inl ⟨Nat.le_refl _, Nat.le_refl _⟩) ⟨by simp, by simp; omega, fun _ _ => trivial⟩
      exact this.sub (List.sublist_cons_self _ _)
    exact leaves_marksO tmps hres hR Ds _ h0
theorem fnO_of {P : Program} {f : FuncId} {fn : Func} {c : Code} {args : List Value} {w : World} {lo hi : Nat} {A : World → Prop} {R : Value → World → Prop} {N : Nat}
    (hf : P.funcs[f]? = some fn) (hb : fn.body = some c) (hen : ∀ (as : Array Value) (w' : World), (callFunc f as).run P w' = .ok (.enter f as) w')
    (hN : fn.ntmps = N) (hargs : Nat.ble args.length N = true) (hA : (⟨lo, hi, A⟩ : Item).ok w)
    (h : Heap [⟨lo, hi, A⟩, restI w lo, restJ w hi] w → Holds none P N c [] (argEnv 0 args) w (bodyQO P fn N w lo hi R)) : FnO P f args.toArray w lo hi R := by
  have hH : Heap [⟨lo, hi, A⟩, restI w lo, restJ w hi] w := by
    refine ⟨fun i hi' => ?_, ?_⟩
    · simp at hi'
      rcases hi' with rfl | rfl | rfl
      · exact hA
      · exact ⟨Nat.zero_le _, Nat.le_trans hA.1 hA.2.1, fun w' h => h⟩
      · exact ⟨hA.2.1, Nat.le_refl _, fun w' h => h⟩
    · have h9 : lo ≤ hi := hA.1
      simp [Item.apart, restI, restJ]
      omega
  have hargs' : args.length ≤ N := by simpa [Nat.ble_eq] using hargs
  refine ⟨hen _, callsIn_of_wp_marks hf hb trivial ?_⟩
  refine Go.wpIn_mono (h hH { tmps := args.toArray ++ Array.replicate (fn.ntmps - args.toArray.size) undef, defers := [] } ⟨by simp [hN]; omega, rfl, fun i v hi => ?_⟩) ?_
  · have h1 : args[i]? = some v := by simpa using (argEnv_find args 0 i v hi).2
    have hlt := (List.getElem?_eq_some_iff.1 h1).1
    simp only [Array.getElem?_append, List.size_toArray, hlt, if_true, List.getElem?_toArray]
    exact h1
  · rintro e a' w' ⟨ds, env', hf', hq⟩
    cases e with
    | normal =>
      obtain ⟨Ds, H, v, rfl, hH, hres, hR⟩ := hq
      show LeavesInM _ _ _ _ _ _ a'.defers _ _
      rw [hf'.defers]
      exact leaves_marksO a'.tmps (fun w2 h2 => hres w2 h2 a' hf') hR Ds w' hH
    | ret =>
      obtain ⟨Ds, H, v, rfl, hH, hres, hR⟩ := hq
      show LeavesInM _ _ _ _ _ _ a'.defers _ _
      rw [hf'.defers]
      exact leaves_marksO a'.tmps (fun w2 h2 => hres w2 h2 a' hf') hR Ds w' hH
    | exit i => exact hq.elim
    | goto i => exact hq.elim
    | panic i => exact hq.elim
    | outgrown => exact hq.elim
theorem finO {P : Program} {fn : Func} {N lo hi : Nat} {w0 w : World} {R : Value → World → Prop} {env : Env} {H : List Item} {v : Value} (Ds : List Nat) (hH : Heap (restI w0 lo :: spare lo hi :: restJ w0 hi :: (H ++ Ds.map markItem)) w)
    (hres : ∀ w', Heap H w' → Results P fn N (Ds.map isMark) env w' v) (hR : ∀ w', Heap H w' → R v w') : bodyQO P fn N w0 lo hi R .ret (Ds.map isMark) env w := by
  refine ⟨Ds, H, v, rfl, hH.perm ?_, hres, hR⟩
  have h1 : (restI w0 lo :: spare lo hi :: restJ w0 hi :: (H ++ Ds.map markItem)) = [restI w0 lo, spare lo hi, restJ w0 hi] ++ (H ++ Ds.map markItem) := rfl
  have h2 : Ds.map markItem ++ restI w0 lo :: spare lo hi :: restJ w0 hi :: H = Ds.map markItem ++ ([restI w0 lo, spare lo hi, restJ w0 hi] ++ H) := rfl
  rw [h1, h2, ← List.append_assoc]
  exact List.perm_append_comm
theorem two_within {t1 t2 c1 c2 lo hi : Nat} {x y : Value} {w : World} (h : (⟨lo, hi, Two t1 t2 c1 c2 x y⟩ : Item).ok w) : (lo ≤ c1 ∧ c1 < hi) ∧ (lo ≤ c2 ∧ c2 < hi) := by
  have h1 := h.now.1
  have h2 := h.now.2
  unfold Bx at h1 h2
  exact ⟨Item.within h h1 (fun w' h' _ hx => by have := h'.1; unfold Bx at this; rw [this] at hx; cases hx), Item.within h h2 (fun w' h' _ hx => by have := h'.2; unfold Bx at this; rw [this] at hx; cases hx)⟩
theorem two_ne {H : List Item} {t1 t2 c1 c2 n m : Nat} {cs ds : List Value} {w : World} (h : Heap H w) (h1 : H[n]? = some (bx c1 t1 cs)) (h2 : H[m]? = some (bx c2 t2 ds)) (hnm : n < m) : c1 ≠ c2 := fun e => by
  subst e
  obtain ⟨k1, e1⟩ := List.getElem?_eq_some_iff.1 h1
  obtain ⟨k2, e2⟩ := List.getElem?_eq_some_iff.1 h2
  have := List.pairwise_iff_getElem.1 h.apart n m k1 k2 hnm
  rw [e1, e2] at this
  rcases this with h3 | h3
  · exact absurd h3 (by simp [bx])
  · exact absurd h3 (by simp [bx])
end Go.Fip
namespace Go.Fip
theorem Rd.cut3n {α : Type} {enc : α → List Value} {sz : Nat} {v : Value} {xs : List α} {w : World} (h : Rd enc sz v xs w) : Rd enc sz (cutv3 v sz 0 xs.length xs.length) xs w := by
  have h2 := h.cut3 (lo := 0) (hi := xs.length) (m := xs.length) (Nat.zero_le _) (Nat.le_refl _) (Nat.le_refl _) (fun a n c e => by
    obtain ⟨a', c', e', hc, _⟩ := h.is
    rw [e'] at e
    cases e
    exact hc)
  simpa using h2
end Go.Fip
namespace Go.Fip
open Go.RowKit
section
variable {K V : Type} [DecidableEq K] {MT KT ET : Nat} {kv : K → Value} {vv : V → Value} {z : V}
variable {r : Option Nat} {P : Program} {N : Nat} {ds : List Deferred} {env : Env} {w : World} {Q : Post} {all : Array Oper} {rest : List Oper} {H : List Item} {x y c : Operand} {S : World → Prop}
  {d : Nat} {ty : TypeId} {pos : String} {after : Array Edge}
theorem run_deleteO {ty' : TypeId} (hM : MapT P MT KT ET kv vv z) {b clock : Nat} {es : Array MapEntry} {m : List (K × V)} (hb : w.heap[b]? = some (.map es clock)) (he : Ents kv vv es clock m) (k : K) :
    ∃ es', (Builtin.delete_ #[MT, KT] ty' #[.map (some b), kv k]).run P w = .ok (.tuple #[]) (w.putObj b (.map es' clock)) ∧ Ents kv vv es' clock (del k m) ∧ es'.toList.Sublist es.toList := by
  obtain ⟨h2, h3, h4, h5⟩ := he
  have h1 := hb
  have hf := run_findKey (w := w) hM k es.toList m h2
  have hlt := (Array.getElem?_eq_some_iff.1 h1).1
  cases hx : findI k m 0 with
  | none =>
    rw [hx] at hf
    simp only [Option.map_none] at hf
    have hnm := findI_none hx
    have hdel : del k m = m := by
      clear h2 h3 hf hx
      induction m with
      | nil => rfl
      | cons p m ih =>
        simp only [List.map_cons, List.mem_cons, not_or] at hnm
        simp [del, hnm.1, ih hnm.2]
    refine ⟨es, ?_, ⟨by rw [hdel]; exact h2, by rw [hdel]; exact h3, h4, h5⟩, List.Sublist.refl _⟩
    simp [Builtin.delete_, run_underlying hM.und, run_getMap h1, hM.ck, hf, run_setMap _ h1, Result.andThen]
  | some p =>
    obtain ⟨j, u⟩ := p
    rw [hx] at hf
    simp only [Option.map_some] at hf
    obtain ⟨a, hb, hc, _, hd⟩ := findI_some (v := u) (val := vv u) h2 hx
    simp only [Nat.sub_zero] at hb hc hd
    have hes : (es.eraseIdxIfInBounds j).toList = es.toList.eraseIdx j := by
      simp only [Array.eraseIdxIfInBounds]
      split
      · simp
      · rename_i hge; exact absurd (by simpa using hb) hge
    refine ⟨es.eraseIdxIfInBounds j, ?_, ⟨by rw [hes]; exact hd, h3.sublist (keys_del k m), ?_, ?_⟩, by rw [hes]; exact List.eraseIdx_sublist _ _⟩
    · simp [Builtin.delete_, run_underlying hM.und, run_getMap h1, hM.ck, hf, run_setMap _ h1, Result.andThen]
    · rw [hes]; exact h4.sublist ((List.eraseIdx_sublist _ _).map _)
    · intro e he
      rw [hes] at he
      exact h5 e ((List.eraseIdx_sublist _ _).subset he)
theorem op_deleteO (hM : MapT P MT KT ET kv vv z) {b n clock : Nat} {es : Array MapEntry} {m : List (K × V)} {k : K} (he : Ents kv vv es clock m) (hx : ev env x = some (.map (some b))) (hy : ev env y = some (kv k)) (hH : Heap H w) (hn : H[n]? = some (raw b (.map es clock)))
    (h : ∀ es' w', Ents kv vv es' clock (del k m) → es'.toList.Sublist es.toList → Heap (H.set n (raw b (.map es' clock))) w' → Ops r P N all rest ds env w' Q) :
    Ops r P N all (⟨none, .call ⟨.builtin .delete, #[x, y], #[MT, KT]⟩, ty, pos, after, none⟩ :: rest) ds env w Q := by
  have hb : w.heap[b]? = some (.map es clock) := hH.get hn
  obtain ⟨es', h1, h2, h3⟩ := run_deleteO (P := P) (ty' := ty) hM hb he k
  have hlt := (Array.getElem?_eq_some_iff.1 hb).1
  refine ops_unit (fun c hc => by cases hc) (fun a ha => .inr ⟨.tuple #[], ?_⟩) (h es' _ h2 h3 (hH.set hn (putObj_off w b _) (.inl ⟨Nat.le_refl _, Nat.le_refl _⟩) (raw_ok (World.putObj_heap_same hlt))))
  simp only [execOp, resolve, invoke, builtin, Sem.run_bind, Sem.run_pure, Result.andThen, List.map_toArray, List.map_cons, List.map_nil, ha.ev hx, ha.ev hy, h1]
end
section
variable {K V : Type} [DecidableEq K] {kv : K → Value} {vv : V → Value}
theorem Ents.mp {es : Array MapEntry} {clock b : Nat} {m : List (K × V)} {w : World} (h : Ents kv vv es clock m) (hb : w.heap[b]? = some (.map es clock)) : Mp kv vv b m w := ⟨es, clock, hb, h.views, h.nd, h.bornNd, h.born⟩
theorem Mp.ents {b : Nat} {m : List (K × V)} {w : World} (h : Mp kv vv b m w) : ∃ es clock, w.heap[b]? = some (.map es clock) ∧ Ents kv vv es clock m := by
  obtain ⟨es, clock, h1, h2, h3, h4, h5⟩ := h
  exact ⟨es, clock, h1, ⟨h2, h3, h4, h5⟩⟩
def RowAt (t b : Nat) (v : Value) (mb : Nat) (es : Array MapEntry) (clock : Nat) (w : World) : Prop := Bx b t [v, .map (some mb)] w ∧ w.heap[mb]? = some (.map es clock)
def RowEx (kv : K → Value) (vv : V → Value) (F : List (K × V) → Prop) (t b : Nat) (v : Value) (w : World) : Prop := ∃ mb m, Bx b t [v, .map (some mb)] w ∧ Mp kv vv mb m w ∧ F m
theorem Heap.fixMap {t n lo hi b : Nat} {v : Value} {F : List (K × V) → Prop} {φ : World → Prop} {H : List Item} {w : World} (hH : Heap H w) (hn : H[n]? = some ⟨lo, hi, φ⟩) (hφ : ∀ w', φ w' → RowEx kv vv F t b v w') :
    ∃ mb es clock m, Ents kv vv es clock m ∧ F m ∧ Heap (H.set n ⟨lo, hi, RowAt t b v mb es clock⟩) w := by
  have hok := hH.okAt hn
  obtain ⟨mb, m, hbx, hmp, hF⟩ := hφ w hok.now
  obtain ⟨es, clock, hm, he⟩ := hmp.ents
  have hbin := Item.within hok hbx (fun w' h _ hx => by
    obtain ⟨_, _, hb', _⟩ := hφ w' h
    unfold Bx at hb'
    rw [hb'] at hx; cases hx)
  have hmb : mb ≠ b := fun e => by
    unfold Bx at hbx
    rw [e, hbx] at hm; cases hm
  have hmin := Item.within hok hm (fun w' h hoth hx => by
    obtain ⟨mb', m', hb', hmp', _⟩ := hφ w' h
    obtain ⟨es', clock', hm', _⟩ := hmp'.ents
    have h5 := hoth b (fun e => hmb e.symm)
    unfold Bx at hb' hbx
    rw [hb', hbx] at h5
    simp at h5
    rw [h5] at hm'
    rw [hm'] at hx; cases hx)
  refine ⟨mb, es, clock, m, he, hF, hH.swapItem hn ⟨hok.1, hok.2.1, fun w' ha => ⟨?_, ?_⟩⟩⟩
  · unfold Bx at hbx ⊢
    rw [ha.block b hbin.1 hbin.2]; exact hbx
  · rw [ha.block mb hmin.1 hmin.2]; exact hm
end
end Go.Fip
namespace Go.Fip
open Go.RowKit
def bodyQK (P : Program) (fn : Func) (N : Nat) (w0 : World) (g : Nat) (R : Value → World → Prop) : Post
  | .normal, ds, env, w | .ret, ds, env, w => ∃ (Ds : List Nat) (φ : World → Prop) (H : List Item) (v : Value), ds = Ds.map isMark ∧ Heap (Ds.map markItem ++ ⟨g, g + 1, φ⟩ :: restL w0 g :: restR w0 g :: H) w ∧
      (∀ w', Heap (⟨g, g + 1, φ⟩ :: restL w0 g :: restR w0 g :: H) w' → Results P fn N ds env w' v) ∧ ∀ w', φ w' → R v w'
  | _, _, _, _ => False
theorem finK {P : Program} {fn : Func} {N g : Nat} {w0 w : World} {φ : World → Prop} {R : Value → World → Prop} {env : Env} {v : Value} (Ds : List Nat) (hH : Heap (⟨g, g + 1, φ⟩ :: restL w0 g :: restR w0 g :: Ds.map markItem) w)
    (hres : ∀ w', Results P fn N (Ds.map isMark) env w' v) (hR : ∀ w', φ w' → R v w') : bodyQK P fn N w0 g R .ret (Ds.map isMark) env w := by
  refine ⟨Ds, φ, [], v, rfl, hH.perm ?_, fun w' _ => hres w', hR⟩
  exact (List.perm_append_comm (l₁ := [_, _, _]))
theorem leaves_marksK {P : Program} {fn : Func} {w0 : World} {g : Nat} {R : Value → World → Prop} {v : Value} {φ : World → Prop} {H : List Item} (tmps : Array Value)
    (hres : ∀ w', Heap (⟨g, g + 1, φ⟩ :: restL w0 g :: restR w0 g :: H) w' → (results fn tmps).run P w' = .ok v w') (hR : ∀ w', φ w' → R v w') : ∀ (Ds : List Nat) (w : World),
    Heap (Ds.map markItem ++ ⟨g, g + 1, φ⟩ :: restL w0 g :: restR w0 g :: H) w →
    LeavesInM Fence.wide 0 P fn tmps (fun e w' => ∃ v, e = .returned v ∧ Off g (g + 1) w0 w' ∧ ∀ w'', Agree g (g + 1) w' w'' → R v w'') (Ds.map isMark) .returning w
  | [], w, hH => by
    have hL : Agree 0 g w0 w := hH.get (n := 1) rfl
    have hRr : Agree (g + 1) w0.heap.size w0 w := hH.get (n := 2) rfl
    refine ⟨v, hres w hH, v, rfl, ⟨hL.os, hL.tape, hL.output, hL.size, fun k hk hne => ?_⟩, fun w'' ha => hR w'' ((hH.okAt (n := 0) rfl).2.2 w'' ha)⟩
    rcases Nat.lt_or_ge k g with h1 | h1
    · exact hL.block k (Nat.zero_le _) h1
    · exact hRr.block k (by omega) hk
  | D :: Ds, w, hH => by
    have hD : w.heap[D]? = some (.deferred (some [])) := hH.get (n := 0) rfl
    have hlt : D < w.heap.size := (Array.getElem?_eq_some_iff.1 hD).1
    refine ⟨by simp, .inl ⟨D, _, rfl, run_takeDeferred hD, ?_⟩⟩
    have h0 : Heap (Ds.map markItem ++ ⟨g, g + 1, φ⟩ :: restL w0 g :: restR w0 g :: H) (w.putObj D (.deferred none)) := by
      have := hH.set (n := 0) (i := markItem D) (j := ⟨D, D + 1, fun _ => True⟩) (w' := w.putObj D (.deferred none)) rfl (putObj_off w D _) (.inl ⟨Nat.le_refl _, Nat.le_refl _⟩) ⟨by simp, by simp; omega, fun _ _ => trivial⟩
      exact this.sub (List.sublist_cons_self _ _)
    exact leaves_marksK tmps hres hR Ds _ h0
theorem fnK_of {P : Program} {f : FuncId} {fn : Func} {c : Code} {args : List Value} {w : World} {g : Nat} {φ : World → Prop} {R : Value → World → Prop} {N : Nat}
    (hf : P.funcs[f]? = some fn) (hb : fn.body = some c) (hen : ∀ (as : Array Value) (w' : World), (callFunc f as).run P w' = .ok (.enter f as) w')
    (hN : fn.ntmps = N) (hargs : Nat.ble args.length N = true) (hrow : (⟨g, g + 1, φ⟩ : Item).ok w)
    (h : Heap [⟨g, g + 1, φ⟩, restL w g, restR w g] w → Holds none P N c [] (argEnv 0 args) w (bodyQK P fn N w g R)) : FnM P f args.toArray w g R := by
  have hlt : g + 1 ≤ w.heap.size := hrow.2.1
  have hH : Heap [⟨g, g + 1, φ⟩, restL w g, restR w g] w := by
    refine ⟨fun i hi => ?_, ?_⟩
    · simp at hi
      rcases hi with rfl | rfl | rfl
      · exact hrow
      · exact ⟨Nat.zero_le _, by show g ≤ _; omega, fun w' h => h⟩
      · exact ⟨hlt, Nat.le_refl _, fun w' h => h⟩
    · simp [Item.apart, restL, restR]
  refine ⟨hen _, callsIn_of_wp_marks hf hb trivial ?_⟩
  have hargs' : args.length ≤ N := by simpa [Nat.ble_eq] using hargs
  refine Go.wpIn_mono (h hH { tmps := args.toArray ++ Array.replicate (fn.ntmps - args.toArray.size) undef, defers := [] } ⟨by simp [hN]; omega, rfl, fun i v hi => ?_⟩) ?_
  · have h1 : args[i]? = some v := by simpa using (argEnv_find args 0 i v hi).2
    have hlt := (List.getElem?_eq_some_iff.1 h1).1
    simp only [Array.getElem?_append, List.size_toArray, hlt, if_true, List.getElem?_toArray]
    exact h1
  · rintro e a' w' ⟨ds, env', hf', hq⟩
    cases e with
    | normal =>
      obtain ⟨Ds, φ, H, v, rfl, hH, hres, hR⟩ := hq
      show LeavesInM _ _ _ _ _ _ a'.defers _ _
      rw [hf'.defers]
      exact leaves_marksK a'.tmps (fun w2 h2 => hres w2 h2 a' hf') hR Ds w' hH
    | ret =>
      obtain ⟨Ds, φ, H, v, rfl, hH, hres, hR⟩ := hq
      show LeavesInM _ _ _ _ _ _ a'.defers _ _
      rw [hf'.defers]
      exact leaves_marksK a'.tmps (fun w2 h2 => hres w2 h2 a' hf') hR Ds w' hH
    | exit i => exact hq.elim
    | goto i => exact hq.elim
    | panic i => exact hq.elim
    | outgrown => exact hq.elim
section
variable {K V : Type} [DecidableEq K] {kv : K → Value} {vv : V → Value}
theorem Heap.fixMp {n b : Nat} {F : List (K × V) → Prop} {φ : World → Prop} {H : List Item} {w : World} (hH : Heap H w) (hn : H[n]? = some ⟨b, b + 1, φ⟩) (hφ : ∀ w', φ w' → ∃ m, Mp kv vv b m w' ∧ F m) :
    ∃ m, F m ∧ Heap (H.set n (mp kv vv b m)) w := by
  obtain ⟨m, h, hF⟩ := hφ w (hH.okAt hn).now
  exact ⟨m, hF, hH.swapItem hn (mp_ok h)⟩
theorem block_rest {g b : Nat} {w w' : World} (hL : Agree 0 g w w') (hR : Agree (g + 1) w.heap.size w w') (hne : b ≠ g) {o : Obj} (hb : w.heap[b]? = some o) : w'.heap[b]? = some o := by
  have hlt : b < w.heap.size := (Array.getElem?_eq_some_iff.1 hb).1
  rcases Nat.lt_or_ge b g with h1 | h1
  · exact (hL.block b (Nat.zero_le _) h1).trans hb
  · exact (hR.block b (by omega) hlt).trans hb
theorem Mp.nowM {b g : Nat} {m : List (K × V)} {w w' : World} (h : Mp kv vv b m w) (hne : b ≠ g) (hL : Agree 0 g w w') (hR : Agree (g + 1) w.heap.size w w') : Mp kv vv b m w' := by
  obtain ⟨es, clock, h1, h2⟩ := h
  exact ⟨es, clock, block_rest hL hR hne h1, h2⟩
theorem Rd.nowM {α : Type} {enc : α → List Value} {sz : Nat} {v : Value} {xs : List α} {b : Nat} {m : List (K × V)} {w w' : World} (h : Rd enc sz v xs w) (hb : Mp kv vv b m w) (hL : Agree 0 b w w') (hR : Agree (b + 1) w.heap.size w w') : Rd enc sz v xs w' := by
  obtain ⟨es, clock, h1, _⟩ := hb
  refine ⟨h.1, fun i x hi j u hj => ?_⟩
  have hc := h.2 i x hi j u hj
  have hne : eb v ≠ b := fun e => by
    rw [e] at hc
    simp [World.cell?, h1] at hc
  obtain ⟨o, ho⟩ := block_some hc
  have h2 := block_rest hL hR hne ho
  rw [← hc]
  exact World.cell?_of_block (w := w) (show w'.heap[eb v]? = w.heap[eb v]? by rw [h2, ho])
theorem Bx.neMp {b t g : Nat} {cs : List Value} {m : List (K × V)} {w : World} (h : Bx b t cs w) (hm : Mp kv vv g m w) : b ≠ g := fun e => by
  obtain ⟨es, clock, h1, _⟩ := hm
  unfold Bx at h
  rw [e, h1] at h; cases h
theorem Bx.nowK {b t g : Nat} {cs : List Value} {m : List (K × V)} {w w' : World} (h : Bx b t cs w) (hm : Mp kv vv g m w) (hL : Agree 0 g w w') (hR : Agree (g + 1) w.heap.size w w') : Bx b t cs w' := block_rest hL hR (h.neMp hm) h
end
end Go.Fip
namespace Go.Fip
open Go.RowKit
structure FnE (P : Program) (f : FuncId) (args : Array Value) (w : World) (v : Value) : Prop where
  enters : ∀ w', (callFunc f args).run P w' = .ok (.enter f args) w'
  calls : CallsIn Fence.wide 0 P f args w fun e w' => e = .returned v ∧ w' = w
theorem FnE.callsFr {P : Program} {f : FuncId} {args : Array Value} {w : World} {v : Value} (h : FnE P f args w v) (r : Option Nat) :
    CallsIn (Fr r) 0 P f args w fun e w' => e = .returned v ∧ w' = w := by
  cases r with
  | none => exact h.calls
  | some l => exact h.calls
theorem op_fnE {r : Option Nat} {P : Program} {N : Nat} {ds : List Deferred} {env : Env} {w : World} {Q : Post} {all : Array Oper} {rest : List Oper} {d : Nat} {c : Operand} {xs : List Operand} {vs : List Value} {ats : Array TypeId} {ty : TypeId} {pos : String} {after : Array Edge} {f : FuncId} {first cap : List Value} {v : Value}
    (hf : ev env c = some (.func (.func f) first.toArray cap.toArray)) (hx : evs env xs = some vs) (hd : dstOK N (some d) = true)
    (hc : FnE P f (first ++ (vs ++ cap)).toArray w v)
    (h : Ops r P N all rest ds ((d, v) :: env) w Q) :
    Ops r P N all (⟨some d, .call ⟨.value c, xs.toArray, ats⟩, ty, pos, after, none⟩ :: rest) ds env w Q := by
  intro a ha
  refine wpListIn_plain rfl fun K hK => ⟨fun f _ => Fr_fn r f, ?_⟩
  rw [semAt_Fr r _ _ (fun c hc => by cases hc)]
  have hargs : (xs.toArray.map a.eval) = vs.toArray := by rw [List.map_toArray, ha.evs hx]
  have hrun : (execOp a.eval ⟨some d, .call ⟨.value c, xs.toArray, ats⟩, ty, pos, after, none⟩).run P w = .ok (.enter f (first ++ (vs ++ cap)).toArray) w := by
    simp only [execOp, resolve, hargs, ha.ev hf, Deferred.ofValue, Sem.run_bind, Sem.run_pure, Result.andThen, invoke]
    have e : first.toArray ++ vs.toArray ++ cap.toArray = (first ++ (vs ++ cap)).toArray := by simp
    rw [e]
    exact hc.enters w
  rw [hrun]
  refine ⟨fun h => by simp [Fr_depth] at h, CallsIn.mono (hc.callsFr r) ?_⟩
  rintro e w' ⟨rfl, rfl⟩
  exact hK _ _ (h _ (ha.put (by simpa [dstOK, Nat.blt_eq] using hd) v))
def bodyQE (P : Program) (fn : Func) (N : Nat) (w0 : World) (v : Value) : Post
  | .normal, ds, env, w | .ret, ds, env, w => ds = [] ∧ w = w0 ∧ Results P fn N [] env w v
  | _, _, _, _ => False
theorem finE {P : Program} {fn : Func} {N : Nat} {w0 : World} {v v' : Value} {env : Env} (hres : Results P fn N [] env w0 v') (e : v' = v) : bodyQE P fn N w0 v .ret [] env w0 := ⟨rfl, rfl, e ▸ hres⟩
theorem fnE_of {P : Program} {f : FuncId} {fn : Func} {c : Code} {args : List Value} {w : World} {v : Value} {N : Nat}
    (hf : P.funcs[f]? = some fn) (hb : fn.body = some c) (hen : ∀ (as : Array Value) (w' : World), (callFunc f as).run P w' = .ok (.enter f as) w')
    (hN : fn.ntmps = N) (hargs : Nat.ble args.length N = true)
    (h : Heap [base w] w → Holds none P N c [] (argEnv 0 args) w (bodyQE P fn N w v)) : FnE P f args.toArray w v := by
  refine ⟨hen _, callsIn_of_wp hf hb trivial ?_⟩
  have hargs' : args.length ≤ N := by simpa [Nat.ble_eq] using hargs
  refine Go.wpIn_mono (h (Heap.start w) { tmps := args.toArray ++ Array.replicate (fn.ntmps - args.toArray.size) undef, defers := [] } ⟨by simp [hN]; omega, rfl, fun i v hi => ?_⟩) ?_
  · have h1 : args[i]? = some v := by simpa using (argEnv_find args 0 i v hi).2
    have hlt := (List.getElem?_eq_some_iff.1 h1).1
    simp only [Array.getElem?_append, List.size_toArray, hlt, if_true, List.getElem?_toArray]
    exact h1
  · rintro e a' w' ⟨ds, env', hf', hq⟩
    cases e with
    | normal => obtain ⟨rfl, rfl, hr⟩ := hq; exact ⟨hf'.defers, _, hr a' hf', rfl, rfl⟩
    | ret => obtain ⟨rfl, rfl, hr⟩ := hq; exact ⟨hf'.defers, _, hr a' hf', rfl, rfl⟩
    | exit i => exact hq.elim
    | goto i => exact hq.elim
    | panic i => exact hq.elim
    | outgrown => exact hq.elim
end Go.Fip
namespace Go.Fip.B
open Go.Fip
theorem all_zero {Q : Nat → Prop} : ∀ i, i < 0 → Q i := fun i h => absurd h (Nat.not_lt_zero _)
theorem all_snoc {Q : Nat → Prop} {k : Nat} (h : ∀ i, i < k → Q i) (hk : Q k) : ∀ i, i < k + 1 → Q i := fun i hi => by
  rcases Nat.lt_or_ge i k with h1 | h1
  · exact h i h1
  · rw [show i = k by omega]; exact hk
def ckE (e : En) : Int := if isEn e then (if e.f = e.t then 2 else 0) else 3
def bef (a b : En) : Prop := a.d < b.d ∨ (a.d = b.d ∧ a.n < b.n)
instance {a b : En} : Decidable (bef a b) := by unfold bef; infer_instance
theorem bef_trans {a b c : En} (h : bef a b) (h2 : bef b c) : bef a c := by unfold bef at *; omega
theorem bef_irrefl {a : En} : ¬ bef a a := by unfold bef; omega
theorem bef_asymm {a b : En} (h : bef a b) : ¬ bef b a := by unfold bef at *; omega
theorem bef_total {a b : En} (h : a.n ≠ b.n) (h2 : ¬ bef a b) : bef b a := by unfold bef at *; omega
def InR (l : List En) : Prop := ∀ i : Nat, i < l.length → isEn (nth l (i : Int))
def NoSelf (l : List En) : Prop := ∀ i : Nat, i < l.length → ¬ (nth l (i : Int)).f = (nth l (i : Int)).t
def NoDup (l : List En) : Prop := ∀ i : Nat, i < l.length → ∀ k : Nat, k < i → ¬ (nth l (k : Int)).n = (nth l (i : Int)).n
def Ord (l : List En) : Prop := ∀ i : Nat, i < l.length → 1 ≤ i → bef (nth l ((i : Int) - 1)) (nth l (i : Int))
instance {l : List En} : Decidable (InR l) := by unfold InR; infer_instance
instance {l : List En} : Decidable (NoSelf l) := by unfold NoSelf; infer_instance
instance {l : List En} : Decidable (NoDup l) := by unfold NoDup; infer_instance
instance {l : List En} : Decidable (Ord l) := by unfold Ord; infer_instance
def ck (l : List En) : Int := if 24 < l.length then 6 else if ¬ InR l then 3 else if ¬ NoSelf l then 2 else if ¬ NoDup l then 11 else if ¬ Ord l then 16 else 0
def Bk (l : List En) : Prop := l.length ≤ 24 ∧ InR l ∧ NoSelf l ∧ NoDup l ∧ Ord l
theorem ck1 {l : List En} (h : 24 < l.length) : ck l = 6 := by unfold ck; rw [if_pos h]
theorem ck2 {l : List En} (h : ¬ 24 < l.length) (h1 : ¬ InR l) : ck l = 3 := by unfold ck; rw [if_neg h, if_pos h1]
theorem ck3 {l : List En} (h : ¬ 24 < l.length) (h1 : InR l) (h2 : ¬ NoSelf l) : ck l = 2 := by unfold ck; rw [if_neg h, if_neg (fun c => c h1), if_pos h2]
theorem ck4 {l : List En} (h : ¬ 24 < l.length) (h1 : InR l) (h2 : NoSelf l) (h3 : ¬ NoDup l) : ck l = 11 := by unfold ck; rw [if_neg h, if_neg (fun c => c h1), if_neg (fun c => c h2), if_pos h3]
theorem ck5 {l : List En} (h : ¬ 24 < l.length) (h1 : InR l) (h2 : NoSelf l) (h3 : NoDup l) (h4 : ¬ Ord l) : ck l = 16 := by unfold ck; rw [if_neg h, if_neg (fun c => c h1), if_neg (fun c => c h2), if_neg (fun c => c h3), if_pos h4]
theorem ck6 {l : List En} (h : ¬ 24 < l.length) (h1 : InR l) (h2 : NoSelf l) (h3 : NoDup l) (h4 : Ord l) : ck l = 0 := by unfold ck; rw [if_neg h, if_neg (fun c => c h1), if_neg (fun c => c h2), if_neg (fun c => c h3), if_neg (fun c => c h4)]
theorem ck_iff {l : List En} : ck l = 0 ↔ Bk l := by
  constructor
  · intro h
    unfold ck at h
    split at h
    · omega
    split at h
    · omega
    split at h
    · omega
    split at h
    · omega
    split at h
    · omega
    rename_i a b c d e
    simp only [Decidable.not_not] at *
    exact ⟨by omega, b, c, d, e⟩
  · rintro ⟨h1, h2, h3, h4, h5⟩
    exact ck6 (by omega) h2 h3 h4 h5
theorem ord_all {l : List En} (h : Ord l) : ∀ (k i : Nat), i < k → k < l.length → bef (nth l (i : Int)) (nth l (k : Int)) := by
  intro k
  induction k with
  | zero => intro i h1; omega
  | succ k ih =>
    intro i hi hk
    have h1 := h (k + 1) hk (by omega)
    rw [show ((k + 1 : Nat) : Int) - 1 = (k : Int) by omega] at h1
    rcases Nat.lt_or_ge i k with h2 | h2
    · exact bef_trans (ih i h2 (by omega)) h1
    · rw [show i = k by omega]; exact h1
def eff (a d : Int) (e : En) : Int := if d < e.d then 0 else (if e.t = a then e.a else 0) - (if e.f = a then e.a else 0)
def bal (l : List En) (a d : Int) : Int := (l.map (eff a d)).sum
def balTo (l : List En) (a d : Int) (k : Nat) : Int := bal (l.take k) a d
theorem balTo_succ {l : List En} {a d : Int} {k : Nat} (h : k < l.length) : balTo l a d (k + 1) = balTo l a d k + eff a d (nth l (k : Int)) := by
  unfold balTo bal
  rw [List.take_succ_eq_append_getElem h, List.map_append, List.sum_append, nth_nat h]
  simp
theorem balTo_all {l : List En} {a d : Int} {k : Nat} (h : l.length ≤ k) : balTo l a d k = bal l a d := by unfold balTo; rw [List.take_of_length_le h]
theorem eff_bd {a d : Int} {e : En} (h : isEn e) : -1000000 ≤ eff a d e ∧ eff a d e ≤ 1000000 := by
  unfold isEn at h
  unfold eff
  repeat' split
  all_goals omega
theorem balTo_bd {l : List En} {a d : Int} (h : InR l) : ∀ k : Nat, k ≤ l.length → -(1000000 * (k : Int)) ≤ balTo l a d k ∧ balTo l a d k ≤ 1000000 * (k : Int) := by
  intro k
  induction k with
  | zero => intro _; simp [balTo, bal]
  | succ k ih =>
    intro hk
    have h1 := ih (by omega)
    have h2 := eff_bd (a := a) (d := d) (h k (by omega))
    rw [balTo_succ (by omega)]
    omega
def balR (l : List En) (a d : Int) : Int × Int := if ck l = 0 then (if 0 ≤ a ∧ a ≤ 9 then (bal l a d, 0) else (0, 2)) else (0, ck l)
theorem bal1 {l : List En} {a d : Int} (h : ¬ ck l = 0) : balR l a d = (0, ck l) := by unfold balR; rw [if_neg h]
theorem bal2 {l : List En} {a d : Int} (h : ck l = 0) (h2 : ¬ (0 ≤ a ∧ a ≤ 9)) : balR l a d = (0, 2) := by unfold balR; rw [if_pos h, if_neg h2]
theorem bal3 {l : List En} {a d : Int} (h : ck l = 0) (h2 : 0 ≤ a ∧ a ≤ 9) : balR l a d = (bal l a d, 0) := by unfold balR; rw [if_pos h, if_pos h2]
theorem ext_nth {α : Type} [Inhabited α] {l m : List α} (h : l.length = m.length) (h2 : ∀ i : Nat, i < l.length → nth l (i : Int) = nth m (i : Int)) : l = m := by
  refine List.ext_getElem h fun i h3 h4 => ?_
  have := h2 i h3
  rwa [nth_nat h3, nth_nat h4] at this
end Go.Fip.B
namespace Go.Fip.B
open Go.Fip
def hexF : Nat → Nat → List UInt8
  | 0, n => [hd n]
  | f + 1, n => if n < 16 then [hd n] else hexF f (n / 16) ++ [hd n]
def hexM (n : Nat) : List UInt8 := hexF 15 n
theorem hexF_fuel : ∀ (f g n : Nat), n < 16 ^ (f + 1) → n < 16 ^ (g + 1) → hexF f n = hexF g n
  | 0, 0, _, _, _ => rfl
  | 0, g + 1, n, h, _ => by unfold hexF; rw [if_pos (by simpa using h)]
  | f + 1, 0, n, _, h => by unfold hexF; rw [if_pos (by simpa using h)]
  | f + 1, g + 1, n, h1, h2 => by
    unfold hexF
    by_cases h : n < 16
    · rw [if_pos h, if_pos h]
    · rw [if_neg h, if_neg h, hexF_fuel f g (n / 16) (by rw [Nat.div_lt_iff_lt_mul (by decide)]; rw [Nat.pow_succ] at h1; exact h1) (by rw [Nat.div_lt_iff_lt_mul (by decide)]; rw [Nat.pow_succ] at h2; exact h2)]
theorem hexM_small {n : Nat} (h : n < 16) : hexM n = [hd n] := by unfold hexM hexF; rw [if_pos h]
theorem hexM_rec {n : Nat} (h : 16 ≤ n) (h2 : n < 18446744073709551616) : hexM n = hexM (n / 16) ++ [hd n] := by
  unfold hexM
  conv => lhs; unfold hexF
  have e16 : (16 : Nat) ^ (14 + 1) = 1152921504606846976 := by decide
  have e17 : (16 : Nat) ^ (15 + 1) = 18446744073709551616 := by decide
  rw [if_neg (by omega), hexF_fuel 14 15 (n / 16) (by omega) (by omega)]
theorem hexF_length : ∀ (f n : Nat), 1 ≤ (hexF f n).length ∧ (hexF f n).length ≤ f + 1
  | 0, n => ⟨Nat.le_refl _, Nat.le_refl _⟩
  | f + 1, n => by
    unfold hexF
    split
    · simp
    · have := hexF_length f (n / 16)
      simp; omega
theorem hexM_length (n : Nat) : 1 ≤ (hexM n).length ∧ (hexM n).length ≤ 16 := hexF_length 15 n
theorem hexN_pad : ∀ (k f n : Nat), n < 16 ^ (f + 1) → (hexF f n).length ≤ k → hexN k n = List.replicate (k - (hexF f n).length) 48 ++ hexF f n := by
  have hz : ∀ k, hexN k 0 = List.replicate k 48 := by
    intro k
    induction k with
    | zero => rfl
    | succ k ih => unfold hexN; rw [show 0 / 16 = 0 from rfl, ih, List.replicate_succ']; rfl
  intro k
  induction k with
  | zero => intro f n _ h; have := (hexF_length f n).1; omega
  | succ k ih =>
    intro f n hn hl
    by_cases h : n < 16
    · have e : hexF f n = [hd n] := by
        cases f with
        | zero => rfl
        | succ f => unfold hexF; rw [if_pos h]
      rw [e]
      unfold hexN
      rw [show n / 16 = 0 by omega, hz]; rfl
    · cases f with
      | zero => simp at hn; omega
      | succ f =>
        have e : hexF (f + 1) n = hexF f (n / 16) ++ [hd n] := by conv => lhs; unfold hexF
                                                                  rw [if_neg h]
        rw [e] at hl ⊢
        rw [List.length_append, List.length_singleton] at hl ⊢
        unfold hexN
        rw [ih f (n / 16) (by rw [Nat.div_lt_iff_lt_mul (by decide)]; rw [Nat.pow_succ] at hn; exact hn) (by omega), List.append_assoc, Nat.add_sub_add_right]
theorem repeat_zero (k : Nat) : Lib.repeatL [48] k = List.replicate k 48 := by
  induction k with
  | zero => rfl
  | succ k ih => unfold Lib.repeatL; rw [ih]; rfl
theorem hex_pad (x : UInt64) : Lib.repeatL [48] (16 - (hexM x.toNat).length) ++ hexM x.toNat = hex x := by
  unfold hex
  rw [repeat_zero]
  have e17 : (16 : Nat) ^ (15 + 1) = 18446744073709551616 := by decide
  exact (hexN_pad 16 15 x.toNat (by have := x.toNat_lt; omega) (hexM_length _).2).symm
def digs : List UInt8 := [48, 49, 50, 51, 52, 53, 54, 55, 56, 57, 97, 98, 99, 100, 101, 102, 103, 104, 105, 106, 107, 108, 109, 110, 111, 112, 113, 114, 115, 116, 117, 118, 119, 120, 121, 122]
theorem digs_len : digs.length = 36 := rfl
theorem digs_at0 : ∀ d : Nat, d < 16 → byteAt digs (d : Int) = ((hd d).toNat : Int) := by decide
theorem hd_mod2 {m : Nat} : hd (m % 16) = hd m := by unfold hd; rw [Nat.mod_mod]
theorem digs_at (m : Nat) : byteAt digs ((m % 16 : Nat) : Int) = ((hd m).toNat : Int) := by rw [digs_at0 _ (by omega), hd_mod2]
theorem digs_at2 {m : Nat} (h : m < 16) : byteAt digs (m : Int) = ((hd m).toNat : Int) := digs_at0 m h
theorem drop_set {C : List Int} {i : Nat} {z : Int} (h : i < C.length) : (C.set i z).drop i = z :: C.drop (i + 1) := by
  rw [List.drop_eq_getElem_cons (by simpa using h), List.getElem_set_self, List.drop_set_of_lt (Nat.lt_succ_self _)]
theorem ofB_hd {m : Nat} {l : List Int} : ofB (((hd m).toNat : Int) :: l) = hd m :: ofB l := by
  unfold ofB
  simp
theorem hex_step {m i : Nat} {C : List Int} {t : List UInt8} (hm : 16 ≤ m) (hm2 : m < 18446744073709551616) (hi : i < C.length) (h : hexM m ++ ofB (C.drop (i + 1)) = t) : hexM (m / 16) ++ ofB ((C.set i ((hd m).toNat : Int)).drop i) = t := by
  rw [drop_set hi, ofB_hd, ← h, hexM_rec hm hm2, List.append_assoc]; rfl
theorem hex_last {m i : Nat} {C : List Int} {t : List UInt8} (hm : m < 16) (hi : i < C.length) (h : hexM m ++ ofB (C.drop (i + 1)) = t) : ofB ((C.set i ((hd m).toNat : Int)).drop i) = t := by
  rw [drop_set hi, ofB_hd, ← h, hexM_small hm]; rfl
theorem hex_bytes {C : List Int} {i : Nat} {m : Nat} (h : ∀ n ∈ C, 0 ≤ n ∧ n ≤ 255) : ∀ n ∈ C.set i ((hd m).toNat : Int), 0 ≤ n ∧ n ≤ 255 := fun n hn => by
  rcases List.mem_or_eq_of_mem_set hn with h1 | rfl
  · exact h n h1
  · have := (hd m).toNat_lt
    omega
end Go.Fip.B
namespace Go.Fip.B
open Go.Fip
theorem half_lt {n : Nat} (h : 2 ≤ n) : 1 ≤ half n ∧ half n < n := by
  unfold half
  repeat' split
  all_goals omega
theorem half_le {n : Nat} (h : 2 ≤ n) (h2 : n ≤ 64) : n ≤ 2 * half n := by
  unfold half
  repeat' split
  all_goals omega
def rootF : Nat → List En → UInt64
  | 0, _ => sm []
  | f + 1, l => if l.length = 0 then sm [] else if l.length = 1 then sm (leaf (nth l 0)) else sm (both (rootF f (l.take (half l.length))) (rootF f (l.drop (half l.length))))
def root (l : List En) : UInt64 := rootF l.length l
theorem rootF_fuel : ∀ (f g : Nat) (l : List En), l.length ≤ f → l.length ≤ g → rootF f l = rootF g l
  | 0, 0, _, _, _ => rfl
  | 0, g + 1, l, h, _ => by
    have : l.length = 0 := by omega
    unfold rootF; rw [if_pos this]
  | f + 1, 0, l, _, h => by
    have : l.length = 0 := by omega
    unfold rootF; rw [if_pos this]
  | f + 1, g + 1, l, h1, h2 => by
    unfold rootF
    by_cases h0 : l.length = 0
    · rw [if_pos h0, if_pos h0]
    by_cases h3 : l.length = 1
    · rw [if_neg h0, if_neg h0, if_pos h3, if_pos h3]
    have hb := half_lt (n := l.length) (by omega)
    rw [if_neg h0, if_neg h0, if_neg h3, if_neg h3, rootF_fuel f g (l.take (half l.length)) (by rw [List.length_take]; omega) (by rw [List.length_take]; omega), rootF_fuel f g (l.drop (half l.length)) (by rw [List.length_drop]; omega) (by rw [List.length_drop]; omega)]
theorem root_nil {l : List En} (h : l.length = 0) : root l = sm [] := by unfold root; rw [h]; rfl
theorem root_one {l : List En} (h : l.length = 1) : root l = sm (leaf (nth l 0)) := by
  unfold root; rw [h]; unfold rootF; rw [if_neg (by omega), if_pos h]
theorem root_two {l : List En} (h : 2 ≤ l.length) : root l = sm (both (root (l.take (half l.length))) (root (l.drop (half l.length)))) := by
  have hb := half_lt h
  unfold root
  obtain ⟨n, hn⟩ : ∃ n, l.length = n + 1 := ⟨l.length - 1, by omega⟩
  conv => lhs; rw [hn]; unfold rootF
  rw [if_neg (by omega), if_neg (by omega)]
  rw [rootF_fuel n (l.take (half l.length)).length _ (by rw [List.length_take]; omega) (Nat.le_refl _), rootF_fuel n (l.drop (half l.length)).length _ (by rw [List.length_drop]; omega) (Nat.le_refl _)]
def sub (l : List En) (a b : Nat) : List En := (l.take b).drop a
theorem sub_length {l : List En} {a b : Nat} (h : b ≤ l.length) : (sub l a b).length = b - a := by unfold sub; rw [List.length_drop, List.length_take]; omega
theorem sub_all (l : List En) : sub l 0 l.length = l := by unfold sub; simp
theorem sub_nth {l : List En} {a b i : Nat} (h : b ≤ l.length) (hi : i < b - a) : nth (sub l a b) (i : Int) = nth l ((a + i : Nat) : Int) := by
  unfold sub
  have e1 : i < ((l.take b).drop a).length := by rw [List.length_drop, List.length_take]; omega
  have e2 : a + i < l.length := by omega
  rw [nth_nat e1, nth_nat e2]
  simp
theorem sub_take {l : List En} {a b k : Nat} (hab : a ≤ b) (h : k ≤ b - a) (hb : b ≤ l.length) : (sub l a b).take k = sub l a (a + k) := by
  unfold sub
  rw [List.take_drop, List.take_take, Nat.min_eq_left (by omega)]
theorem sub_drop {l : List En} {a b k : Nat} : (sub l a b).drop k = sub l (a + k) b := by
  unfold sub
  rw [List.drop_drop]
theorem root_sub1 {l : List En} {a b : Nat} (h : b - a = 1) (hb : b ≤ l.length) : root (sub l a b) = sm (leaf (nth l (a : Int))) := by
  rw [root_one (by rw [sub_length hb]; exact h)]
  have := sub_nth (l := l) (a := a) (b := b) (i := 0) hb (by omega)
  rw [Nat.add_zero] at this
  rw [← this]; rfl
theorem root_sub2 {l : List En} {a b : Nat} (h : 2 ≤ b - a) (hb : b ≤ l.length) : root (sub l a b) = sm (both (root (sub l a (a + half (b - a)))) (root (sub l (a + half (b - a)) b))) := by
  have hl := sub_length (l := l) (a := a) hb
  have hh := half_lt h
  rw [root_two (by rw [hl]; exact h), hl, sub_take (by omega) (by omega) hb, sub_drop]
inductive Nd : Nat → Nat → Nat → Nat → Prop where
  | self (a b) : Nd a b a b
  | left {a b c d : Nat} : 2 ≤ b - a → Nd a (a + half (b - a)) c d → Nd a b c d
  | right {a b c d : Nat} : 2 ≤ b - a → Nd (a + half (b - a)) b c d → Nd a b c d
theorem Nd.bds {a b c d : Nat} (h : Nd a b c d) (hab : a < b) : a ≤ c ∧ c < d ∧ d ≤ b := by
  induction h with
  | self a b => omega
  | left h2 _ ih => have := half_lt h2; have := ih (by omega); omega
  | right h2 _ ih => have := half_lt h2; have := ih (by omega); omega
theorem Nd.down {a b c d : Nat} (h : Nd a b c d) (h2 : 2 ≤ d - c) : Nd a b c (c + half (d - c)) ∧ Nd a b (c + half (d - c)) d := by
  induction h with
  | self a b => exact ⟨.left h2 (.self _ _), .right h2 (.self _ _)⟩
  | left h3 _ ih => exact ⟨.left h3 (ih h2).1, .left h3 (ih h2).2⟩
  | right h3 _ ih => exact ⟨.right h3 (ih h2).1, .right h3 (ih h2).2⟩
abbrev Ms := List ((Int × Int) × UInt64)
abbrev kvS (n : Int × Int) : Value := .agg #[.int .i64 n.1, .int .i64 n.2]
abbrev vvW (n : UInt64) : Value := .int .u64 (n.toNat : Int)
def Good (l : List En) (m : Ms) : Prop := ∀ p ∈ m, ∃ a b : Nat, p.1 = ((a : Int), (b : Int)) ∧ a ≤ 64 ∧ b ≤ 64 ∧ p.2 = root (sub l a b)
theorem upd_mem {K V : Type} [DecidableEq K] {k : K} {v : V} {p : K × V} : ∀ {m : List (K × V)}, p ∈ Go.Fip.upd k v m → p = (k, v) ∨ p ∈ m
  | [], h => by simp [Go.Fip.upd] at h; exact .inl h
  | q :: m, h => by
    unfold Go.Fip.upd at h
    split at h
    · rcases List.mem_cons.1 h with h | h
      · exact .inl h
      · exact .inr (List.mem_cons_of_mem _ h)
    · rcases List.mem_cons.1 h with h | h
      · exact .inr (by rw [h]; exact List.mem_cons_self)
      · rcases upd_mem h with h | h
        · exact .inl h
        · exact .inr (List.mem_cons_of_mem _ h)
theorem del_mem {K V : Type} [DecidableEq K] {k : K} {p : K × V} : ∀ {m : List (K × V)}, p ∈ Go.Fip.del k m → p ∈ m
  | [], h => by cases h
  | q :: m, h => by
    unfold Go.Fip.del at h
    split at h
    · exact List.mem_cons_of_mem _ h
    · rcases List.mem_cons.1 h with h | h
      · rw [h]; exact List.mem_cons_self
      · exact List.mem_cons_of_mem _ (del_mem h)
theorem Good.at {l : List En} {m : Ms} (h : Good l m) {a b : Nat} {v : UInt64} (hf : find ((a : Int), (b : Int)) m = some v) : v = root (sub l a b) := by
  obtain ⟨c, d, e, _, _, hv⟩ := h _ (find_mem hf)
  simp only [Prod.mk.injEq] at e
  obtain ⟨e1, e2⟩ := e
  have e3 : c = a := by omega
  have e4 : d = b := by omega
  subst e3 e4
  exact hv
structure Ext (l : List En) (m m' : Ms) (a b : Nat) : Prop where
  good : Good l m'
  dom : ∀ k, (find k m).isSome → (find k m').isSome
  has : ∀ c d : Nat, Nd a b c d → (find ((c : Int), (d : Int)) m').isSome
theorem Good.nil {l : List En} : Good l [] := fun p h => by cases h
theorem Good.upd {l : List En} {m : Ms} (h : Good l m) {a b : Nat} {v : UInt64} (h64 : a ≤ 64 ∧ b ≤ 64) (hv : v = root (sub l a b)) : Good l (upd ((a : Int), (b : Int)) v m) := fun p hp => by
  rcases upd_mem hp with rfl | hp
  · exact ⟨a, b, rfl, h64.1, h64.2, hv⟩
  · exact h p hp
theorem Ext.one {l : List En} {m : Ms} (h : Good l m) {a b : Nat} {v : UInt64} (h1 : b - a = 1) (h64 : a ≤ 64 ∧ b ≤ 64) (hv : v = root (sub l a b)) : Ext l m (Go.Fip.upd ((a : Int), (b : Int)) v m) a b := by
  refine ⟨h.upd h64 hv, fun k hk => ?_, fun c d hn => ?_⟩
  · rw [find_upd]; split
    · rfl
    · exact hk
  · cases hn with
    | self => rw [find_upd, if_pos rfl]; rfl
    | left h2 _ => omega
    | right h2 _ => omega
theorem Ext.join {l : List En} {m m1 m2 : Ms} {a b : Nat} {v : UInt64} (h2 : 2 ≤ b - a) (h64 : a ≤ 64 ∧ b ≤ 64) (h : Ext l m m1 a (a + half (b - a))) (h' : Ext l m1 m2 (a + half (b - a)) b) (hv : v = root (sub l a b)) : Ext l m (Go.Fip.upd ((a : Int), (b : Int)) v m2) a b := by
  refine ⟨h'.good.upd h64 hv, fun k hk => ?_, fun c d hn => ?_⟩
  · rw [find_upd]; split
    · rfl
    · exact h'.dom k (h.dom k hk)
  · rw [find_upd]; split
    · rfl
    · cases hn with
      | self => rename_i e; exact absurd rfl e
      | left _ hn => exact h'.dom _ (h.has c d hn)
      | right _ hn => exact h'.has c d hn
def Whole (l : List En) (m : Ms) : Prop := Good l m ∧ (1 ≤ l.length → ∀ c d : Nat, Nd 0 l.length c d → (find ((c : Int), (d : Int)) m).isSome)
theorem Whole.at {l : List En} {m : Ms} (h : Whole l m) {c d : Nat} (h1 : 1 ≤ l.length) (hn : Nd 0 l.length c d) : (find ((c : Int), (d : Int)) m).getD 0 = root (sub l c d) := by
  have h2 := h.2 h1 c d hn
  obtain ⟨v, hv⟩ := Option.isSome_iff_exists.1 h2
  rw [hv, Option.getD_some]
  exact h.1.at hv
theorem Whole.of {l : List En} {m : Ms} (h : Ext l [] m 0 l.length) : Whole l m := ⟨h.good, fun _ => h.has⟩
theorem Whole.none {l : List En} (h : l.length = 0) : Whole l [] := ⟨Good.nil, fun h1 => by omega⟩
end Go.Fip.B
namespace Go.Fip.B
open Go.Fip
def bals (l : List En) (d : Int) (k : Nat) : List Int := (List.range 10).map fun a : Nat => balTo l (a : Int) d k
theorem bals_len {l : List En} {d : Int} {k : Nat} : (bals l d k).length = 10 := by simp [bals]
theorem bals_at {l : List En} {d a : Int} {k : Nat} (h : 0 ≤ a ∧ a ≤ 9) : nth (bals l d k) a = balTo l a d k := by
  obtain ⟨n, rfl⟩ := Int.eq_ofNat_of_zero_le h.1
  rw [nth_nat (by rw [bals_len]; omega)]
  simp [bals]
theorem bals_zero {l : List En} {d : Int} : List.replicate 10 (0 : Int) = bals l d 0 := by
  unfold bals balTo bal
  rfl
theorem nth_set {C : List Int} {i j z : Int} (hi : 0 ≤ i ∧ i < (C.length : Int)) (hj : 0 ≤ j ∧ j < (C.length : Int)) : nth (C.set i.toNat z) j = if j = i then z else nth C j := by
  obtain ⟨a, rfl⟩ := Int.eq_ofNat_of_zero_le hi.1
  obtain ⟨b, rfl⟩ := Int.eq_ofNat_of_zero_le hj.1
  rw [nth_nat (by rw [List.length_set]; omega), nth_nat (by omega), List.getElem_set]
  by_cases h : a = b
  · subst h; simp
  · rw [if_neg (by simpa using h), if_neg (by omega)]
theorem two_sets {C : List Int} {t f a i : Int} (ht : 0 ≤ t ∧ t < (C.length : Int)) (hf : 0 ≤ f ∧ f < (C.length : Int)) (hi : 0 ≤ i ∧ i < (C.length : Int)) :
    nth ((C.set t.toNat (nth C t + a)).set f.toNat (nth (C.set t.toNat (nth C t + a)) f - a)) i = nth C i + ((if t = i then a else 0) - (if f = i then a else 0)) := by
  rw [nth_set (C := C.set t.toNat (nth C t + a)) (i := f) (j := i) (by rw [List.length_set]; exact hf) (by rw [List.length_set]; exact hi), nth_set (C := C) (i := t) (j := f) ht hf, nth_set (C := C) (i := t) (j := i) ht hi]
  by_cases h1 : i = f
  · subst h1
    by_cases h2 : i = t
    · subst h2; simp
    · simp [h2, Ne.symm h2]; omega
  · by_cases h2 : i = t
    · subst h2; simp [h1, Ne.symm h1]
    · simp [h1, h2, Ne.symm h1, Ne.symm h2]
theorem bals_step {l : List En} {d : Int} {k : Nat} (hk : k < l.length) (he : isEn (nth l (k : Int))) (hd : (nth l (k : Int)).d ≤ d) :
    ((bals l d k).set (nth l (k : Int)).t.toNat (nth (bals l d k) (nth l (k : Int)).t + (nth l (k : Int)).a)).set (nth l (k : Int)).f.toNat (nth ((bals l d k).set (nth l (k : Int)).t.toNat (nth (bals l d k) (nth l (k : Int)).t + (nth l (k : Int)).a)) (nth l (k : Int)).f - (nth l (k : Int)).a) = bals l d (k + 1) := by
  have h10 := bals_len (l := l) (d := d) (k := k)
  unfold isEn at he
  refine ext_nth (by simp [bals_len]) fun i hi => ?_
  simp only [List.length_set, bals_len] at hi
  rw [two_sets (C := bals l d k) (t := (nth l (k : Int)).t) (f := (nth l (k : Int)).f) (a := (nth l (k : Int)).a) (i := (i : Int)) (by omega) (by omega) (by omega), bals_at (k := k) (by omega), bals_at (k := k + 1) (by omega), balTo_succ hk]
  unfold eff
  rw [if_neg (show ¬ d < (nth l (k : Int)).d by omega)]
theorem bals_skip {l : List En} {d : Int} {k : Nat} (hk : k < l.length) (hd : ¬ (nth l (k : Int)).d ≤ d) : bals l d k = bals l d (k + 1) := by
  unfold bals
  refine List.map_congr_left fun a _ => ?_
  rw [balTo_succ hk]
  unfold eff
  rw [if_pos (by omega)]; omega
theorem bals_all {l : List En} {d a : Int} {k : Nat} (h : l.length ≤ k) (ha : 0 ≤ a ∧ a ≤ 9) : nth (bals l d k) a = bal l a d := by rw [bals_at ha, balTo_all h]
theorem bals_none {l : List En} {d a : Int} {k : Nat} (h : l.length ≤ k) (ha : 0 ≤ a ∧ a ≤ 9) (hz : bals l d k = [0, 0, 0, 0, 0, 0, 0, 0, 0, 0]) : bal l a d = 0 := by
  rw [← bals_all h ha, hz]
  obtain ⟨n, rfl⟩ := Int.eq_ofNat_of_zero_le ha.1
  have : n < 10 := by omega
  match n, this with
  | 0, _ | 1, _ | 2, _ | 3, _ | 4, _ | 5, _ | 6, _ | 7, _ | 8, _ | 9, _ => rfl
theorem bals_bd {l : List En} {d a : Int} {k : Nat} (h : InR l) (hk : k ≤ l.length) (hl : l.length ≤ 24) (ha : 0 ≤ a ∧ a ≤ 9) : -24000000 ≤ nth (bals l d k) a ∧ nth (bals l d k) a ≤ 24000000 := by
  rw [bals_at ha]
  have := balTo_bd (a := a) (d := d) h k hk
  omega
end Go.Fip.B
namespace Go.Fip.B
open Go.Fip
def hvF : Nat → Nat → Nat → List Bool
  | 0, _, _ => []
  | f + 1, i, n => if n ≤ 1 then [] else decide (i < half n) :: (if i < half n then hvF f i (half n) else hvF f (i - half n) (n - half n))
def hv (i n : Nat) : List Bool := hvF n i n
theorem hvF_fuel : ∀ (f g i n : Nat), n ≤ f → n ≤ g → hvF f i n = hvF g i n
  | 0, 0, _, _, _, _ => rfl
  | 0, g + 1, i, n, h, _ => by unfold hvF; rw [if_pos (by omega)]
  | f + 1, 0, i, n, _, h => by unfold hvF; rw [if_pos (by omega)]
  | f + 1, g + 1, i, n, h1, h2 => by
    unfold hvF
    by_cases h : n ≤ 1
    · rw [if_pos h, if_pos h]
    · have hh := half_lt (n := n) (by omega)
      rw [if_neg h, if_neg h, hvF_fuel f g i (half n) (by omega) (by omega), hvF_fuel f g (i - half n) (n - half n) (by omega) (by omega)]
theorem hv_done {i n : Nat} (h : n ≤ 1) : hv i n = [] := by
  unfold hv
  match n, h with
  | 0, _ => rfl
  | 1, _ => rfl
theorem hv_cons {i n : Nat} (h : 2 ≤ n) : hv i n = decide (i < half n) :: (if i < half n then hv i (half n) else hv (i - half n) (n - half n)) := by
  have hh := half_lt h
  unfold hv
  obtain ⟨k, rfl⟩ : ∃ k, n = k + 1 := ⟨n - 1, by omega⟩
  conv => lhs; unfold hvF
  rw [if_neg (by omega), hvF_fuel k (half (k + 1)) i (half (k + 1)) (by omega) (Nat.le_refl _), hvF_fuel k (k + 1 - half (k + 1)) (i - half (k + 1)) (k + 1 - half (k + 1)) (by omega) (Nat.le_refl _)]
theorem hv_length {i : Nat} : ∀ n : Nat, (hv i n).length ≤ n - 1 := by
  intro n
  induction n using Nat.strongRecOn generalizing i with
  | _ n ih =>
    by_cases h : n ≤ 1
    · rw [hv_done h]; exact Nat.zero_le _
    · have hh := half_lt (n := n) (by omega)
      rw [hv_cons (by omega)]
      split
      · have := ih (half n) (by omega) (i := i); simp; omega
      · have := ih (n - half n) (by omega) (i := i - half n); simp; omega
theorem drop_tail {α : Type} {L : List α} {q : Nat} {x : α} {t : List α} (h : L.drop q = x :: t) : L[q]? = some x ∧ L.drop (q + 1) = t := by
  constructor
  · have : (L.drop q)[0]? = some x := by rw [h]; rfl
    rwa [List.getElem?_drop] at this
  · rw [← List.drop_drop, h]; rfl
theorem hv_get {L : List Bool} {q j m : Nat} {x : Value} (h : L.drop q = hv j m) (hx : (L.map Value.bool)[q]? = some x) :
    2 ≤ m ∧ x = .bool (decide ((j : Int) < (half m : Int))) ∧ L.drop (q + 1) = (if j < half m then hv j (half m) else hv (j - half m) (m - half m)) := by
  by_cases h1 : m ≤ 1
  · rw [hv_done h1, List.drop_eq_nil_iff] at h
    rw [List.getElem?_eq_none (by simpa using h)] at hx
    cases hx
  · rw [hv_cons (by omega)] at h
    obtain ⟨h2, h3⟩ := drop_tail h
    rw [List.getElem?_map, h2] at hx
    refine ⟨by omega, ?_, h3⟩
    rw [← Option.some.inj hx]
    exact congrArg Value.bool (decide_eq_decide.2 (by omega))
theorem hv_at {L : List Bool} {q j m : Nat} (h : L.drop q = hv j m) (h2 : 2 ≤ m) : (L.map Value.bool)[q]? = some (.bool (decide ((j : Int) < (half m : Int)))) := by
  rw [hv_cons h2] at h
  rw [List.getElem?_map, (drop_tail h).1]
  exact congrArg some (congrArg Value.bool (decide_eq_decide.2 (by omega)))
theorem hv_left {L : List Bool} {q j m : Nat} (h : L.drop q = hv j m) (h2 : 2 ≤ m) (h3 : j < half m) : L.drop (q + 1) = hv j (half m) := by
  rw [hv_cons h2, if_pos h3] at h
  exact (drop_tail h).2
theorem hv_right {L : List Bool} {q j m : Nat} (h : L.drop q = hv j m) (h2 : 2 ≤ m) (h3 : ¬ j < half m) : L.drop (q + 1) = hv (j - half m) (m - half m) := by
  rw [hv_cons h2, if_neg h3] at h
  exact (drop_tail h).2
theorem hv_end {L : List Bool} {q j m : Nat} (h : L.drop q = hv j m) (h2 : m ≤ 1) : L.length ≤ q := by
  rw [hv_done h2] at h
  exact List.drop_eq_nil_iff.1 h
theorem hv_stop {L : List Bool} {q j m : Nat} (h : L.drop q = hv j m) (h2 : L.length ≤ q) : m ≤ 1 := by
  rw [List.drop_eq_nil_iff.2 h2] at h
  rcases Nat.lt_or_ge 1 m with h3 | h3
  · rw [hv_cons (by omega)] at h; cases h
  · exact h3
def pathF : Nat → List En → Nat → List UInt64
  | 0, _, _ => []
  | f + 1, l, i => if l.length ≤ 1 then [] else if i < half l.length then pathF f (l.take (half l.length)) i ++ [root (l.drop (half l.length))] else pathF f (l.drop (half l.length)) (i - half l.length) ++ [root (l.take (half l.length))]
def path (l : List En) (i : Nat) : List UInt64 := pathF l.length l i
theorem pathF_fuel : ∀ (f g : Nat) (l : List En) (i : Nat), l.length ≤ f → l.length ≤ g → pathF f l i = pathF g l i
  | 0, 0, _, _, _, _ => rfl
  | 0, g + 1, l, i, h, _ => by unfold pathF; rw [if_pos (by omega)]
  | f + 1, 0, l, i, _, h => by unfold pathF; rw [if_pos (by omega)]
  | f + 1, g + 1, l, i, h1, h2 => by
    unfold pathF
    by_cases h : l.length ≤ 1
    · rw [if_pos h, if_pos h]
    · have hh := half_lt (n := l.length) (by omega)
      rw [if_neg h, if_neg h, pathF_fuel f g (l.take _) i (by rw [List.length_take]; omega) (by rw [List.length_take]; omega), pathF_fuel f g (l.drop _) (i - half l.length) (by rw [List.length_drop]; omega) (by rw [List.length_drop]; omega)]
theorem path_one {l : List En} {i : Nat} (h : l.length ≤ 1) : path l i = [] := by
  unfold path
  match l, h with
  | [], _ => rfl
  | [_], _ => rfl
theorem path_two {l : List En} {i : Nat} (h : 2 ≤ l.length) : path l i = if i < half l.length then path (l.take (half l.length)) i ++ [root (l.drop (half l.length))] else path (l.drop (half l.length)) (i - half l.length) ++ [root (l.take (half l.length))] := by
  have hh := half_lt h
  unfold path
  obtain ⟨k, hk⟩ : ∃ k, l.length = k + 1 := ⟨l.length - 1, by omega⟩
  conv => lhs; rw [hk]; unfold pathF
  rw [if_neg (by omega), pathF_fuel k (l.take (half l.length)).length (l.take _) i (by rw [List.length_take]; omega) (Nat.le_refl _), pathF_fuel k (l.drop (half l.length)).length (l.drop _) (i - half l.length) (by rw [List.length_drop]; omega) (Nat.le_refl _)]
theorem path_left {l : List En} {i : Nat} (h : 2 ≤ l.length) (h2 : i < half l.length) : path l i = path (l.take (half l.length)) i ++ [root (l.drop (half l.length))] := by rw [path_two h, if_pos h2]
theorem path_right {l : List En} {i : Nat} (h : 2 ≤ l.length) (h2 : ¬ i < half l.length) : path l i = path (l.drop (half l.length)) (i - half l.length) ++ [root (l.take (half l.length))] := by rw [path_two h, if_neg h2]
theorem path_hv {l : List En} {i : Nat} : (path l i).length = (hv i l.length).length := by
  induction hl : l.length using Nat.strongRecOn generalizing l i with
  | _ n ih =>
    by_cases h : n ≤ 1
    · rw [hv_done h, path_one (by omega)]; rfl
    · have hh := half_lt (n := n) (by omega)
      rw [hv_cons (by omega), path_two (by omega), hl]
      by_cases h2 : i < half n
      · rw [if_pos h2, if_pos h2, List.length_append, List.length_cons, ih (half n) (by omega) (by rw [List.length_take]; omega)]; rfl
      · rw [if_neg h2, if_neg h2, List.length_append, List.length_cons, ih (n - half n) (by omega) (by rw [List.length_drop]; omega)]; rfl
theorem path_len {l : List En} {i : Nat} : (path l i).length ≤ l.length - 1 := by rw [path_hv]; exact hv_length _
theorem path_sub_left {l : List En} {a b j : Nat} (hb : b ≤ l.length) (h : 2 ≤ b - a) (h2 : j < half (b - a)) : path (sub l a b) j = path (sub l a (a + half (b - a))) j ++ [root (sub l (a + half (b - a)) b)] := by
  have hl := sub_length (l := l) (a := a) hb
  have hh := half_lt h
  rw [path_left (by rw [hl]; exact h) (by rw [hl]; exact h2), hl, sub_take (by omega) (by omega) hb, sub_drop]
theorem path_sub_right {l : List En} {a b j : Nat} (hb : b ≤ l.length) (h : 2 ≤ b - a) (h2 : ¬ j < half (b - a)) : path (sub l a b) j = path (sub l (a + half (b - a)) b) (j - half (b - a)) ++ [root (sub l a (a + half (b - a)))] := by
  have hl := sub_length (l := l) (a := a) hb
  have hh := half_lt h
  rw [path_right (by rw [hl]; exact h) (by rw [hl]; exact h2), hl, sub_take (by omega) (by omega) hb, sub_drop]
def lastS (l : List (List UInt8)) : List UInt8 := nth l ((l.length : Int) - 1)
def lastW (l : List UInt64) : UInt64 := nth l ((l.length : Int) - 1)
def stF : Nat → En → Nat → Nat → List UInt64 → List (List UInt8) × Bool
  | 0, _, _, _, _ => ([], false)
  | f + 1, e, i, n, p => if n = 1 then ([leaf e], decide (p.length = 0)) else if p.length = 0 then ([], false) else
    if i < half n then (if (stF f e i (half n) (p.take (p.length - 1))).2 = true then ((stF f e i (half n) (p.take (p.length - 1))).1 ++ [both (sm (lastS (stF f e i (half n) (p.take (p.length - 1))).1)) (lastW p)], true) else ([], false))
    else (if (stF f e (i - half n) (n - half n) (p.take (p.length - 1))).2 = true then ((stF f e (i - half n) (n - half n) (p.take (p.length - 1))).1 ++ [both (lastW p) (sm (lastS (stF f e (i - half n) (n - half n) (p.take (p.length - 1))).1))], true) else ([], false))
def st (e : En) (i n : Nat) (p : List UInt64) : List (List UInt8) × Bool := stF n e i n p
theorem stF_fuel : ∀ (f g : Nat) (e : En) (i n : Nat) (p : List UInt64), n ≤ f → n ≤ g → 1 ≤ n → stF f e i n p = stF g e i n p
  | 0, _, _, _, _, _, h, _, h1 => by omega
  | f + 1, 0, _, _, _, _, _, h, h1 => by omega
  | f + 1, g + 1, e, i, n, p, h1, h2, h3 => by
    unfold stF
    by_cases h : n = 1
    · rw [if_pos h, if_pos h]
    · have hh := half_lt (n := n) (by omega)
      rw [if_neg h, if_neg h, stF_fuel f g e i (half n) _ (by omega) (by omega) (by omega), stF_fuel f g e (i - half n) (n - half n) _ (by omega) (by omega) (by omega)]
theorem st_one {e : En} {i : Nat} {p : List UInt64} : st e i 1 p = ([leaf e], decide (p.length = 0)) := by unfold st stF; rw [if_pos rfl]
theorem st_none {e : En} {i n : Nat} {p : List UInt64} (h : 2 ≤ n) (h2 : p.length = 0) : st e i n p = ([], false) := by
  unfold st
  obtain ⟨k, rfl⟩ : ∃ k, n = k + 1 := ⟨n - 1, by omega⟩
  unfold stF; rw [if_neg (by omega), if_pos h2]
theorem st_two {e : En} {i n : Nat} {p : List UInt64} (h : 2 ≤ n) (h2 : 1 ≤ p.length) : st e i n p =
    if i < half n then (if (st e i (half n) (p.take (p.length - 1))).2 = true then ((st e i (half n) (p.take (p.length - 1))).1 ++ [both (sm (lastS (st e i (half n) (p.take (p.length - 1))).1)) (lastW p)], true) else ([], false))
    else (if (st e (i - half n) (n - half n) (p.take (p.length - 1))).2 = true then ((st e (i - half n) (n - half n) (p.take (p.length - 1))).1 ++ [both (lastW p) (sm (lastS (st e (i - half n) (n - half n) (p.take (p.length - 1))).1))], true) else ([], false)) := by
  have hh := half_lt h
  unfold st
  obtain ⟨k, rfl⟩ : ∃ k, n = k + 1 := ⟨n - 1, by omega⟩
  conv => lhs; unfold stF
  rw [if_neg (by omega), if_neg (by omega), stF_fuel k (half (k + 1)) e i (half (k + 1)) _ (by omega) (Nat.le_refl _) (by omega), stF_fuel k (k + 1 - half (k + 1)) e (i - half (k + 1)) (k + 1 - half (k + 1)) _ (by omega) (Nat.le_refl _) (by omega)]
theorem st_l1 {e : En} {i n : Nat} {p : List UInt64} (h : 2 ≤ n) (h2 : 1 ≤ p.length) (h3 : i < half n) (h4 : (st e i (half n) (p.take (p.length - 1))).2 = true) : st e i n p = ((st e i (half n) (p.take (p.length - 1))).1 ++ [both (sm (lastS (st e i (half n) (p.take (p.length - 1))).1)) (lastW p)], true) := by rw [st_two h h2, if_pos h3, if_pos h4]
theorem st_l0 {e : En} {i n : Nat} {p : List UInt64} (h : 2 ≤ n) (h2 : 1 ≤ p.length) (h3 : i < half n) (h4 : ¬ (st e i (half n) (p.take (p.length - 1))).2 = true) : st e i n p = ([], false) := by rw [st_two h h2, if_pos h3, if_neg h4]
theorem st_r1 {e : En} {i n : Nat} {p : List UInt64} (h : 2 ≤ n) (h2 : 1 ≤ p.length) (h3 : ¬ i < half n) (h4 : (st e (i - half n) (n - half n) (p.take (p.length - 1))).2 = true) : st e i n p = ((st e (i - half n) (n - half n) (p.take (p.length - 1))).1 ++ [both (lastW p) (sm (lastS (st e (i - half n) (n - half n) (p.take (p.length - 1))).1))], true) := by rw [st_two h h2, if_neg h3, if_pos h4]
theorem st_r0 {e : En} {i n : Nat} {p : List UInt64} (h : 2 ≤ n) (h2 : 1 ≤ p.length) (h3 : ¬ i < half n) (h4 : ¬ (st e (i - half n) (n - half n) (p.take (p.length - 1))).2 = true) : st e i n p = ([], false) := by rw [st_two h h2, if_neg h3, if_neg h4]
theorem st_ok {e : En} : ∀ (n i : Nat) (p : List UInt64), 1 ≤ n → ((st e i n p).2 = true ↔ p.length = (hv i n).length) ∧ ((st e i n p).2 = true → 1 ≤ (st e i n p).1.length ∧ (st e i n p).1.length = p.length + 1) := by
  intro n
  induction n using Nat.strongRecOn with
  | _ n ih =>
    intro i p hn
    by_cases h : n = 1
    · subst h
      rw [st_one, hv_done (Nat.le_refl _)]
      exact ⟨by simp, fun h => by simp at h ⊢; omega⟩
    · have hh := half_lt (n := n) (by omega)
      rw [hv_cons (by omega)]
      by_cases h2 : p.length = 0
      · rw [st_none (by omega) h2]
        exact ⟨by simp; omega, fun h => by cases h⟩
      · have hl : (p.take (p.length - 1)).length = p.length - 1 := by rw [List.length_take]; omega
        by_cases h3 : i < half n
        · obtain ⟨i1, i2⟩ := ih (half n) (by omega) i (p.take (p.length - 1)) (by omega)
          rw [if_pos h3, List.length_cons]
          by_cases h4 : (st e i (half n) (p.take (p.length - 1))).2 = true
          · rw [st_l1 (by omega) (by omega) h3 h4]
            have := i1.1 h4
            have h6 := i2 h4
            exact ⟨⟨fun _ => by omega, fun _ => rfl⟩, fun _ => by rw [List.length_append, List.length_singleton]; omega⟩
          · rw [st_l0 (by omega) (by omega) h3 h4]
            have : ¬ (p.take (p.length - 1)).length = (hv i (half n)).length := fun c => h4 (i1.2 c)
            exact ⟨⟨fun c => (by cases c), fun c => by omega⟩, fun c => (by cases c)⟩
        · obtain ⟨i1, i2⟩ := ih (n - half n) (by omega) (i - half n) (p.take (p.length - 1)) (by omega)
          rw [if_neg h3, List.length_cons]
          by_cases h4 : (st e (i - half n) (n - half n) (p.take (p.length - 1))).2 = true
          · rw [st_r1 (by omega) (by omega) h3 h4]
            have := i1.1 h4
            have h6 := i2 h4
            exact ⟨⟨fun _ => by omega, fun _ => rfl⟩, fun _ => by rw [List.length_append, List.length_singleton]; omega⟩
          · rw [st_r0 (by omega) (by omega) h3 h4]
            have : ¬ (p.take (p.length - 1)).length = (hv (i - half n) (n - half n)).length := fun c => h4 (i1.2 c)
            exact ⟨⟨fun c => (by cases c), fun c => by omega⟩, fun c => (by cases c)⟩
theorem lastS_snoc {l : List (List UInt8)} {x : List UInt8} : lastS (l ++ [x]) = x := by
  unfold lastS
  have : ((l ++ [x]).length : Int) - 1 = (l.length : Int) := by simp
  rw [this, nth_nat (by simp)]
  simp
theorem lastW_snoc {l : List UInt64} {x : UInt64} : lastW (l ++ [x]) = x := by
  unfold lastW
  have : ((l ++ [x]).length : Int) - 1 = (l.length : Int) := by simp
  rw [this, nth_nat (by simp)]
  simp
def up1 (now other : UInt64) (b : Bool) : UInt64 := if b then sm (both now other) else sm (both other now)
def up (now : UInt64) (p : List UInt64) (bs : List Bool) : UInt64 := (p.zip bs).foldl (fun now z => up1 now z.1 z.2) now
def upTo (now : UInt64) (p : List UInt64) (bs : List Bool) (k : Nat) : UInt64 := up now (p.take k) (bs.reverse.take k)
theorem up_snoc {now : UInt64} {p : List UInt64} {bs : List Bool} {x : UInt64} {b : Bool} (h : p.length = bs.length) : up now (p ++ [x]) (bs ++ [b]) = up1 (up now p bs) x b := by
  unfold up
  rw [List.zip_append h, List.foldl_append]; rfl
theorem upTo_succ {now : UInt64} {p : List UInt64} {bs : List Bool} {k : Nat} (h : p.length = bs.length) (hk : k < p.length) : upTo now p bs (k + 1) = up1 (upTo now p bs k) (nth p (k : Int)) (nth bs ((bs.length : Int) - 1 - (k : Int))) := by
  unfold upTo
  have hr : k < bs.reverse.length := by rw [List.length_reverse]; omega
  rw [List.take_succ_eq_append_getElem hk, List.take_succ_eq_append_getElem hr, up_snoc (by rw [List.length_take, List.length_take]; omega), nth_nat hk]
  have e : (bs.length : Int) - 1 - (k : Int) = ((bs.length - 1 - k : Nat) : Int) := by omega
  rw [e, nth_nat (by omega), List.getElem_reverse]
theorem upTo_all {now : UInt64} {p : List UInt64} {bs : List Bool} {k : Nat} (h : p.length = bs.length) (hk : p.length ≤ k) : upTo now p bs k = up now p bs.reverse := by
  unfold upTo
  rw [List.take_of_length_le hk, List.take_of_length_le (by rw [List.length_reverse]; omega)]
theorem st_up {e : En} : ∀ (n i : Nat) (p : List UInt64), 1 ≤ n → p.length = (hv i n).length → sm (lastS (st e i n p).1) = up (sm (leaf e)) p (hv i n).reverse := by
  intro n
  induction n using Nat.strongRecOn with
  | _ n ih =>
    intro i p hn hp
    by_cases h : n = 1
    · subst h
      rw [hv_done (Nat.le_refl _)] at hp ⊢
      rw [st_one, List.eq_nil_of_length_eq_zero hp]; rfl
    · have hh := half_lt (n := n) (by omega)
      rw [hv_cons (by omega), List.length_cons] at hp
      rw [hv_cons (by omega), List.reverse_cons]
      have hne : p ≠ [] := fun e => by subst e; simp at hp
      have hpe : p = p.take (p.length - 1) ++ [lastW p] := by
        have h1 := List.dropLast_concat_getLast hne
        have h2 : p.take (p.length - 1) = p.dropLast := List.dropLast_eq_take.symm
        have h3 : lastW p = p.getLast hne := by
          conv => lhs; rw [← h1]
          exact lastW_snoc
        rw [h2, h3]; exact h1.symm
      have hl : (p.take (p.length - 1)).length = p.length - 1 := by rw [List.length_take]; omega
      by_cases h3 : i < half n
      · rw [if_pos h3] at hp ⊢
        have i0 := ih (half n) (by omega) i (p.take (p.length - 1)) (by omega) (by omega)
        have h4 := (st_ok (e := e) (half n) i (p.take (p.length - 1)) (by omega)).1.2 (by omega)
        rw [st_l1 (by omega) (by omega) h3 h4]
        conv => rhs; rw [hpe]
        rw [up_snoc (by rw [List.length_reverse]; omega), lastS_snoc, ← i0]
        unfold up1
        rw [decide_eq_true h3]; rfl
      · rw [if_neg h3] at hp ⊢
        have i0 := ih (n - half n) (by omega) (i - half n) (p.take (p.length - 1)) (by omega) (by omega)
        have h4 := (st_ok (e := e) (n - half n) (i - half n) (p.take (p.length - 1)) (by omega)).1.2 (by omega)
        rw [st_r1 (by omega) (by omega) h3 h4]
        conv => rhs; rw [hpe]
        rw [up_snoc (by rw [List.length_reverse]; omega), lastS_snoc, ← i0]
        unfold up1
        rw [decide_eq_false h3]; rfl
def cp (e : En) (i n : Int) (p : List UInt64) (r : UInt64) : Int := if ckE e = 0 then (if 1 ≤ n ∧ n ≤ 24 then (if 0 ≤ i ∧ i < n then (if (st e i.toNat n.toNat p).2 = true ∧ sm (lastS (st e i.toNat n.toNat p).1) = r then 0 else 25) else 2) else 6) else ckE e
variable {e : En} {i n : Int} {p : List UInt64} {r : UInt64}
theorem cp1 (h : ¬ ckE e = 0) : cp e i n p r = ckE e := by unfold cp; rw [if_neg h]
theorem cp2 (h : ckE e = 0) (h2 : ¬ (1 ≤ n ∧ n ≤ 24)) : cp e i n p r = 6 := by unfold cp; rw [if_pos h, if_neg h2]
theorem cp3 (h : ckE e = 0) (h2 : 1 ≤ n ∧ n ≤ 24) (h3 : ¬ (0 ≤ i ∧ i < n)) : cp e i n p r = 2 := by unfold cp; rw [if_pos h, if_pos h2, if_neg h3]
theorem cp4 (h : ckE e = 0) (h2 : 1 ≤ n ∧ n ≤ 24) (h3 : 0 ≤ i ∧ i < n) (h4 : ¬ ((st e i.toNat n.toNat p).2 = true ∧ sm (lastS (st e i.toNat n.toNat p).1) = r)) : cp e i n p r = 25 := by unfold cp; rw [if_pos h, if_pos h2, if_pos h3, if_neg h4]
theorem cp5 (h : ckE e = 0) (h2 : 1 ≤ n ∧ n ≤ 24) (h3 : 0 ≤ i ∧ i < n) (h4 : (st e i.toNat n.toNat p).2 = true ∧ sm (lastS (st e i.toNat n.toNat p).1) = r) : cp e i n p r = 0 := by unfold cp; rw [if_pos h, if_pos h2, if_pos h3, if_pos h4]
theorem ckE_iff : ckE e = 0 ↔ isEn e ∧ ¬ e.f = e.t := by
  unfold ckE
  split
  · split
    · constructor
      · intro h; omega
      · rintro ⟨_, h⟩; contradiction
    · constructor
      · intro _; constructor <;> assumption
      · intro _; rfl
  · constructor
    · intro h; omega
    · rintro ⟨h, _⟩; contradiction
theorem ckE3 (h : ¬ isEn e) : ckE e = 3 := by unfold ckE; rw [if_neg h]
theorem ckE2 (h : isEn e) (h2 : e.f = e.t) : ckE e = 2 := by unfold ckE; rw [if_pos h, if_pos h2]
def pathR (l : List En) (i : Int) : List UInt64 × Int := if ck l = 0 then (if 0 ≤ i ∧ i < (l.length : Int) then (path l i.toNat, 0) else ([], 3)) else ([], ck l)
theorem pa1 {l : List En} (h : ¬ ck l = 0) : pathR l i = ([], ck l) := by unfold pathR; rw [if_neg h]
theorem pa2 {l : List En} (h : ck l = 0) (h2 : ¬ (0 ≤ i ∧ i < (l.length : Int))) : pathR l i = ([], 3) := by unfold pathR; rw [if_pos h, if_neg h2]
theorem pa3 {l : List En} (h : ck l = 0) (h2 : 0 ≤ i ∧ i < (l.length : Int)) : pathR l i = (path l i.toNat, 0) := by unfold pathR; rw [if_pos h, if_pos h2]
end Go.Fip.B
namespace Go.Fip.B
open Go.Fip
theorem up1_t {now o : UInt64} {b : Bool} (h : b = true) : up1 now o b = sm (both now o) := by unfold up1; rw [h]; rfl
theorem up1_f {now o : UInt64} {b : Bool} (h : ¬ b = true) : up1 now o b = sm (both o now) := by
  unfold up1
  rw [Bool.eq_false_iff.2 h]; rfl
theorem both_len (a b : UInt64) : (both a b).length = 33 := by unfold both; simp [hex_length]
theorem st_len {e : En} (he : (leaf e).length ≤ 110) : ∀ (n i : Nat) (p : List UInt64), 1 ≤ n → ∀ x ∈ (st e i n p).1, x.length ≤ 110 := by
  intro n
  induction n using Nat.strongRecOn with
  | _ n ih =>
    intro i p hn x hx
    by_cases h : n = 1
    · subst h
      rw [st_one, List.mem_singleton] at hx
      rw [hx]; exact he
    · have hh := half_lt (n := n) (by omega)
      by_cases h2 : p.length = 0
      · rw [st_none (by omega) h2] at hx; cases hx
      · rw [st_two (by omega) (by omega)] at hx
        by_cases h3 : i < half n
        · rw [if_pos h3] at hx
          split at hx
          · rcases List.mem_append.1 hx with h5 | h5
            · exact ih (half n) (by omega) i _ (by omega) x h5
            · rw [List.mem_singleton] at h5; rw [h5, both_len]; omega
          · cases hx
        · rw [if_neg h3] at hx
          split at hx
          · rcases List.mem_append.1 hx with h5 | h5
            · exact ih (n - half n) (by omega) (i - half n) _ (by omega) x h5
            · rw [List.mem_singleton] at h5; rw [h5, both_len]; omega
          · cases hx
theorem nth_len {l : List (List UInt8)} {k : Nat} (h : ∀ x ∈ l, x.length ≤ k) (i : Int) : (nth l i).length ≤ k := by
  unfold nth
  rw [List.getD_eq_getElem?_getD]
  cases h2 : l[i.toNat]? with
  | none => exact Nat.zero_le _
  | some x => exact h x (List.mem_of_getElem? h2)
theorem leaf_len {e : En} (h : (text e).length ≤ 109) : (leaf e).length ≤ 110 := by unfold leaf; rw [List.length_append]; simp; omega
end Go.Fip.B
namespace Go.Fip.B
open Go.Fip
def gwF : Nat → List En → Nat → Bool → List UInt64
  | 0, _, _, _ => []
  | f + 1, l, m, w => if m = l.length ∧ w = true then [] else if m = l.length then [root l] else
    if m ≤ half l.length then gwF f (l.take (half l.length)) m w ++ [root (l.drop (half l.length))] else gwF f (l.drop (half l.length)) (m - half l.length) false ++ [root (l.take (half l.length))]
def gw (l : List En) (m : Nat) (w : Bool) : List UInt64 := gwF l.length l m w
theorem gwF_fuel : ∀ (f g : Nat) (l : List En) (m : Nat) (w : Bool), l.length ≤ f → l.length ≤ g → 1 ≤ m → m ≤ l.length → gwF f l m w = gwF g l m w
  | 0, _, _, _, _, h, _, h1, h2 => by omega
  | f + 1, 0, _, _, _, _, h, h1, h2 => by omega
  | f + 1, g + 1, l, m, w, h1, h2, h3, h4 => by
    unfold gwF
    by_cases hm : m = l.length
    · simp only [hm, true_and, if_true]
    · have hh := half_lt (n := l.length) (by omega)
      simp only [hm, false_and, if_false]
      by_cases hk : m ≤ half l.length
      · rw [if_pos hk, if_pos hk, gwF_fuel f g (l.take _) m w (by rw [List.length_take]; omega) (by rw [List.length_take]; omega) h3 (by rw [List.length_take]; omega)]
      · rw [if_neg hk, if_neg hk, gwF_fuel f g (l.drop _) (m - half l.length) false (by rw [List.length_drop]; omega) (by rw [List.length_drop]; omega) (by omega) (by rw [List.length_drop]; omega)]
theorem gw_all {l : List En} {m : Nat} (h1 : 1 ≤ m) (h : m = l.length) : gw l m true = [] := by
  unfold gw
  obtain ⟨k, hk⟩ : ∃ k, l.length = k + 1 := ⟨l.length - 1, by omega⟩
  rw [hk]; unfold gwF; rw [if_pos ⟨h, rfl⟩]
theorem gw_one {l : List En} {m : Nat} (h1 : 1 ≤ m) (h : m = l.length) : gw l m false = [root l] := by
  unfold gw
  obtain ⟨k, hk⟩ : ∃ k, l.length = k + 1 := ⟨l.length - 1, by omega⟩
  rw [hk]; unfold gwF; rw [if_neg (fun c => by cases c.2), if_pos h]
theorem gw_left {l : List En} {m : Nat} {w : Bool} (h1 : 1 ≤ m) (h : m < l.length) (hk : m ≤ half l.length) : gw l m w = gw (l.take (half l.length)) m w ++ [root (l.drop (half l.length))] := by
  have hh := half_lt (n := l.length) (by omega)
  unfold gw
  obtain ⟨k, hn⟩ : ∃ k, l.length = k + 1 := ⟨l.length - 1, by omega⟩
  conv => lhs; rw [hn]; unfold gwF
  rw [if_neg (fun c => by have := c.1; omega), if_neg (by omega), if_pos hk, gwF_fuel k (l.take (half l.length)).length (l.take _) m w (by rw [List.length_take]; omega) (Nat.le_refl _) h1 (by rw [List.length_take]; omega)]
theorem gw_right {l : List En} {m : Nat} {w : Bool} (h1 : 1 ≤ m) (h : m < l.length) (hk : ¬ m ≤ half l.length) : gw l m w = gw (l.drop (half l.length)) (m - half l.length) false ++ [root (l.take (half l.length))] := by
  have hh := half_lt (n := l.length) (by omega)
  unfold gw
  obtain ⟨k, hn⟩ : ∃ k, l.length = k + 1 := ⟨l.length - 1, by omega⟩
  conv => lhs; rw [hn]; unfold gwF
  rw [if_neg (fun c => by have := c.1; omega), if_neg (by omega), if_neg hk, gwF_fuel k (l.drop (half l.length)).length (l.drop _) (m - half l.length) false (by rw [List.length_drop]; omega) (Nat.le_refl _) (by omega) (by rw [List.length_drop]; omega)]
theorem gw_len : ∀ (n : Nat) (l : List En) (m : Nat) (w : Bool), l.length = n → 1 ≤ m → m ≤ n → (gw l m w).length ≤ n := by
  intro n
  induction n using Nat.strongRecOn with
  | _ n ih =>
    intro l m w hl h1 h2
    by_cases h : m = l.length
    · cases w with
      | true => rw [gw_all h1 h]; exact Nat.zero_le _
      | false => rw [gw_one h1 h]; simp; omega
    · have hh := half_lt (n := l.length) (by omega)
      by_cases hk : m ≤ half l.length
      · rw [gw_left h1 (by omega) hk, List.length_append, List.length_singleton]
        have := ih (half l.length) (by omega) (l.take (half l.length)) m w (by rw [List.length_take]; omega) h1 hk
        omega
      · rw [gw_right h1 (by omega) hk, List.length_append, List.length_singleton]
        have := ih (l.length - half l.length) (by omega) (l.drop (half l.length)) (m - half l.length) false (by rw [List.length_drop]) (by omega) (by omega)
        omega
theorem gw_sub_left {l : List En} {a b m : Nat} {w : Bool} (hb : b ≤ l.length) (h1 : 1 ≤ m) (h : m < b - a) (hk : m ≤ half (b - a)) : gw (sub l a b) m w = gw (sub l a (a + half (b - a))) m w ++ [root (sub l (a + half (b - a)) b)] := by
  have hl := sub_length (l := l) (a := a) hb
  have hh := half_lt (n := b - a) (by omega)
  rw [gw_left h1 (by rw [hl]; exact h) (by rw [hl]; exact hk), hl, sub_take (by omega) (by omega) hb, sub_drop]
theorem gw_sub_right {l : List En} {a b m : Nat} {w : Bool} (hb : b ≤ l.length) (h1 : 1 ≤ m) (h : m < b - a) (hk : ¬ m ≤ half (b - a)) : gw (sub l a b) m w = gw (sub l (a + half (b - a)) b) (m - half (b - a)) false ++ [root (sub l a (a + half (b - a)))] := by
  have hl := sub_length (l := l) (a := a) hb
  have hh := half_lt (n := b - a) (by omega)
  rw [gw_right h1 (by rw [hl]; exact h) (by rw [hl]; exact hk), hl, sub_take (by omega) (by omega) hb, sub_drop]
def gwR (l : List En) (m : Int) : List UInt64 × Int := if ck l = 0 then (if 1 ≤ m ∧ m ≤ (l.length : Int) then (gw l m.toNat true, 0) else ([], 2)) else ([], ck l)
theorem gr1 {l : List En} {m : Int} (h : ¬ ck l = 0) : gwR l m = ([], ck l) := by unfold gwR; rw [if_neg h]
theorem gr2 {l : List En} {m : Int} (h : ck l = 0) (h2 : ¬ (1 ≤ m ∧ m ≤ (l.length : Int))) : gwR l m = ([], 2) := by unfold gwR; rw [if_pos h, if_neg h2]
theorem gr3 {l : List En} {m : Int} (h : ck l = 0) (h2 : 1 ≤ m ∧ m ≤ (l.length : Int)) : gwR l m = (gw l m.toNat true, 0) := by unfold gwR; rw [if_pos h, if_pos h2]
def rtF : Nat → Nat → Nat → List UInt64 → Bool → UInt64 → UInt64 × UInt64 × Bool
  | 0, _, _, _, _, _ => (0, 0, false)
  | f + 1, m, n, g, w, o => if m = n ∧ w = true then (o, o, decide (g.length = 0)) else if g.length = 0 then (0, 0, false) else if m = n then (lastW g, lastW g, decide (g.length = 1)) else
    if m ≤ half n then ((rtF f m (half n) (g.take (g.length - 1)) w o).1, sm (both (rtF f m (half n) (g.take (g.length - 1)) w o).2.1 (lastW g)), (rtF f m (half n) (g.take (g.length - 1)) w o).2.2)
    else (sm (both (lastW g) (rtF f (m - half n) (n - half n) (g.take (g.length - 1)) false o).1), sm (both (lastW g) (rtF f (m - half n) (n - half n) (g.take (g.length - 1)) false o).2.1), (rtF f (m - half n) (n - half n) (g.take (g.length - 1)) false o).2.2)
def rt (m n : Nat) (g : List UInt64) (w : Bool) (o : UInt64) : UInt64 × UInt64 × Bool := rtF n m n g w o
theorem rtF_fuel : ∀ (f g m n : Nat) (p : List UInt64) (w : Bool) (o : UInt64), n ≤ f → n ≤ g → 1 ≤ m → m ≤ n → rtF f m n p w o = rtF g m n p w o
  | 0, _, _, _, _, _, _, h, _, h1, h2 => by omega
  | f + 1, 0, _, _, _, _, _, _, h, h1, h2 => by omega
  | f + 1, g + 1, m, n, p, w, o, h1, h2, h3, h4 => by
    unfold rtF
    by_cases hm : m = n
    · simp only [hm, true_and, if_true]
    · have hh := half_lt (n := n) (by omega)
      simp only [hm, false_and, if_false]
      by_cases hp : p.length = 0
      · rw [if_pos hp, if_pos hp]
      · rw [if_neg hp, if_neg hp]
        by_cases hk : m ≤ half n
        · rw [if_pos hk, if_pos hk, rtF_fuel f g m (half n) _ w o (by omega) (by omega) h3 hk]
        · rw [if_neg hk, if_neg hk, rtF_fuel f g (m - half n) (n - half n) _ false o (by omega) (by omega) (by omega) (by omega)]
variable {m n : Nat} {g : List UInt64} {w : Bool} {o : UInt64}
theorem rt_all (h1 : 1 ≤ m) (h : m = n) : rt m n g true o = (o, o, decide (g.length = 0)) := by
  unfold rt
  obtain ⟨k, rfl⟩ : ∃ k, n = k + 1 := ⟨n - 1, by omega⟩
  unfold rtF; rw [if_pos ⟨h, rfl⟩]
theorem rt_none (h1 : 1 ≤ m) (h2 : m ≤ n) (h : ¬ (m = n ∧ w = true)) (hg : g.length = 0) : rt m n g w o = (0, 0, false) := by
  unfold rt
  obtain ⟨k, rfl⟩ : ∃ k, n = k + 1 := ⟨n - 1, by omega⟩
  unfold rtF; rw [if_neg h, if_pos hg]
theorem rt_last (h1 : 1 ≤ m) (h : m = n) (hg : ¬ g.length = 0) : rt m n g false o = (lastW g, lastW g, decide (g.length = 1)) := by
  unfold rt
  obtain ⟨k, rfl⟩ : ∃ k, n = k + 1 := ⟨n - 1, by omega⟩
  unfold rtF; rw [if_neg (fun c => by cases c.2), if_neg hg, if_pos h]
theorem rt_left (h1 : 1 ≤ m) (h : m < n) (hg : ¬ g.length = 0) (hk : m ≤ half n) : rt m n g w o = ((rt m (half n) (g.take (g.length - 1)) w o).1, sm (both (rt m (half n) (g.take (g.length - 1)) w o).2.1 (lastW g)), (rt m (half n) (g.take (g.length - 1)) w o).2.2) := by
  have hh := half_lt (n := n) (by omega)
  unfold rt
  obtain ⟨k, rfl⟩ : ∃ k, n = k + 1 := ⟨n - 1, by omega⟩
  conv => lhs; unfold rtF
  rw [if_neg (fun c => by have := c.1; omega), if_neg hg, if_neg (by omega), if_pos hk, rtF_fuel k (half (k + 1)) m (half (k + 1)) _ w o (by omega) (Nat.le_refl _) h1 hk]
theorem rt_right (h1 : 1 ≤ m) (h : m < n) (hg : ¬ g.length = 0) (hk : ¬ m ≤ half n) : rt m n g w o = (sm (both (lastW g) (rt (m - half n) (n - half n) (g.take (g.length - 1)) false o).1), sm (both (lastW g) (rt (m - half n) (n - half n) (g.take (g.length - 1)) false o).2.1), (rt (m - half n) (n - half n) (g.take (g.length - 1)) false o).2.2) := by
  have hh := half_lt (n := n) (by omega)
  unfold rt
  obtain ⟨k, rfl⟩ : ∃ k, n = k + 1 := ⟨n - 1, by omega⟩
  conv => lhs; unfold rtF
  rw [if_neg (fun c => by have := c.1; omega), if_neg hg, if_neg (by omega), if_neg hk, rtF_fuel k (k + 1 - half (k + 1)) (m - half (k + 1)) (k + 1 - half (k + 1)) _ false o (by omega) (Nat.le_refl _) (by omega) (by omega)]
theorem p1 {α β γ : Type} (a : α) (b : β) (c : γ) : ((a, b, c) : α × β × γ).1 = a := rfl
theorem p2 {α β γ : Type} (a : α) (b : β) (c : γ) : ((a, b, c) : α × β × γ).2.1 = b := rfl
theorem p3 {α β γ : Type} (a : α) (b : β) (c : γ) : ((a, b, c) : α × β × γ).2.2 = c := rfl
theorem rt_l1 (h1 : 1 ≤ m) (h : m < n) (hg : ¬ g.length = 0) (hk : m ≤ half n) : (rt m n g w o).1 = (rt m (half n) (g.take (g.length - 1)) w o).1 :=
  (congrArg (fun z : UInt64 × UInt64 × Bool => z.1) (rt_left h1 h hg hk)).trans (p1 _ _ _)
theorem rt_l2 (h1 : 1 ≤ m) (h : m < n) (hg : ¬ g.length = 0) (hk : m ≤ half n) : (rt m n g w o).2.1 = sm (both (rt m (half n) (g.take (g.length - 1)) w o).2.1 (lastW g)) :=
  (congrArg (fun z : UInt64 × UInt64 × Bool => z.2.1) (rt_left h1 h hg hk)).trans (p2 _ _ _)
theorem rt_l3 (h1 : 1 ≤ m) (h : m < n) (hg : ¬ g.length = 0) (hk : m ≤ half n) : (rt m n g w o).2.2 = (rt m (half n) (g.take (g.length - 1)) w o).2.2 :=
  (congrArg (fun z : UInt64 × UInt64 × Bool => z.2.2) (rt_left h1 h hg hk)).trans (p3 _ _ _)
theorem rt_r1 (h1 : 1 ≤ m) (h : m < n) (hg : ¬ g.length = 0) (hk : ¬ m ≤ half n) : (rt m n g w o).1 = sm (both (lastW g) (rt (m - half n) (n - half n) (g.take (g.length - 1)) false o).1) :=
  (congrArg (fun z : UInt64 × UInt64 × Bool => z.1) (rt_right h1 h hg hk)).trans (p1 _ _ _)
theorem rt_r2 (h1 : 1 ≤ m) (h : m < n) (hg : ¬ g.length = 0) (hk : ¬ m ≤ half n) : (rt m n g w o).2.1 = sm (both (lastW g) (rt (m - half n) (n - half n) (g.take (g.length - 1)) false o).2.1) :=
  (congrArg (fun z : UInt64 × UInt64 × Bool => z.2.1) (rt_right h1 h hg hk)).trans (p2 _ _ _)
theorem rt_r3 (h1 : 1 ≤ m) (h : m < n) (hg : ¬ g.length = 0) (hk : ¬ m ≤ half n) : (rt m n g w o).2.2 = (rt (m - half n) (n - half n) (g.take (g.length - 1)) false o).2.2 :=
  (congrArg (fun z : UInt64 × UInt64 × Bool => z.2.2) (rt_right h1 h hg hk)).trans (p3 _ _ _)
def sdF : Nat → Nat → Nat → List Bool
  | 0, _, _ => []
  | f + 1, m, n => if n ≤ m then [] else decide ((m : Int) ≤ (half n : Int)) :: (if m ≤ half n then sdF f m (half n) else sdF f (m - half n) (n - half n))
def sd (m n : Nat) : List Bool := sdF n m n
theorem sdF_fuel : ∀ (f g m n : Nat), n ≤ f → n ≤ g → 1 ≤ m → sdF f m n = sdF g m n
  | 0, 0, _, _, _, _, _ => rfl
  | 0, g + 1, m, n, h, _, h1 => by unfold sdF; rw [if_pos (by omega)]
  | f + 1, 0, m, n, _, h, h1 => by unfold sdF; rw [if_pos (by omega)]
  | f + 1, g + 1, m, n, h1, h2, h3 => by
    unfold sdF
    by_cases h : n ≤ m
    · rw [if_pos h, if_pos h]
    · have hh := half_lt (n := n) (by omega)
      rw [if_neg h, if_neg h]
      by_cases hk : m ≤ half n
      · rw [if_pos hk, if_pos hk, sdF_fuel f g m (half n) (by omega) (by omega) h3]
      · rw [if_neg hk, if_neg hk, sdF_fuel f g (m - half n) (n - half n) (by omega) (by omega) (by omega)]
theorem sd_done (h : n ≤ m) : sd m n = [] := by
  unfold sd
  cases n with
  | zero => rfl
  | succ k => unfold sdF; rw [if_pos h]
theorem sd_left (h1 : 1 ≤ m) (h : m < n) (hk : m ≤ half n) : sd m n = true :: sd m (half n) := by
  have hh := half_lt (n := n) (by omega)
  unfold sd
  obtain ⟨k, rfl⟩ : ∃ k, n = k + 1 := ⟨n - 1, by omega⟩
  conv => lhs; unfold sdF
  rw [if_neg (by omega), if_pos hk, sdF_fuel k (half (k + 1)) m (half (k + 1)) (by omega) (Nat.le_refl _) h1, decide_eq_true (by omega)]
theorem sd_right (h1 : 1 ≤ m) (h : m < n) (hk : ¬ m ≤ half n) : sd m n = false :: sd (m - half n) (n - half n) := by
  have hh := half_lt (n := n) (by omega)
  unfold sd
  obtain ⟨k, rfl⟩ : ∃ k, n = k + 1 := ⟨n - 1, by omega⟩
  conv => lhs; unfold sdF
  rw [if_neg (by omega), if_neg hk, sdF_fuel k (k + 1 - half (k + 1)) (m - half (k + 1)) (k + 1 - half (k + 1)) (by omega) (Nat.le_refl _) (by omega), decide_eq_false (by omega)]
def dn1 (z : UInt64 × UInt64) (x : UInt64) (b : Bool) : UInt64 × UInt64 := if b then (z.1, sm (both z.2 x)) else (sm (both x z.1), sm (both x z.2))
def dn (z : UInt64 × UInt64) (p : List UInt64) (bs : List Bool) : UInt64 × UInt64 := (p.zip bs).foldl (fun z q => dn1 z q.1 q.2) z
def dnTo (z : UInt64 × UInt64) (p : List UInt64) (bs : List Bool) (k : Nat) : UInt64 × UInt64 := dn z (p.take k) (bs.reverse.take k)
theorem dn_snoc {z : UInt64 × UInt64} {p : List UInt64} {bs : List Bool} {x : UInt64} {b : Bool} (h : p.length = bs.length) : dn z (p ++ [x]) (bs ++ [b]) = dn1 (dn z p bs) x b := by
  unfold dn
  rw [List.zip_append h, List.foldl_append]; rfl
theorem dnTo_succ {z : UInt64 × UInt64} {p : List UInt64} {bs : List Bool} {k : Nat} (h : p.length = bs.length) (hk : k < p.length) : dnTo z p bs (k + 1) = dn1 (dnTo z p bs k) (nth p (k : Int)) (nth bs ((bs.length : Int) - 1 - (k : Int))) := by
  unfold dnTo
  have hr : k < bs.reverse.length := by rw [List.length_reverse]; omega
  rw [List.take_succ_eq_append_getElem hk, List.take_succ_eq_append_getElem hr, dn_snoc (by rw [List.length_take, List.length_take]; omega), nth_nat hk]
  have e : (bs.length : Int) - 1 - (k : Int) = ((bs.length - 1 - k : Nat) : Int) := by omega
  rw [e, nth_nat (by omega), List.getElem_reverse]
theorem dnTo_all {z : UInt64 × UInt64} {p : List UInt64} {bs : List Bool} {k : Nat} (h : p.length = bs.length) (hk : p.length ≤ k) : dnTo z p bs k = dn z p bs.reverse := by
  unfold dnTo
  rw [List.take_of_length_le hk, List.take_of_length_le (by rw [List.length_reverse]; omega)]
theorem dn1_tp {a b x : UInt64} : dn1 (a, b) x true = (a, sm (both b x)) := rfl
theorem dn1_fp {a b x : UInt64} : dn1 (a, b) x false = (sm (both x a), sm (both x b)) := rfl
theorem dn1_t {z : UInt64 × UInt64} {x : UInt64} {b : Bool} (h : b = true) : dn1 z x b = (z.1, sm (both z.2 x)) := by unfold dn1; rw [h]; rfl
theorem dn1_f {z : UInt64 × UInt64} {x : UInt64} {b : Bool} (h : ¬ b = true) : dn1 z x b = (sm (both x z.1), sm (both x z.2)) := by
  unfold dn1
  rw [Bool.eq_false_iff.2 h]; rfl
def bs0 (m n : Nat) (g : List UInt64) (w : Bool) (o : UInt64) : UInt64 := if (w && (sd m n).all id) = true then o else nth g 0
def rs0 (m n : Nat) (g : List UInt64) (w : Bool) : List UInt64 := if (w && (sd m n).all id) = true then g else g.drop 1
theorem last_snoc {g : List UInt64} (h : ¬ g.length = 0) : g = g.take (g.length - 1) ++ [lastW g] := by
  have hne : g ≠ [] := fun e => by subst e; exact h rfl
  have h1 := List.dropLast_concat_getLast hne
  have h2 : g.take (g.length - 1) = g.dropLast := List.dropLast_eq_take.symm
  have h3 : lastW g = g.getLast hne := by
    conv => lhs; rw [← h1]
    exact lastW_snoc
  rw [h2, h3]; exact h1.symm
theorem nth0_take {g : List UInt64} (h : 2 ≤ g.length) : nth (g.take (g.length - 1)) 0 = nth g 0 := by
  have e : (0 : Int) = ((0 : Nat) : Int) := rfl
  rw [e, nth_nat (by rw [List.length_take]; omega), nth_nat (by omega), List.getElem_take]
theorem rt_dn : ∀ (n m : Nat) (g : List UInt64) (w : Bool) (o : UInt64), 1 ≤ m → m ≤ n →
    ((rt m n g w o).2.2 = true ↔ (rs0 m n g w).length = (sd m n).length ∧ ((w && (sd m n).all id) = true ∨ 1 ≤ g.length)) ∧
    ((rt m n g w o).2.2 = true → ((rt m n g w o).1, (rt m n g w o).2.1) = dn (bs0 m n g w o, bs0 m n g w o) (rs0 m n g w) (sd m n).reverse) := by
  intro n
  induction n using Nat.strongRecOn with
  | _ n ih =>
    intro m g w o h1 h2
    by_cases hm : m = n
    · subst hm
      have hsd := sd_done (m := m) (n := m) (Nat.le_refl _)
      cases w with
      | true =>
        have e1 : bs0 m m g true o = o := by unfold bs0; rw [hsd]; rfl
        have e2 : rs0 m m g true = g := by unfold rs0; rw [hsd]; rfl
        rw [rt_all h1 rfl, e1, e2, hsd]
        refine ⟨by simp, fun h => ?_⟩
        have : g = [] := List.eq_nil_of_length_eq_zero (by simpa using h)
        subst this; rfl
      | false =>
        have e1 : bs0 m m g false o = nth g 0 := by unfold bs0; rfl
        have e2 : rs0 m m g false = g.drop 1 := by unfold rs0; rfl
        rw [e1, e2, hsd]
        by_cases hg : g.length = 0
        · rw [rt_none h1 (Nat.le_refl _) (fun c => by cases c.2) hg]
          refine ⟨⟨fun h => (by cases h), fun h => ?_⟩, fun h => (by cases h)⟩
          rcases h.2 with h | h
          · cases h
          · omega
        · rw [rt_last h1 rfl hg]
          refine ⟨⟨fun h => ⟨by have := of_decide_eq_true h; rw [List.length_drop, this]; rfl, .inr (by omega)⟩, fun h => decide_eq_true (by have := h.1; rw [List.length_drop] at this; simp at this; omega)⟩, fun h => ?_⟩
          have h3 := of_decide_eq_true h
          match g, h3 with
          | [x], _ => rfl
    · have hh := half_lt (n := n) (by omega)
      by_cases hk : m ≤ half n
      · have hsd := sd_left h1 (by omega) hk
        have hW : (w && (sd m n).all id) = (w && (sd m (half n)).all id) := by rw [hsd]; simp
        by_cases hg : g.length = 0
        · rw [rt_none h1 h2 (fun c => hm c.1) hg]
          refine ⟨⟨fun h => (by cases h), fun h => ?_⟩, fun h => (by cases h)⟩
          have h3 := h.1
          have : g = [] := List.eq_nil_of_length_eq_zero hg
          subst this
          have : (rs0 m n ([] : List UInt64) w).length = 0 := by unfold rs0; split <;> rfl
          rw [this, hsd] at h3
          simp at h3
        · obtain ⟨i1, i2⟩ := ih (half n) (by omega) m (g.take (g.length - 1)) w o h1 hk
          have hl : (g.take (g.length - 1)).length = g.length - 1 := by rw [List.length_take]; omega
          have hrl : (rs0 m n g w).length = (rs0 m (half n) (g.take (g.length - 1)) w).length + 1 ∨ (g.length = 1 ∧ ¬ (w && (sd m n).all id) = true) := by
            unfold rs0
            rw [hW]
            by_cases hw : (w && (sd m (half n)).all id) = true
            · rw [if_pos hw, if_pos hw, hl]; left; omega
            · rw [if_neg hw, if_neg hw, List.length_drop, List.length_drop, hl]
              by_cases h9 : g.length = 1
              · right; exact ⟨h9, hw⟩
              · left; omega
          rw [rt_l1 h1 (by omega) hg hk, rt_l2 h1 (by omega) hg hk, rt_l3 h1 (by omega) hg hk]
          have iff1 : (rt m (half n) (g.take (g.length - 1)) w o).2.2 = true ↔ (rs0 m n g w).length = (sd m n).length ∧ ((w && (sd m n).all id) = true ∨ 1 ≤ g.length) := by
            have hsl : (sd m n).length = (sd m (half n)).length + 1 := by rw [hsd]; rfl
            rw [i1, hsl, ← hW, hl]
            rcases hrl with hrl | ⟨h9, hw⟩
            · rw [hrl]
              constructor
              · rintro ⟨a, b⟩; exact ⟨by omega, b.imp id (fun _ => by omega)⟩
              · rintro ⟨a, b⟩
                refine ⟨by omega, ?_⟩
                by_cases hw : (w && (sd m n).all id) = true
                · exact .inl hw
                · right
                  have : (rs0 m n g w).length = g.length - 1 := by unfold rs0; rw [if_neg hw, List.length_drop]
                  omega
            · constructor
              · rintro ⟨a, b⟩
                rcases b with b | b
                · exact absurd b hw
                · omega
              · rintro ⟨a, b⟩
                have : (rs0 m n g w).length = g.length - 1 := by unfold rs0; rw [if_neg hw, List.length_drop]
                omega
          refine ⟨iff1, fun h => ?_⟩
          have h5 := i2 h
          have h6 := i1.1 h
          have e3 : rs0 m n g w = rs0 m (half n) (g.take (g.length - 1)) w ++ [lastW g] := by
            unfold rs0
            rw [hW]
            split
            · exact last_snoc hg
            · rename_i hw
              have h7 : 1 ≤ g.length - 1 := by
                rcases h6.2 with h8 | h8
                · exact absurd h8 hw
                · rw [hl] at h8; exact h8
              conv => lhs; rw [last_snoc hg]
              rw [List.drop_append_of_le_length (by rw [hl]; exact h7)]
          have e4 : bs0 m n g w o = bs0 m (half n) (g.take (g.length - 1)) w o := by
            unfold bs0
            rw [hW]
            split
            · rfl
            · rename_i hw
              have h7 : 1 ≤ g.length - 1 := by
                rcases h6.2 with h8 | h8
                · exact absurd h8 hw
                · rw [hl] at h8; exact h8
              exact (nth0_take (by omega)).symm
          rw [e3, e4, hsd, List.reverse_cons, dn_snoc (by rw [List.length_reverse]; exact h6.1), ← h5, dn1_tp]
      · have hsd := sd_right h1 (by omega) hk
        have hW : (w && (sd m n).all id) = false := by rw [hsd]; simp
        have eb : bs0 m n g w o = nth g 0 := by unfold bs0; rw [hW]; rfl
        have er : rs0 m n g w = g.drop 1 := by unfold rs0; rw [hW]; rfl
        have eb2 : ∀ q, bs0 (m - half n) (n - half n) q false o = nth q 0 := fun q => rfl
        have er2 : ∀ q, rs0 (m - half n) (n - half n) q false = q.drop 1 := fun q => rfl
        rw [hW, er, eb]
        by_cases hg : g.length = 0
        · rw [rt_none h1 h2 (fun c => hm c.1) hg]
          refine ⟨⟨fun h => (by cases h), fun h => ?_⟩, fun h => (by cases h)⟩
          rcases h.2 with h | h
          · cases h
          · omega
        · obtain ⟨i1, i2⟩ := ih (n - half n) (by omega) (m - half n) (g.take (g.length - 1)) false o (by omega) (by omega)
          have hl : (g.take (g.length - 1)).length = g.length - 1 := by rw [List.length_take]; omega
          rw [er2, eb2] at i2
          rw [er2, Bool.false_and] at i1
          rw [rt_r1 h1 (by omega) hg hk, rt_r2 h1 (by omega) hg hk, rt_r3 h1 (by omega) hg hk]
          have iff1 : (rt (m - half n) (n - half n) (g.take (g.length - 1)) false o).2.2 = true ↔ (g.drop 1).length = (sd m n).length ∧ (false = true ∨ 1 ≤ g.length) := by
            rw [i1, hsd, List.length_cons, List.length_drop, List.length_drop, hl]
            constructor
            · rintro ⟨a, b⟩
              rcases b with b | b
              · cases b
              · exact ⟨by omega, .inr (by omega)⟩
            · rintro ⟨a, b⟩
              exact ⟨by omega, .inr (by omega)⟩
          refine ⟨iff1, fun h => ?_⟩
          have h5 := i2 h
          have h6 := i1.1 h
          have h7 : 1 ≤ g.length - 1 := by
            rcases h6.2 with h8 | h8
            · cases h8
            · rw [hl] at h8; exact h8
          have e3 : g.drop 1 = (g.take (g.length - 1)).drop 1 ++ [lastW g] := by
            conv => lhs; rw [last_snoc hg]
            rw [List.drop_append_of_le_length (by rw [hl]; exact h7)]
          rw [e3, ← nth0_take (g := g) (by omega), hsd, List.reverse_cons, dn_snoc (by rw [List.length_reverse]; exact h6.1), ← h5, dn1_fp]
def cg (m n : Int) (g : List UInt64) (o r : UInt64) : Int := if 1 ≤ n ∧ n ≤ 24 then (if 1 ≤ m ∧ m ≤ n then (if (rt m.toNat n.toNat g true o).2.2 = true ∧ (rt m.toNat n.toNat g true o).1 = o ∧ (rt m.toNat n.toNat g true o).2.1 = r then 0 else 25) else 2) else 6
theorem cg1 {m n : Int} {r : UInt64} (h : ¬ (1 ≤ n ∧ n ≤ 24)) : cg m n g o r = 6 := by unfold cg; rw [if_neg h]
theorem cg2 {m n : Int} {r : UInt64} (h : 1 ≤ n ∧ n ≤ 24) (h2 : ¬ (1 ≤ m ∧ m ≤ n)) : cg m n g o r = 2 := by unfold cg; rw [if_pos h, if_neg h2]
theorem cg3 {m n : Int} {r : UInt64} (h : 1 ≤ n ∧ n ≤ 24) (h2 : 1 ≤ m ∧ m ≤ n) (h3 : ¬ ((rt m.toNat n.toNat g true o).2.2 = true ∧ (rt m.toNat n.toNat g true o).1 = o ∧ (rt m.toNat n.toNat g true o).2.1 = r)) : cg m n g o r = 25 := by unfold cg; rw [if_pos h, if_pos h2, if_neg h3]
theorem cg4 {m n : Int} {r : UInt64} (h : 1 ≤ n ∧ n ≤ 24) (h2 : 1 ≤ m ∧ m ≤ n) (h3 : (rt m.toNat n.toNat g true o).2.2 = true ∧ (rt m.toNat n.toNat g true o).1 = o ∧ (rt m.toNat n.toNat g true o).2.1 = r) : cg m n g o r = 0 := by unfold cg; rw [if_pos h, if_pos h2, if_pos h3]
def gn (m n : Nat) (g : List UInt64) (o : UInt64) : UInt64 × UInt64 × Bool := if (rs0 m n g true).length = (sd m n).length ∧ ((sd m n).all id = true ∨ 1 ≤ g.length) then ((dn (bs0 m n g true o, bs0 m n g true o) (rs0 m n g true) (sd m n).reverse).1, (dn (bs0 m n g true o, bs0 m n g true o) (rs0 m n g true) (sd m n).reverse).2, true) else (0, 0, false)
theorem gn_rt (h1 : 1 ≤ m) (h2 : m ≤ n) {r : UInt64} : ((gn m n g o).2.2 = true ∧ (gn m n g o).1 = o ∧ (gn m n g o).2.1 = r) ↔ ((rt m n g true o).2.2 = true ∧ (rt m n g true o).1 = o ∧ (rt m n g true o).2.1 = r) := by
  obtain ⟨i1, i2⟩ := rt_dn n m g true o h1 h2
  rw [Bool.true_and] at i1
  unfold gn
  by_cases h : (rt m n g true o).2.2 = true
  · have h5 := i2 h
    rw [if_pos (i1.1 h), ← h5]
    simp [h]
  · rw [if_neg (fun c => h (i1.2 c))]
    simp [h]
theorem gn_no (h : ¬ ((rs0 m n g true).length = (sd m n).length ∧ ((sd m n).all id = true ∨ 1 ≤ g.length))) : gn m n g o = (0, 0, false) := by unfold gn; rw [if_neg h]
theorem gn_yes (h : (rs0 m n g true).length = (sd m n).length ∧ ((sd m n).all id = true ∨ 1 ≤ g.length)) : gn m n g o = ((dn (bs0 m n g true o, bs0 m n g true o) (rs0 m n g true) (sd m n).reverse).1, (dn (bs0 m n g true o, bs0 m n g true o) (rs0 m n g true) (sd m n).reverse).2, true) := by unfold gn; rw [if_pos h]
theorem bs0_t (h : (sd m n).all id = true) : bs0 m n g true o = o := by unfold bs0; rw [Bool.true_and, if_pos h]
theorem bs0_f (h : ¬ (sd m n).all id = true) : bs0 m n g true o = nth g 0 := by unfold bs0; rw [Bool.true_and, if_neg h]
theorem rs0_t (h : (sd m n).all id = true) : rs0 m n g true = g := by unfold rs0; rw [Bool.true_and, if_pos h]
theorem rs0_f (h : ¬ (sd m n).all id = true) : rs0 m n g true = g.drop 1 := by unfold rs0; rw [Bool.true_and, if_neg h]
end Go.Fip.B
