/- Joined texts: Fx, Fy, Fz, Fu, Fv, Fw, Fr, Fq, Rk, Fg, Fh, Fi, Fj, Fk, Fm, Fo. -/
import Derived.Test.YtkhokmfjnjfojaaMA
import Derived.Laws.Entries
import Derived.WalkKit
import Derived.ProofKit
import Derived.OpenShut
import Derived.Carry
import Derived.Deep.SlicePairs
set_option linter.unusedVariables false
set_option linter.unusedSimpArgs false
set_option linter.unusedSectionVars false
set_option linter.unnecessarySimpa false
namespace Go.Fip
open Go.RowKit
section drawX
variable {r : Option Nat} {P : Program} {ops : Array Oper} {S : World → Prop} {X : List Nat}
/-- Whatever order is picked from here on; S holds behind every operation that is carried out, but for those of X. -/
def AnyX (r : Option Nat) (P : Program) (S : World → Prop) (X : List Nat) (ops : Array Oper) (K0 : Act → World → Prop) : Nat → Array Bool → Act → World → Prop
  | 0, listed, a, w => Region.ready .any ops listed = [] ∧ K0 a w
  | fuel + 1, listed, a, w => (Region.ready .any ops listed = [] → K0 a w) ∧
    ∀ i ∈ Region.ready .any ops listed, wpOpIn (Fr r) 0 P ops (only K0) i (fun a' w' => (X.contains i = false → S w') ∧ AnyX r P S X ops K0 fuel (listed.setIfInBounds i true) a' w') a w
theorem wpAny_of_AnyX {K0 : Act → World → Prop} : ∀ (fuel : Nat) (listed : Array Bool) (a : Act) (w : World), AnyX r P S X ops K0 fuel listed a w → wpAnyIn (Fr r) 0 P .any ops (only K0) fuel listed a w
  | 0, _, _, _, h => h
  | fuel + 1, _, _, _, h => ⟨h.1, fun i hi => wpOpIn_mono (fun a' w' h' => wpAny_of_AnyX fuel _ a' w' h'.2) (h.2 i hi)⟩
/-- j comes up behind i. -/
def behind (ops : Array Oper) : Nat → Nat → Nat → Bool
  | 0, _, _ => false
  | f + 1, i, j => match ops[j]? with
    | some o => o.after.any fun e => Region.binds .any e && (Nat.beq e.on i || behind ops f i e.on)
    | none => false
/-- What has come up has come up behind that behind which it comes. -/
def Closed (ops : Array Oper) (listed : Array Bool) : Prop := ∀ k ok, ops[k]? = some ok → listed.getD k false = true → ∀ e ∈ ok.after, Region.binds .any e = true → listed.getD e.on false = true
theorem behind_spec {listed : Array Bool} (hc : Closed ops listed) {i : Nat} (f : Nat) : ∀ j oj, behind ops f i j = true → ops[j]? = some oj → (∀ e ∈ oj.after, Region.binds .any e = true → listed.getD e.on false = true) → listed.getD i false = true := by
  induction f with
  | zero => intro j oj h; cases h
  | succ f ih =>
    intro j oj h hj ha
    unfold behind at h
    simp only [hj] at h
    obtain ⟨k, hk, h2⟩ := Array.any_eq_true.1 h
    rw [Bool.and_eq_true, Bool.or_eq_true] at h2
    have hl := ha _ (Array.getElem_mem hk) h2.1
    rcases h2.2 with h3 | h3
    · rw [← Nat.eq_of_beq_eq_true h3]; exact hl
    · cases ho : ops[(oj.after[k]).on]? with
      | some o => exact ih _ o h3 ho (hc _ o ho hl)
      | none =>
        cases f with
        | zero => cases h3
        | succ f => unfold behind at h3; simp only [ho] at h3; cases h3
theorem Closed.set {listed : Array Bool} (hc : Closed ops listed) {j : Nat} (hj : j ∈ Region.ready .any ops listed) : Closed ops (listed.setIfInBounds j true) := fun k ok hk hl e he hb => by
  obtain ⟨_, oj, hoj, hall⟩ := mem_ready.1 hj
  by_cases hjk : j = k
  · subst hjk
    rw [hk] at hoj
    cases hoj
    exact getD_set_true (hall e he hb)
  · rw [getD_set_ne false hjk] at hl
    exact getD_set_true (hc k ok hk hl e he hb)
theorem AnyX_first {K0 : Act → World → Prop} {i : Nat} {oi : Oper} {v : Value} (hi : ops[i]? = some oi) (hnd : noDefer ops = true)
    (hX : ∀ j, X.contains j = true → behind ops ops.size i j = true) :
    ∀ (fuel : Nat) (listed : Array Bool) (a : Act) (w : World), Closed ops listed →
      (∀ j oj, ops[j]? = some oj → j ≠ i → listed.getD j true = false → (∀ e ∈ oj.after, Region.binds .any e = true → e.on ≠ i) → oi.apart ops oj = true) →
      i ∈ Region.ready .any ops listed → YieldsS P ops S oi v a → S w →
      AnyX r P S X ops K0 fuel (listed.setIfInBounds i true) (a.put oi.dst v) w → AnyX r P S X ops K0 (fuel + 1) listed a w := by
  intro fuel
  induction fuel with
  | zero =>
    intro listed a w _ _ hr hy hS H
    refine ⟨fun h => (by rw [h] at hr; cases hr), fun j hj => ?_⟩
    by_cases hji : j = i
    · subst hji; exact hy.wpOp hi (noDefer_spec hnd hi).1 hS ⟨fun _ => hS, H⟩
    · have := ready_mono hj hji
      rw [H.1] at this
      cases this
  | succ fuel ih =>
    intro listed a w hc hfree hr hy hS H
    refine ⟨fun h => (by rw [h] at hr; cases hr), fun j hj => ?_⟩
    by_cases hji : j = i
    · subst hji; exact hy.wpOp hi (noDefer_spec hnd hi).1 hS ⟨fun _ => hS, H⟩
    · have h1 := H.2 j (ready_mono hj hji)
      obtain ⟨hjun, oj, hoj, hall⟩ := mem_ready.1 hj
      have hnot : ∀ e ∈ oj.after, Region.binds .any e = true → e.on ≠ i := fun e he hb heq => by
        have h1 := hall e he hb
        have h0 := (mem_ready.1 hr).1
        rw [heq] at h1
        rcases Nat.lt_or_ge i listed.size with h' | h'
        · simp [h'] at h0 h1; rw [h0] at h1; cases h1
        · simp [Array.getElem?_eq_none h'] at h1
      have hjX : X.contains j = false := by
        cases hcj : X.contains j with
        | false => rfl
        | true =>
          have h3 := behind_spec hc _ j oj (hX j hcj) hoj hall
          have h0 := (mem_ready.1 hr).1
          rcases Nat.lt_or_ge i listed.size with h' | h'
          · simp [h'] at h0 h3; rw [h0] at h3; cases h3
          · simp [Array.getElem?_eq_none h'] at h3
      have h2 := wpOp_putS hoj (hfree j oj hoj hji hjun hnot) hnd (noDefer_spec hnd hi).2 hy h1
      have hfree' : ∀ k ok, ops[k]? = some ok → k ≠ i → (listed.setIfInBounds j true).getD k true = false →
          (∀ e ∈ ok.after, Region.binds .any e = true → e.on ≠ i) → oi.apart ops ok = true := fun k ok hk hki hun hno => by
        refine hfree k ok hk hki ?_ hno
        by_cases hjk : j = k
        · subst hjk; exact hjun
        · rw [getD_set_ne true hjk] at hun; exact hun
      refine wpOpIn_mono (fun a' w' h3 => ⟨h3.2.1, ih (listed.setIfInBounds j true) a' w' (hc.set hj) hfree' (ready_mono hr (Ne.symm hji)) h3.1 (h3.2.1 hjX) ?_⟩) h2
      rw [Array.setIfInBounds_comm _ _ hji]
      exact h3.2.2
end drawX
section drawEX
variable {r : Option Nat} {P : Program} {N : Nat} {S : World → Prop} {X : List Nat} {ops : Array Oper} {ds : List Deferred} {env : Env} {w : World} {Q : Post} {listed : Array Bool} {fuel : Nat}
def AnyEX (r : Option Nat) (P : Program) (N : Nat) (S : World → Prop) (X : List Nat) (ops : Array Oper) (fuel : Nat) (listed : Array Bool) (ds : List Deferred) (env : Env) (w : World) (Q : Post) : Prop :=
  ∀ a, Fits N a ds env → AnyX r P S X ops (fun a w => lift N Q .normal a w) fuel listed a w
def takesOKX (X : List Nat) (ops : Array Oper) (fuel : Nat) (listed : Array Bool) : List Nat → Bool
  | [] => true
  | i :: is => match fuel with
    | 0 => false
    | fuel + 1 => Region.free .any ops listed i && (Region.ready .any ops listed).contains i && X.all (behind ops ops.size i) && takesOKX X ops fuel (listed.setIfInBounds i true) is
def closedB (ops : Array Oper) (listed : Array Bool) : Bool := (List.range ops.size).all fun k => !(listed.getD k false) || (match ops[k]? with
  | some o => o.after.all fun e => !(Region.binds .any e) || listed.getD e.on false
  | none => true)
theorem closedB_spec (h : closedB ops listed = true) : Closed ops listed := fun k ok hk hl e he hb => by
  have h1 := List.all_eq_true.1 h k (List.mem_range.2 (Array.getElem?_eq_some_iff.1 hk).1)
  rw [hk, hl] at h1
  simp only [Bool.not_true, Bool.false_or] at h1
  obtain ⟨q, hq, rfl⟩ := Array.getElem_of_mem he
  have h2 := Array.all_eq_true.1 h1 q hq
  rw [hb] at h2
  simpa using h2
theorem any_takesX' (is : List Nat) (hnd : noDefer ops = true) (hs : S w)
    : ∀ (fuel : Nat) (listed : Array Bool) (env : Env), Closed ops listed → takesOKX X ops fuel listed is = true →
      Qs P N S ops ds (fun env => AnyEX r P N S X ops (fuel - is.length) (setAll listed is) ds env w Q) is env → AnyEX r P N S X ops fuel listed ds env w Q := by
  induction is with
  | nil => intro fuel listed env _ _ h; exact h
  | cons i is ih =>
    intro fuel listed env hc hok h
    obtain ⟨o, d, v, ho, hd, hN, hy, h⟩ := h
    cases fuel with
    | zero => simp [takesOKX] at hok
    | succ fuel =>
      simp only [takesOKX, Bool.and_eq_true] at hok
      obtain ⟨⟨⟨hf, hr⟩, hx⟩, hok⟩ := hok
      intro a ha
      refine AnyX_first ho hnd (fun j hj => List.all_eq_true.1 hx j (by simpa using hj)) fuel listed a w hc (Region.free_spec ho hf) (by simpa using hr) (hy a ha) hs ?_
      have e : fuel + 1 - (i :: is).length = fuel - is.length := by simp
      rw [e] at h
      exact ih fuel _ _ (hc.set (by simpa using hr)) hok h _ (by rw [hd]; exact ha.put hN v)
theorem any_takesX (is : List Nat) (hnd : noDefer ops = true) (hs : S w)
    : ∀ (fuel : Nat) (listed : Array Bool) (env : Env), (closedB ops listed && takesOKX X ops fuel listed is) = true →
      Qs P N S ops ds (fun env => AnyEX r P N S X ops (fuel - is.length) (setAll listed is) ds env w Q) is env → AnyEX r P N S X ops fuel listed ds env w Q := by
  intro fuel listed env hok h
  rw [Bool.and_eq_true] at hok
  exact any_takesX' is hnd hs fuel listed env (closedB_spec hok.1) hok.2 h
theorem any_doneX (hr : Region.ready .any ops listed = []) (h : Q .normal ds env w) : AnyEX r P N S X ops fuel listed ds env w Q := fun a ha => by
  cases fuel with
  | zero => exact ⟨hr, ds, env, ha, h⟩
  | succ fuel => exact ⟨fun _ => ⟨ds, env, ha, h⟩, by rw [hr]; simp⟩
def stepPostX (r : Option Nat) (P : Program) (N : Nat) (S : World → Prop) (X : List Nat) (i : Nat) (ops : Array Oper) (fuel : Nat) (listed : Array Bool) (Q : Post) : Post
  | .normal, ds, env, w => (X.contains i = false → S w) ∧ AnyEX r P N S X ops fuel listed ds env w Q
  | _, _, _, _ => False
def AllRX (r : Option Nat) (P : Program) (N : Nat) (S : World → Prop) (X : List Nat) (ops : Array Oper) (fuel : Nat) (listed : Array Bool) (ds : List Deferred) (env : Env) (w : World) (Q : Post) : List Nat → Prop
  | [] => True
  | i :: is => (∃ o, ops[i]? = some o ∧ Ops r P N ops [o] ds env w (stepPostX r P N S X i ops fuel (listed.setIfInBounds i true) Q)) ∧ AllRX r P N S X ops fuel listed ds env w Q is
theorem AllRX.mem {is : List Nat} (h : AllRX r P N S X ops fuel listed ds env w Q is) {i : Nat} (hi : i ∈ is) : ∃ o, ops[i]? = some o ∧ Ops r P N ops [o] ds env w (stepPostX r P N S X i ops fuel (listed.setIfInBounds i true) Q) := by
  induction is with
  | nil => cases hi
  | cons j is ih =>
    rcases List.mem_cons.1 hi with rfl | hi
    · exact h.1
    · exact ih h.2 hi
theorem any_allX (rs : List Nat) (hr : Region.ready .any ops listed = rs) (hne : rs.isEmpty = false) (h : AllRX r P N S X ops fuel listed ds env w Q rs) : AnyEX r P N S X ops (fuel + 1) listed ds env w Q := by
  intro a ha
  refine ⟨fun h0 => (by rw [hr] at h0; subst h0; cases hne), fun i hi => ?_⟩
  rw [hr] at hi
  obtain ⟨o, ho, hop⟩ := h.mem hi
  have h1 := hop a ha
  unfold wpOpIn
  simp only [ho]
  simp only [wpListIn] at h1
  split
  · rename_i hw
    rw [if_pos hw] at h1
    refine ⟨h1.1, ?_⟩
    have h2 := h1.2
    generalize (o.semAt (Fr r).round a.eval).run P w = res at *
    have fin : ∀ a' w', lift N (stepPostX r P N S X i ops fuel (listed.setIfInBounds i true) Q) .normal a' w' →
        (X.contains i = false → S w') ∧ AnyX r P S X ops (fun a w => lift N Q .normal a w) fuel (listed.setIfInBounds i true) a' w' := fun a' w' ⟨ds', env', hf, hs, hA⟩ => ⟨hs, hA a' hf⟩
    cases res with
    | ok x w' =>
      cases x <;> simp only [Oper.uponIn] at h2 ⊢
      case value u => exact fin _ _ h2
      case skip => exact fin _ _ h2
      case defer d => exact fin _ _ h2
      case enter f args =>
        refine ⟨h2.1, CallsIn.mono h2.2 fun e w'' he => ?_⟩
        cases e with
        | returned u => exact fin _ _ he
        | panicked c => obtain ⟨_, _, _, hx⟩ := he; exact hx.elim
        | outgrown => obtain ⟨_, _, _, _, _, hx⟩ := he; exact hx.elim
      case row row args => exact ⟨h2.1, RowsIn.mono h2.2 fun u w'' he => fin _ _ he⟩
      case round l f tmps assign body =>
        refine ⟨h2.1, RoundIn.mono h2.2 fun e w'' he => ?_⟩
        cases e with
        | returned u => exact fin _ _ he
        | panicked c => obtain ⟨_, _, _, hx⟩ := he; exact hx.elim
        | outgrown => obtain ⟨_, _, _, _, _, hx⟩ := he; exact hx.elim
    | halt x w' =>
      cases x <;> simp only [Oper.uponIn] at h2 ⊢
      case panic u => obtain ⟨_, _, _, hx⟩ := h2; exact hx.elim
  · rename_i hw
    rw [if_neg hw] at h1
    obtain ⟨ds', env', hf, hs, hA⟩ := h1.2
    exact ⟨h1.1, hs, hA _ hf⟩
theorem region_drawX {id : Nat} {l : List Oper} (S : World → Prop) (X : List Nat) (hm : P.follows .mixedOrders = true)
    (h : ∀ w1, Redrawn w w1 → AnyEX r P N S X l.toArray l.length (Array.replicate l.length false) ds env w1 Q) : Holds r P N (.region id l.toArray true) ds env w Q := by
  intro a ha
  refine Go.wpIn_mono (Q := only fun a w => lift N Q .normal a w) ?_ ?_
  · refine wpIn_region_any hm (wpAny_of_AnyX (S := S) (X := X) _ _ _ _ ?_)
    have := h { w with drawn := w.drawn + 1 } ⟨rfl, rfl, rfl, rfl⟩ a ha
    simpa using this
  · intro e a' w' hq
    cases e with
    | normal => exact hq
    | _ => exact hq.elim
end drawEX
end Go.Fip

set_option linter.unusedVariables false
set_option linter.unusedSimpArgs false
set_option linter.unusedSectionVars false
set_option linter.unnecessarySimpa false
namespace Go.Fip
open Go.RowKit
section drawY
variable {r : Option Nat} {P : Program} {ops : Array Oper} {S : World → Prop} {X : List Nat}
/-- Whatever order is picked from here on; S holds behindY every operation that is carried out, but for those of X. -/
def AnyY (r : Option Nat) (P : Program) (S : World → Prop) (X : List Nat) (ops : Array Oper) (K0 : Act → World → Prop) : Nat → Array Bool → Act → World → Prop
  | 0, listed, a, w => Region.ready .any ops listed = [] ∧ K0 a w
  | fuel + 1, listed, a, w => (Region.ready .any ops listed = [] → K0 a w) ∧
    ∀ i ∈ Region.ready .any ops listed, wpOpIn (Fr r) 0 P ops (only K0) i (fun a' w' => (X.contains i = false → S w → S w') ∧ AnyY r P S X ops K0 fuel (listed.setIfInBounds i true) a' w') a w
theorem wpAnyY_of {K0 : Act → World → Prop} : ∀ (fuel : Nat) (listed : Array Bool) (a : Act) (w : World), AnyY r P S X ops K0 fuel listed a w → wpAnyIn (Fr r) 0 P .any ops (only K0) fuel listed a w
  | 0, _, _, _, h => h
  | fuel + 1, _, _, _, h => ⟨h.1, fun i hi => wpOpIn_mono (fun a' w' h' => wpAnyY_of fuel _ a' w' h'.2) (h.2 i hi)⟩
/-- j comes up behindY i. -/
def behindY (ops : Array Oper) : Nat → Nat → Nat → Bool
  | 0, _, _ => false
  | f + 1, i, j => match ops[j]? with
    | some o => o.after.any fun e => Region.binds .any e && (Nat.beq e.on i || behindY ops f i e.on)
    | none => false
/-- What has come up has come up behindY that behindY which it comes. -/
def ClosedY (ops : Array Oper) (listed : Array Bool) : Prop := ∀ k ok, ops[k]? = some ok → listed.getD k false = true → ∀ e ∈ ok.after, Region.binds .any e = true → listed.getD e.on false = true
theorem behindY_spec {listed : Array Bool} (hc : ClosedY ops listed) {i : Nat} (f : Nat) : ∀ j oj, behindY ops f i j = true → ops[j]? = some oj → (∀ e ∈ oj.after, Region.binds .any e = true → listed.getD e.on false = true) → listed.getD i false = true := by
  induction f with
  | zero => intro j oj h; cases h
  | succ f ih =>
    intro j oj h hj ha
    unfold behindY at h
    simp only [hj] at h
    obtain ⟨k, hk, h2⟩ := Array.any_eq_true.1 h
    rw [Bool.and_eq_true, Bool.or_eq_true] at h2
    have hl := ha _ (Array.getElem_mem hk) h2.1
    rcases h2.2 with h3 | h3
    · rw [← Nat.eq_of_beq_eq_true h3]; exact hl
    · cases ho : ops[(oj.after[k]).on]? with
      | some o => exact ih _ o h3 ho (hc _ o ho hl)
      | none =>
        cases f with
        | zero => cases h3
        | succ f => unfold behindY at h3; simp only [ho] at h3; cases h3
theorem ClosedY.set {listed : Array Bool} (hc : ClosedY ops listed) {j : Nat} (hj : j ∈ Region.ready .any ops listed) : ClosedY ops (listed.setIfInBounds j true) := fun k ok hk hl e he hb => by
  obtain ⟨_, oj, hoj, hall⟩ := mem_ready.1 hj
  by_cases hjk : j = k
  · subst hjk
    rw [hk] at hoj
    cases hoj
    exact getD_set_true (hall e he hb)
  · rw [getD_set_ne false hjk] at hl
    exact getD_set_true (hc k ok hk hl e he hb)
theorem AnyY_first {K0 : Act → World → Prop} {i : Nat} {oi : Oper} {v : Value} (hi : ops[i]? = some oi) (hnd : noDefer ops = true)
    (hX : ∀ j, X.contains j = true → behindY ops ops.size i j = true) :
    ∀ (fuel : Nat) (listed : Array Bool) (a : Act) (w : World), ClosedY ops listed →
      (∀ j oj, ops[j]? = some oj → j ≠ i → listed.getD j true = false → (∀ e ∈ oj.after, Region.binds .any e = true → e.on ≠ i) → oi.apart ops oj = true) →
      i ∈ Region.ready .any ops listed → YieldsS P ops S oi v a → S w →
      AnyY r P S X ops K0 fuel (listed.setIfInBounds i true) (a.put oi.dst v) w → AnyY r P S X ops K0 (fuel + 1) listed a w := by
  intro fuel
  induction fuel with
  | zero =>
    intro listed a w _ _ hr hy hS H
    refine ⟨fun h => (by rw [h] at hr; cases hr), fun j hj => ?_⟩
    by_cases hji : j = i
    · subst hji; exact hy.wpOp hi (noDefer_spec hnd hi).1 hS ⟨fun _ _ => hS, H⟩
    · have := ready_mono hj hji
      rw [H.1] at this
      cases this
  | succ fuel ih =>
    intro listed a w hc hfree hr hy hS H
    refine ⟨fun h => (by rw [h] at hr; cases hr), fun j hj => ?_⟩
    by_cases hji : j = i
    · subst hji; exact hy.wpOp hi (noDefer_spec hnd hi).1 hS ⟨fun _ _ => hS, H⟩
    · have h1 := H.2 j (ready_mono hj hji)
      obtain ⟨hjun, oj, hoj, hall⟩ := mem_ready.1 hj
      have hnot : ∀ e ∈ oj.after, Region.binds .any e = true → e.on ≠ i := fun e he hb heq => by
        have h1 := hall e he hb
        have h0 := (mem_ready.1 hr).1
        rw [heq] at h1
        rcases Nat.lt_or_ge i listed.size with h' | h'
        · simp [h'] at h0 h1; rw [h0] at h1; cases h1
        · simp [Array.getElem?_eq_none h'] at h1
      have hjX : X.contains j = false := by
        cases hcj : X.contains j with
        | false => rfl
        | true =>
          have h3 := behindY_spec hc _ j oj (hX j hcj) hoj hall
          have h0 := (mem_ready.1 hr).1
          rcases Nat.lt_or_ge i listed.size with h' | h'
          · simp [h'] at h0 h3; rw [h0] at h3; cases h3
          · simp [Array.getElem?_eq_none h'] at h3
      have h2 := wpOp_putS hoj (hfree j oj hoj hji hjun hnot) hnd (noDefer_spec hnd hi).2 hy h1
      have hfree' : ∀ k ok, ops[k]? = some ok → k ≠ i → (listed.setIfInBounds j true).getD k true = false →
          (∀ e ∈ ok.after, Region.binds .any e = true → e.on ≠ i) → oi.apart ops ok = true := fun k ok hk hki hun hno => by
        refine hfree k ok hk hki ?_ hno
        by_cases hjk : j = k
        · subst hjk; exact hjun
        · rw [getD_set_ne true hjk] at hun; exact hun
      refine wpOpIn_mono (fun a' w' h3 => ⟨h3.2.1, ih (listed.setIfInBounds j true) a' w' (hc.set hj) hfree' (ready_mono hr (Ne.symm hji)) h3.1 (h3.2.1 hjX hS) ?_⟩) h2
      rw [Array.setIfInBounds_comm _ _ hji]
      exact h3.2.2
/-- .. of an operation that yields the same in every world. -/
theorem AnyY_firstT {K0 : Act → World → Prop} {i : Nat} {oi : Oper} {v : Value} (hi : ops[i]? = some oi) (hnd : noDefer ops = true) :
    ∀ (fuel : Nat) (listed : Array Bool) (a : Act) (w : World),
      (∀ j oj, ops[j]? = some oj → j ≠ i → listed.getD j true = false → (∀ e ∈ oj.after, Region.binds .any e = true → e.on ≠ i) → oi.apart ops oj = true) →
      i ∈ Region.ready .any ops listed → YieldsS P ops (fun _ => True) oi v a →
      AnyY r P S X ops K0 fuel (listed.setIfInBounds i true) (a.put oi.dst v) w → AnyY r P S X ops K0 (fuel + 1) listed a w := by
  intro fuel
  induction fuel with
  | zero =>
    intro listed a w _ hr hy H
    refine ⟨fun h => (by rw [h] at hr; cases hr), fun j hj => ?_⟩
    by_cases hji : j = i
    · subst hji; exact hy.wpOp hi (noDefer_spec hnd hi).1 trivial ⟨fun _ h => h, H⟩
    · have := ready_mono hj hji
      rw [H.1] at this
      cases this
  | succ fuel ih =>
    intro listed a w hfree hr hy H
    refine ⟨fun h => (by rw [h] at hr; cases hr), fun j hj => ?_⟩
    by_cases hji : j = i
    · subst hji; exact hy.wpOp hi (noDefer_spec hnd hi).1 trivial ⟨fun _ h => h, H⟩
    · have h1 := H.2 j (ready_mono hj hji)
      obtain ⟨hjun, oj, hoj, hall⟩ := mem_ready.1 hj
      have hnot : ∀ e ∈ oj.after, Region.binds .any e = true → e.on ≠ i := fun e he hb heq => by
        have h1 := hall e he hb
        have h0 := (mem_ready.1 hr).1
        rw [heq] at h1
        rcases Nat.lt_or_ge i listed.size with h' | h'
        · simp [h'] at h0 h1; rw [h0] at h1; cases h1
        · simp [Array.getElem?_eq_none h'] at h1
      have h2 := wpOp_putS hoj (hfree j oj hoj hji hjun hnot) hnd (noDefer_spec hnd hi).2 hy h1
      have hfree' : ∀ k ok, ops[k]? = some ok → k ≠ i → (listed.setIfInBounds j true).getD k true = false →
          (∀ e ∈ ok.after, Region.binds .any e = true → e.on ≠ i) → oi.apart ops ok = true := fun k ok hk hki hun hno => by
        refine hfree k ok hk hki ?_ hno
        by_cases hjk : j = k
        · subst hjk; exact hjun
        · rw [getD_set_ne true hjk] at hun; exact hun
      refine wpOpIn_mono (fun a' w' h3 => ⟨h3.2.1, ih (listed.setIfInBounds j true) a' w' hfree' (ready_mono hr (Ne.symm hji)) h3.1 ?_⟩) h2
      rw [Array.setIfInBounds_comm _ _ hji]
      exact h3.2.2
end drawY
section drawEY
variable {r : Option Nat} {P : Program} {N : Nat} {S : World → Prop} {X : List Nat} {ops : Array Oper} {ds : List Deferred} {env : Env} {w : World} {Q : Post} {listed : Array Bool} {fuel : Nat}
def AnyEY (r : Option Nat) (P : Program) (N : Nat) (S : World → Prop) (X : List Nat) (ops : Array Oper) (fuel : Nat) (listed : Array Bool) (ds : List Deferred) (env : Env) (w : World) (Q : Post) : Prop :=
  ∀ a, Fits N a ds env → AnyY r P S X ops (fun a w => lift N Q .normal a w) fuel listed a w
def takesOKY (X : List Nat) (ops : Array Oper) (fuel : Nat) (listed : Array Bool) : List Nat → Bool
  | [] => true
  | i :: is => match fuel with
    | 0 => false
    | fuel + 1 => Region.free .any ops listed i && (Region.ready .any ops listed).contains i && X.all (behindY ops ops.size i) && takesOKY X ops fuel (listed.setIfInBounds i true) is
def closedYB (ops : Array Oper) (listed : Array Bool) : Bool := (List.range ops.size).all fun k => !(listed.getD k false) || (match ops[k]? with
  | some o => o.after.all fun e => !(Region.binds .any e) || listed.getD e.on false
  | none => true)
theorem closedYB_spec (h : closedYB ops listed = true) : ClosedY ops listed := fun k ok hk hl e he hb => by
  have h1 := List.all_eq_true.1 h k (List.mem_range.2 (Array.getElem?_eq_some_iff.1 hk).1)
  rw [hk, hl] at h1
  simp only [Bool.not_true, Bool.false_or] at h1
  obtain ⟨q, hq, rfl⟩ := Array.getElem_of_mem he
  have h2 := Array.all_eq_true.1 h1 q hq
  rw [hb] at h2
  simpa using h2
theorem any_takesY' (is : List Nat) (hnd : noDefer ops = true) (hs : S w)
    : ∀ (fuel : Nat) (listed : Array Bool) (env : Env), ClosedY ops listed → takesOKY X ops fuel listed is = true →
      Qs P N S ops ds (fun env => AnyEY r P N S X ops (fuel - is.length) (setAll listed is) ds env w Q) is env → AnyEY r P N S X ops fuel listed ds env w Q := by
  induction is with
  | nil => intro fuel listed env _ _ h; exact h
  | cons i is ih =>
    intro fuel listed env hc hok h
    obtain ⟨o, d, v, ho, hd, hN, hy, h⟩ := h
    cases fuel with
    | zero => simp [takesOKY] at hok
    | succ fuel =>
      simp only [takesOKY, Bool.and_eq_true] at hok
      obtain ⟨⟨⟨hf, hr⟩, hx⟩, hok⟩ := hok
      intro a ha
      refine AnyY_first ho hnd (fun j hj => List.all_eq_true.1 hx j (by simpa using hj)) fuel listed a w hc (Region.free_spec ho hf) (by simpa using hr) (hy a ha) hs ?_
      have e : fuel + 1 - (i :: is).length = fuel - is.length := by simp
      rw [e] at h
      exact ih fuel _ _ (hc.set (by simpa using hr)) hok h _ (by rw [hd]; exact ha.put hN v)
theorem any_takesY (is : List Nat) (hnd : noDefer ops = true) (hs : S w)
    : ∀ (fuel : Nat) (listed : Array Bool) (env : Env), (closedYB ops listed && takesOKY X ops fuel listed is) = true →
      Qs P N S ops ds (fun env => AnyEY r P N S X ops (fuel - is.length) (setAll listed is) ds env w Q) is env → AnyEY r P N S X ops fuel listed ds env w Q := by
  intro fuel listed env hok h
  rw [Bool.and_eq_true] at hok
  exact any_takesY' is hnd hs fuel listed env (closedYB_spec hok.1) hok.2 h
theorem any_takesT (is : List Nat) (hnd : noDefer ops = true)
    : ∀ (fuel : Nat) (listed : Array Bool) (env : Env), takesOK ops fuel listed is = true →
      Qs P N (fun _ => True) ops ds (fun env => AnyEY r P N S X ops (fuel - is.length) (setAll listed is) ds env w Q) is env → AnyEY r P N S X ops fuel listed ds env w Q := by
  induction is with
  | nil => intro fuel listed env _ h; exact h
  | cons i is ih =>
    intro fuel listed env hok h
    obtain ⟨o, d, v, ho, hd, hN, hy, h⟩ := h
    cases fuel with
    | zero => simp [takesOK] at hok
    | succ fuel =>
      simp only [takesOK, Bool.and_eq_true] at hok
      obtain ⟨⟨hf, hr⟩, hok⟩ := hok
      intro a ha
      refine AnyY_firstT ho hnd fuel listed a w (Region.free_spec ho hf) (by simpa using hr) (hy a ha) ?_
      have e : fuel + 1 - (i :: is).length = fuel - is.length := by simp
      rw [e] at h
      exact ih fuel _ _ hok h _ (by rw [hd]; exact ha.put hN v)
theorem any_doneY (hr : Region.ready .any ops listed = []) (h : Q .normal ds env w) : AnyEY r P N S X ops fuel listed ds env w Q := fun a ha => by
  cases fuel with
  | zero => exact ⟨hr, ds, env, ha, h⟩
  | succ fuel => exact ⟨fun _ => ⟨ds, env, ha, h⟩, by rw [hr]; simp⟩
def stepPostY (r : Option Nat) (P : Program) (N : Nat) (S : World → Prop) (X : List Nat) (w0 : World) (i : Nat) (ops : Array Oper) (fuel : Nat) (listed : Array Bool) (Q : Post) : Post
  | .normal, ds, env, w => (X.contains i = false → S w0 → S w) ∧ AnyEY r P N S X ops fuel listed ds env w Q
  | _, _, _, _ => False
def AllRY (r : Option Nat) (P : Program) (N : Nat) (S : World → Prop) (X : List Nat) (ops : Array Oper) (fuel : Nat) (listed : Array Bool) (ds : List Deferred) (env : Env) (w : World) (Q : Post) : List Nat → Prop
  | [] => True
  | i :: is => (∃ o, ops[i]? = some o ∧ Ops r P N ops [o] ds env w (stepPostY r P N S X w i ops fuel (listed.setIfInBounds i true) Q)) ∧ AllRY r P N S X ops fuel listed ds env w Q is
theorem AllRY.mem {is : List Nat} (h : AllRY r P N S X ops fuel listed ds env w Q is) {i : Nat} (hi : i ∈ is) : ∃ o, ops[i]? = some o ∧ Ops r P N ops [o] ds env w (stepPostY r P N S X w i ops fuel (listed.setIfInBounds i true) Q) := by
  induction is with
  | nil => cases hi
  | cons j is ih =>
    rcases List.mem_cons.1 hi with rfl | hi
    · exact h.1
    · exact ih h.2 hi
theorem any_allY (rs : List Nat) (hr : Region.ready .any ops listed = rs) (hne : rs.isEmpty = false) (h : AllRY r P N S X ops fuel listed ds env w Q rs) : AnyEY r P N S X ops (fuel + 1) listed ds env w Q := by
  intro a ha
  refine ⟨fun h0 => (by rw [hr] at h0; subst h0; cases hne), fun i hi => ?_⟩
  rw [hr] at hi
  obtain ⟨o, ho, hop⟩ := h.mem hi
  have h1 := hop a ha
  unfold wpOpIn
  simp only [ho]
  simp only [wpListIn] at h1
  split
  · rename_i hw
    rw [if_pos hw] at h1
    refine ⟨h1.1, ?_⟩
    have h2 := h1.2
    generalize (o.semAt (Fr r).round a.eval).run P w = res at *
    have fin : ∀ a' w', lift N (stepPostY r P N S X w i ops fuel (listed.setIfInBounds i true) Q) .normal a' w' →
        (X.contains i = false → S w → S w') ∧ AnyY r P S X ops (fun a w => lift N Q .normal a w) fuel (listed.setIfInBounds i true) a' w' := fun a' w' ⟨ds', env', hf, hs, hA⟩ => ⟨hs, hA a' hf⟩
    cases res with
    | ok x w' =>
      cases x <;> simp only [Oper.uponIn] at h2 ⊢
      case value u => exact fin _ _ h2
      case skip => exact fin _ _ h2
      case defer d => exact fin _ _ h2
      case enter f args =>
        refine ⟨h2.1, CallsIn.mono h2.2 fun e w'' he => ?_⟩
        cases e with
        | returned u => exact fin _ _ he
        | panicked c => obtain ⟨_, _, _, hx⟩ := he; exact hx.elim
        | outgrown => obtain ⟨_, _, _, _, _, hx⟩ := he; exact hx.elim
      case row row args => exact ⟨h2.1, RowsIn.mono h2.2 fun u w'' he => fin _ _ he⟩
      case round l f tmps assign body =>
        refine ⟨h2.1, RoundIn.mono h2.2 fun e w'' he => ?_⟩
        cases e with
        | returned u => exact fin _ _ he
        | panicked c => obtain ⟨_, _, _, hx⟩ := he; exact hx.elim
        | outgrown => obtain ⟨_, _, _, _, _, hx⟩ := he; exact hx.elim
    | halt x w' =>
      cases x <;> simp only [Oper.uponIn] at h2 ⊢
      case panic u => obtain ⟨_, _, _, hx⟩ := h2; exact hx.elim
  · rename_i hw
    rw [if_neg hw] at h1
    obtain ⟨ds', env', hf, hs, hA⟩ := h1.2
    exact ⟨h1.1, hs, hA _ hf⟩
theorem region_drawY {id : Nat} {l : List Oper} (S : World → Prop) (X : List Nat) (hm : P.follows .mixedOrders = true)
    (h : ∀ w1, Redrawn w w1 → AnyEY r P N S X l.toArray l.length (Array.replicate l.length false) ds env w1 Q) : Holds r P N (.region id l.toArray true) ds env w Q := by
  intro a ha
  refine Go.wpIn_mono (Q := only fun a w => lift N Q .normal a w) ?_ ?_
  · refine wpIn_region_any hm (wpAnyY_of (S := S) (X := X) _ _ _ _ ?_)
    have := h { w with drawn := w.drawn + 1 } ⟨rfl, rfl, rfl, rfl⟩ a ha
    simpa using this
  · intro e a' w' hq
    cases e with
    | normal => exact hq
    | _ => exact hq.elim
end drawEY
end Go.Fip

set_option linter.unusedVariables false
set_option linter.unusedSimpArgs false
set_option linter.unusedSectionVars false
set_option linter.unnecessarySimpa false
namespace Go.Fip
open Go.RowKit
/-- A slice of a row of its own, by its block, its length and its capacity. -/
def sv (s : Nat × Nat × Nat) : Value := .slice (some ⟨s.1, 0, none⟩) s.2.1 s.2.2
def encS (s : Nat × Nat × Nat) : List Value := [sv s]
theorem Ow.sv {α : Type} {lo hi E sz : Nat} {enc : α → List Value} {v : Value} {xs : List α} {w : World} (h : Ow lo hi E sz enc v xs w) (hx : 1 ≤ xs.length) : ∃ s, v = sv s := by
  rcases h.1.2 with ⟨_, h3⟩ | ⟨g, cap, cur, rfl, _⟩
  · omega
  · exact ⟨(g, xs.length, cap), rfl⟩
theorem Heap.sv {α : Type} {lo hi E sz n : Nat} {enc : α → List Value} {v : Value} {xs : List α} {H : List Item} {w : World} (hH : Heap H w) (hn : H[n]? = some (ow lo hi E sz enc v xs)) (hx : 1 ≤ xs.length) : ∃ s, v = Fip.sv s :=
  Ow.sv (show Ow _ _ _ _ _ _ _ _ from hH.get hn) hx
theorem Heap.unbase {H : List Item} {w0 wb w : World} (hH : Heap (base wb :: H) w) (hb : Below w0.heap.size w0 wb) : Heap (base w0 :: H) w := by
  have hbw : Below wb.heap.size wb w := hH.get (n := 0) rfl
  refine ⟨fun i hi => ?_, ?_⟩
  · rcases List.mem_cons.1 hi with rfl | hi
    · refine ⟨Nat.zero_le _, Nat.le_trans hb.size hbw.size, fun w' ha => ?_⟩
      exact (hb.trans (hbw.mono hb.size)).trans ha.below
    · exact hH.ok i (List.mem_cons_of_mem _ hi)
  · have hp := hH.apart
    rw [List.pairwise_cons] at hp ⊢
    refine ⟨fun j hj => ?_, hp.2⟩
    rcases hp.1 j hj with h | h
    · exact .inl (Nat.le_trans hb.size h)
    · exact .inr h
section yv3
variable {P : Program} {N : Nat} {ds : List Deferred} {env : Env} {S : World → Prop} {x y : Operand}
theorem yv_shl1 {T T' : TypeId} {n : Int} {m : Int} (hx : ev env x = some (.int .i64 1)) (hy : ev env y = some (.int .i64 n)) (h0 : 0 ≤ n ∧ n ≤ 60) (hm : IntKind.i64.wrap (1 * 2 ^ n.toNat) = m) : Yv P N ds env (.binOp .shl T x y T') (.int .i64 m) S := fun act hact w _ _ _ _ _ _ => by
  have e := shift_shl .i64 .i64 1 n h0.1 (show n ≤ IntKind.i64.bits by show n ≤ 64; omega)
  simp only [execOp, hact.ev hx, hact.ev hy, eqGuard, binOp, Sem.run_bind]
  rw [e, hm]
  rfl
theorem yv_shr {T T' : TypeId} {n m : Int} (hx : ev env x = some (.int .i64 m)) (hy : ev env y = some (.int .i64 n)) (h0 : 0 ≤ n ∧ n ≤ 60) : Yv P N ds env (.binOp .shr T x y T') (.int .i64 (m / 2 ^ n.toNat)) S := fun act hact w _ _ _ _ _ _ => by
  have e := shift_shr .i64 .i64 m n h0.1 (show n ≤ IntKind.i64.bits by show n ≤ 64; omega)
  simp only [execOp, hact.ev hx, hact.ev hy, eqGuard, binOp, Sem.run_bind]
  rw [e]
  rfl
theorem and_one (m : Int) (h0 : 0 ≤ m) (h1 : m ≤ 1000000) : IntKind.i64.wrap ((BitVec.ofInt 64 m &&& BitVec.ofInt 64 1).toNat : Int) = m % 2 := by
  obtain ⟨n, rfl⟩ := Int.eq_ofNat_of_zero_le h0
  have e1 : (BitVec.ofInt 64 (n : Int)).toNat = n := by
    rw [BitVec.toNat_ofInt]; omega
  have e2 : (BitVec.ofInt 64 1).toNat = 1 := rfl
  rw [BitVec.toNat_and, e1, e2, Nat.and_one_is_mod]
  rw [wrap_i64 (by omega)]
  omega
theorem yv_and1 {T T' : TypeId} {m : Int} (hx : ev env x = some (.int .i64 m)) (hy : ev env y = some (.int .i64 1)) (h0 : 0 ≤ m) (h1 : m ≤ 1000000) : Yv P N ds env (.binOp .and T x y T') (.int .i64 (m % 2)) S := fun act hact w _ _ _ _ _ _ => by
  have h2 := and_one m h0 h1
  simp only [execOp, hact.ev hx, hact.ev hy, eqGuard, binOp, Op.intBits, Sem.run_bind]
  have e : IntKind.i64.bits = 64 := rfl
  simp [Result.andThen]
  exact h2
end yv3
end Go.Fip

set_option linter.unusedVariables false
set_option linter.unusedSimpArgs false
namespace Go.Fip
open Go.RowKit
theorem yv_all {P : Program} {N : Nat} {ds : List Deferred} {env : Env} {S : World → Prop} {x : Operand} {T n E sz b : Nat} (hT : TArr P T n E sz) (hx : ev env x = some (.pointer (some ⟨b, 0, none⟩))) : Yv P N ds env (.slice T x none none none) (.slice (some ⟨b, 0, none⟩) n n) S := fun a ha w _ _ _ _ _ _ => by
  have e : (⟨b, 0, none⟩ : Addr).add 0 = ⟨b, 0, none⟩ := by unfold Addr.add; split <;> rfl
  simp [execOp, ha.ev hx, Instr.sliceAt, run_underlying hT.1, Instr.sliceBounds, run_size hT.2, Result.andThen, Instr.sureAddr, asAddr, e]
theorem Bx.rdI {b t : Nat} {xs : List Int} {w : World} (h : Bx b t (xs.map (Value.int .i64)) w) : Rd encI 1 (.slice (some ⟨b, 0, none⟩) xs.length xs.length) xs w := by
  refine ⟨⟨_, _, rfl, Nat.le_refl _, .inr ⟨_, _, rfl⟩⟩, fun i x hi j u hj => ?_⟩
  match j, hj with
  | 0, hj =>
    simp [encI] at hj
    subst hj
    have hlt := (List.getElem?_eq_some_iff.1 hi).1
    simp only [eb, eo, Nat.mul_one, Nat.add_zero, Nat.zero_add]
    exact bx_cell h (by rw [List.getElem?_map, hi]; rfl)
  | j + 1, hj => simp [encI] at hj
theorem has_t {α : Type} [Inhabited α] {p : α → Bool} {l : List α} {k : Nat} (hk : k < l.length) (hp : p (nth l (k : Int)) = true) : has p l = true := has_iff.2 ⟨k, hk, hp⟩
/-! ### An array of integers whose cells are a list -/
def ints (C : List Int) : List Value := C.map (Value.int .i64)
theorem ints_at {C : List Int} {i : Int} (h : 0 ≤ i ∧ i < (C.length : Int)) : (ints C)[i.toNat]? = some (.int .i64 (nth C i)) := by
  unfold ints
  rw [List.getElem?_map, nth_get h]; rfl
theorem ints_len {C : List Int} : (ints C).length = C.length := List.length_map ..
theorem ints_splice {C : List Int} {i x : Int} (h : 0 ≤ i ∧ i < (C.length : Int)) : splice (ints C) i.toNat [.int .i64 x] = ints (C.set i.toNat x) := by
  unfold splice ints
  rw [List.map_set, List.set_eq_take_append_cons_drop, if_pos (by rw [List.length_map]; omega)]
  simp
theorem splice_all {cs us : List Value} (h : us.length = cs.length) : splice cs 0 us = us := by
  unfold splice
  simp [h]
theorem ints_one {C : List Int} : (ints C).all (·.oneCell') = true := by
  unfold ints
  rw [List.all_eq_true]
  intro x hx
  obtain ⟨y, _, rfl⟩ := List.mem_map.1 hx
  rfl
theorem yv_idxA {P : Program} {N : Nat} {ds : List Deferred} {env : Env} {S : World → Prop} {x y : Operand} {T n E : Nat} {k : IntKind} {C : List Int} {i : Int} (hT : TArr P T n E 1) (hE : TOne P E) (hx : ev env x = some (ag C)) (hy : ev env y = some (.int k i)) (hn : C.length = n) (hi : 0 ≤ i ∧ i < (n : Int)) :
    Yv P N ds env (.index T x y) (.int .i64 (nth C i)) S := fun act hact w _ _ _ _ _ _ => by
  have h2 := hE w
  have h3 : (C.map (Value.int .i64))[i.toNat]? = some (.int .i64 (nth C i)) := ints_at (by omega)
  simp [execOp, hact.ev hx, hact.ev hy, Instr.index, asIntOf, run_underlying hT.1, run_size hT.2, part, h2, Result.andThen, ag, hi]
  rw [List.getElem?_map] at h3
  obtain ⟨z, hz, he⟩ := Option.map_eq_some_iff.1 h3
  cases he
  rw [hz]
  rfl
theorem eqItems_int {P : Program} {E : Nat} {d : Nat} {w : World} (hi : ∀ w, (isAgg E).run P w = .ok false w) (hE2 : P.underlying E = some (.int .i64)) {a b : List Int} : ∀ is : List Nat, (∀ i ∈ is, i < a.length ∧ i < b.length) →
    (Op.eqItems (d + 1) E 1 (a.map (Value.int .i64)).toArray (b.map (Value.int .i64)).toArray is).run P w = .ok (decide (∀ i ∈ is, nth a (i : Int) = nth b (i : Int))) w := by
  intro is
  induction is with
  | nil => intro _; simp [Op.eqItems]
  | cons j is ih =>
    intro h
    have hj := h j List.mem_cons_self
    have e1 := fun x y => run_equalIn_int (P := P) w d E .i64 .i64 x y hE2
    have hp : ∀ c : List Int, j < c.length → (part E (c.map (Value.int .i64)).toArray j).run P w = .ok (.int .i64 (nth c (j : Int))) w := fun c hc => by
      have := ints_at (C := c) (i := (j : Int)) (by omega)
      unfold ints at this
      simp only [Int.toNat_natCast] at this
      simp [part, hi w, Result.andThen]
      rw [List.getElem?_map] at this
      obtain ⟨z, hz, he⟩ := Option.map_eq_some_iff.1 this
      cases he
      rw [hz]
      rfl
    have ih2 := ih (fun i hi => h i (List.mem_cons_of_mem _ hi))
    simp only [Op.eqItems, Sem.run_bind, Nat.mul_one, hp a hj.1, hp b hj.2, Result.andThen, e1]
    by_cases h0 : nth a (j : Int) = nth b (j : Int)
    · simp [h0, ih2]
    · simp [h0]
theorem eqi_arr {P : Program} {T E n : Nat} {i : TypeInfo} (hu : P.underlying T = some (.array n E)) (hE : P.info? E = some i) (hc : P.cellsOf E = 1) (hi : ∀ w, (isAgg E).run P w = .ok false w) (hE2 : P.underlying E = some (.int .i64)) (hg : P.eqGuardType P.depth T = false) : EqI P T n := by
  refine ⟨fun a b w ha hb => ?_, hg⟩
  have h := run_equalIn_array (P := P) (w := w) (9998 + 1) (a.map (Value.int .i64)).toArray (b.map (Value.int .i64)).toArray hu hE
  rw [hc, eqItems_int hi hE2 (List.range n) (fun i hi => by rw [List.mem_range] at hi; omega)] at h
  refine (show (Op.equal T (ag a) (ag b)).run P w = _ from h).trans ?_
  congr 1
  refine decide_eq_decide.2 ⟨fun h => ?_, fun h => by subst h; exact fun _ _ => rfl⟩
  refine List.ext_getElem (by omega) fun k h1 h2 => ?_
  have := h k (List.mem_range.2 (by omega))
  rwa [nth_nat h1, nth_nat h2] at this
theorem op_clearA {r : Option Nat} {P : Program} {N : Nat} {ds : List Deferred} {env : Env} {w : World} {Q : Post} {all : Array Oper} {rest : List Oper} {H : List Item} {x : Operand} {dst : Option Nat} {ty : TypeId} {pos : String} {after : Array Edge} {T E n b t m : Nat} (hE : El P T E 1 encI)
    (hz0 : ∀ i, P.info? E = some i → i.zero.map (·.cells.toList) = some (encI 0)) {C : List Int} (hs : ev env x = some (.slice (some ⟨b, 0, none⟩) m m)) (hm : C.length = m) (hm0 : 0 < m) (hd : dstOK N dst = true) (hH : Heap H w) (hn : H[n]? = some (bx b t (ints C)))
    (h : ∀ w', Heap (H.set n (bx b t (ints (List.replicate m 0)))) w' → Ops r P N all rest ds (putE dst (.tuple #[]) env) w' Q) :
    Ops r P N all (⟨dst, .call ⟨.builtin .clear, #[x], #[T]⟩, ty, pos, after, none⟩ :: rest) ds env w Q := by
  obtain ⟨i, z, hi1, hz, hsz, hby, hzs⟩ := hE.info
  have hzc := hz0 i hi1
  rw [hz] at hzc
  simp only [Option.map_some, Option.some.injEq] at hzc
  have hb : w.heap[b]? = some (.cells (ints C).toArray t (0, 0)) := hH.get hn
  have hzl : (Builtin.zeroCells z.cells m).toList = ints (List.replicate m 0) := by
    have := madeCells_flat hE.len hE.pos hzc m
    have e : (List.replicate m (0 : Int)).flatMap encI = ints (List.replicate m 0) := by
      unfold ints encI; rw [← List.map_eq_flatMap]
    rw [← e, ← this]
    simp [Builtin.zeroCells, madeCells, hzs]
  have hst := run_storeCells_at (P := P) b 0 t (ints (List.replicate m 0)) 0 (ints C).toArray w hb (by simp [ints_len, hm]) (fun u hu => List.all_eq_true.1 ints_one u hu)
  have hnew : ((ints C).toArray.toList.take (0 + 0) ++ ints (List.replicate m 0) ++ (ints C).toArray.toList.drop (0 + 0 + (ints (List.replicate m 0)).length)).toArray = (ints (List.replicate m 0)).toArray := by
    congr 1
    simp [ints_len, hm]
  rw [hnew] at hst
  have hzv : (zeroValue E).run P w = .ok z w := by simp [zeroValue, typeInfo, hi1, hz, Result.andThen]
  have hcl : (Builtin.clear_ #[T] ty #[.slice (some ⟨b, 0, none⟩) m m]).run P w = .ok (.tuple #[]) (w.setRow b (ints (List.replicate m 0)).toArray) := by
    obtain ⟨k, rfl⟩ : ∃ k, m = k + 1 := ⟨m - 1, by omega⟩
    unfold Builtin.clear_
    simp [run_underlying hE.und, hzv, hzl, hst, Result.andThen]
  refine ops_valO hd (fun c hc => by cases hc) (fun a ha => ?_) (h _ (hH.set hn (off_setRow w b _) (.inl ⟨Nat.le_refl _, Nat.le_refl _⟩) (bx_ok (setRow_heap w b _ _ t (0, 0) hb))))
  simp only [execOp, resolve, invoke, builtin, Sem.run_bind, Sem.run_pure, Result.andThen, List.map_toArray, List.map_cons, List.map_nil, ha.ev hs, hcl]
section symops
variable {r : Option Nat} {P : Program} {N : Nat} {ds : List Deferred} {env : Env} {w : World} {Q : Post} {all : Array Oper} {rest : List Oper} {H : List Item} {x y : Operand} {ty : TypeId} {pos : String} {after : Array Edge}
theorem op_setA {T b n t : Nat} {C : List Int} {i z : Int} (hp : ev env x = some (.pointer (some ⟨b, 0 + i.toNat * 1, none⟩))) (hx : ev env y = some (.int .i64 z)) (hH : Heap H w) (hn : H[n]? = some (bx b t (ints C))) (hsz : (P.info? T).map (·.size) = some 1) (hi : 0 ≤ i ∧ i < (C.length : Int))
    (h : ∀ w', Heap (H.set n (bx b t (ints (C.set i.toNat z)))) w' → Ops r P N all rest ds env w' Q) : Ops r P N all (⟨none, .store T x y, ty, pos, after, none⟩ :: rest) ds env w Q :=
  op_store (j := i.toNat) (us := [.int .i64 z]) (by rw [hp]; simp) hx hH hn hsz rfl rfl (by rw [Nat.ble_eq, ints_len]; simp; omega) rfl (fun w' hw => h w' (by rwa [ints_splice hi] at hw))
theorem op_putA {T b n t m : Nat} {cs : List Value} {C : List Int} (hp : ev env x = some (.pointer (some ⟨b, 0, none⟩))) (hx : ev env y = some (ag C)) (hH : Heap H w) (hn : H[n]? = some (bx b t cs)) (hsz : (P.info? T).map (·.size) = some m) (hm : C.length = m) (hl : cs.length = m)
    (h : ∀ w', Heap (H.set n (bx b t (ints C))) w' → Ops r P N all rest ds env w' Q) : Ops r P N all (⟨none, .store T x y, ty, pos, after, none⟩ :: rest) ds env w Q :=
  op_store (j := 0) (us := ints C) hp hx hH hn hsz rfl (by rw [ints_len]; exact hm) (by rw [Nat.ble_eq, ints_len]; omega) ints_one (fun w' hw => h w' (by rwa [splice_all (by rw [ints_len]; omega)] at hw))
theorem yv_loadE {S : World → Prop} {T b t : Nat} {C : List Int} {i : Int} (hT : TOne P T) (hx : ev env x = some (.pointer (some ⟨b, 0 + i.toNat * 1, none⟩))) (hi : 0 ≤ i ∧ i < (C.length : Int)) (hb : ∀ w, S w → Bx b t (ints C) w) : Yv P N ds env (.load T x) (.int .i64 (nth C i)) S :=
  yv_load (o := i.toNat) hT (by rw [hx]; simp) (fun w hw => bx_cell (hb w hw) (ints_at hi))
theorem yv_loadC {S : World → Prop} {T n b t : Nat} {C : List Int} (hT : TAgg P T n) (hn : C.length = n) (hx : ev env x = some (.pointer (some ⟨b, 0, none⟩))) (hb : ∀ w, S w → Bx b t (ints C) w) : Yv P N ds env (.load T x) (ag C) S :=
  yv_loadA (cs := ints C) hT (by rw [ints_len]; exact hn) hx (fun w hw j u hj => by rw [Nat.zero_add]; exact bx_cell (hb w hw) hj)
theorem rvC {T n b t k : Nat} {C : List Int} (hx : env.find k = some (.pointer (some ⟨b, 0, none⟩))) (hT : TAgg P T n) (hn : C.length = n) (hb : Bx b t (ints C) w) : RV P env w (.cell k T) (ag C) :=
  rvA (cs := ints C) hx hT (by rw [ints_len]; exact hn) (fun j u hj => by rw [Nat.zero_add]; exact bx_cell hb hj)
end symops
section kinds
variable {P : Program} {N : Nat} {ds : List Deferred} {env : Env} {S : World → Prop} {x y : Operand} {k : IntKind} {m n : Int} {T T' : TypeId}
theorem yv_addK (hx : ev env x = some (.int k m)) (hy : ev env y = some (.int k n)) (hw : k.wrap (m + n) = m + n) : Yv P N ds env (.binOp .add T x y T') (.int k (m + n)) S := fun a ha w _ _ _ _ _ _ => by
  simp [execOp, ha.ev hx, ha.ev hy, eqGuard, binOp, Op.intArith, hw, Result.andThen]
theorem yv_subK (hx : ev env x = some (.int k m)) (hy : ev env y = some (.int k n)) (hw : k.wrap (m - n) = m - n) : Yv P N ds env (.binOp .sub T x y T') (.int k (m - n)) S := fun a ha w _ _ _ _ _ _ => by
  simp [execOp, ha.ev hx, ha.ev hy, eqGuard, binOp, Op.intArith, hw, Result.andThen]
theorem yv_mulK (hx : ev env x = some (.int k m)) (hy : ev env y = some (.int k n)) (hw : k.wrap (m * n) = m * n) : Yv P N ds env (.binOp .mul T x y T') (.int k (m * n)) S := fun a ha w _ _ _ _ _ _ => by
  simp [execOp, ha.ev hx, ha.ev hy, eqGuard, binOp, Op.intArith, hw, Result.andThen]
theorem yv_shr32 {k2 : IntKind} (hx : ev env x = some (.int .u64 m)) (hy : ev env y = some (.int k2 32)) (h : 0 ≤ m ∧ m < 4294967296) : Yv P N ds env (.binOp .shr T x y T') (.int .u64 0) S := fun act hact w _ _ _ _ _ _ => by
  have e := shift_shr .u64 k2 m 32 (by omega) (show (32 : Int) ≤ IntKind.u64.bits by decide)
  have e2 : m / 2 ^ (32 : Int).toNat = 0 := by
    show m / 4294967296 = 0
    omega
  rw [e2] at e
  simp only [execOp, hact.ev hx, hact.ev hy, eqGuard, binOp, Sem.run_bind]
  rw [e]
  rfl
theorem yv_and32 (hx : ev env x = some (.int .u64 m)) (hy : ev env y = some (.int .u64 4294967295)) (h : 0 ≤ m ∧ m < 4294967296) : Yv P N ds env (.binOp .and T x y T') (.int .u64 m) S := fun act hact w _ _ _ _ _ _ => by
  obtain ⟨q, rfl⟩ := Int.eq_ofNat_of_zero_le h.1
  have h2 : IntKind.u64.wrap ((BitVec.ofInt 64 (q : Int) &&& BitVec.ofInt 64 4294967295).toNat : Int) = (q : Int) := by
    have e1 : (BitVec.ofInt 64 (q : Int)).toNat = q := by
      rw [BitVec.toNat_ofInt]; omega
    have e2 : (BitVec.ofInt 64 4294967295).toNat = 2 ^ 32 - 1 := rfl
    rw [BitVec.toNat_and, e1, e2, Nat.and_two_pow_sub_one_eq_mod, Nat.mod_eq_of_lt (by omega)]
    exact IntWalk.u64_in _ ⟨by omega, by omega⟩
  simp only [execOp, hact.ev hx, hact.ev hy, eqGuard, binOp, Op.intBits, Sem.run_bind]
  have e : IntKind.u64.bits = 64 := rfl
  simp [Result.andThen]
  exact h2
theorem wrap_u64 {m : Int} (h : 0 ≤ m ∧ m ≤ 18446744073709551615) : IntKind.u64.wrap m = m := IntWalk.u64_in m h
end kinds
section copytail
variable {r : Option Nat} {P : Program} {N : Nat} {ds : List Deferred} {env : Env} {w : World} {Q : Post} {all : Array Oper} {rest : List Oper} {H : List Item} {x y : Operand} {v u : Value} {dst : Option Nat} {ty : TypeId} {pos : String} {after : Array Edge}
/-- 'copy(s[q:], u)', s of the function's own; u may be a part of it. -/
theorem op_copy_tail {α : Type} {T T2 E sz n lo hi q : Nat} {enc : α → List Value} (hE : El P T E sz enc) {xs ys : List α} (hs : ev env x = some (cutv v sz q xs.length)) (hx : ev env y = some u) (hd : dstOK N dst = true) (hH : Heap H w)
    (hn : H[n]? = some (ow lo hi E sz enc v xs)) (hu : Rd enc sz u ys w) (hq : q < xs.length)
    (h : ∀ w', Heap (H.set n (ow lo hi E sz enc v (xs.take q ++ ys.take (xs.length - q) ++ xs.drop (q + Nat.min ys.length (xs.length - q))))) w' → Ops r P N all rest ds (putE dst (.int .i64 (Nat.min ys.length (xs.length - q) : Nat)) env) w' Q) :
    Ops r P N all (⟨dst, .call ⟨.builtin .copy, #[x, y], #[T, T2]⟩, ty, pos, after, none⟩ :: rest) ds env w Q := by
  have hok := hH.okAt hn
  have how : Ow lo hi E sz enc v xs w := hH.get hn
  have hsize := run_size (P := P) hE.slice.2
  obtain ⟨a2, c2, rfl, hc2, hu2⟩ := hu.1
  rcases how.1.2 with ⟨rfl, h3⟩ | ⟨g, cap, cur, hsv, hb0, hg, h4, h5, h6, h7⟩
  · omega
  · subst hsv
    have ec : cutv (.slice (some ⟨g, 0, none⟩) xs.length cap) sz q xs.length = .slice (some ⟨g, q * sz, none⟩) (xs.length - q) (cap - q) := by
      simp only [cutv]
      rw [if_neg (by omega)]
      simp [Addr.add]
      intro h; exact h.symm
    rw [ec] at hs
    obtain ⟨k, hk⟩ : ∃ k, k = Nat.min ys.length (xs.length - q) := ⟨_, rfl⟩
    have hkl : (ys.take (xs.length - q)).length = k := by rw [hk, List.length_take, Nat.min_comm]
    have hkq : q + k ≤ xs.length := by have := Nat.min_le_right ys.length (xs.length - q); have e : Nat.min ys.length (xs.length - q) = min ys.length (xs.length - q) := rfl; omega
    have hky : k ≤ ys.length := by have := Nat.min_le_left ys.length (xs.length - q); have e : Nat.min ys.length (xs.length - q) = min ys.length (xs.length - q) := rfl; omega
    have hz : Rd enc sz (.slice a2 k c2) (ys.take (xs.length - q)) w := by
      refine ⟨⟨a2, c2, by rw [hkl], by rw [hkl]; omega, hu2⟩, fun i z hi j t hj => ?_⟩
      rw [List.getElem?_take] at hi
      split at hi
      · rcases hu2 with ⟨rfl, h0⟩ | ⟨b, o, rfl⟩
        · have := (List.getElem?_eq_some_iff.1 hi).1; omega
        · exact hu.2 i z hi j t hj
      · cases hi
    have hf : (Builtin.firstCells sz k (.slice a2 ys.length c2)).run P w = .ok ((ys.take (xs.length - q)).flatMap enc).toArray w := by
      rcases hu2 with ⟨rfl, rfl⟩ | ⟨b, o, rfl⟩
      · have hy0 : ys = [] := List.eq_nil_of_length_eq_zero (by omega)
        subst hy0
        simp [Builtin.firstCells]
      · exact run_firstCells_some (P := P) w sz k ⟨b, o, none⟩ ys.length c2 _ (by rw [length_flatMap_enc hE.len, hkl]) (hz.flat hE.len hE.pos)
    have hyl := length_flatMap_enc hE.len (ys.take (xs.length - q))
    rw [hkl] at hyl
    have hle : (q + k) * sz ≤ cap * sz := Nat.mul_le_mul_right _ (by omega)
    rw [Nat.add_mul] at hle
    have hst := run_storeCells_at (P := P) g (q * sz) E ((ys.take (xs.length - q)).flatMap enc) 0 cur w hg (by rw [hyl]; omega) (fun u hu => by obtain ⟨x, _, hx⟩ := List.mem_flatMap.1 hu; exact hE.one x u hx)
    have hov := ow_over (P := P) (w := w) (lo := lo) (hi := hi) hE (ys := ys.take (xs.length - q)) hg rfl h4 h5 h6 h7 (how.2 g rfl) q (by rw [hkl]; exact hkq)
    rw [hkl, hk] at hov
    refine ops_valO hd (fun c hc => by cases hc) (fun a ha => ?_) (h _ (hH.set hn ((off_setRow w g _).mono' (how.2 g rfl)) (.inl ⟨Nat.le_refl _, Nat.le_refl _⟩) (ow_ok hov hok.1 (by rw [setRow_size]; exact hok.2.1))))
    simp only [execOp, resolve, invoke, builtin, Builtin.copy_, Sem.run_bind, Sem.run_pure, Result.andThen, List.map_toArray, List.map_cons, List.map_nil, ha.ev hs, ha.ev hx]
    simp only [Nat.add_zero] at hst
    simp [run_underlying hE.und, Builtin.lenOf, hsize, ← hk, hf, goInt, Result.andThen, hst, splice]
end copytail
theorem yv_castB {P : Program} {N : Nat} {ds : List Deferred} {env : Env} {op : Op} {a b : Bool} {S : World → Prop} (h : a = b) (hy : Yv P N ds env op (.bool a) S) : Yv P N ds env op (.bool b) S := h ▸ hy
theorem yv_eqlB {P : Program} {N : Nat} {ds : List Deferred} {env : Env} {S : World → Prop} {x y : Operand} {T T' : TypeId} {a b : Bool} (hu : P.underlying T = some .bool) (hx : ev env x = some (.bool a)) (hy : ev env y = some (.bool b)) (e : a = b) : Yv P N ds env (.binOp .eql T x y T') (.bool true) S := fun act hact w _ _ _ _ _ _ => by
  subst e
  have h : (Op.equalIn Op.maxDepth T (.bool a) (.bool a)).run P w = .ok true w := by
    have key : ∀ d, (Op.equalIn (d + 1) T (.bool a) (.bool a)).run P w = .ok true w := fun d => by simp [Op.equalIn, run_underlying hu, Result.andThen]
    exact key 9999
  simp [execOp, hact.ev hx, hact.ev hy, eqGuard, binOp, Op.equal, h, Result.andThen]
end Go.Fip

set_option linter.unusedVariables false
set_option linter.unusedSimpArgs false
namespace Go.Fip
open Go.RowKit
/-- Two items in the place of one. -/
theorem Heap.two {H : List Item} {w : World} (hH : Heap H w) {n : Nat} {x i j : Item} (hn : H[n]? = some x) (hi : x.lo ≤ i.lo ∧ i.hi ≤ x.hi) (hj : x.lo ≤ j.lo ∧ j.hi ≤ x.hi) (hij : j.apart i) (oi : i.ok w) (oj : j.ok w) : Heap (j :: H.set n i) w := by
  have h1 := hH.set hn ⟨rfl, rfl, rfl, Nat.le_refl _, fun _ _ _ => rfl⟩ (.inl hi) oi
  refine ⟨fun y hy => ?_, List.Pairwise.cons (fun y hy => ?_) h1.apart⟩
  · rcases List.mem_cons.1 hy with rfl | hy
    · exact oj
    · exact h1.ok y hy
  · obtain ⟨m, hm, e⟩ := List.getElem_of_mem hy
    obtain ⟨hn1, hn2⟩ := List.getElem?_eq_some_iff.1 hn
    rw [List.length_set] at hm
    rw [List.getElem_set] at e
    split at e
    · subst e; exact hij
    · rename_i hne
      have hap : x.apart y := by
        have hp := List.pairwise_iff_getElem.1 hH.apart
        rcases Nat.lt_or_gt_of_ne hne with h2 | h2
        · have := hp n m hn1 hm h2
          rwa [hn2, e] at this
        · have := hp m n hm hn1 h2
          rw [hn2, e] at this
          exact this.symm
      unfold Item.apart at *
      omega
/-- A box in which a row of its own is. -/
def Bench (t b : Nat) (v : Value) (l : List Int) (w : World) : Prop := Bx b t [v] w ∧ Own 3 1 encI v l w ∧ v.ownBlock ≠ some b
theorem Heap.toBench {t n lo hi b : Nat} {v : Value} {l : List Int} {φ : World → Prop} {H : List Item} {w : World} (hH : Heap H w) (hn : H[n]? = some ⟨lo, hi, φ⟩)
    (hφ : ∀ w', φ w' → ∃ v', Bench t b v' l w') (hb : Bench t b v l w) (hl : 1 ≤ l.length) : ∃ g, Heap (ow g (g + 1) 3 1 encI v l :: H.set n (bx b t [v])) w := by
  have hok := hH.okAt hn
  obtain ⟨hbx, hown, hne⟩ := hb
  have hbin := Item.within hok hbx (fun w' h _ hx => by
    obtain ⟨v', hb', _⟩ := hφ w' h
    unfold Bx at hb'
    rw [hb'] at hx; cases hx)
  obtain ⟨g, cap, cur, hv, _, hg, _⟩ : ∃ g cap cur, v = .slice (some ⟨g, 0, none⟩) l.length cap ∧ True ∧ w.heap[g]? = some cur ∧ True := by
    rcases hown.2 with ⟨_, h3⟩ | ⟨g, cap, cur, hv, _, hg, _⟩
    · omega
    · exact ⟨g, cap, _, hv, trivial, hg, trivial⟩
  have hgo : v.ownBlock = some g := by rw [hv]; rfl
  have hgb : g ≠ b := fun e => hne (e ▸ hgo)
  have hgin := Item.within hok hg (fun w' h hoth hx => by
    obtain ⟨v', hb', h1, _⟩ := hφ w' h
    have h5 := hoth b (fun e => hgb e.symm)
    unfold Bx at hb' hbx
    rw [hb', hbx] at h5
    simp only [Option.some.injEq, Obj.cells.injEq, List.toArray_inj] at h5
    obtain ⟨h5, _⟩ := h5
    simp only [Array.mk.injEq, List.cons.injEq, and_true] at h5
    subst h5
    rcases h1.2 with ⟨_, h3⟩ | ⟨g', cap', cur', hv', _, hg', _⟩
    · omega
    · rw [hv] at hv'
      simp only [Value.slice.injEq, Option.some.injEq, Addr.mk.injEq] at hv'
      obtain ⟨⟨h6, _⟩, _⟩ := hv'
      subst h6
      rw [hg'] at hx; cases hx)
  have hlt := (Array.getElem?_eq_some_iff.1 hg).1
  refine ⟨g, hH.two hn ⟨hbin.1, hbin.2⟩ ⟨hgin.1, hgin.2⟩ ?_ (bx_ok hbx) (ow_ok ⟨hown, fun g2 hg2 => ?_⟩ (Nat.le_succ _) hlt)⟩
  · show g + 1 ≤ b ∨ b + 1 ≤ g
    omega
  · rw [hgo] at hg2
    cases hg2
    omega
theorem Heap.bench {H : List Item} {w : World} {n m t b lo hi : Nat} {v : Value} {l : List Int} (hH : Heap H w) (hn : H[n]? = some (bx b t [v])) (hm : H[m]? = some (ow lo hi 3 1 encI v l)) (hmn : m ≠ n) (hl : 1 ≤ l.length) : Bench t b v l w := by
  refine ⟨Heap.bxw hH hn, Heap.own hH hm, fun e => ?_⟩
  obtain ⟨g, hg, h1⟩ := Ow.blk (show Ow _ _ _ _ _ _ _ _ from hH.get hm) hl
  rw [hg] at e
  cases e
  exact Heap.ne hH hm hn h1 hmn rfl
end Go.Fip

set_option linter.unusedVariables false
set_option linter.unusedSimpArgs false
namespace Go.Fip
open Go.RowKit
/-- An iterator: as long as D holds it hands over, in its i-th round of n, some v, of whose memory, which nobody else has, R i v says what lies there. -/
structure IterF (P : Program) (g : FuncId) (cap : List Value) (D : World → Prop) (n : Nat) (R : Nat → Value → World → Prop) : Prop where
  enters : ∀ (as : Array Value) (w : World), (callFunc g as).run P w = .ok (.enter g as) w
  calls : ∀ (l : Nat) (J : Nat → World → Prop) (Jx : World → Prop),
    (∀ i w w', J i w → Below w.heap.size w w' → J i w') → (∀ w w', Jx w → Below w.heap.size w w' → Jx w') → (∀ i w, J i w → D w) →
    (∀ i v w0 w, i < n → J i w0 → Below w0.heap.size w0 w → (⟨w0.heap.size, w.heap.size, R i v⟩ : Item).ok w → YieldAt Fence.wide 0 P l #[v] w fun e w' => (e = .returned (.bool true) ∧ J (i + 1) w') ∨ (e = .returned (.bool false) ∧ Jx w')) →
    ∀ w, J 0 w → CallsIn Fence.wide 0 P g (.func (.yield l) #[] #[] :: cap).toArray w fun e w' => (∃ v, e = .returned v) ∧ (J n w' ∨ Jx w')
theorem rangeFuncF {P : Program} {N : Nat} {ds : List Deferred} {env : Env} {w : World} {Q : Post} {g : Operand} {p : Nat} {assign body : Code} {gf : FuncId} {cap : List Value} {D : World → Prop} {n : Nat} {R : Nat → Value → World → Prop} {H : List Item}
    (hg : ev env g = some (.func (.func gf) #[] cap.toArray)) (hit : IterF P gf cap D n R) (hp : Nat.blt p N = true) (hH : Heap H w)
    (I : Nat → List Item → Prop) (Ix : Code → List Item → Prop) (h0 : I 0 H) (hD : ∀ i H w, I i H → Heap H w → D w)
    (hround : ∀ (l D0 : Nat) (i : Nat) (x : Value) (lo hi : Nat) (H : List Item) (w : World) (rc : Loop), i < n → I i H → Heap (recItem l rc :: markItem D0 :: ⟨lo, hi, R i x⟩ :: H) w →
      Holds (some l) P N assign [] ((p, x) :: env) w (asgQ P N l body (fun H' => ∃ H2, I (i + 1) H2 ∧ H' = markItem D0 :: H2) (fun c H' => ∃ H2, Ix c H2 ∧ H' = markItem D0 :: H2) rc))
    (hdone : ∀ (D0 : Nat) (H : List Item) (w : World), I n H → Heap (markItem D0 :: H) w → Q .normal (isMark D0 :: ds) env w)
    (hstop : ∀ (D0 : Nat) (c : Code) (H : List Item) (w : World), Ix c H → Heap (markItem D0 :: H) w → Holds none P N c (isMark D0 :: ds) env w Q) :
    Holds none P N (.rangeFunc g #[p] assign body) ds env w Q := by
  intro a ha
  refine wpIn_rangeFunc ?_
  intro fn _
  obtain ⟨rec, hrec⟩ : ∃ rec : LoopState → Option Code → Loop, rec = fun st pe => { state := st, pending := pe, fn, tmps := a.tmps, params := #[p], assign, body, defers := w.heap.size } := ⟨_, rfl⟩
  obtain ⟨W1, hW1⟩ : ∃ W1, (w.alloc (.deferred (some []))).alloc (.loop (rec .ready none)) = W1 := ⟨_, rfl⟩
  have hHd : Heap (markItem w.heap.size :: H) (w.alloc (.deferred (some []))) := hH.add (below_alloc w _) (Nat.le_refl _) (markItem_ok (heap_new w _))
  have hH1 : Heap (recItem (w.heap.size + 1) (rec .ready none) :: markItem w.heap.size :: H) W1 := by
    rw [← hW1]
    refine hHd.add (below_alloc _ _) (by simp [recItem]) (recItem_ok ?_)
    have := heap_new (w.alloc (.deferred (some []))) (.loop (rec .ready none))
    rwa [World.size_alloc] at this
  have hro : Fence.wide.round = none := rfl
  refine ⟨w.heap.size + 1, [isMark w.heap.size], W1, { target := .fn (.func gf) cap.toArray, args := #[.func (.yield (w.heap.size + 1)) #[] #[]] }, W1, gf,
    (.func (.yield (w.heap.size + 1)) #[] #[] :: cap).toArray, W1, ?_, ?_, ?_, ?_, fun h => by simp [Fr_depth] at h, ?_⟩
  · rw [Fr_round, ← hW1, hrec]; exact run_enterLoop_outer _ _ _ _ _
  · simp only [resolve, rangeCall, ha.ev hg]
    simp [go_sem]
  · intro f' _; exact Fr_fn _ _
  · simp only [invoke]
    have e : (#[Value.func (.yield (w.heap.size + 1)) #[] #[]] : Array Value) ++ cap.toArray = (.func (.yield (w.heap.size + 1)) #[] #[] :: cap).toArray := by simp
    rw [e]
    exact hit.enters _ W1
  · refine CallsIn.mono (hit.calls (w.heap.size + 1)
      (fun i W => ∃ H2, I i H2 ∧ Heap (recItem (w.heap.size + 1) (rec .ready none) :: markItem w.heap.size :: H2) W)
      (fun W => ∃ c H2, Ix c H2 ∧ Heap (recItem (w.heap.size + 1) (rec .done (some c)) :: markItem w.heap.size :: H2) W)
      (fun i W W' ⟨H2, hi, hh⟩ hb => ⟨H2, hi, hh.grow hb⟩) (fun W W' ⟨c, H2, hi, hh⟩ hb => ⟨c, H2, hi, hh.grow hb⟩)
      (fun i W ⟨H2, hi, hh⟩ => hD i H2 W hi (hh.sub ((List.sublist_cons_self _ _).trans (List.sublist_cons_self _ _)))) ?_ W1 ⟨H, h0, hH1⟩) ?_
    · rintro i x W0 W hx ⟨H2, hi, hh0⟩ hbel hok
      have hh : Heap (recItem (w.heap.size + 1) (rec .ready none) :: markItem w.heap.size :: ⟨W0.heap.size, W.heap.size, R i x⟩ :: H2) W := (hh0.add hbel (Nat.le_refl _) hok).perm ((List.Perm.swap _ _ _).trans ((List.Perm.swap _ _ _).cons _))
      have hl : W.heap[w.heap.size + 1]? = some (.loop (rec .ready none)) := hh.get (n := 0) rfl
      have hy := run_yield (P := P) (args := #[x]) hl (by rw [hrec]; rfl)
      rw [hrec] at hy
      refine ⟨fn, _, assign, body, hy, roundIn_of_wpIn trivial ?_⟩
      have hfit : Fits N { tmps := (#[p].zip #[x]).foldl (fun tmps (t, a) => tmps.setIfInBounds t a) a.tmps, defers := [] } [] ((p, x) :: env) := by
        have h1 : Fits N { tmps := a.tmps, defers := [] } [] env := ⟨ha.size, rfl, ha.slot⟩
        have := h1.put (by simpa [Nat.blt_eq] using hp : p < N) x
        simpa [Act.put] using this
      refine Go.wpIn_mono (hround (w.heap.size + 1) w.heap.size i x _ _ H2 W (rec .ready none) hx hi hh _ hfit) ?_
      rintro e a' w' ⟨ds', env', hf', q⟩
      cases e with
      | normal =>
        obtain ⟨H3, hh3, hb⟩ := q
        have hl3 : w'.heap[w.heap.size + 1]? = some (.loop (rec .ready none)) := hh3.get (n := 0) rfl
        refine ⟨_, run_beginRound hl3 (by rw [hrec]), ?_⟩
        refine Go.wpIn_mono (hb _ (hh3.putRec _) a' hf') ?_
        have fin : ∀ (jump : Option Code) (H5 : List Item) (W3 : World), Heap (recItem (w.heap.size + 1) { rec .ready none with state := .busy } :: H5) W3 →
            (Instr.endRound (w.heap.size + 1) jump).run P W3 = .ok (.bool jump.isNone) (W3.putObj (w.heap.size + 1) (.loop (rec (if jump.isNone then .ready else .done) jump))) ∧
            Heap (recItem (w.heap.size + 1) (rec (if jump.isNone then .ready else .done) jump) :: H5) (W3.putObj (w.heap.size + 1) (.loop (rec (if jump.isNone then .ready else .done) jump))) := fun jump H5 W3 h5 => by
          have hl5 : W3.heap[w.heap.size + 1]? = some (.loop { rec .ready none with state := .busy }) := h5.get (n := 0) rfl
          have := run_endRound (P := P) jump hl5
          rw [hrec] at this ⊢
          refine ⟨this, ?_⟩
          have := h5.putRec (rec (if jump.isNone then .ready else .done) jump)
          rw [hrec] at this
          exact this
        rintro e2 a2 w2 ⟨ds2, env2, hf2, q2⟩
        cases e2 with
        | normal =>
          obtain ⟨_, ⟨H6, hi6, rfl⟩, hh6⟩ := q2
          obtain ⟨hr, hk⟩ := fin none _ w2 hh6
          exact ⟨_, _, hr, .inl ⟨rfl, H6, hi6, hk⟩⟩
        | ret =>
          obtain ⟨_, ⟨H6, hi6, rfl⟩, hh6⟩ := q2
          obtain ⟨hr, hk⟩ := fin (some .ret) _ w2 hh6
          exact ⟨_, _, hr, .inr ⟨rfl, _, H6, hi6, hk⟩⟩
        | exit t =>
          obtain ⟨_, ⟨H6, hi6, rfl⟩, hh6⟩ := q2
          obtain ⟨hr, hk⟩ := fin (some (.exit t)) _ w2 hh6
          exact ⟨_, _, hr, .inr ⟨rfl, _, H6, hi6, hk⟩⟩
        | goto t =>
          obtain ⟨_, ⟨H6, hi6, rfl⟩, hh6⟩ := q2
          obtain ⟨hr, hk⟩ := fin (some (.goto t)) _ w2 hh6
          exact ⟨_, _, hr, .inr ⟨rfl, _, H6, hi6, hk⟩⟩
        | panic c => exact q2.elim
        | outgrown => exact q2.elim
      | ret => exact q.elim
      | exit t => exact q.elim
      | goto t => exact q.elim
      | panic c => exact q.elim
      | outgrown => exact q.elim
    · rintro e W2 ⟨⟨v, rfl⟩, (⟨H2, hi, hh⟩ | ⟨c, H2, hi, hh⟩)⟩
      · have hl : W2.heap[w.heap.size + 1]? = some (.loop (rec .ready none)) := hh.get (n := 0) rfl
        have hr := run_endLoop (P := P) hl (by rw [hrec]; simp)
        rw [hrec] at hr
        refine ⟨none, _, hr, ?_⟩
        have := (hh.putRec (rec .exhausted none)).sub (List.sublist_cons_self _ _)
        rw [hrec] at this
        exact ⟨_, _, ⟨ha.size, by simp [ha.defers], ha.slot⟩, hdone w.heap.size H2 _ hi this⟩
      · have hl : W2.heap[w.heap.size + 1]? = some (.loop (rec .done (some c))) := hh.get (n := 0) rfl
        have hr := run_endLoop (P := P) hl (by rw [hrec]; simp)
        rw [hrec] at hr
        refine ⟨some c, _, hr, ?_⟩
        have := (hh.putRec (rec .exhausted (some c))).sub (List.sublist_cons_self _ _)
        rw [hrec] at this
        exact hstop w.heap.size c H2 _ hi this _ ⟨ha.size, by simp [ha.defers], ha.slot⟩

theorem iterF_of {P : Program} {g : FuncId} {fn : Func} {c : Code} {cap : List Value} {D : World → Prop} {n : Nat} {R : Nat → Value → World → Prop} {N : Nat}
    (hf : P.funcs[g]? = some fn) (hb : fn.body = some c) (hen : ∀ (as : Array Value) (w' : World), (callFunc g as).run P w' = .ok (.enter g as) w') (hres : fn.results = #[])
    (hN : fn.ntmps = N) (hargs : Nat.ble (cap.length + 1) N = true)
    (h : ∀ (l : Nat) (J : Nat → World → Prop) (Jx : World → Prop), (∀ i w w', J i w → Below w.heap.size w w' → J i w') → (∀ w w', Jx w → Below w.heap.size w w' → Jx w') → (∀ i w, J i w → D w) →
      (∀ i v w0 w, i < n → J i w0 → Below w0.heap.size w0 w → (⟨w0.heap.size, w.heap.size, R i v⟩ : Item).ok w → YieldAt (Fr none) 0 P l #[v] w fun e w' => (e = .returned (.bool true) ∧ J (i + 1) w') ∨ (e = .returned (.bool false) ∧ Jx w')) →
      ∀ w, J 0 w → Heap [base w] w → Holds none P N c [] (argEnv 0 (.func (.yield l) #[] #[] :: cap)) w (iterQ (J n) Jx)) : IterF P g cap D n R := by
  refine ⟨hen, fun l J Jx hJ hJx hD hY w hw => ?_⟩
  refine callsIn_of_wp hf hb trivial ?_
  refine Go.wpIn_mono (h l J Jx hJ hJx hD hY w hw (Heap.start w) { tmps := (.func (.yield l) #[] #[] :: cap).toArray ++ Array.replicate (fn.ntmps - (.func (.yield l) #[] #[] :: cap).toArray.size) undef, defers := [] } ⟨?_, rfl, fun i v hi => ?_⟩) ?_
  · have : cap.length + 1 ≤ N := by simpa [Nat.ble_eq] using hargs
    simp [hN]; omega
  · have h1 : (.func (.yield l) #[] #[] :: cap)[i]? = some v := by simpa using (argEnv_find (.func (.yield l) #[] #[] :: cap) 0 i v hi).2
    have hlt := (List.getElem?_eq_some_iff.1 h1).1
    simp only [Array.getElem?_append, List.size_toArray, hlt, if_true, List.getElem?_toArray]
    exact h1
  · rintro e a' w' ⟨ds, env', hf', hq⟩
    cases e with
    | normal =>
      obtain ⟨rfl, hq⟩ := hq
      exact ⟨hf'.defers, _, res0 hres a' hf', ⟨_, rfl⟩, hq⟩
    | ret =>
      obtain ⟨rfl, hq⟩ := hq
      exact ⟨hf'.defers, _, res0 hres a' hf', ⟨_, rfl⟩, hq⟩
    | exit i => exact hq.elim
    | goto i => exact hq.elim
    | panic i => exact hq.elim
    | outgrown => exact hq.elim
/-- What lies in an item beside the base lies in new blocks. -/
theorem Heap.widen {H : List Item} {w wj : World} {n m lo hi : Nat} {φ : World → Prop} (h : Heap H w) (hn : H[n]? = some (base wj)) (hm : H[m]? = some ⟨lo, hi, φ⟩) (hne : n ≠ m) {ψ : World → Prop} (hψ : ∀ w, φ w → ψ w) : (⟨wj.heap.size, w.heap.size, ψ⟩ : Item).ok w := by
  have hok := h.okAt hm
  have hb := h.okAt hn
  refine ⟨hb.2.1, Nat.le_refl _, fun w' ha => hψ _ (hok.2.2 w' ?_)⟩
  have hap : (base wj).apart ⟨lo, hi, φ⟩ := by
    obtain ⟨hn1, hn2⟩ := List.getElem?_eq_some_iff.1 hn
    obtain ⟨hm1, hm2⟩ := List.getElem?_eq_some_iff.1 hm
    rcases Nat.lt_or_gt_of_ne hne with h1 | h1
    · have := List.pairwise_iff_getElem.1 h.apart n m hn1 hm1 h1
      rwa [hn2, hm2] at this
    · have := List.pairwise_iff_getElem.1 h.apart m n hm1 hn1 h1
      rw [hn2, hm2] at this
      exact this.symm
  have h1 := hok.1
  have h2 := hok.2.1
  unfold Item.apart base at hap
  simp only at hap h1 h2
  exact ⟨ha.os, ha.tape, ha.output, ha.size, fun k a b => ha.block k (by simp only at a b ⊢; omega) (by simp only at a b ⊢; omega)⟩
end Go.Fip

set_option linter.unusedVariables false
set_option linter.unusedSimpArgs false
set_option linter.unusedSectionVars false
namespace Go.Fip
open Go.RowKit
abbrev Hd := Nat × Nat × Nat
/-- u reads as rows RR, their headers as TT. -/
def RowsAt (u : Value) (TT : List Hd) (RR : List (List Int)) (w : World) : Prop :=
  Rd encS 1 u TT w ∧ TT.length = RR.length ∧ ∀ i : Nat, i < TT.length → Rd encI 1 (sv (nth TT (i : Int))) (nth RR (i : Int)) w
theorem RowsAt.nil {w : World} : RowsAt (.slice none 0 0) [] [] w := ⟨⟨⟨none, 0, rfl, Nat.le_refl _, .inl ⟨rfl, rfl⟩⟩, fun i x hi => by simp at hi⟩, rfl, fun i hi => absurd hi (Nat.not_lt_zero _)⟩
theorem RowsAt.below {u : Value} {TT : List Hd} {RR : List (List Int)} {w w' : World} (h : RowsAt u TT RR w) (hb : Below w.heap.size w w') : RowsAt u TT RR w' :=
  ⟨h.1.below hb, h.2.1, fun i hi => (h.2.2 i hi).below hb⟩
theorem RowsAt.now {u : Value} {TT : List Hd} {RR : List (List Int)} {w w' : World} (h : RowsAt u TT RR w) {H : List Item} {n : Nat} (hH : Heap H w') (hn : H[n]? = some (base w)) : RowsAt u TT RR w' := h.below (hH.get hn)
theorem RowsAt.at {u : Value} {TT : List Hd} {RR : List (List Int)} {w : World} (h : RowsAt u TT RR w) {i : Int} (h0 : 0 ≤ i) (h1 : i < (TT.length : Int)) : Rd encI 1 (sv (nth TT i)) (nth RR i) w := by
  have := h.2.2 i.toNat (by omega)
  rwa [Int.toNat_of_nonneg h0] at this
theorem sv_inj {s t : Hd} (h : sv s = sv t) : s = t := by
  obtain ⟨a, b, c⟩ := s
  obtain ⟨a', b', c'⟩ := t
  simp only [sv, Value.slice.injEq, Option.some.injEq, Addr.mk.injEq] at h
  obtain ⟨⟨rfl, _⟩, rfl, rfl⟩ := h
  rfl
theorem cell_none {w : World} {b o : Nat} (h : w.heap[b]? = some (.deferred none)) : w.cell? ⟨b, o, none⟩ = none := by simp [World.cell?, h]
theorem Rd.block {α : Type} {enc : α → List Value} {sz : Nat} {v : Value} {x : α} {xs : List α} {w : World} (h : Rd enc sz v (x :: xs) w) {u : Value} {us : List Value} (hu : enc x = u :: us) : ∃ o, w.cell? ⟨eb v, o, none⟩ = some u :=
  ⟨_, h.2 0 x rfl 0 u (by rw [hu]; rfl)⟩
theorem block_some {w : World} {b o : Nat} {u : Value} (h : w.cell? ⟨b, o, none⟩ = some u) : ∃ ob, w.heap[b]? = some ob := by
  cases hb : w.heap[b]? with
  | some ob => exact ⟨ob, rfl⟩
  | none => simp [World.cell?, hb] at h
/-- The block of a row that an item tells lies in the item. -/
theorem Item.rowIn {α : Type} {enc : α → List Value} {sz : Nat} {i : Item} {w : World} {v : Value} {x : α} {xs : List α} {u : Value} {us : List Value} (h : i.ok w) (hu : enc x = u :: us)
    (hr : ∀ w', Agree i.lo i.hi w w' → (∀ k, k ≠ eb v → w'.heap[k]? = w.heap[k]?) → ∃ y ys, Rd enc sz v (y :: ys) w' ∧ ∃ a as, enc y = a :: as) (hw : Rd enc sz v (x :: xs) w) : i.lo ≤ eb v ∧ eb v < i.hi := by
  obtain ⟨o, ho⟩ := hw.block hu
  obtain ⟨ob, hb⟩ := block_some ho
  by_cases hin : i.lo ≤ eb v ∧ eb v < i.hi
  · exact hin
  · exfalso
    have hlt := (Array.getElem?_eq_some_iff.1 hb).1
    obtain ⟨y, ys, h2, a, as, ha⟩ := hr (w.putObj (eb v) (.deferred none)) ⟨rfl, rfl, rfl, by simp, fun k a b' => World.putObj_heap_other (by omega)⟩ (fun k hk => World.putObj_heap_other (by omega))
    obtain ⟨o2, h3⟩ := h2.block ha
    rw [cell_none (World.putObj_heap_same hlt)] at h3
    cases h3
theorem Rd.agree {α : Type} {enc : α → List Value} {sz lo hi : Nat} {v : Value} {xs : List α} {w w' : World} (h : Rd enc sz v xs w) (ha : Agree lo hi w w') (hb : xs ≠ [] → lo ≤ eb v ∧ eb v < hi) : Rd enc sz v xs w' := by
  refine ⟨h.1, fun i x hi j u hj => ?_⟩
  have hne : xs ≠ [] := fun e => by subst e; simp at hi
  have := hb hne
  rw [ha.cell (p := ⟨eb v, eo v + i * sz + j, none⟩) this.1 this.2]
  exact h.2 i x hi j u hj
/-- Headers are told by the row that holds them. -/
theorem Rd.heads {u : Value} {S T : List Hd} {w w' : World} (h : Rd encS 1 u S w) (h' : Rd encS 1 u T w') (he : ∀ o, w'.cell? ⟨eb u, o, none⟩ = w.cell? ⟨eb u, o, none⟩) : S = T := by
  have hl : S.length = T.length := by
    obtain ⟨a, c, e, _⟩ := h.1
    obtain ⟨a', c', e', _⟩ := h'.1
    rw [e] at e'
    simp only [Value.slice.injEq] at e'
    exact e'.2.1
  refine List.ext_getElem hl fun i h1 h2 => ?_
  have g1 := h.2 i S[i] (List.getElem?_eq_getElem h1) 0 (sv S[i]) rfl
  have g2 := h'.2 i T[i] (List.getElem?_eq_getElem h2) 0 (sv T[i]) rfl
  rw [he, g1] at g2
  exact sv_inj (Option.some.inj g2)
theorem Item.fixRows {lo hi : Nat} {u : Value} {RR : List (List Int)} {w : World} (h : (⟨lo, hi, fun w => ∃ TT, RowsAt u TT RR w⟩ : Item).ok w) : ∃ TT, (⟨lo, hi, RowsAt u TT RR⟩ : Item).ok w := by
  obtain ⟨TT, hT⟩ := h.now
  have hin : TT ≠ [] → lo ≤ eb u ∧ eb u < hi := fun hne => by
    match TT, hne, hT with
    | s :: TT, _, hT =>
      refine Item.rowIn h (enc := encS) (u := sv s) (us := []) rfl (fun w' ha _ => ?_) hT.1
      obtain ⟨T', h2⟩ := h.2.2 w' ha
      match T', h2 with
      | [], h2 => have := h2.2.1; have := hT.2.1; simp at *; omega
      | t :: T', h2 => exact ⟨t, T', h2.1, _, _, rfl⟩
  have same : ∀ w', Agree lo hi w w' → RowsAt u TT RR w' := fun w' ha => by
    obtain ⟨T', h2⟩ := h.2.2 w' ha
    have e : TT = T' := by
      by_cases hne : TT = []
      · subst hne
        have := h2.2.1; have := hT.2.1
        match T' with
        | [] => rfl
        | _ :: _ => simp at *; omega
      · have := hin hne
        exact hT.1.heads h2.1 (fun o => ha.cell (p := ⟨eb u, o, none⟩) this.1 this.2)
    rw [e]; exact h2
  exact ⟨TT, h.1, h.2.1, same⟩
theorem Heap.swapItem {H : List Item} {w : World} (hH : Heap H w) {n lo hi : Nat} {φ ψ : World → Prop} (hn : H[n]? = some ⟨lo, hi, φ⟩) (ho : (⟨lo, hi, ψ⟩ : Item).ok w) : Heap (H.set n ⟨lo, hi, ψ⟩) w :=
  hH.set hn ⟨rfl, rfl, rfl, Nat.le_refl _, fun _ _ _ => rfl⟩ (.inl ⟨Nat.le_refl _, Nat.le_refl _⟩) ho
theorem Heap.fixRows {H : List Item} {w : World} (hH : Heap H w) {n lo hi : Nat} {u : Value} {RR : List (List Int)} (hn : H[n]? = some ⟨lo, hi, fun w => ∃ TT, RowsAt u TT RR w⟩) : ∃ TT, Heap (H.set n ⟨lo, hi, RowsAt u TT RR⟩) w := by
  obtain ⟨TT, h⟩ := Item.fixRows (hH.okAt hn)
  exact ⟨TT, hH.swapItem hn h⟩
theorem Heap.tupRows {H : List Item} {w : World} (hH : Heap H w) {n lo hi : Nat} {p b : Value} {RR : List (List Int)} (hn : H[n]? = some ⟨lo, hi, fun w => ∃ q, (Value.tuple #[p, b] : Value) = .tuple #[q, b] ∧ ∃ TT, RowsAt q TT RR w⟩) : ∃ TT, Heap (H.set n ⟨lo, hi, RowsAt p TT RR⟩) w := by
  have h1 := hH.weaken hn (φ := fun w => ∃ TT, RowsAt p TT RR w) (fun w' h => by
    obtain ⟨q, e, h⟩ := h
    cases e
    exact h)
  have hlt : n < H.length := (List.getElem?_eq_some_iff.1 hn).1
  obtain ⟨TT, h2⟩ := Heap.fixRows (n := n) h1 (by rw [List.getElem?_set_self hlt])
  rw [List.set_set] at h2
  exact ⟨TT, h2⟩
/-- A row of its own, with its header. -/
structure RwI where
  lo : Nat
  hi : Nat
  s : Hd
  l : List Int
def rowI (r : RwI) : Item := ow r.lo r.hi 3 1 encI (sv r.s) r.l
theorem Heap.totail {L : List Item} {Rs : List RwI} {lo hi : Nat} {v : Value} {l : List Int} {s : Hd} {w : World} (h : Heap (ow lo hi 3 1 encI v l :: (L ++ Rs.map rowI)) w) (hs : v = Fip.sv s) : Heap (L ++ (Rs ++ [RwI.mk lo hi s l]).map rowI) w := by
  subst hs
  refine h.perm ?_
  rw [List.map_append, ← List.append_assoc]
  exact (List.perm_append_comm (l₁ := [_]))
theorem rows_of_tail {P : Program} {T lo hi E : Nat} (he : El P T E 1 encS) {P' : Program} {T' : Nat} (he' : El P' T' 3 1 encI) {Rs : List RwI} {u : Value} {w : World} (h : Heap (ow lo hi E 1 encS u (Rs.map (·.s)) :: Rs.map rowI) w) : RowsAt u (Rs.map (·.s)) (Rs.map (·.l)) w := by
  refine ⟨Heap.rdw he h (n := 0) rfl, by simp, fun i hi => ?_⟩
  rw [List.length_map] at hi
  have hi2 : (Rs.map (·.s))[i]? = some Rs[i].s := by rw [List.getElem?_map, List.getElem?_eq_getElem hi]; rfl
  have g1 : nth (Rs.map (·.s)) (i : Int) = Rs[i].s := by rw [nth_nat (by simpa using hi)]; simp
  have g2 : nth (Rs.map (·.l)) (i : Int) = Rs[i].l := by rw [nth_nat (by simpa using hi)]; simp
  rw [g1, g2]
  exact Heap.rdw he' h (n := i + 1) (by rw [List.getElem?_cons_succ, List.getElem?_map, List.getElem?_eq_getElem hi]; rfl)
/-- The end of a body with one mark. -/
theorem fin_1 {P : Program} {fn : Func} {N : Nat} {w0 w : World} {R : Value → World → Prop} {env : Env} {H : List Item} {v : Value} {D : Nat} (hH : Heap (base w0 :: markItem D :: H) w)
    (hres : ∀ w', Heap (base w0 :: H) w' → Results P fn N [isMark D] env w' v) (hR : ∀ w', Heap H w' → R v w') : bodyQ P fn N w0 R .ret [isMark D] env w :=
  ⟨[D], H, v, rfl, hH.perm (List.Perm.swap _ _ _), hres, hR⟩
theorem Heap.tupRd {α : Type} {enc : α → List Value} {sz : Nat} {xs : List α} {H : List Item} {w : World} (hH : Heap H w) {n lo hi : Nat} {p b : Value} (hn : H[n]? = some ⟨lo, hi, fun w => ∃ q, (Value.tuple #[p, b] : Value) = .tuple #[q, b] ∧ Rd enc sz q xs w⟩) : Heap (H.set n ⟨lo, hi, Rd enc sz p xs⟩) w :=
  hH.weaken hn (φ := Rd enc sz p xs) (fun w' h => by
    obtain ⟨q, e, h⟩ := h
    cases e
    exact h)
theorem Rd.nil {α : Type} {enc : α → List Value} {sz : Nat} {w : World} : Rd enc sz (.slice none 0 0) ([] : List α) w := ⟨⟨none, 0, rfl, Nat.le_refl _, .inl ⟨rfl, rfl⟩⟩, fun i x hi => by simp at hi⟩
end Go.Fip

set_option linter.unusedVariables false
set_option linter.unusedSimpArgs false
namespace Go.Fip
open Go.RowKit
/-- Two boxes, each with a row in it. -/
def TwoAt (t b b' : Nat) (v v' : Value) (l m : List Int) (w : World) : Prop := Bx b t [v] w ∧ Rd encI 1 v l w ∧ Bx b' t [v'] w ∧ Rd encI 1 v' m w
theorem Bx.only {t b : Nat} {v v' : Value} {w w' : World} (h : Bx b t [v] w) (h' : Bx b t [v'] w') (e : w'.heap[b]? = w.heap[b]?) : v = v' := by
  unfold Bx at h h'
  rw [h', h] at e
  simp only [Option.some.injEq, Obj.cells.injEq] at e
  obtain ⟨e, _⟩ := e
  simp only [Array.mk.injEq, List.toArray_inj, List.cons.injEq, and_true] at e
  exact e.symm
theorem Item.fixTwo {lo hi t b b' : Nat} {l m : List Int} {w : World} (h : (⟨lo, hi, fun w => ∃ v v', TwoAt t b b' v v' l m w⟩ : Item).ok w) : ∃ v v', (⟨lo, hi, TwoAt t b b' v v' l m⟩ : Item).ok w := by
  obtain ⟨v, v', hT⟩ := h.now
  have hb := Item.within h hT.1 (fun w' h2 _ hx => by
    obtain ⟨_, _, h3, _⟩ := h2
    unfold Bx at h3; rw [h3] at hx; cases hx)
  have hb' := Item.within h hT.2.2.1 (fun w' h2 _ hx => by
    obtain ⟨_, _, _, _, h3, _⟩ := h2
    unfold Bx at h3; rw [h3] at hx; cases hx)
  refine ⟨v, v', h.1, h.2.1, fun w' ha => ?_⟩
  obtain ⟨u, u', h2⟩ := h.2.2 w' ha
  rw [hT.1.only h2.1 (ha.block b hb.1 hb.2), hT.2.2.1.only h2.2.2.1 (ha.block b' hb'.1 hb'.2)]
  exact h2
theorem Heap.fixTwo {H : List Item} {w : World} (hH : Heap H w) {n lo hi t b b' : Nat} {e : Value} {l m : List Int}
    (hn : H[n]? = some ⟨lo, hi, fun w => ∃ c c' v v', (Value.tuple #[.pointer (some ⟨b, 0, none⟩), .pointer (some ⟨b', 0, none⟩), e] : Value) = .tuple #[.pointer (some ⟨c, 0, none⟩), .pointer (some ⟨c', 0, none⟩), e] ∧ TwoAt t c c' v v' l m w⟩) : ∃ v v', Heap (H.set n ⟨lo, hi, TwoAt t b b' v v' l m⟩) w := by
  have h1 := hH.weaken hn (φ := fun w => ∃ v v', TwoAt t b b' v v' l m w) (fun w' h => by
    obtain ⟨c, c', v, v', e, h⟩ := h
    cases e
    exact ⟨v, v', h⟩)
  have hlt : n < H.length := (List.getElem?_eq_some_iff.1 hn).1
  obtain ⟨v, v', h2⟩ := Item.fixTwo (h1.okAt (n := n) (by rw [List.getElem?_set_self hlt]))
  have h3 := h1.swapItem (n := n) (by rw [List.getElem?_set_self hlt]) h2
  rw [List.set_set] at h3
  exact ⟨v, v', h3⟩
end Go.Fip

set_option linter.unusedVariables false
set_option linter.unusedSimpArgs false
set_option linter.unusedSectionVars false
set_option linter.unnecessarySimpa false
namespace Go.Fip
open Go.ChangeShapes Go.WideShapes Go.ChangeAt Go.RowKit
section
variable {H : Type} {enc : TypeId × Value → H} {P : Program} {w : World}
/-- A slice of integers that came in. -/
theorem cell_ints {t e b : Nat} {k : IntKind} (ht : P.underlying t = some (.slice e)) (he : P.underlying e = some (.int k)) (hc : P.cellsOf e = 1) {fuel : Nat} {v : Value} {x : DataW H × List MemPlace}
    (hok : Cell.okWide P w .any b t v) (h : DataW.trod enc P w 0 (fun _ => true) true fuel t [v] = some x) : ∃ xs : List Int, Rd (fun n => [.int k n]) 1 v xs w ∧ ∀ n ∈ xs, (Lit.int k n).wf = true := by
  rcases open_ints ht he hc h with ⟨e1, _⟩ | ⟨a, len, cap, zs, e1, _, h2, _, h4, _, h6, h7⟩
  · cases e1
    exact ⟨[], ⟨⟨none, 0, rfl, Nat.le_refl _, .inl ⟨rfl, rfl⟩⟩, fun i x hx => by simp at hx⟩, fun n hn => by cases hn⟩
  · cases e1
    simp [Cell.okWide, Cell.ok, ht] at hok
    have hsp : a.spot = none := hok.2.2.2.1
    obtain ⟨ab, ao, as⟩ := a
    simp only at hsp
    subst hsp
    simp only [if_true] at h4
    refine ⟨zs.take len, ⟨⟨some ⟨ab, ao, none⟩, cap, by rw [List.length_take]; congr 1; omega, by rw [List.length_take]; omega, .inr ⟨ab, ao, rfl⟩⟩, fun i x hx j u hj => ?_⟩, fun n hn => h7 n (List.mem_of_mem_take hn)⟩
    obtain ⟨hlt, hx⟩ := List.getElem?_eq_some_iff.1 hx
    rw [List.length_take] at hlt
    rw [List.getElem_take] at hx
    match j, hj with
    | 0, hj =>
      simp at hj
      subst hj
      have h8 := h6 i (by omega)
      rw [List.getD_eq_getElem?_getD, List.getElem?_eq_getElem (by omega), Option.getD_some, hx] at h8
      simp only [eb, eo, Nat.mul_one, Nat.add_zero]
      rw [← h8]
      unfold Addr.add
      split
      · subst_vars; simp
      · rfl
    | j + 1, hj => simp at hj
/-- A slice of structs of two integers that came in. -/
theorem cell_pairs {t e t0 t1 b : Nat} {k : IntKind} {f0 f1 : Field} (ht : P.underlying t = some (.slice e)) (he : P.underlying e = some (.struct #[f0, f1])) (ce : P.cellsOf e = 2) (o0 : f0.offset = 0) (o1 : f1.offset = 1) (c0 : P.cellsOf f0.type = 1) (c1 : P.cellsOf f1.type = 1)
    (hk0 : P.underlying f0.type = some (.int k)) (hk1 : P.underlying f1.type = some (.int k)) {fuel : Nat} {v : Value} {x : DataW H × List MemPlace}
    (hok : Cell.okWide P w .any b t v) (h : DataW.trod enc P w 0 (fun _ => true) true fuel t [v] = some x) : ∃ xs : List (Int × Int), Rd (fun p => [.int k p.1, .int k p.2]) 2 v xs w ∧ ∀ p ∈ xs, (Lit.int k p.1).wf = true ∧ (Lit.int k p.2).wf = true := by
  rcases Go.Deep.open_slice_pairs ht he ce o0 o1 c0 c1 h with ⟨e1, _⟩ | ⟨a, len, cap, m, n, V0, V1, D0, D1, P0, P1, e1, _, h2, _, h4, _, h6⟩
  · cases e1
    exact ⟨[], ⟨⟨none, 0, rfl, Nat.le_refl _, .inl ⟨rfl, rfl⟩⟩, fun i x hx => by simp at hx⟩, fun n hn => by cases hn⟩
  · cases e1
    simp [Cell.okWide, Cell.ok, ht] at hok
    have hsp : a.spot = none := hok.2.2.2.1
    obtain ⟨ab, ao, as⟩ := a
    simp only at hsp
    subst hsp
    simp only [if_true] at h4
    have each : ∀ i, i < len → ∃ p : Int × Int, V0 i = .int k p.1 ∧ V1 i = .int k p.2 ∧ (Lit.int k p.1).wf = true ∧ (Lit.int k p.2).wf = true := fun i hi => by
      obtain ⟨_, _, h9, h10⟩ := h6 i (by omega)
      obtain ⟨n0, e0, _, w0⟩ := DataW.trod_int hk0 h9
      obtain ⟨n1, e1, _, w1⟩ := DataW.trod_int hk1 h10
      simp only [List.cons.injEq, and_true] at e0 e1
      exact ⟨(n0, n1), e0, e1, w0, w1⟩
    obtain ⟨p, hp⟩ := Go.Deep.choose_lt each
    refine ⟨(List.range len).map p, ⟨⟨some ⟨ab, ao, none⟩, cap, by simp, by simpa using h2, .inr ⟨ab, ao, rfl⟩⟩, fun i x hx j u hj => ?_⟩, fun q hq => ?_⟩
    · rw [List.getElem?_map] at hx
      by_cases hi : i < len
      · rw [List.getElem?_range hi] at hx
        simp at hx
        subst hx
        obtain ⟨h9, h10, _, _⟩ := h6 i (by omega)
        obtain ⟨q0, q1, _, _⟩ := hp i hi
        have ea : ∀ o : Nat, (⟨ab, ao, none⟩ : Addr).add o = ⟨ab, ao + o, none⟩ := fun o => by
          unfold Addr.add
          split
          · subst_vars; rfl
          · rfl
        rw [ea] at h9 h10
        match j, hj with
        | 0, hj => simp at hj; subst hj; rw [← q0]; exact h9
        | 1, hj => simp at hj; subst hj; rw [← q1]; simp only [eb, eo]; rw [Nat.add_assoc]; exact h10
        | j + 2, hj => simp at hj
      · rw [List.getElem?_eq_none (by simp; omega)] at hx
        simp at hx
    · rw [List.mem_map] at hq
      obtain ⟨i, hi, rfl⟩ := hq
      have := hp i (List.mem_range.1 hi)
      exact ⟨this.2.2.1, this.2.2.2⟩
theorem slice_cells {t e b : Nat} (ht : P.underlying t = some (.slice e)) {v : Value} (hok : Value.okWide P w .any b t v) : Cell.okWide P w .any b t v ∧ v.cells.toList = [v] := by
  simp only [Value.okWide, ht] at hok
  refine ⟨hok, ?_⟩
  cases v <;> simp [Cell.okWide, Cell.ok, ht] at hok
  rfl
theorem arg_ints {t e b : Nat} {k : IntKind} (ht : P.underlying t = some (.slice e)) (he : P.underlying e = some (.int k)) (hc : P.cellsOf e = 1) {v : Value} {d : DataW H} {ps : List MemPlace}
    (hok : Value.okWide P w .any b t v) (h : DataW.Trod enc P w 0 (fun _ => true) true t v d ps) : ∃ xs : List Int, Rd (fun n => [.int k n]) 1 v xs w ∧ ∀ n ∈ xs, (Lit.int k n).wf = true := by
  obtain ⟨fuel, h⟩ := h
  obtain ⟨h1, h2⟩ := slice_cells ht hok
  rw [h2] at h
  exact cell_ints ht he hc h1 h
theorem arg_pairs {t e b : Nat} {k : IntKind} {f0 f1 : Field} (ht : P.underlying t = some (.slice e)) (he : P.underlying e = some (.struct #[f0, f1])) (ce : P.cellsOf e = 2) (o0 : f0.offset = 0) (o1 : f1.offset = 1) (c0 : P.cellsOf f0.type = 1) (c1 : P.cellsOf f1.type = 1)
    (hk0 : P.underlying f0.type = some (.int k)) (hk1 : P.underlying f1.type = some (.int k)) {v : Value} {d : DataW H} {ps : List MemPlace}
    (hok : Value.okWide P w .any b t v) (h : DataW.Trod enc P w 0 (fun _ => true) true t v d ps) : ∃ xs : List (Int × Int), Rd (fun p => [.int k p.1, .int k p.2]) 2 v xs w ∧ ∀ p ∈ xs, (Lit.int k p.1).wf = true ∧ (Lit.int k p.2).wf = true := by
  obtain ⟨fuel, h⟩ := h
  obtain ⟨h1, h2⟩ := slice_cells ht hok
  rw [h2] at h
  exact cell_pairs (t0 := 0) (t1 := 0) ht he ce o0 o1 c0 c1 hk0 hk1 h1 h
/-- A struct of three slices of integers that came in. -/
theorem arg_three {t b : Nat} {k : IntKind} {f0 f1 f2 : Field} {e0 : Nat} (ht : P.underlying t = some (.struct #[f0, f1, f2])) (o0 : f0.offset = 0) (o1 : f1.offset = 1) (o2 : f2.offset = 2) (s0 : P.underlying f0.type = some (.slice e0)) (s1 : P.underlying f1.type = some (.slice e0)) (s2 : P.underlying f2.type = some (.slice e0))
    (he : P.underlying e0 = some (.int k)) (hc : P.cellsOf e0 = 1) (c0 : P.cellsOf f0.type = 1) (c1 : P.cellsOf f1.type = 1) (c2 : P.cellsOf f2.type = 1) (hct : P.cellTypes P.depth t = some [f0.type, f1.type, f2.type]) (hcs : P.cellsOf t = 3) {v : Value} {d : DataW H} {ps : List MemPlace}
    (hok : Value.okWide P w .any b t v) (h : DataW.Trod enc P w 0 (fun _ => true) true t v d ps) : ∃ (x y z : Value) (X Y Z : List Int), v = .agg #[x, y, z] ∧ Rd (fun n => [.int k n]) 1 x X w ∧ Rd (fun n => [.int k n]) 1 y Y w ∧ Rd (fun n => [.int k n]) 1 z Z w ∧
      (∀ n ∈ X, (Lit.int k n).wf = true) ∧ (∀ n ∈ Y, (Lit.int k n).wf = true) ∧ ∀ n ∈ Z, (Lit.int k n).wf = true := by
  obtain ⟨fuel, h⟩ := h
  simp only [Value.okWide, ht] at hok
  obtain ⟨cs, rfl, hsz, ts, hts, _, hrow⟩ := hok
  rw [hct] at hts
  cases hts
  rw [hcs] at hsz
  obtain ⟨x, y, z, rfl⟩ : ∃ x y z, cs = #[x, y, z] := by
    obtain ⟨l⟩ := cs
    match l, hsz with
    | [x, y, z], _ => exact ⟨x, y, z, rfl⟩
  have hcells : (Value.agg #[x, y, z]).cells.toList = [x, y, z] := rfl
  rw [hcells] at h
  obtain ⟨xs, n, _, _, _, _, hf⟩ := DataW.trod_struct ht h
  have g0 := hf 0 f0 rfl
  have g1 := hf 1 f1 rfl
  have g2 := hf 2 f2 rfl
  have hl : xs.length = 3 := by assumption
  match xs, hl with
  | [a0, a1, a2], _ =>
    simp [o0, o1, o2, c0, c1, c2] at g0 g1 g2
    obtain ⟨u0, hu0, k0⟩ := hrow 0 x rfl
    obtain ⟨u1, hu1, k1⟩ := hrow 1 y rfl
    obtain ⟨u2, hu2, k2⟩ := hrow 2 z rfl
    simp at hu0 hu1 hu2
    subst hu0 hu1 hu2
    obtain ⟨X, hX, wX⟩ := cell_ints s0 he hc k0 g0
    obtain ⟨Y, hY, wY⟩ := cell_ints s1 he hc k1 g1
    obtain ⟨Z, hZ, wZ⟩ := cell_ints s2 he hc k2 g2
    exact ⟨x, y, z, X, Y, Z, rfl, hX, hY, hZ, wX, wY, wZ⟩
/-- Of what was there nothing has turned: the arguments read as they did. -/
theorem trodAll_below (hl : laidOutB P = true) {W W' : World} (hb : Below W.heap.size W W') : ∀ (ts : List TypeId) (vs : List Value) (ds : List (DataW H)) (ps : List MemPlace), (ts.all fun t => P.readableRec t && decide (t < P.types.size)) = true →
    DataW.TrodAll enc P W 0 (fun _ => true) true ts vs ds ps → (∀ x ∈ ps, x.block < W.heap.size) → DataW.TrodAll enc P W' 0 (fun b => decide (b < W.heap.size)) true ts vs ds ps
  | [], vs, ds, ps, _, h, _ => by
    obtain ⟨rfl, rfl, rfl⟩ := trodAll_nil h
    rfl
  | t :: ts, vs, ds, ps, hr, h, hlt => by
    obtain ⟨v, vs, d, ds, p, q, rfl, rfl, rfl, h1, h2⟩ := trodAll_cons h
    simp only [List.all_cons, Bool.and_eq_true, decide_eq_true_eq] at hr
    exact ⟨p, q, Below.trod hl hr.1.1 hr.1.2 h1 hb (fun x hx => hlt x (List.mem_append_left _ hx)), trodAll_below hl hb ts vs ds q (by simpa using hr.2) h2 (fun x hx => hlt x (List.mem_append_right _ hx)), rfl⟩
/-- Behind a law that returned true and turned nothing of what was there. -/
theorem law_post {f : Func} {s : ChangeSpec} {apart fresh : Bool} {W W' : World} {args : Array Value} {ds : List (DataW H)} {before p : List MemPlace} {tb : TypeId} (hl : laidOutB P = true) (hb : Below W.heap.size W W')
    (hr : (f.params.toList.all fun t => P.readableRec t && decide (t < P.types.size)) = true) (hv : s.vars = []) (hW : DataW.Whole enc P f.params.toList s.vars apart W args.toList ds [] before)
    (hA : DataW.TrodAll enc P W 0 (fun _ => true) true f.params.toList args.toList ds p) (hp : before = p) (hrt : f.resultTypes = #[tb]) (htb : P.underlying tb = some .bool) (hs : s.fn H (ds ++ []) = { results := [.lit (.bool true)], args := ds }) :
    s.post enc P f apart fresh false false W args (.bool true) W' := by
  subst hp
  refine ⟨ds, [], before, [], before, [], hW, ?_, ?_, ?_, Below.frame hb _, fun h => by cases h⟩
  · rw [hs, hrt]; exact trodAll_mk1 (shut_bool htb _)
  · rw [hs]; exact trodAll_below hl hb _ _ _ _ hr hA (fun x hx => by simpa using hW.lt x hx)
  · rw [hs, hv]; rfl
end
end Go.Fip

set_option linter.unusedVariables false
set_option linter.unusedSimpArgs false
set_option linter.unusedSectionVars false
namespace Go.Fip
/-- 'copy(d[:], u)', d an array of the function's own. -/
theorem op_copyA {r : Option Nat} {P : Program} {N : Nat} {ds : List Deferred} {env : Env} {w : World} {Q : Post} {all : Array Oper} {rest : List Oper} {H : List Item} {x y : Operand} {dst : Option Nat} {ty : TypeId} {pos : String} {after : Array Edge} {T T2 E n b t m : Nat} {u : Value} (hE : El P T E 1 encI)
    {C ys : List Int} (hs : ev env x = some (.slice (some ⟨b, 0, none⟩) m m)) (hx : ev env y = some u) (hm : C.length = m) (hd : dstOK N dst = true) (hH : Heap H w) (hn : H[n]? = some (bx b t (ints C))) (hu : Rd encI 1 u ys w) (hb0 : ys.length ≤ m)
    (h : ∀ w', Heap (H.set n (bx b t (ints (ys ++ C.drop ys.length)))) w' → Ops r P N all rest ds (putE dst (.int .i64 (ys.length : Int)) env) w' Q) :
    Ops r P N all (⟨dst, .call ⟨.builtin .copy, #[x, y], #[T, T2]⟩, ty, pos, after, none⟩ :: rest) ds env w Q := by
  have hb : w.heap[b]? = some (.cells (ints C).toArray t (0, 0)) := hH.get hn
  have hsize := run_size (P := P) hE.slice.2
  obtain ⟨a2, c2, rfl, hc2, hu2⟩ := hu.1
  have hmin : Nat.min ys.length m = ys.length := Nat.min_eq_left hb0
  have hf : (Builtin.firstCells 1 ys.length (.slice a2 ys.length c2)).run P w = .ok (ys.flatMap encI).toArray w := by
    rcases hu2 with ⟨rfl, rfl⟩ | ⟨b, o, rfl⟩
    · have hy0 : ys = [] := List.eq_nil_of_length_eq_zero (by omega)
      subst hy0
      simp [Builtin.firstCells]
    · exact run_firstCells_some (P := P) w 1 ys.length ⟨b, o, none⟩ ys.length c2 _ (length_flatMap_enc hE.len ys) (hu.flat hE.len hE.pos)
  have e : ys.flatMap encI = ints ys := by unfold ints encI; rw [← List.map_eq_flatMap]
  rw [e] at hf
  have hst := run_storeCells_at (P := P) b 0 t (ints ys) 0 (ints C).toArray w hb (by simp [ints_len, hm]; exact hb0) (fun u hu => List.all_eq_true.1 ints_one u hu)
  have hnew : ((ints C).toArray.toList.take (0 + 0) ++ ints ys ++ (ints C).toArray.toList.drop (0 + 0 + (ints ys).length)).toArray = (ints (ys ++ C.drop ys.length)).toArray := by
    congr 1
    simp [ints_len, ints]
  rw [hnew] at hst
  refine ops_valO hd (fun c hc => by cases hc) (fun a ha => ?_) (h _ (hH.set hn (off_setRow w b _) (.inl ⟨Nat.le_refl _, Nat.le_refl _⟩) (bx_ok (setRow_heap w b _ _ t (0, 0) hb))))
  simp only [execOp, resolve, invoke, builtin, Builtin.copy_, Sem.run_bind, Sem.run_pure, Result.andThen, List.map_toArray, List.map_cons, List.map_nil, ha.ev hs, ha.ev hx]
  simp [run_underlying hE.und, Builtin.lenOf, hsize, hf, goInt, Result.andThen, hst, hmin]
end Go.Fip

set_option linter.unusedVariables false
set_option linter.unusedSimpArgs false
set_option linter.unusedSectionVars false
namespace Go.Fip
theorem Rd.cut3n {α : Type} {enc : α → List Value} {sz : Nat} {v : Value} {xs : List α} {w : World} (h : Rd enc sz v xs w) : Rd enc sz (cutv3 v sz 0 xs.length xs.length) xs w := by
  have h2 := h.cut3 (lo := 0) (hi := xs.length) (m := xs.length) (Nat.zero_le _) (Nat.le_refl _) (Nat.le_refl _) (fun a n c e => by
    obtain ⟨a', c', e', hc, _⟩ := h.is
    rw [e'] at e
    cases e
    exact hc)
  simpa using h2
theorem cut3_shape {v : Value} {sz n : Nat} (h : SliceIs v n) : ∃ a, cutv3 v sz 0 n n = .slice a n n := by
  obtain ⟨a, c, rfl, _⟩ := h
  exact ⟨_, rfl⟩
end Go.Fip

set_option linter.unusedVariables false
set_option linter.unusedSimpArgs false
set_option linter.unusedSectionVars false
namespace Go.Fip
/-- A map whose keys are structs of two integers. -/
theorem mapT_two {P : Program} {MT KT ET : Nat} {f g : Field} {vv : Int → Value} {z : Int} (hu : P.underlying MT = some (.map KT ET)) (hk : P.underlying KT = some (.struct #[f, g])) (hf' : intField P 0 f = true) (hg2 : intField P 1 g = true) (hs : P.stoodInHeld KT = false)
    (hg : P.eqGuardType P.depth KT = false) (hz : ∀ w, (zeroValue ET).run P w = .ok (vv z) w) : MapT P MT KT ET (fun n : Int × Int => .agg #[.int .i64 n.1, .int .i64 n.2]) vv z := by
  have hf := intField_of hf'
  have hgi := intField_of hg2
  have hfo : P.fieldsOf KT = #[f, g] := by simp [Program.fieldsOf, hk]
  refine ⟨hu, ⟨_, hk, fun _ _ => rfl⟩, fun a b w => ?_, fun a w e => ?_, hz, fun a => ?_⟩
  · have := (eqi_struct (n := 2) (fs := [f, g]) (by rw [hfo]; exact hk) (by rw [hfo]) hs hg rfl (fun i f' hi => by
      match i with
      | 0 => simp at hi; subst hi; exact hf
      | 1 => simp at hi; subst hi; exact hgi
      | i + 2 => simp at hi)).eq [a.1, a.2] [b.1, b.2] w rfl rfl
    simpa [ag, Prod.ext_iff] using this
  · obtain ⟨h1, h2, h3, h4⟩ := hf
    obtain ⟨k1, k2, k3, k4⟩ := hgi
    have e1 : (part f.type #[Value.int .i64 a.1, Value.int .i64 a.2] 0).run P w = .ok (.int .i64 a.1) w := by simp [part, h3 w, Result.andThen]
    have e1' : (part g.type #[Value.int .i64 a.1, Value.int .i64 a.2] 1).run P w = .ok (.int .i64 a.2) w := by simp [part, k3 w, Result.andThen]
    have key : ∀ d, (Instr.checkKey e (d + 2) KT (.agg #[.int .i64 a.1, .int .i64 a.2])).run P w = .ok () w := fun d => by
      have e2 : (Instr.checkKey e (d + 1) f.type (.int .i64 a.1)).run P w = .ok () w := by simp [Instr.checkKey, run_underlying h4, Result.andThen]
      have e3 : (Instr.checkKey e (d + 1) g.type (.int .i64 a.2)).run P w = .ok () w := by simp [Instr.checkKey, run_underlying k4, Result.andThen]
      rw [Instr.checkKey]
      simp [run_underlying hk, Result.andThen, h1, h2, e1, e2, k1, k2, e1', e3]
    exact key 9998
  · have key : ∀ d, Instr.sameBits (d + 1) (.agg #[.int .i64 a.1, .int .i64 a.2]) (.agg #[.int .i64 a.1, .int .i64 a.2]) = true := fun d => by simp [Instr.sameBits]
    exact key 9999
end Go.Fip

set_option linter.unusedVariables false
set_option linter.unusedSimpArgs false
set_option linter.unusedSectionVars false
namespace Go.Fip
open Go.RowKit
section
variable {K V : Type} [DecidableEq K] {MT KT ET : Nat} {kv : K → Value} {vv : V → Value} {z : V}
variable {r : Option Nat} {P : Program} {N : Nat} {ds : List Deferred} {env : Env} {w : World} {Q : Post} {all : Array Oper} {rest : List Oper} {H : List Item} {x y c : Operand} {S : World → Prop}
  {d : Nat} {ty : TypeId} {pos : String} {after : Array Edge}
/-- A deletion in a map whose entries lie open. -/
theorem run_deleteO {ty' : TypeId} (hM : MapT P MT KT ET kv vv z) {b clock : Nat} {es : Array MapEntry} {m : List (K × V)} (hb : w.heap[b]? = some (.map es clock)) (he : Ents kv vv es clock m) (k : K) :
    ∃ es', (Builtin.delete_ #[MT, KT] ty' #[.map (some b), kv k]).run P w = .ok (.tuple #[]) (w.putObj b (.map es' clock)) ∧ Ents kv vv es' clock (del k m) ∧ es'.toList.Sublist es.toList := by
  obtain ⟨h2, h3, h4, h5⟩ := he
  have h1 := hb
  have hf := run_findKey (w := w) hM k es.toList m h2
  have hlt := (Array.getElem?_eq_some_iff.1 h1).1
  cases hx : findI k m 0 with
  | none =>
    rw [hx] at hf
    simp only [Option.map_none] at hf
    have hnm := findI_none hx
    have hdel : del k m = m := by
      clear h2 h3 hf hx
      induction m with
      | nil => rfl
      | cons p m ih =>
        simp only [List.map_cons, List.mem_cons, not_or] at hnm
        simp [del, hnm.1, ih hnm.2]
    refine ⟨es, ?_, ⟨by rw [hdel]; exact h2, by rw [hdel]; exact h3, h4, h5⟩, List.Sublist.refl _⟩
    simp [Builtin.delete_, run_underlying hM.und, run_getMap h1, hM.ck, hf, run_setMap _ h1, Result.andThen]
  | some p =>
    obtain ⟨j, u⟩ := p
    rw [hx] at hf
    simp only [Option.map_some] at hf
    obtain ⟨a, hb, hc, _, hd⟩ := findI_some (v := u) (val := vv u) h2 hx
    simp only [Nat.sub_zero] at hb hc hd
    have hes : (es.eraseIdxIfInBounds j).toList = es.toList.eraseIdx j := by
      simp only [Array.eraseIdxIfInBounds]
      split
      · simp
      · rename_i hge; exact absurd (by simpa using hb) hge
    refine ⟨es.eraseIdxIfInBounds j, ?_, ⟨by rw [hes]; exact hd, h3.sublist (keys_del k m), ?_, ?_⟩, by rw [hes]; exact List.eraseIdx_sublist _ _⟩
    · simp [Builtin.delete_, run_underlying hM.und, run_getMap h1, hM.ck, hf, run_setMap _ h1, Result.andThen]
    · rw [hes]; exact h4.sublist ((List.eraseIdx_sublist _ _).map _)
    · intro e he
      rw [hes] at he
      exact h5 e ((List.eraseIdx_sublist _ _).subset he)
theorem op_deleteO (hM : MapT P MT KT ET kv vv z) {b n clock : Nat} {es : Array MapEntry} {m : List (K × V)} {k : K} (he : Ents kv vv es clock m) (hx : ev env x = some (.map (some b))) (hy : ev env y = some (kv k)) (hH : Heap H w) (hn : H[n]? = some (raw b (.map es clock)))
    (h : ∀ es' w', Ents kv vv es' clock (del k m) → es'.toList.Sublist es.toList → Heap (H.set n (raw b (.map es' clock))) w' → Ops r P N all rest ds env w' Q) :
    Ops r P N all (⟨none, .call ⟨.builtin .delete, #[x, y], #[MT, KT]⟩, ty, pos, after, none⟩ :: rest) ds env w Q := by
  have hb : w.heap[b]? = some (.map es clock) := hH.get hn
  obtain ⟨es', h1, h2, h3⟩ := run_deleteO (P := P) (ty' := ty) hM hb he k
  have hlt := (Array.getElem?_eq_some_iff.1 hb).1
  refine ops_unit (fun c hc => by cases hc) (fun a ha => .inr ⟨.tuple #[], ?_⟩) (h es' _ h2 h3 (hH.set hn (putObj_off w b _) (.inl ⟨Nat.le_refl _, Nat.le_refl _⟩) (raw_ok (World.putObj_heap_same hlt))))
  simp only [execOp, resolve, invoke, builtin, Sem.run_bind, Sem.run_pure, Result.andThen, List.map_toArray, List.map_cons, List.map_nil, ha.ev hx, ha.ev hy, h1]
end
section
variable {K V : Type} [DecidableEq K] {kv : K → Value} {vv : V → Value}
theorem Ents.mp {es : Array MapEntry} {clock b : Nat} {m : List (K × V)} {w : World} (h : Ents kv vv es clock m) (hb : w.heap[b]? = some (.map es clock)) : Mp kv vv b m w := ⟨es, clock, hb, h.views, h.nd, h.bornNd, h.born⟩
theorem Mp.ents {b : Nat} {m : List (K × V)} {w : World} (h : Mp kv vv b m w) : ∃ es clock, w.heap[b]? = some (.map es clock) ∧ Ents kv vv es clock m := by
  obtain ⟨es, clock, h1, h2, h3, h4, h5⟩ := h
  exact ⟨es, clock, h1, ⟨h2, h3, h4, h5⟩⟩
/-- A box whose second cell is a map. -/
def RowAt (t b : Nat) (v : Value) (mb : Nat) (es : Array MapEntry) (clock : Nat) (w : World) : Prop := Bx b t [v, .map (some mb)] w ∧ w.heap[mb]? = some (.map es clock)
/-- What a box with a map in it says of some map of which F holds. -/
def RowEx (kv : K → Value) (vv : V → Value) (F : List (K × V) → Prop) (t b : Nat) (v : Value) (w : World) : Prop := ∃ mb m, Bx b t [v, .map (some mb)] w ∧ Mp kv vv mb m w ∧ F m
theorem Heap.fixMap {t n lo hi b : Nat} {v : Value} {F : List (K × V) → Prop} {φ : World → Prop} {H : List Item} {w : World} (hH : Heap H w) (hn : H[n]? = some ⟨lo, hi, φ⟩) (hφ : ∀ w', φ w' → RowEx kv vv F t b v w') :
    ∃ mb es clock m, Ents kv vv es clock m ∧ F m ∧ Heap (H.set n ⟨lo, hi, RowAt t b v mb es clock⟩) w := by
  have hok := hH.okAt hn
  obtain ⟨mb, m, hbx, hmp, hF⟩ := hφ w hok.now
  obtain ⟨es, clock, hm, he⟩ := hmp.ents
  have hbin := Item.within hok hbx (fun w' h _ hx => by
    obtain ⟨_, _, hb', _⟩ := hφ w' h
    unfold Bx at hb'
    rw [hb'] at hx; cases hx)
  have hmb : mb ≠ b := fun e => by
    unfold Bx at hbx
    rw [e, hbx] at hm; cases hm
  have hmin := Item.within hok hm (fun w' h hoth hx => by
    obtain ⟨mb', m', hb', hmp', _⟩ := hφ w' h
    obtain ⟨es', clock', hm', _⟩ := hmp'.ents
    have h5 := hoth b (fun e => hmb e.symm)
    unfold Bx at hb' hbx
    rw [hb', hbx] at h5
    simp at h5
    rw [h5] at hm'
    rw [hm'] at hx; cases hx)
  refine ⟨mb, es, clock, m, he, hF, hH.swapItem hn ⟨hok.1, hok.2.1, fun w' ha => ⟨?_, ?_⟩⟩⟩
  · unfold Bx at hbx ⊢
    rw [ha.block b hbin.1 hbin.2]; exact hbx
  · rw [ha.block mb hmin.1 hmin.2]; exact hm
end
end Go.Fip

set_option linter.unusedVariables false
set_option linter.unusedSimpArgs false
set_option linter.unusedSectionVars false
namespace Go.Fip
open Go.RowKit
/-- What a body must achieve that turns one block; with marks. -/
def bodyQK (P : Program) (fn : Func) (N : Nat) (w0 : World) (g : Nat) (R : Value → World → Prop) : Post
  | .normal, ds, env, w | .ret, ds, env, w => ∃ (Ds : List Nat) (φ : World → Prop) (H : List Item) (v : Value), ds = Ds.map isMark ∧ Heap (Ds.map markItem ++ ⟨g, g + 1, φ⟩ :: restL w0 g :: restR w0 g :: H) w ∧
      (∀ w', Heap (⟨g, g + 1, φ⟩ :: restL w0 g :: restR w0 g :: H) w' → Results P fn N ds env w' v) ∧ ∀ w', φ w' → R v w'
  | _, _, _, _ => False
theorem finK {P : Program} {fn : Func} {N g : Nat} {w0 w : World} {φ : World → Prop} {R : Value → World → Prop} {env : Env} {v : Value} (Ds : List Nat) (hH : Heap (⟨g, g + 1, φ⟩ :: restL w0 g :: restR w0 g :: Ds.map markItem) w)
    (hres : ∀ w', Results P fn N (Ds.map isMark) env w' v) (hR : ∀ w', φ w' → R v w') : bodyQK P fn N w0 g R .ret (Ds.map isMark) env w := by
  refine ⟨Ds, φ, [], v, rfl, hH.perm ?_, fun w' _ => hres w', hR⟩
  exact (List.perm_append_comm (l₁ := [_, _, _]))
theorem leaves_marksK {P : Program} {fn : Func} {w0 : World} {g : Nat} {R : Value → World → Prop} {v : Value} {φ : World → Prop} {H : List Item} (tmps : Array Value)
    (hres : ∀ w', Heap (⟨g, g + 1, φ⟩ :: restL w0 g :: restR w0 g :: H) w' → (results fn tmps).run P w' = .ok v w') (hR : ∀ w', φ w' → R v w') : ∀ (Ds : List Nat) (w : World),
    Heap (Ds.map markItem ++ ⟨g, g + 1, φ⟩ :: restL w0 g :: restR w0 g :: H) w →
    LeavesInM Fence.wide 0 P fn tmps (fun e w' => ∃ v, e = .returned v ∧ Off g (g + 1) w0 w' ∧ ∀ w'', Agree g (g + 1) w' w'' → R v w'') (Ds.map isMark) .returning w
  | [], w, hH => by
    have hL : Agree 0 g w0 w := hH.get (n := 1) rfl
    have hRr : Agree (g + 1) w0.heap.size w0 w := hH.get (n := 2) rfl
    refine ⟨v, hres w hH, v, rfl, ⟨hL.os, hL.tape, hL.output, hL.size, fun k hk hne => ?_⟩, fun w'' ha => hR w'' ((hH.okAt (n := 0) rfl).2.2 w'' ha)⟩
    rcases Nat.lt_or_ge k g with h1 | h1
    · exact hL.block k (Nat.zero_le _) h1
    · exact hRr.block k (by omega) hk
  | D :: Ds, w, hH => by
    have hD : w.heap[D]? = some (.deferred (some [])) := hH.get (n := 0) rfl
    have hlt : D < w.heap.size := (Array.getElem?_eq_some_iff.1 hD).1
    refine ⟨by simp, .inl ⟨D, _, rfl, run_takeDeferred hD, ?_⟩⟩
    have h0 : Heap (Ds.map markItem ++ ⟨g, g + 1, φ⟩ :: restL w0 g :: restR w0 g :: H) (w.putObj D (.deferred none)) := by
      have := hH.set (n := 0) (i := markItem D) (j := ⟨D, D + 1, fun _ => True⟩) (w' := w.putObj D (.deferred none)) rfl (putObj_off w D _) (.inl ⟨Nat.le_refl _, Nat.le_refl _⟩) ⟨by simp, by simp; omega, fun _ _ => trivial⟩
      exact this.sub (List.sublist_cons_self _ _)
    exact leaves_marksK tmps hres hR Ds _ h0
theorem fnK_of {P : Program} {f : FuncId} {fn : Func} {c : Code} {args : List Value} {w : World} {g : Nat} {φ : World → Prop} {R : Value → World → Prop} {N : Nat}
    (hf : P.funcs[f]? = some fn) (hb : fn.body = some c) (hen : ∀ (as : Array Value) (w' : World), (callFunc f as).run P w' = .ok (.enter f as) w')
    (hN : fn.ntmps = N) (hargs : Nat.ble args.length N = true) (hrow : (⟨g, g + 1, φ⟩ : Item).ok w)
    (h : Heap [⟨g, g + 1, φ⟩, restL w g, restR w g] w → Holds none P N c [] (argEnv 0 args) w (bodyQK P fn N w g R)) : FnM P f args.toArray w g R := by
  have hlt : g + 1 ≤ w.heap.size := hrow.2.1
  have hH : Heap [⟨g, g + 1, φ⟩, restL w g, restR w g] w := by
    refine ⟨fun i hi => ?_, ?_⟩
    · simp at hi
      rcases hi with rfl | rfl | rfl
      · exact hrow
      · exact ⟨Nat.zero_le _, by show g ≤ _; omega, fun w' h => h⟩
      · exact ⟨hlt, Nat.le_refl _, fun w' h => h⟩
    · simp [Item.apart, restL, restR]
  refine ⟨hen _, callsIn_of_wp_marks hf hb trivial ?_⟩
  have hargs' : args.length ≤ N := by simpa [Nat.ble_eq] using hargs
  refine Go.wpIn_mono (h hH { tmps := args.toArray ++ Array.replicate (fn.ntmps - args.toArray.size) undef, defers := [] } ⟨by simp [hN]; omega, rfl, fun i v hi => ?_⟩) ?_
  · have h1 : args[i]? = some v := by simpa using (argEnv_find args 0 i v hi).2
    have hlt := (List.getElem?_eq_some_iff.1 h1).1
    simp only [Array.getElem?_append, List.size_toArray, hlt, if_true, List.getElem?_toArray]
    exact h1
  · rintro e a' w' ⟨ds, env', hf', hq⟩
    cases e with
    | normal =>
      obtain ⟨Ds, φ, H, v, rfl, hH, hres, hR⟩ := hq
      show LeavesInM _ _ _ _ _ _ a'.defers _ _
      rw [hf'.defers]
      exact leaves_marksK a'.tmps (fun w2 h2 => hres w2 h2 a' hf') hR Ds w' hH
    | ret =>
      obtain ⟨Ds, φ, H, v, rfl, hH, hres, hR⟩ := hq
      show LeavesInM _ _ _ _ _ _ a'.defers _ _
      rw [hf'.defers]
      exact leaves_marksK a'.tmps (fun w2 h2 => hres w2 h2 a' hf') hR Ds w' hH
    | exit i => exact hq.elim
    | goto i => exact hq.elim
    | panic i => exact hq.elim
    | outgrown => exact hq.elim
section
variable {K V : Type} [DecidableEq K] {kv : K → Value} {vv : V → Value}
/-- The caller's map, of which is known what holds of its entries. -/
theorem Heap.fixMp {n b : Nat} {F : List (K × V) → Prop} {φ : World → Prop} {H : List Item} {w : World} (hH : Heap H w) (hn : H[n]? = some ⟨b, b + 1, φ⟩) (hφ : ∀ w', φ w' → ∃ m, Mp kv vv b m w' ∧ F m) :
    ∃ m, F m ∧ Heap (H.set n (mp kv vv b m)) w := by
  obtain ⟨m, h, hF⟩ := hφ w (hH.okAt hn).now
  exact ⟨m, hF, hH.swapItem hn (mp_ok h)⟩
theorem block_rest {g b : Nat} {w w' : World} (hL : Agree 0 g w w') (hR : Agree (g + 1) w.heap.size w w') (hne : b ≠ g) {o : Obj} (hb : w.heap[b]? = some o) : w'.heap[b]? = some o := by
  have hlt : b < w.heap.size := (Array.getElem?_eq_some_iff.1 hb).1
  rcases Nat.lt_or_ge b g with h1 | h1
  · exact (hL.block b (Nat.zero_le _) h1).trans hb
  · exact (hR.block b (by omega) hlt).trans hb
theorem Mp.nowM {b g : Nat} {m : List (K × V)} {w w' : World} (h : Mp kv vv b m w) (hne : b ≠ g) (hL : Agree 0 g w w') (hR : Agree (g + 1) w.heap.size w w') : Mp kv vv b m w' := by
  obtain ⟨es, clock, h1, h2⟩ := h
  exact ⟨es, clock, block_rest hL hR hne h1, h2⟩
theorem Rd.nowM {α : Type} {enc : α → List Value} {sz : Nat} {v : Value} {xs : List α} {b : Nat} {m : List (K × V)} {w w' : World} (h : Rd enc sz v xs w) (hb : Mp kv vv b m w) (hL : Agree 0 b w w') (hR : Agree (b + 1) w.heap.size w w') : Rd enc sz v xs w' := by
  obtain ⟨es, clock, h1, _⟩ := hb
  refine ⟨h.1, fun i x hi j u hj => ?_⟩
  have hc := h.2 i x hi j u hj
  have hne : eb v ≠ b := fun e => by
    rw [e] at hc
    simp [World.cell?, h1] at hc
  obtain ⟨o, ho⟩ := block_some hc
  have h2 := block_rest hL hR hne ho
  rw [← hc]
  exact World.cell?_of_block (w := w) (show w'.heap[eb v]? = w.heap[eb v]? by rw [h2, ho])
theorem Bx.neMp {b t g : Nat} {cs : List Value} {m : List (K × V)} {w : World} (h : Bx b t cs w) (hm : Mp kv vv g m w) : b ≠ g := fun e => by
  obtain ⟨es, clock, h1, _⟩ := hm
  unfold Bx at h
  rw [e, h1] at h; cases h
theorem Bx.nowK {b t g : Nat} {cs : List Value} {m : List (K × V)} {w w' : World} (h : Bx b t cs w) (hm : Mp kv vv g m w) (hL : Agree 0 g w w') (hR : Agree (g + 1) w.heap.size w w') : Bx b t cs w' := block_rest hL hR (h.neMp hm) h
end
theorem rows_of_tail2 {P : Program} {T lo hi E : Nat} (he : El P T E 1 encS) {P' : Program} {T' : Nat} (he' : El P' T' 3 1 encI) {L : List Item} {Rs : List RwI} {u : Value} {w : World} (h : Heap (L ++ Rs.map rowI) w) {n : Nat} (hn : L[n]? = some (ow lo hi E 1 encS u (Rs.map (·.s)))) : RowsAt u (Rs.map (·.s)) (Rs.map (·.l)) w := by
  have hlt := (List.getElem?_eq_some_iff.1 hn).1
  refine rows_of_tail he he' (lo := lo) (hi := hi) (h.sub ?_)
  have h1 : [L[n]].Sublist L := List.singleton_sublist.2 (List.getElem_mem hlt)
  have e : L[n] = ow lo hi E 1 encS u (Rs.map (·.s)) := (List.getElem?_eq_some_iff.1 hn).2
  rw [← e]
  exact h1.append (List.Sublist.refl _)
theorem own_of_tail {L : List Item} {Rs : List RwI} {w : World} (h : Heap (L ++ Rs.map rowI) w) {j : Nat} (hj : j < Rs.length) : Own 3 1 encI (sv (nth (Rs.map (·.s)) (j : Int))) (nth (Rs.map (·.l)) (j : Int)) w := by
  have hi2 : (Rs.map rowI)[j]? = some (rowI Rs[j]) := by rw [List.getElem?_map, List.getElem?_eq_getElem hj]; rfl
  have g1 : nth (Rs.map (·.s)) (j : Int) = Rs[j].s := by rw [nth_nat (by simpa using hj)]; simp
  have g2 : nth (Rs.map (·.l)) (j : Int) = Rs[j].l := by rw [nth_nat (by simpa using hj)]; simp
  rw [g1, g2]
  exact Heap.own h (n := L.length + j) (by rw [List.getElem?_append_right (by omega), Nat.add_sub_cancel_left]; exact hi2)
theorem RowsAt.drop1 {u : Value} {TT : List Hd} {RR : List (List Int)} {w : World} (h : RowsAt u TT RR w) (h1 : 1 ≤ TT.length) : RowsAt (cutv u 1 1 TT.length) (TT.drop 1) (RR.drop 1) w := by
  refine ⟨Rd.from h.1 (lo := 1) h1, by rw [List.length_drop, List.length_drop, h.2.1], fun i hi => ?_⟩
  rw [List.length_drop] at hi
  rw [nth_drop, nth_drop]
  exact h.2.2 (1 + i) (by omega)
end Go.Fip
namespace Go.Fip
open Go.RowKit
/-- A row of its own of another element type. -/
def rowE (E : Nat) (r : RwI) : Item := ow r.lo r.hi E 1 encI (sv r.s) r.l
theorem Heap.totailE {E : Nat} {L : List Item} {Rs : List RwI} {lo hi : Nat} {v : Value} {l : List Int} {s : Hd} {w : World} (h : Heap (ow lo hi E 1 encI v l :: (L ++ Rs.map (rowE E))) w) (hs : v = Fip.sv s) : Heap (L ++ (Rs ++ [RwI.mk lo hi s l]).map (rowE E)) w := by
  subst hs
  refine h.perm ?_
  rw [List.map_append, ← List.append_assoc]
  exact (List.perm_append_comm (l₁ := [_]))
theorem rows_of_tailE {P : Program} {T lo hi E E' : Nat} (he : El P T E 1 encS) {P' : Program} {T' : Nat} (he' : El P' T' E' 1 encI) {Rs : List RwI} {u : Value} {w : World} (h : Heap (ow lo hi E 1 encS u (Rs.map (·.s)) :: Rs.map (rowE E')) w) : RowsAt u (Rs.map (·.s)) (Rs.map (·.l)) w := by
  refine ⟨Heap.rdw he h (n := 0) rfl, by simp, fun i hi => ?_⟩
  rw [List.length_map] at hi
  have hi2 : (Rs.map (·.s))[i]? = some Rs[i].s := by rw [List.getElem?_map, List.getElem?_eq_getElem hi]; rfl
  have g1 : nth (Rs.map (·.s)) (i : Int) = Rs[i].s := by rw [nth_nat (by simpa using hi)]; simp
  have g2 : nth (Rs.map (·.l)) (i : Int) = Rs[i].l := by rw [nth_nat (by simpa using hi)]; simp
  rw [g1, g2]
  exact Heap.rdw he' h (n := i + 1) (by rw [List.getElem?_cons_succ, List.getElem?_map, List.getElem?_eq_getElem hi]; rfl)
end Go.Fip

set_option linter.unusedVariables false
set_option linter.unusedSimpArgs false
set_option linter.unusedSectionVars false
namespace Go.Fip
open Go.RowKit
/-- Called so from world w, the function hands back v, and the world is w. -/
structure FnE (P : Program) (f : FuncId) (args : Array Value) (w : World) (v : Value) : Prop where
  enters : ∀ w', (callFunc f args).run P w' = .ok (.enter f args) w'
  calls : CallsIn Fence.wide 0 P f args w fun e w' => e = .returned v ∧ w' = w
theorem FnE.callsFr {P : Program} {f : FuncId} {args : Array Value} {w : World} {v : Value} (h : FnE P f args w v) (r : Option Nat) :
    CallsIn (Fr r) 0 P f args w fun e w' => e = .returned v ∧ w' = w := by
  cases r with
  | none => exact h.calls
  | some l => exact h.calls
theorem op_fnE {r : Option Nat} {P : Program} {N : Nat} {ds : List Deferred} {env : Env} {w : World} {Q : Post} {all : Array Oper} {rest : List Oper} {d : Nat} {c : Operand} {xs : List Operand} {vs : List Value} {ats : Array TypeId} {ty : TypeId} {pos : String} {after : Array Edge} {f : FuncId} {first cap : List Value} {v : Value}
    (hf : ev env c = some (.func (.func f) first.toArray cap.toArray)) (hx : evs env xs = some vs) (hd : dstOK N (some d) = true)
    (hc : FnE P f (first ++ (vs ++ cap)).toArray w v)
    (h : Ops r P N all rest ds ((d, v) :: env) w Q) :
    Ops r P N all (⟨some d, .call ⟨.value c, xs.toArray, ats⟩, ty, pos, after, none⟩ :: rest) ds env w Q := by
  intro a ha
  refine wpListIn_plain rfl fun K hK => ⟨fun f _ => Fr_fn r f, ?_⟩
  rw [semAt_Fr r _ _ (fun c hc => by cases hc)]
  have hargs : (xs.toArray.map a.eval) = vs.toArray := by rw [List.map_toArray, ha.evs hx]
  have hrun : (execOp a.eval ⟨some d, .call ⟨.value c, xs.toArray, ats⟩, ty, pos, after, none⟩).run P w = .ok (.enter f (first ++ (vs ++ cap)).toArray) w := by
    simp only [execOp, resolve, hargs, ha.ev hf, Deferred.ofValue, Sem.run_bind, Sem.run_pure, Result.andThen, invoke]
    have e : first.toArray ++ vs.toArray ++ cap.toArray = (first ++ (vs ++ cap)).toArray := by simp
    rw [e]
    exact hc.enters w
  rw [hrun]
  refine ⟨fun h => by simp [Fr_depth] at h, CallsIn.mono (hc.callsFr r) ?_⟩
  rintro e w' ⟨rfl, rfl⟩
  exact hK _ _ (h _ (ha.put (by simpa [dstOK, Nat.blt_eq] using hd) v))
def bodyQE (P : Program) (fn : Func) (N : Nat) (w0 : World) (v : Value) : Post
  | .normal, ds, env, w | .ret, ds, env, w => ds = [] ∧ w = w0 ∧ Results P fn N [] env w v
  | _, _, _, _ => False
theorem finE {P : Program} {fn : Func} {N : Nat} {w0 : World} {v v' : Value} {env : Env} (hres : Results P fn N [] env w0 v') (e : v' = v) : bodyQE P fn N w0 v .ret [] env w0 := ⟨rfl, rfl, e ▸ hres⟩
theorem fnE_of {P : Program} {f : FuncId} {fn : Func} {c : Code} {args : List Value} {w : World} {v : Value} {N : Nat}
    (hf : P.funcs[f]? = some fn) (hb : fn.body = some c) (hen : ∀ (as : Array Value) (w' : World), (callFunc f as).run P w' = .ok (.enter f as) w')
    (hN : fn.ntmps = N) (hargs : Nat.ble args.length N = true)
    (h : Heap [base w] w → Holds none P N c [] (argEnv 0 args) w (bodyQE P fn N w v)) : FnE P f args.toArray w v := by
  refine ⟨hen _, callsIn_of_wp hf hb trivial ?_⟩
  have hargs' : args.length ≤ N := by simpa [Nat.ble_eq] using hargs
  refine Go.wpIn_mono (h (Heap.start w) { tmps := args.toArray ++ Array.replicate (fn.ntmps - args.toArray.size) undef, defers := [] } ⟨by simp [hN]; omega, rfl, fun i v hi => ?_⟩) ?_
  · have h1 : args[i]? = some v := by simpa using (argEnv_find args 0 i v hi).2
    have hlt := (List.getElem?_eq_some_iff.1 h1).1
    simp only [Array.getElem?_append, List.size_toArray, hlt, if_true, List.getElem?_toArray]
    exact h1
  · rintro e a' w' ⟨ds, env', hf', hq⟩
    cases e with
    | normal => obtain ⟨rfl, rfl, hr⟩ := hq; exact ⟨hf'.defers, _, hr a' hf', rfl, rfl⟩
    | ret => obtain ⟨rfl, rfl, hr⟩ := hq; exact ⟨hf'.defers, _, hr a' hf', rfl, rfl⟩
    | exit i => exact hq.elim
    | goto i => exact hq.elim
    | panic i => exact hq.elim
    | outgrown => exact hq.elim
end Go.Fip

set_option linter.unusedVariables false
set_option linter.unusedSimpArgs false
set_option linter.unusedSectionVars false
namespace Go.Fip
open Go.RowKit
/-- The value of a slice, a nil one too. -/
abbrev SV := {v : Value // ∃ a n c, v = .slice a n c}
def nilV : SV := ⟨.slice none 0 0, _, _, _, rfl⟩
instance : Inhabited SV := ⟨nilV⟩
def svV (s : Hd) : SV := ⟨sv s, _, _, _, rfl⟩
def encV (x : SV) : List Value := [x.1]
theorem encV_len (x : SV) : (encV x).length = 1 := rfl
theorem SV.one (x : SV) : x.1.oneCell' = true := by
  obtain ⟨_, a, n, c, rfl⟩ := x
  simp [Value.oneCell']
def RowsV (u : Value) (VV : List SV) (RR : List (List Int)) (w : World) : Prop :=
  Rd encV 1 u VV w ∧ VV.length = RR.length ∧ ∀ i : Nat, i < VV.length → Rd encI 1 (nth VV (i : Int)).1 (nth RR (i : Int)) w
theorem RowsV.below {u : Value} {VV : List SV} {RR : List (List Int)} {w w' : World} (h : RowsV u VV RR w) (hb : Below w.heap.size w w') : RowsV u VV RR w' :=
  ⟨h.1.below hb, h.2.1, fun i hi => (h.2.2 i hi).below hb⟩
theorem RowsV.now {u : Value} {VV : List SV} {RR : List (List Int)} {w w' : World} (h : RowsV u VV RR w) {H : List Item} {n : Nat} (hH : Heap H w') (hn : H[n]? = some (base w)) : RowsV u VV RR w' := h.below (hH.get hn)
theorem RowsV.at {u : Value} {VV : List SV} {RR : List (List Int)} {w : World} (h : RowsV u VV RR w) {i : Int} (h0 : 0 ≤ i) (h1 : i < (VV.length : Int)) : Rd encI 1 (nth VV i).1 (nth RR i) w := by
  have := h.2.2 i.toNat (by omega)
  rwa [Int.toNat_of_nonneg h0] at this
theorem RowsV.one {u : Value} {w : World} (h : Rd encV 1 u [nilV] w) : RowsV u [nilV] [[]] w := ⟨h, rfl, fun i hi => by
  match i, hi with
  | 0, _ => exact Rd.nil⟩
theorem Rd.headsV {u : Value} {S T : List SV} {w w' : World} (h : Rd encV 1 u S w) (h' : Rd encV 1 u T w') (he : ∀ o, w'.cell? ⟨eb u, o, none⟩ = w.cell? ⟨eb u, o, none⟩) : S = T := by
  have hl : S.length = T.length := by
    obtain ⟨a, c, e, _⟩ := h.1
    obtain ⟨a', c', e', _⟩ := h'.1
    rw [e] at e'
    simp only [Value.slice.injEq] at e'
    exact e'.2.1
  refine List.ext_getElem hl fun i h1 h2 => ?_
  have g1 := h.2 i S[i] (List.getElem?_eq_getElem h1) 0 S[i].1 rfl
  have g2 := h'.2 i T[i] (List.getElem?_eq_getElem h2) 0 T[i].1 rfl
  rw [he, g1] at g2
  exact Subtype.ext (Option.some.inj g2)
theorem Item.fixRowsV {lo hi : Nat} {u : Value} {RR : List (List Int)} {w : World} (h : (⟨lo, hi, fun w => ∃ VV, RowsV u VV RR w⟩ : Item).ok w) : ∃ VV, (⟨lo, hi, RowsV u VV RR⟩ : Item).ok w := by
  obtain ⟨TT, hT⟩ := h.now
  have hin : TT ≠ [] → lo ≤ eb u ∧ eb u < hi := fun hne => by
    match TT, hne, hT with
    | s :: TT, _, hT =>
      refine Item.rowIn h (enc := encV) (u := s.1) (us := []) rfl (fun w' ha _ => ?_) hT.1
      obtain ⟨T', h2⟩ := h.2.2 w' ha
      match T', h2 with
      | [], h2 => have := h2.2.1; have := hT.2.1; simp at *; omega
      | t :: T', h2 => exact ⟨t, T', h2.1, _, _, rfl⟩
  have same : ∀ w', Agree lo hi w w' → RowsV u TT RR w' := fun w' ha => by
    obtain ⟨T', h2⟩ := h.2.2 w' ha
    have e : TT = T' := by
      by_cases hne : TT = []
      · subst hne
        have := h2.2.1; have := hT.2.1
        match T' with
        | [] => rfl
        | _ :: _ => simp at *; omega
      · have := hin hne
        exact hT.1.headsV h2.1 (fun o => ha.cell (p := ⟨eb u, o, none⟩) this.1 this.2)
    rw [e]; exact h2
  exact ⟨TT, h.1, h.2.1, same⟩
theorem Heap.fixRowsV {H : List Item} {w : World} (hH : Heap H w) {n lo hi : Nat} {u : Value} {RR : List (List Int)} (hn : H[n]? = some ⟨lo, hi, fun w => ∃ VV, RowsV u VV RR w⟩) : ∃ VV, Heap (H.set n ⟨lo, hi, RowsV u VV RR⟩) w := by
  obtain ⟨TT, h⟩ := Item.fixRowsV (hH.okAt hn)
  exact ⟨TT, hH.swapItem hn h⟩
theorem rows_tail {L : List Item} {Rs : List RwI} {w : World} (h : Heap (L ++ Rs.map rowI) w) (i : Nat) (hi : i < (Rs.map fun r => svV r.s).length) : Rd encI 1 (nth (Rs.map fun r => svV r.s) (i : Int)).1 (nth (Rs.map (·.l)) (i : Int)) w := by
  rw [List.length_map] at hi
  have g1 : nth (Rs.map fun r => svV r.s) (i : Int) = svV Rs[i].s := by rw [nth_nat (by simpa using hi)]; simp
  have g3 := own_of_tail h hi
  have g2 : nth (Rs.map (·.s)) (i : Int) = Rs[i].s := by rw [nth_nat (by simpa using hi)]; simp
  rw [g2] at g3
  rw [g1]
  exact g3.rd (fun _ => rfl)
theorem hdV_snoc {Rs : List RwI} {r : RwI} {s : Hd} (h : s = r.s) : Rs.map (fun r => svV r.s) ++ [svV s] = (Rs ++ [r]).map (fun r => svV r.s) := by rw [h]; simp
end Go.Fip
namespace Go.Fip
open Go.RowKit
theorem Heap.reOw {α : Type} {E sz n lo hi g : Nat} {enc : α → List Value} {v : Value} {xs : List α} {φ : World → Prop} {H : List Item} {w : World} (hH : Heap H w) (hn : H[n]? = some ⟨lo, hi, φ⟩) (ho : Own E sz enc v xs w) (hg : v.ownBlock = some g) (hl : lo ≤ g ∧ g < hi) :
    Heap (H.set n (ow lo hi E sz enc v xs)) w := by
  have hok := hH.okAt hn
  exact hH.swapItem hn (ow_ok ⟨ho, fun g2 hg2 => by rw [hg] at hg2; cases hg2; exact hl⟩ hok.1 hok.2.1)
theorem Heap.apTail {α : Type} {L : List Item} {Rs : List RwI} {w : World} {n lo hi E sz g : Nat} {enc : α → List Value} {v : Value} {xs : List α} (h : Heap (L ++ Rs.map rowI) w) (hn : L[n]? = some (ow lo hi E sz enc v xs)) (hl : lo ≤ g ∧ g < hi) (i : Nat) (hi2 : i < (Rs.map fun r => svV r.s).length) (hne : nth (Rs.map (·.l)) (i : Int) ≠ []) :
    eb (nth (Rs.map fun r => svV r.s) (i : Int)).1 ≠ g := by
  rw [List.length_map] at hi2
  have hlt := (List.getElem?_eq_some_iff.1 hn).1
  have hn2 : (L ++ Rs.map rowI)[n]? = some (ow lo hi E sz enc v xs) := by rw [List.getElem?_append_left hlt]; exact hn
  have hm : (L ++ Rs.map rowI)[L.length + i]? = some (rowI Rs[i]) := by
    rw [List.getElem?_append_right (by omega), Nat.add_sub_cancel_left, List.getElem?_map, List.getElem?_eq_getElem hi2]; rfl
  have g2 : nth (Rs.map (·.l)) (i : Int) = Rs[i].l := by rw [nth_nat (by simpa using hi2)]; simp
  have g1 : nth (Rs.map fun r => svV r.s) (i : Int) = svV Rs[i].s := by rw [nth_nat (by simpa using hi2)]; simp
  rw [g2] at hne
  rw [g1]
  obtain ⟨g', hg', hg2⟩ := Ow.blk (show Ow _ _ _ _ _ _ _ _ from h.get hm) (List.length_pos_iff.2 hne)
  have e : g' = eb (svV Rs[i].s).1 := (Option.some.inj hg').symm
  rw [← e]
  obtain ⟨k1, e1⟩ := List.getElem?_eq_some_iff.1 hn2
  obtain ⟨k2, e2⟩ := List.getElem?_eq_some_iff.1 hm
  have hp := List.pairwise_iff_getElem.1 h.apart n (L.length + i) k1 k2 (by omega)
  rw [e1, e2] at hp
  simp only [Item.apart, ow, rowI] at hp
  omega
theorem perm_range {l : List (List Int)} {ds : List Nat} (h : ds.Perm (List.range l.length)) : (ds.map fun i : Nat => nth l (i : Int)).Perm l := by
  have e : (List.range l.length).map (fun i : Nat => nth l (i : Int)) = l := by
    refine List.ext_getElem (by simp) fun i h1 h2 => ?_
    simp only [List.getElem_map, List.getElem_range]
    exact nth_nat h2
  have := h.map (fun i : Nat => nth l (i : Int))
  rwa [e] at this
theorem rows_perm {P : Program} {T lo hi E : Nat} (he : El P T E 1 encV) {Rs : List RwI} {u : Value} {ds : List Nat} {w : World} (hp : ds.Perm (List.range (Rs.map fun r => svV r.s).length)) (h : Heap (ow lo hi E 1 encV u (ds.map fun i : Nat => nth (Rs.map fun r => svV r.s) (i : Int)) :: Rs.map rowI) w) :
    RowsV u (ds.map fun i : Nat => nth (Rs.map fun r => svV r.s) (i : Int)) (ds.map fun i : Nat => nth (Rs.map (·.l)) (i : Int)) w := by
  refine ⟨Heap.rdw he h (n := 0) rfl, by simp, fun i hi => ?_⟩
  rw [List.length_map] at hi
  rw [nth_nat (by simpa using hi), nth_nat (by simpa using hi)]
  simp only [List.getElem_map]
  have hm : ds[i] ∈ List.range (Rs.map fun r => svV r.s).length := hp.mem_iff.1 (List.getElem_mem hi)
  exact rows_tail (L := [_]) h ds[i] (List.mem_range.1 hm)
end Go.Fip
