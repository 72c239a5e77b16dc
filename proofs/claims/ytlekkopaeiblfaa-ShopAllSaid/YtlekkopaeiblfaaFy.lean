/- Regions that draw their order and store at their end: what is loaded is taken ahead; behindY the stores nothing is asked. Generic. -/
import Derived.Test.YtlekkopaeiblfaaFip
set_option linter.unusedVariables false
set_option linter.unusedSimpArgs false
set_option linter.unusedSectionVars false
set_option linter.unnecessarySimpa false
namespace Go.Fip
open Go.RowKit
section drawY
variable {r : Option Nat} {P : Program} {ops : Array Oper} {S : World → Prop} {X : List Nat}
/-- Whatever order is picked from here on; S holds behindY every operation that is carried out, but for those of X. -/
def AnyY (r : Option Nat) (P : Program) (S : World → Prop) (X : List Nat) (ops : Array Oper) (K0 : Act → World → Prop) : Nat → Array Bool → Act → World → Prop
  | 0, listed, a, w => Region.ready .any ops listed = [] ∧ K0 a w
  | fuel + 1, listed, a, w => (Region.ready .any ops listed = [] → K0 a w) ∧
    ∀ i ∈ Region.ready .any ops listed, wpOpIn (Fr r) 0 P ops (only K0) i (fun a' w' => (X.contains i = false → S w → S w') ∧ AnyY r P S X ops K0 fuel (listed.setIfInBounds i true) a' w') a w
theorem wpAnyY_of {K0 : Act → World → Prop} : ∀ (fuel : Nat) (listed : Array Bool) (a : Act) (w : World), AnyY r P S X ops K0 fuel listed a w → wpAnyIn (Fr r) 0 P .any ops (only K0) fuel listed a w
  | 0, _, _, _, h => h
  | fuel + 1, _, _, _, h => ⟨h.1, fun i hi => wpOpIn_mono (fun a' w' h' => wpAnyY_of fuel _ a' w' h'.2) (h.2 i hi)⟩
/-- j comes up behindY i. -/
def behindY (ops : Array Oper) : Nat → Nat → Nat → Bool
  | 0, _, _ => false
  | f + 1, i, j => match ops[j]? with
    | some o => o.after.any fun e => Region.binds .any e && (Nat.beq e.on i || behindY ops f i e.on)
    | none => false
/-- What has come up has come up behindY that behindY which it comes. -/
def ClosedY (ops : Array Oper) (listed : Array Bool) : Prop := ∀ k ok, ops[k]? = some ok → listed.getD k false = true → ∀ e ∈ ok.after, Region.binds .any e = true → listed.getD e.on false = true
theorem behindY_spec {listed : Array Bool} (hc : ClosedY ops listed) {i : Nat} (f : Nat) : ∀ j oj, behindY ops f i j = true → ops[j]? = some oj → (∀ e ∈ oj.after, Region.binds .any e = true → listed.getD e.on false = true) → listed.getD i false = true := by
  induction f with
  | zero => intro j oj h; cases h
  | succ f ih =>
    intro j oj h hj ha
    unfold behindY at h
    simp only [hj] at h
    obtain ⟨k, hk, h2⟩ := Array.any_eq_true.1 h
    rw [Bool.and_eq_true, Bool.or_eq_true] at h2
    have hl := ha _ (Array.getElem_mem hk) h2.1
    rcases h2.2 with h3 | h3
    · rw [← Nat.eq_of_beq_eq_true h3]; exact hl
    · cases ho : ops[(oj.after[k]).on]? with
      | some o => exact ih _ o h3 ho (hc _ o ho hl)
      | none =>
        cases f with
        | zero => cases h3
        | succ f => unfold behindY at h3; simp only [ho] at h3; cases h3
theorem ClosedY.set {listed : Array Bool} (hc : ClosedY ops listed) {j : Nat} (hj : j ∈ Region.ready .any ops listed) : ClosedY ops (listed.setIfInBounds j true) := fun k ok hk hl e he hb => by
  obtain ⟨_, oj, hoj, hall⟩ := mem_ready.1 hj
  by_cases hjk : j = k
  · subst hjk
    rw [hk] at hoj
    cases hoj
    exact getD_set_true (hall e he hb)
  · rw [getD_set_ne false hjk] at hl
    exact getD_set_true (hc k ok hk hl e he hb)
theorem AnyY_first {K0 : Act → World → Prop} {i : Nat} {oi : Oper} {v : Value} (hi : ops[i]? = some oi) (hnd : noDefer ops = true)
    (hX : ∀ j, X.contains j = true → behindY ops ops.size i j = true) :
    ∀ (fuel : Nat) (listed : Array Bool) (a : Act) (w : World), ClosedY ops listed →
      (∀ j oj, ops[j]? = some oj → j ≠ i → listed.getD j true = false → (∀ e ∈ oj.after, Region.binds .any e = true → e.on ≠ i) → oi.apart ops oj = true) →
      i ∈ Region.ready .any ops listed → YieldsS P ops S oi v a → S w →
      AnyY r P S X ops K0 fuel (listed.setIfInBounds i true) (a.put oi.dst v) w → AnyY r P S X ops K0 (fuel + 1) listed a w := by
  intro fuel
  induction fuel with
  | zero =>
    intro listed a w _ _ hr hy hS H
    refine ⟨fun h => (by rw [h] at hr; cases hr), fun j hj => ?_⟩
    by_cases hji : j = i
    · subst hji; exact hy.wpOp hi (noDefer_spec hnd hi).1 hS ⟨fun _ _ => hS, H⟩
    · have := ready_mono hj hji
      rw [H.1] at this
      cases this
  | succ fuel ih =>
    intro listed a w hc hfree hr hy hS H
    refine ⟨fun h => (by rw [h] at hr; cases hr), fun j hj => ?_⟩
    by_cases hji : j = i
    · subst hji; exact hy.wpOp hi (noDefer_spec hnd hi).1 hS ⟨fun _ _ => hS, H⟩
    · have h1 := H.2 j (ready_mono hj hji)
      obtain ⟨hjun, oj, hoj, hall⟩ := mem_ready.1 hj
      have hnot : ∀ e ∈ oj.after, Region.binds .any e = true → e.on ≠ i := fun e he hb heq => by
        have h1 := hall e he hb
        have h0 := (mem_ready.1 hr).1
        rw [heq] at h1
        rcases Nat.lt_or_ge i listed.size with h' | h'
        · simp [h'] at h0 h1; rw [h0] at h1; cases h1
        · simp [Array.getElem?_eq_none h'] at h1
      have hjX : X.contains j = false := by
        cases hcj : X.contains j with
        | false => rfl
        | true =>
          have h3 := behindY_spec hc _ j oj (hX j hcj) hoj hall
          have h0 := (mem_ready.1 hr).1
          rcases Nat.lt_or_ge i listed.size with h' | h'
          · simp [h'] at h0 h3; rw [h0] at h3; cases h3
          · simp [Array.getElem?_eq_none h'] at h3
      have h2 := wpOp_putS hoj (hfree j oj hoj hji hjun hnot) hnd (noDefer_spec hnd hi).2 hy h1
      have hfree' : ∀ k ok, ops[k]? = some ok → k ≠ i → (listed.setIfInBounds j true).getD k true = false →
          (∀ e ∈ ok.after, Region.binds .any e = true → e.on ≠ i) → oi.apart ops ok = true := fun k ok hk hki hun hno => by
        refine hfree k ok hk hki ?_ hno
        by_cases hjk : j = k
        · subst hjk; exact hjun
        · rw [getD_set_ne true hjk] at hun; exact hun
      refine wpOpIn_mono (fun a' w' h3 => ⟨h3.2.1, ih (listed.setIfInBounds j true) a' w' (hc.set hj) hfree' (ready_mono hr (Ne.symm hji)) h3.1 (h3.2.1 hjX hS) ?_⟩) h2
      rw [Array.setIfInBounds_comm _ _ hji]
      exact h3.2.2
/-- .. of an operation that yields the same in every world. -/
theorem AnyY_firstT {K0 : Act → World → Prop} {i : Nat} {oi : Oper} {v : Value} (hi : ops[i]? = some oi) (hnd : noDefer ops = true) :
    ∀ (fuel : Nat) (listed : Array Bool) (a : Act) (w : World),
      (∀ j oj, ops[j]? = some oj → j ≠ i → listed.getD j true = false → (∀ e ∈ oj.after, Region.binds .any e = true → e.on ≠ i) → oi.apart ops oj = true) →
      i ∈ Region.ready .any ops listed → YieldsS P ops (fun _ => True) oi v a →
      AnyY r P S X ops K0 fuel (listed.setIfInBounds i true) (a.put oi.dst v) w → AnyY r P S X ops K0 (fuel + 1) listed a w := by
  intro fuel
  induction fuel with
  | zero =>
    intro listed a w _ hr hy H
    refine ⟨fun h => (by rw [h] at hr; cases hr), fun j hj => ?_⟩
    by_cases hji : j = i
    · subst hji; exact hy.wpOp hi (noDefer_spec hnd hi).1 trivial ⟨fun _ h => h, H⟩
    · have := ready_mono hj hji
      rw [H.1] at this
      cases this
  | succ fuel ih =>
    intro listed a w hfree hr hy H
    refine ⟨fun h => (by rw [h] at hr; cases hr), fun j hj => ?_⟩
    by_cases hji : j = i
    · subst hji; exact hy.wpOp hi (noDefer_spec hnd hi).1 trivial ⟨fun _ h => h, H⟩
    · have h1 := H.2 j (ready_mono hj hji)
      obtain ⟨hjun, oj, hoj, hall⟩ := mem_ready.1 hj
      have hnot : ∀ e ∈ oj.after, Region.binds .any e = true → e.on ≠ i := fun e he hb heq => by
        have h1 := hall e he hb
        have h0 := (mem_ready.1 hr).1
        rw [heq] at h1
        rcases Nat.lt_or_ge i listed.size with h' | h'
        · simp [h'] at h0 h1; rw [h0] at h1; cases h1
        · simp [Array.getElem?_eq_none h'] at h1
      have h2 := wpOp_putS hoj (hfree j oj hoj hji hjun hnot) hnd (noDefer_spec hnd hi).2 hy h1
      have hfree' : ∀ k ok, ops[k]? = some ok → k ≠ i → (listed.setIfInBounds j true).getD k true = false →
          (∀ e ∈ ok.after, Region.binds .any e = true → e.on ≠ i) → oi.apart ops ok = true := fun k ok hk hki hun hno => by
        refine hfree k ok hk hki ?_ hno
        by_cases hjk : j = k
        · subst hjk; exact hjun
        · rw [getD_set_ne true hjk] at hun; exact hun
      refine wpOpIn_mono (fun a' w' h3 => ⟨h3.2.1, ih (listed.setIfInBounds j true) a' w' hfree' (ready_mono hr (Ne.symm hji)) h3.1 ?_⟩) h2
      rw [Array.setIfInBounds_comm _ _ hji]
      exact h3.2.2
end drawY
section drawEY
variable {r : Option Nat} {P : Program} {N : Nat} {S : World → Prop} {X : List Nat} {ops : Array Oper} {ds : List Deferred} {env : Env} {w : World} {Q : Post} {listed : Array Bool} {fuel : Nat}
def AnyEY (r : Option Nat) (P : Program) (N : Nat) (S : World → Prop) (X : List Nat) (ops : Array Oper) (fuel : Nat) (listed : Array Bool) (ds : List Deferred) (env : Env) (w : World) (Q : Post) : Prop :=
  ∀ a, Fits N a ds env → AnyY r P S X ops (fun a w => lift N Q .normal a w) fuel listed a w
def takesOKY (X : List Nat) (ops : Array Oper) (fuel : Nat) (listed : Array Bool) : List Nat → Bool
  | [] => true
  | i :: is => match fuel with
    | 0 => false
    | fuel + 1 => Region.free .any ops listed i && (Region.ready .any ops listed).contains i && X.all (behindY ops ops.size i) && takesOKY X ops fuel (listed.setIfInBounds i true) is
def closedYB (ops : Array Oper) (listed : Array Bool) : Bool := (List.range ops.size).all fun k => !(listed.getD k false) || (match ops[k]? with
  | some o => o.after.all fun e => !(Region.binds .any e) || listed.getD e.on false
  | none => true)
theorem closedYB_spec (h : closedYB ops listed = true) : ClosedY ops listed := fun k ok hk hl e he hb => by
  have h1 := List.all_eq_true.1 h k (List.mem_range.2 (Array.getElem?_eq_some_iff.1 hk).1)
  rw [hk, hl] at h1
  simp only [Bool.not_true, Bool.false_or] at h1
  obtain ⟨q, hq, rfl⟩ := Array.getElem_of_mem he
  have h2 := Array.all_eq_true.1 h1 q hq
  rw [hb] at h2
  simpa using h2
theorem any_takesY' (is : List Nat) (hnd : noDefer ops = true) (hs : S w)
    : ∀ (fuel : Nat) (listed : Array Bool) (env : Env), ClosedY ops listed → takesOKY X ops fuel listed is = true →
      Qs P N S ops ds (fun env => AnyEY r P N S X ops (fuel - is.length) (setAll listed is) ds env w Q) is env → AnyEY r P N S X ops fuel listed ds env w Q := by
  induction is with
  | nil => intro fuel listed env _ _ h; exact h
  | cons i is ih =>
    intro fuel listed env hc hok h
    obtain ⟨o, d, v, ho, hd, hN, hy, h⟩ := h
    cases fuel with
    | zero => simp [takesOKY] at hok
    | succ fuel =>
      simp only [takesOKY, Bool.and_eq_true] at hok
      obtain ⟨⟨⟨hf, hr⟩, hx⟩, hok⟩ := hok
      intro a ha
      refine AnyY_first ho hnd (fun j hj => List.all_eq_true.1 hx j (by simpa using hj)) fuel listed a w hc (Region.free_spec ho hf) (by simpa using hr) (hy a ha) hs ?_
      have e : fuel + 1 - (i :: is).length = fuel - is.length := by simp
      rw [e] at h
      exact ih fuel _ _ (hc.set (by simpa using hr)) hok h _ (by rw [hd]; exact ha.put hN v)
theorem any_takesY (is : List Nat) (hnd : noDefer ops = true) (hs : S w)
    : ∀ (fuel : Nat) (listed : Array Bool) (env : Env), (closedYB ops listed && takesOKY X ops fuel listed is) = true →
      Qs P N S ops ds (fun env => AnyEY r P N S X ops (fuel - is.length) (setAll listed is) ds env w Q) is env → AnyEY r P N S X ops fuel listed ds env w Q := by
  intro fuel listed env hok h
  rw [Bool.and_eq_true] at hok
  exact any_takesY' is hnd hs fuel listed env (closedYB_spec hok.1) hok.2 h
theorem any_takesT (is : List Nat) (hnd : noDefer ops = true)
    : ∀ (fuel : Nat) (listed : Array Bool) (env : Env), takesOK ops fuel listed is = true →
      Qs P N (fun _ => True) ops ds (fun env => AnyEY r P N S X ops (fuel - is.length) (setAll listed is) ds env w Q) is env → AnyEY r P N S X ops fuel listed ds env w Q := by
  induction is with
  | nil => intro fuel listed env _ h; exact h
  | cons i is ih =>
    intro fuel listed env hok h
    obtain ⟨o, d, v, ho, hd, hN, hy, h⟩ := h
    cases fuel with
    | zero => simp [takesOK] at hok
    | succ fuel =>
      simp only [takesOK, Bool.and_eq_true] at hok
      obtain ⟨⟨hf, hr⟩, hok⟩ := hok
      intro a ha
      refine AnyY_firstT ho hnd fuel listed a w (Region.free_spec ho hf) (by simpa using hr) (hy a ha) ?_
      have e : fuel + 1 - (i :: is).length = fuel - is.length := by simp
      rw [e] at h
      exact ih fuel _ _ hok h _ (by rw [hd]; exact ha.put hN v)
theorem any_doneY (hr : Region.ready .any ops listed = []) (h : Q .normal ds env w) : AnyEY r P N S X ops fuel listed ds env w Q := fun a ha => by
  cases fuel with
  | zero => exact ⟨hr, ds, env, ha, h⟩
  | succ fuel => exact ⟨fun _ => ⟨ds, env, ha, h⟩, by rw [hr]; simp⟩
def stepPostY (r : Option Nat) (P : Program) (N : Nat) (S : World → Prop) (X : List Nat) (w0 : World) (i : Nat) (ops : Array Oper) (fuel : Nat) (listed : Array Bool) (Q : Post) : Post
  | .normal, ds, env, w => (X.contains i = false → S w0 → S w) ∧ AnyEY r P N S X ops fuel listed ds env w Q
  | _, _, _, _ => False
def AllRY (r : Option Nat) (P : Program) (N : Nat) (S : World → Prop) (X : List Nat) (ops : Array Oper) (fuel : Nat) (listed : Array Bool) (ds : List Deferred) (env : Env) (w : World) (Q : Post) : List Nat → Prop
  | [] => True
  | i :: is => (∃ o, ops[i]? = some o ∧ Ops r P N ops [o] ds env w (stepPostY r P N S X w i ops fuel (listed.setIfInBounds i true) Q)) ∧ AllRY r P N S X ops fuel listed ds env w Q is
theorem AllRY.mem {is : List Nat} (h : AllRY r P N S X ops fuel listed ds env w Q is) {i : Nat} (hi : i ∈ is) : ∃ o, ops[i]? = some o ∧ Ops r P N ops [o] ds env w (stepPostY r P N S X w i ops fuel (listed.setIfInBounds i true) Q) := by
  induction is with
  | nil => cases hi
  | cons j is ih =>
    rcases List.mem_cons.1 hi with rfl | hi
    · exact h.1
    · exact ih h.2 hi
theorem any_allY (rs : List Nat) (hr : Region.ready .any ops listed = rs) (hne : rs.isEmpty = false) (h : AllRY r P N S X ops fuel listed ds env w Q rs) : AnyEY r P N S X ops (fuel + 1) listed ds env w Q := by
  intro a ha
  refine ⟨fun h0 => (by rw [hr] at h0; subst h0; cases hne), fun i hi => ?_⟩
  rw [hr] at hi
  obtain ⟨o, ho, hop⟩ := h.mem hi
  have h1 := hop a ha
  unfold wpOpIn
  simp only [ho]
  simp only [wpListIn] at h1
  split
  · rename_i hw
    rw [if_pos hw] at h1
    refine ⟨h1.1, ?_⟩
    have h2 := h1.2
    generalize (o.semAt (Fr r).round a.eval).run P w = res at *
    have fin : ∀ a' w', lift N (stepPostY r P N S X w i ops fuel (listed.setIfInBounds i true) Q) .normal a' w' →
        (X.contains i = false → S w → S w') ∧ AnyY r P S X ops (fun a w => lift N Q .normal a w) fuel (listed.setIfInBounds i true) a' w' := fun a' w' ⟨ds', env', hf, hs, hA⟩ => ⟨hs, hA a' hf⟩
    cases res with
    | ok x w' =>
      cases x <;> simp only [Oper.uponIn] at h2 ⊢
      case value u => exact fin _ _ h2
      case skip => exact fin _ _ h2
      case defer d => exact fin _ _ h2
      case enter f args =>
        refine ⟨h2.1, CallsIn.mono h2.2 fun e w'' he => ?_⟩
        cases e with
        | returned u => exact fin _ _ he
        | panicked c => obtain ⟨_, _, _, hx⟩ := he; exact hx.elim
        | outgrown => obtain ⟨_, _, _, _, _, hx⟩ := he; exact hx.elim
      case row row args => exact ⟨h2.1, RowsIn.mono h2.2 fun u w'' he => fin _ _ he⟩
      case round l f tmps assign body =>
        refine ⟨h2.1, RoundIn.mono h2.2 fun e w'' he => ?_⟩
        cases e with
        | returned u => exact fin _ _ he
        | panicked c => obtain ⟨_, _, _, hx⟩ := he; exact hx.elim
        | outgrown => obtain ⟨_, _, _, _, _, hx⟩ := he; exact hx.elim
    | halt x w' =>
      cases x <;> simp only [Oper.uponIn] at h2 ⊢
      case panic u => obtain ⟨_, _, _, hx⟩ := h2; exact hx.elim
  · rename_i hw
    rw [if_neg hw] at h1
    obtain ⟨ds', env', hf, hs, hA⟩ := h1.2
    exact ⟨h1.1, hs, hA _ hf⟩
theorem region_drawY {id : Nat} {l : List Oper} (S : World → Prop) (X : List Nat) (hm : P.follows .mixedOrders = true)
    (h : ∀ w1, Redrawn w w1 → AnyEY r P N S X l.toArray l.length (Array.replicate l.length false) ds env w1 Q) : Holds r P N (.region id l.toArray true) ds env w Q := by
  intro a ha
  refine Go.wpIn_mono (Q := only fun a w => lift N Q .normal a w) ?_ ?_
  · refine wpIn_region_any hm (wpAnyY_of (S := S) (X := X) _ _ _ _ ?_)
    have := h { w with drawn := w.drawn + 1 } ⟨rfl, rfl, rfl, rfl⟩ a ha
    simpa using this
  · intro e a' w' hq
    cases e with
    | normal => exact hq
    | _ => exact hq.elim
end drawEY
end Go.Fip
