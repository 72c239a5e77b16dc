/- Joined texts: what the statement needs, walks by program (wip/tools). -/
import Derived.Test.YtgbbgkcjpbdepaaGreatDoorA1
import Derived.Test.YtgbbgkcjpbdepaaGreatDoorA3
import Derived.Test.YtgbbgkcjpbdepaaGreatDoorA17
set_option linter.unusedVariables false
set_option linter.unusedSimpArgs false
set_option linter.unusedSectionVars false
set_option linter.unnecessarySimpa false
namespace Go.Fip
open Go.RowKit
section drawY
variable {r : Option Nat} {P : Program} {ops : Array Oper} {S : World → Prop} {X : List Nat}
def AnyY (r:Option Nat) (P:Program) (S:World→Prop) (X:List Nat) (ops:Array Oper) (K0:Act→World→Prop):Nat→Array Bool→Act→World→Prop
 | 0,listed,a,w=>Region.ready .any ops listed=[]∧K0 a w
 | fuel+1,listed,a,w=>(Region.ready .any ops listed=[]→K0 a w) ∧
  ∀ i∈Region.ready .any ops listed,wpOpIn (Fr r) 0 P ops (only K0) i (fun a' w'=>(X.contains i=false→S w→S w')∧AnyY r P S X ops K0 fuel (listed.setIfInBounds i true) a' w') a w
theorem vJ {K0:Act→World→Prop}:∀ (fuel:Nat) (listed:Array Bool) (a:Act) (w:World),AnyY r P S X ops K0 fuel listed a w→wpAnyIn (Fr r) 0 P .any ops (only K0) fuel listed a w
 | 0,_,_,_,h=>h
 | fuel+1,_,_,_,h=>⟨h.1,fun i hi=>wpOpIn_mono (fun a' w' h'=>vJ fuel _ a' w' h'.2) (h.2 i hi)⟩
def behindY (ops:Array Oper):Nat→Nat→Nat→Bool
 | 0,_,_=>false
 | f+1,i,j=>match ops[j]? with
  | some o=>o.after.any fun e=>Region.binds .any e && (Nat.beq e.on i || behindY ops f i e.on)
  | none=>false
def ClosedY (ops:Array Oper) (listed:Array Bool):Prop:=∀ k ok,ops[k]? = some ok→listed.getD k false=true→∀ e∈ok.after,Region.binds .any e=true→listed.getD e.on false=true
theorem vP {listed:Array Bool} (hc:ClosedY ops listed) {i:Nat} (f:Nat):∀ j oj,behindY ops f i j=true→ops[j]? = some oj→(∀ e∈oj.after,Region.binds .any e=true→listed.getD e.on false=true)→listed.getD i false=true:=by
 induction f with
 | zero=>intro j oj h; cases h
 | succ f ih =>
  intro j oj h hj ha
  unfold behindY at h
  simp only [hj] at h
  obtain ⟨k,hk,h2⟩:=Array.any_eq_true.1 h
  rw [Bool.and_eq_true,Bool.or_eq_true] at h2
  have hl:=ha _ (Array.getElem_mem hk) h2.1
  rcases h2.2 with h3 | h3
  ·rw [← Nat.eq_of_beq_eq_true h3]; exact hl
  ·cases ho:ops[(oj.after[k]).on]? with
   | some o=>exact ih _ o h3 ho (hc _ o ho hl)
   | none =>
    cases f with
    | zero=>cases h3
    | succ f=>unfold behindY at h3; simp only [ho] at h3; cases h3
theorem ClosedY.set {listed:Array Bool} (hc:ClosedY ops listed) {j:Nat} (hj:j∈Region.ready .any ops listed):ClosedY ops (listed.setIfInBounds j true):=fun k ok hk hl e he hb=>by
 obtain ⟨_,oj,hoj,hall⟩:=mem_ready.1 hj
 by_cases hjk:j=k
 ·subst hjk
  rw [hk] at hoj
  cases hoj
  exact getD_set_true (hall e he hb)
 ·rw [getD_set_ne false hjk] at hl
  exact getD_set_true (hc k ok hk hl e he hb)
theorem uY {K0 : Act → World → Prop} {i : Nat} {oi : Oper} {v : Value} (hi : ops[i]? = some oi) (hnd : noDefer ops = true)
    (hX : ∀ j, X.contains j = true → behindY ops ops.size i j = true) :
    ∀ (fuel : Nat) (listed : Array Bool) (a : Act) (w : World), ClosedY ops listed →
      (∀ j oj, ops[j]? = some oj → j ≠ i → listed.getD j true = false → (∀ e ∈ oj.after, Region.binds .any e = true → e.on ≠ i) → oi.apart ops oj = true) →
      i ∈ Region.ready .any ops listed → YieldsS P ops S oi v a → S w →
      AnyY r P S X ops K0 fuel (listed.setIfInBounds i true) (a.put oi.dst v) w → AnyY r P S X ops K0 (fuel + 1) listed a w := by
  intro fuel
  induction fuel with
  | zero =>
    intro listed a w _ _ hr hy hS H
    refine ⟨fun h => (by rw [h] at hr; cases hr), fun j hj => ?_⟩
    by_cases hji : j = i
    · subst hji; exact hy.wpOp hi (noDefer_spec hnd hi).1 hS ⟨fun _ _ => hS, H⟩
    · have := ready_mono hj hji
      rw [H.1] at this
      cases this
  | succ fuel ih =>
    intro listed a w hc hfree hr hy hS H
    refine ⟨fun h => (by rw [h] at hr; cases hr), fun j hj => ?_⟩
    by_cases hji : j = i
    · subst hji; exact hy.wpOp hi (noDefer_spec hnd hi).1 hS ⟨fun _ _ => hS, H⟩
    · have h1 := H.2 j (ready_mono hj hji)
      obtain ⟨hjun, oj, hoj, hall⟩ := mem_ready.1 hj
      have hnot : ∀ e ∈ oj.after, Region.binds .any e = true → e.on ≠ i := fun e he hb heq => by
        have h1 := hall e he hb
        have h0 := (mem_ready.1 hr).1
        rw [heq] at h1
        rcases Nat.lt_or_ge i listed.size with h' | h'
        · simp [h'] at h0 h1; rw [h0] at h1; cases h1
        · simp [Array.getElem?_eq_none h'] at h1
      have hjX : X.contains j = false := by
        cases hcj : X.contains j with
        | false => rfl
        | true =>
          have h3 := vP hc _ j oj (hX j hcj) hoj hall
          have h0 := (mem_ready.1 hr).1
          rcases Nat.lt_or_ge i listed.size with h' | h'
          · simp [h'] at h0 h3; rw [h0] at h3; cases h3
          · simp [Array.getElem?_eq_none h'] at h3
      have h2 := wpOp_putS hoj (hfree j oj hoj hji hjun hnot) hnd (noDefer_spec hnd hi).2 hy h1
      have hfree' : ∀ k ok, ops[k]? = some ok → k ≠ i → (listed.setIfInBounds j true).getD k true = false →
          (∀ e ∈ ok.after, Region.binds .any e = true → e.on ≠ i) → oi.apart ops ok = true := fun k ok hk hki hun hno => by
        refine hfree k ok hk hki ?_ hno
        by_cases hjk : j = k
        · subst hjk; exact hjun
        · rw [getD_set_ne true hjk] at hun; exact hun
      refine wpOpIn_mono (fun a' w' h3 => ⟨h3.2.1, ih (listed.setIfInBounds j true) a' w' (hc.set hj) hfree' (ready_mono hr (Ne.symm hji)) h3.1 (h3.2.1 hjX hS) ?_⟩) h2
      rw [Array.setIfInBounds_comm _ _ hji]
      exact h3.2.2
theorem uG {K0 : Act → World → Prop} {i : Nat} {oi : Oper} {v : Value} (hi : ops[i]? = some oi) (hnd : noDefer ops = true) :
    ∀ (fuel : Nat) (listed : Array Bool) (a : Act) (w : World),
      (∀ j oj, ops[j]? = some oj → j ≠ i → listed.getD j true = false → (∀ e ∈ oj.after, Region.binds .any e = true → e.on ≠ i) → oi.apart ops oj = true) →
      i ∈ Region.ready .any ops listed → YieldsS P ops (fun _ => True) oi v a →
      AnyY r P S X ops K0 fuel (listed.setIfInBounds i true) (a.put oi.dst v) w → AnyY r P S X ops K0 (fuel + 1) listed a w := by
  intro fuel
  induction fuel with
  | zero =>
    intro listed a w _ hr hy H
    refine ⟨fun h => (by rw [h] at hr; cases hr), fun j hj => ?_⟩
    by_cases hji : j = i
    · subst hji; exact hy.wpOp hi (noDefer_spec hnd hi).1 trivial ⟨fun _ h => h, H⟩
    · have := ready_mono hj hji
      rw [H.1] at this
      cases this
  | succ fuel ih =>
    intro listed a w hfree hr hy H
    refine ⟨fun h => (by rw [h] at hr; cases hr), fun j hj => ?_⟩
    by_cases hji : j = i
    · subst hji; exact hy.wpOp hi (noDefer_spec hnd hi).1 trivial ⟨fun _ h => h, H⟩
    · have h1 := H.2 j (ready_mono hj hji)
      obtain ⟨hjun, oj, hoj, hall⟩ := mem_ready.1 hj
      have hnot : ∀ e ∈ oj.after, Region.binds .any e = true → e.on ≠ i := fun e he hb heq => by
        have h1 := hall e he hb
        have h0 := (mem_ready.1 hr).1
        rw [heq] at h1
        rcases Nat.lt_or_ge i listed.size with h' | h'
        · simp [h'] at h0 h1; rw [h0] at h1; cases h1
        · simp [Array.getElem?_eq_none h'] at h1
      have h2 := wpOp_putS hoj (hfree j oj hoj hji hjun hnot) hnd (noDefer_spec hnd hi).2 hy h1
      have hfree' : ∀ k ok, ops[k]? = some ok → k ≠ i → (listed.setIfInBounds j true).getD k true = false →
          (∀ e ∈ ok.after, Region.binds .any e = true → e.on ≠ i) → oi.apart ops ok = true := fun k ok hk hki hun hno => by
        refine hfree k ok hk hki ?_ hno
        by_cases hjk : j = k
        · subst hjk; exact hjun
        · rw [getD_set_ne true hjk] at hun; exact hun
      refine wpOpIn_mono (fun a' w' h3 => ⟨h3.2.1, ih (listed.setIfInBounds j true) a' w' hfree' (ready_mono hr (Ne.symm hji)) h3.1 ?_⟩) h2
      rw [Array.setIfInBounds_comm _ _ hji]
      exact h3.2.2
end drawY
section drawEY
variable {r : Option Nat} {P : Program} {N : Nat} {S : World → Prop} {X : List Nat} {ops : Array Oper} {ds : List Deferred} {env : Env} {w : World} {Q : Post} {listed : Array Bool} {fuel : Nat}
def AnyEY (r:Option Nat) (P:Program) (N:Nat) (S:World→Prop) (X:List Nat) (ops:Array Oper) (fuel:Nat) (listed:Array Bool) (ds:List Deferred) (env:Env) (w:World) (Q:Post):Prop :=
 ∀ a,Fits N a ds env→AnyY r P S X ops (fun a w=>lift N Q .normal a w) fuel listed a w
def takesOKY (X:List Nat) (ops:Array Oper) (fuel:Nat) (listed:Array Bool):List Nat→Bool
 | []=>true
 | i::is=>match fuel with
  | 0=>false
  | fuel+1=>Region.free .any ops listed i && (Region.ready .any ops listed).contains i && X.all (behindY ops ops.size i) && takesOKY X ops fuel (listed.setIfInBounds i true) is
def closedYB (ops : Array Oper) (listed : Array Bool) : Bool := (List.range ops.size).all fun k => !(listed.getD k false) || (match ops[k]? with
  | some o => o.after.all fun e => !(Region.binds .any e) || listed.getD e.on false
  | none => true)
theorem vD (h:closedYB ops listed=true):ClosedY ops listed:=fun k ok hk hl e he hb=>by
 have h1:=List.all_eq_true.1 h k (List.mem_range.2 (Array.getElem?_eq_some_iff.1 hk).1)
 rw [hk,hl] at h1
 simp only [Bool.not_true,Bool.false_or] at h1
 obtain ⟨q,hq,rfl⟩:=Array.getElem_of_mem he
 have h2:=Array.all_eq_true.1 h1 q hq
 rw [hb] at h2
 simpa using h2
theorem vT (is:List Nat) (hnd:noDefer ops=true) (hs:S w)
  : ∀ (fuel:Nat) (listed:Array Bool) (env:Env),ClosedY ops listed→takesOKY X ops fuel listed is=true →
   Qs P N S ops ds (fun env=>AnyEY r P N S X ops (fuel - is.length) (setAll listed is) ds env w Q) is env→AnyEY r P N S X ops fuel listed ds env w Q:=by
 induction is with
 | nil=>intro fuel listed env _ _ h; exact h
 | cons i is ih =>
  intro fuel listed env hc hok h
  obtain ⟨o,d,v,ho,hd,hN,hy,h⟩:=h
  cases fuel with
  | zero=>simp [takesOKY] at hok
  | succ fuel =>
   simp only [takesOKY,Bool.and_eq_true] at hok
   obtain ⟨⟨⟨hf,hr⟩,hx⟩,hok⟩:=hok
   intro a ha
   refine uY ho hnd (fun j hj=>List.all_eq_true.1 hx j (by simpa using hj)) fuel listed a w hc (Region.free_spec ho hf) (by simpa using hr) (hy a ha) hs ?_
   have e:fuel+1 - (i::is).length=fuel - is.length:=by simp
   rw [e] at h
   exact ih fuel _ _ (hc.set (by simpa using hr)) hok h _ (by rw [hd]; exact ha.put hN v)
theorem x7 (is:List Nat) (hnd:noDefer ops=true) (hs:S w)
  : ∀ (fuel:Nat) (listed:Array Bool) (env:Env),(closedYB ops listed && takesOKY X ops fuel listed is)=true →
   Qs P N S ops ds (fun env=>AnyEY r P N S X ops (fuel - is.length) (setAll listed is) ds env w Q) is env→AnyEY r P N S X ops fuel listed ds env w Q:=by
 intro fuel listed env hok h
 rw [Bool.and_eq_true] at hok
 exact vT is hnd hs fuel listed env (vD hok.1) hok.2 h
theorem xZ (is:List Nat) (hnd:noDefer ops=true)
  : ∀ (fuel:Nat) (listed:Array Bool) (env:Env),takesOK ops fuel listed is=true →
   Qs P N (fun _=>True) ops ds (fun env=>AnyEY r P N S X ops (fuel - is.length) (setAll listed is) ds env w Q) is env→AnyEY r P N S X ops fuel listed ds env w Q:=by
 induction is with
 | nil=>intro fuel listed env _ h; exact h
 | cons i is ih =>
  intro fuel listed env hok h
  obtain ⟨o,d,v,ho,hd,hN,hy,h⟩:=h
  cases fuel with
  | zero=>simp [takesOK] at hok
  | succ fuel =>
   simp only [takesOK,Bool.and_eq_true] at hok
   obtain ⟨⟨hf,hr⟩,hok⟩:=hok
   intro a ha
   refine uG ho hnd fuel listed a w (Region.free_spec ho hf) (by simpa using hr) (hy a ha) ?_
   have e:fuel+1 - (i::is).length=fuel - is.length:=by simp
   rw [e] at h
   exact ih fuel _ _ hok h _ (by rw [hd]; exact ha.put hN v)
theorem vG (hr:Region.ready .any ops listed=[]) (h:Q .normal ds env w):AnyEY r P N S X ops fuel listed ds env w Q:=fun a ha=>by
 cases fuel with
 | zero=>exact ⟨hr,ds,env,ha,h⟩
 | succ fuel=>exact ⟨fun _=>⟨ds,env,ha,h⟩,by rw [hr]; simp⟩
def stepPostY (r:Option Nat) (P:Program) (N:Nat) (S:World→Prop) (X:List Nat) (w0:World) (i:Nat) (ops:Array Oper) (fuel:Nat) (listed:Array Bool) (Q:Post):Post
 | .normal,ds,env,w=>(X.contains i=false→S w0→S w)∧AnyEY r P N S X ops fuel listed ds env w Q
 | _,_,_,_=>False
def AllRY (r:Option Nat) (P:Program) (N:Nat) (S:World→Prop) (X:List Nat) (ops:Array Oper) (fuel:Nat) (listed:Array Bool) (ds:List Deferred) (env:Env) (w:World) (Q:Post):List Nat→Prop
 | []=>True
 | i::is=>(∃ o,ops[i]? = some o∧Ops r P N ops [o] ds env w (stepPostY r P N S X w i ops fuel (listed.setIfInBounds i true) Q))∧AllRY r P N S X ops fuel listed ds env w Q is
theorem AllRY.mem {is:List Nat} (h:AllRY r P N S X ops fuel listed ds env w Q is) {i:Nat} (hi:i∈is):∃ o,ops[i]? = some o∧Ops r P N ops [o] ds env w (stepPostY r P N S X w i ops fuel (listed.setIfInBounds i true) Q):=by
 induction is with
 | nil=>cases hi
 | cons j is ih =>
  rcases List.mem_cons.1 hi with rfl | hi
  ·exact h.1
  ·exact ih h.2 hi
theorem yU (rs : List Nat) (hr : Region.ready .any ops listed = rs) (hne : rs.isEmpty = false) (h : AllRY r P N S X ops fuel listed ds env w Q rs) : AnyEY r P N S X ops (fuel + 1) listed ds env w Q := by
  intro a ha
  refine ⟨fun h0 => (by rw [hr] at h0; subst h0; cases hne), fun i hi => ?_⟩
  rw [hr] at hi
  obtain ⟨o, ho, hop⟩ := h.mem hi
  have h1 := hop a ha
  unfold wpOpIn
  simp only [ho]
  simp only [wpListIn] at h1
  split
  · rename_i hw
    rw [if_pos hw] at h1
    refine ⟨h1.1, ?_⟩
    have h2 := h1.2
    generalize (o.semAt (Fr r).round a.eval).run P w = res at *
    have fin : ∀ a' w', lift N (stepPostY r P N S X w i ops fuel (listed.setIfInBounds i true) Q) .normal a' w' →
        (X.contains i = false → S w → S w') ∧ AnyY r P S X ops (fun a w => lift N Q .normal a w) fuel (listed.setIfInBounds i true) a' w' := fun a' w' ⟨ds', env', hf, hs, hA⟩ => ⟨hs, hA a' hf⟩
    cases res with
    | ok x w' =>
      cases x <;> simp only [Oper.uponIn] at h2 ⊢
      case value u => exact fin _ _ h2
      case skip => exact fin _ _ h2
      case defer d => exact fin _ _ h2
      case enter f args =>
        refine ⟨h2.1, CallsIn.mono h2.2 fun e w'' he => ?_⟩
        cases e with
        | returned u => exact fin _ _ he
        | panicked c => obtain ⟨_, _, _, hx⟩ := he; exact hx.elim
        | outgrown => obtain ⟨_, _, _, _, _, hx⟩ := he; exact hx.elim
      case row row args => exact ⟨h2.1, RowsIn.mono h2.2 fun u w'' he => fin _ _ he⟩
      case round l f tmps assign body =>
        refine ⟨h2.1, RoundIn.mono h2.2 fun e w'' he => ?_⟩
        cases e with
        | returned u => exact fin _ _ he
        | panicked c => obtain ⟨_, _, _, hx⟩ := he; exact hx.elim
        | outgrown => obtain ⟨_, _, _, _, _, hx⟩ := he; exact hx.elim
    | halt x w' =>
      cases x <;> simp only [Oper.uponIn] at h2 ⊢
      case panic u => obtain ⟨_, _, _, hx⟩ := h2; exact hx.elim
  · rename_i hw
    rw [if_neg hw] at h1
    obtain ⟨ds', env', hf, hs, hA⟩ := h1.2
    exact ⟨h1.1, hs, hA _ hf⟩
theorem vO {id:Nat} {l:List Oper} (S:World→Prop) (X:List Nat) (hm:P.follows .mixedOrders=true)
  (h:∀ w1,Redrawn w w1→AnyEY r P N S X l.toArray l.length (Array.replicate l.length false) ds env w1 Q):Holds r P N (.region id l.toArray true) ds env w Q:=by
 intro a ha
 refine Go.wpIn_mono (Q:=only fun a w=>lift N Q .normal a w) ?_ ?_
 ·refine wpIn_region_any hm (vJ (S:=S) (X:=X) _ _ _ _ ?_)
  have:=h { w with drawn:=w.drawn+1 } ⟨rfl,rfl,rfl,rfl⟩ a ha
  simpa using this
 ·intro e a' w' hq
  cases e with
  | normal=>exact hq
  | _=>exact hq.elim
end drawEY
end Go.Fip
namespace Go.Fip
open Go.Proofs Go.RowKit
theorem c3 {v:Value} {l:List En} {a:Int} {w:World} (h0:Rd encE 5 v l w) (ha:0≤a∧a≤255) (hG:Gl w) (h5:∀ {w:World},Gl w→Fn Tryz.prog 5 #[] w (fun u _=>u=.bool true))  :
  Fn Tryz.prog 3 [(.agg #[v]),(.int .u8 a)].toArray w (fun u _=>u=.bool true):=by
 refine fz Tryz.func3 Z kz Z Z (fun hH=>(zr (yM Z Z Z hH (fun b1 w2 hH3=>(oA hH3 Z (zs (oY hH3 (zC T.vW Z) (oY hH3 (zD T.uD Z (cw (n:=0) Z Z)) (oY hH3 (yA T.yN Z (h0.now hH3 (n:=1) Z).is) (oA hH3 Z (zt (seq (zr (oM hH3 Z (oY hH3 (zY Z Z) (oM hH3 Z ?_))))))))))))))))
 by_cases hc4:(l.length:Int)<1
 ·refine zA Z Z (dT hc4) Z (zA Z Z (dT hc4) Z (oY hH3 (zH Z (dT hc4) Z) (oM hH3 Z (zA Z Z Z Z (zA Z Z Z Z (zA Z Z Z Z (oY hH3 (zH Z Z Z) (zt (zL Z Z (zr (zQ Z Z Z hH3 (h5 (hG.now hH3 (n:=1) Z)) (fun w5 hH6=>(oA hH6 Z (zt (ret (zV (fin (hH6.sub (sC sR)) (fun w' hf=>(zU Z (rt Z))) (fun w' hf=>?_))))))))))))))))))
  first | rfl | exact hbad.elim
 refine zB Z Z (dF hc4) (oM hH3 Z (zB Z Z (dF hc4) (oY hH3 (zZ Z Z) (oY hH3 (zF Z (dF hc4) Z) (oM hH3 Z ?_)))))
 by_cases hc8:12<(l.length:Int)
 ·refine zA Z Z (dT hc8) Z (zA Z Z (dT hc8) Z (zA Z Z (dT hc8) Z (oY hH3 (zH Z (dT hc8) Z) (zt (zL Z Z (zr (zQ Z Z Z hH3 (h5 (hG.now hH3 (n:=1) Z)) (fun w9 hH10=>(oA hH10 Z (zt (ret (zV (fin (hH10.sub (sC sR)) (fun w' hf=>(zU Z (rt Z))) (fun w' hf=>?_))))))))))))))
  first | rfl | exact hbad.elim
 refine zB Z Z (dF hc8) (oY hH3 (yC (cs:=[v]) T.qU Z Z (fun _ hw=>Heap.uQ hw (n:=0) Z (k:=0) Z)) (zB Z Z (dF hc8) (zQ Z Z Z hH3 (c22 (h0.now hH3 (n:=1) Z) om) (fun w12 hH13=>(zB Z Z (dF hc8) (oY hH13 (xA Z Z) (oY hH13 (zF Z (dF hc8) Z) (zt ?_))))))))
 by_cases hc14:(B.ck l)=0
 ·refine zM Z (zJ hc14) (skip (zN (seq ?_)))
  have hl1:1≤l.length:=by omega
  have hl12:l.length≤12:=by omega
  have hc0:B.ck l=0:=by first | assumption | omega | exact Decidable.not_not.1 ‹_›
  obtain ⟨i,hi⟩:∃ i:Nat,(i:Int)=a % (l.length:Int):=⟨(a % (l.length:Int)).toNat,Int.toNat_of_nonneg (Int.emod_nonneg _ (by omega))⟩
  have hil:i<l.length:=by have:=Int.emod_lt_of_pos a (show (0:Int)<(l.length:Int) by omega); omega
  obtain ⟨ht1,ht2,ht3,ht4,ht5,ht6,ht7⟩:=Ex.tr_law hl1 hl12 hil
  have hpl:(List.replicate (Ex.pl l.length i) ()).length=Ex.pl l.length i:=List.length_replicate
  have hL1:(Ex.leftT l.length i 0).1=0:=rfl
  have hL2:(Ex.leftT l.length i 0).2=l.length - 1:=rfl
  refine region (oM hH13 Z (u7 Z Z Z hH13 (Ex.c6 (n:=l.length) hl1 hl12 (hG.now hH13 (n:=1) Z)) (fun u17 w15 lo18 hi19 hH16 hv20=>?_)))
  obtain ⟨p21,hu, -⟩:=hv20
  subst hu
  have hH22:=Ex.rowE_item hH16
  refine oM hH22 Z (oY hH22 (yI Z Z) (oY hH22 (yI Z Z) (oA hH22 Z (oA hH22 Z (zt (seq (zr (oM hH22 Z (oY hH22 (xA Z Z) (oM hH22 Z (zB Z Z Z (oM hH22 Z (zB Z Z Z (oY hH22 (yA T.vN Z ((show Rd encI 1 p21 (Ex.LO l.length) _ from hH22.get (n:=0) Z)).is) (zB Z Z Z (oM hH22 Z (zB Z Z Z (oY hH22 (xA Z Z) (oY hH22 (zF Z Z Z) ?_)))))))))))))))))))
  refine oM hH22 Z ?_
  by_cases hc23:((Ex.LO l.length).length:Int)=(l.length:Int)
  ·refine zB Z Z (zJ hc23) (oM hH22 Z (zB Z Z (zJ hc23) (zQ Z Z Z hH22 (Ex.c7 hl1 hl12 ((show Rd encI 1 p21 (Ex.LO l.length) _ from hH22.get (n:=0) Z)) (hG.now hH22 (n:=2) Z)) (fun w24 hH25=>(zB Z Z (zJ hc23) (oY hH25 (xA Z Z) (oY hH25 (zF Z (zJ hc23) Z) (zt (zM Z Z (skip (zu (oM hH25 Z (zQ Z Z Z hH25 (Ex.c8 hl1 hl12 ((show Rd encI 1 p21 (Ex.LO l.length) _ from hH25.get (n:=0) Z)) (hG.now hH25 (n:=2) Z)) (fun w26 hH27=>(oA hH27 Z (zs (oM hH27 Z ?_)))))))))))))))))
   refine oY hH27 (xE Tryz.underlying5 Tryz.underlying3 Z (wrap_i64 om)) (oM hH27 Z (oY hH27 (xL (show _=(i:Int) from hi.symm) (yv_rem Z Z om om)) (oA hH27 Z (zs (oY hH27 (yC (cs:=[v]) T.qU Z Z (fun _ hw=>Heap.uQ hw (n:=1) Z (k:=0) Z)) (oM hH27 Z (u7 Z Z Z hH27 (Ex.c9 hc0 hl1 hl12 hil (h0.now hH27 (n:=2) Z) (hG.now hH27 (n:=2) Z)) (fun u30 w28 lo31 hi32 hH29 hv33=>?_))))))))
   obtain ⟨p34,hu, -⟩:=hv33
   subst hu
   have hH35:=Ex.slc_item hH29
   refine oM hH35 Z (oY hH35 (yI Z Z) (oY hH35 (yI Z Z) (oA hH35 Z (oA hH35 Z (zs (oM hH35 Z (oM hH35 Z (u7 Z Z Z hH35 (Ex.c10 hl1 hl12 hil ((show Rd encI 1 p21 (Ex.LO l.length) _ from hH35.get (n:=1) Z)) (hG.now hH35 (n:=3) Z)) (fun u38 w36 lo39 hi40 hH37 hv41=>?_)))))))))
   obtain ⟨p42,hu, -⟩:=hv41
   subst hu
   have hH43:=Ex.rowE_item hH37
   refine oM hH43 Z (oY hH43 (yI Z Z) (oY hH43 (yI Z Z) (oA hH43 Z (oA hH43 Z (zt (seq (zr (oM hH43 Z (oY hH43 (xA Z Z) (oM hH43 Z (zB Z Z Z (oM hH43 Z (zB Z Z Z (oY hH43 (yA T.XT Z ((show Rd Ex.encN 0 p34 (List.replicate (Ex.pl l.length i) ()) _ from hH43.get (n:=1) Z)).is) (zB Z Z Z (oM hH43 Z (zB Z Z Z (oY hH43 (zR Z Z om) (zB Z Z Z ?_)))))))))))))))))))
   refine oY hH43 (zZ Z Z) (oY hH43 (zF Z Z Z) (oM hH43 Z ?_))
   by_cases hc44:((Ex.htF (Ex.lo l.length):Int)+1)<((List.replicate (Ex.pl l.length i) ()).length:Int)
   ·refine zA Z Z (dT hc44) Z (zA Z Z (dT hc44) Z (oY hH43 (zH Z (dT hc44) Z) (oM hH43 Z (zA Z Z Z Z (zA Z Z Z Z (zA Z Z Z Z (oY hH43 (zH Z Z Z) (oM hH43 Z (zA Z Z Z Z (zA Z Z Z Z (zA Z Z Z Z (zA Z Z Z Z (zA Z Z Z Z (oY hH43 (zH Z Z Z) (oM hH43 Z (zA Z Z Z Z (zA Z Z Z Z (zA Z Z Z Z (zA Z Z Z Z (zA Z Z Z Z (zA Z Z Z Z ?_)))))))))))))))))))))
    refine zA Z Z Z Z (zA Z Z Z Z (oY hH43 (zH Z Z Z) (zt (zL Z Z (seq ?_)))))
    have hbad:False:=by omega
    refine region (oA hH43 Z (zt (ret (zV (fin (hH43.sub (sC (sC (sC (sC sR))))) (fun w' hf=>(zU Z (rt Z))) (fun w' hf=>?_))))))
    first | rfl | exact hbad.elim
   refine zB Z Z (dF hc44) (oM hH43 Z (zB Z Z (dF hc44) (oY hH43 (xA Z Z) (oY hH43 (zF Z (dF hc44) Z) (oM hH43 Z (zB Z Z Z (oM hH43 Z (zB Z Z Z (oY hH43 (yA T.vN Z ((show Rd encI 1 p42 (Ex.TR l.length i) _ from hH43.get (n:=0) Z)).is) (zB Z Z Z (oY hH43 (zY Z Z) (oY hH43 (zF Z Z Z) (oM hH43 Z ?_)))))))))))))
   by_cases hc46:((Ex.TR l.length i).length:Int)<1
   ·refine zA Z Z (dT hc46) Z (zA Z Z (dT hc46) Z (zA Z Z (dT hc46) Z (zA Z Z (dT hc46) Z (zA Z Z (dT hc46) Z (oY hH43 (zH Z (dT hc46) Z) (oM hH43 Z (zA Z Z Z Z (zA Z Z Z Z (zA Z Z Z Z (zA Z Z Z Z (zA Z Z Z Z (zA Z Z Z Z (zA Z Z Z Z (zA Z Z Z Z (oY hH43 (zH Z Z Z) (zt (zL Z Z (seq ?_))))))))))))))))))
    have hbad:False:=by omega
    refine region (oA hH43 Z (zt (ret (zV (fin (hH43.sub (sC (sC (sC (sC sR))))) (fun w' hf=>(zU Z (rt Z))) (fun w' hf=>?_))))))
    first | rfl | exact hbad.elim
   refine zB Z Z (dF hc46) (oM hH43 Z (zB Z Z (dF hc46) (oY hH43 (yA T.vN Z ((show Rd encI 1 p42 (Ex.TR l.length i) _ from hH43.get (n:=0) Z)).is) (zB Z Z (dF hc46) (oM hH43 Z (zB Z Z (dF hc46) (oY hH43 (zR Z Z om) (zB Z Z (dF hc46) (oY hH43 (zZ Z Z) (oY hH43 (zF Z (dF hc46) Z) (oM hH43 Z ?_)))))))))))
   by_cases hc48:((Ex.htF (Ex.lo l.length):Int)+1)<((Ex.TR l.length i).length:Int)
   ·refine zA Z Z (dT hc48) Z (zA Z Z (dT hc48) Z (zA Z Z (dT hc48) Z (zA Z Z (dT hc48) Z (zA Z Z (dT hc48) Z (zA Z Z (dT hc48) Z (zA Z Z (dT hc48) Z (zA Z Z (dT hc48) Z (oY hH43 (zH Z (dT hc48) Z) (zt (zL Z Z (seq ?_)))))))))))
    have hbad:False:=by omega
    refine region (oA hH43 Z (zt (ret (zV (fin (hH43.sub (sC (sC (sC (sC sR))))) (fun w' hf=>(zU Z (rt Z))) (fun w' hf=>?_))))))
    first | rfl | exact hbad.elim
   refine zB Z Z (dF hc48) (oM hH43 Z (zB Z Z (dF hc48) (oM hH43 Z (zB Z Z (dF hc48) (oY hH43 (yA T.vN Z ((show Rd encI 1 p42 (Ex.TR l.length i) _ from hH43.get (n:=0) Z)).is) (zB Z Z (dF hc48) (oY hH43 (z7 Z Z om) (zB Z Z (dF hc48) (oY hH43 (zW T.vN Z Z ((show Rd encI 1 p42 (Ex.TR l.length i) _ from hH43.get (n:=0) Z)).is om) (zB Z Z (dF hc48) (oY hH43 (zD T.YF Z (fun _ hw=>Rd.at ((show Rd encI 1 p42 (Ex.TR l.length i) _ from hw.get (n:=0) Z)) (i:=((Ex.TR l.length i).length:Int) - 1) om (j:=0) Z)) (zB Z Z (dF hc48) (oM hH43 Z (zB Z Z (dF hc48) (oY hH43 (xA Z Z) (oY hH43 (zF Z (dF hc48) Z) (zt ?_)))))))))))))))))
   by_cases hc50:(nth (Ex.TR l.length i) (((Ex.TR l.length i).length:Int) - 1))=(i:Int)
   ·refine zM Z (zJ hc50) (skip (zu (oM hH43 Z (oY hH43 (z7 Z Z om) (oA hH43 Z (oA hH43 Z (zt (seq (zr (oA hH43 Z (zt (block (loop (S:=Nat) (fun k=>[(16,(.int .i64 (k:Int))),(14,(.int .i64 ((Ex.leftT l.length i k).1:Int))),(15,(.int .i64 ((Ex.leftT l.length i k).2:Int))),(2,(.pointer (some ⟨b1,0,none⟩))),(9,(.int .i64 (i:Int))),(12,p42)]) (fun k w1=>Heap [⟨lo39,hi40,Rd encI 1 p42 (Ex.TR l.length i)⟩,⟨lo31,hi32,Rd Ex.encN 0 p34 (List.replicate (Ex.pl l.length i) ())⟩,⟨lo18,hi19,Rd encI 1 p21 (Ex.LO l.length)⟩,bx b1 24 [v],base w] w1∧k≤(Ex.TR l.length i).length) (fun k=>(Ex.TR l.length i).length - k) (0) (uC Z (uC Z (Sub.cons (congrArg (fun z:Int=>some (Value.int .i64 z)) om) (uC Z (uC Z (uC Z (Sub.nil _))))))) ?_ ?_)))))))))))))
    ·exact ⟨hH43,om⟩
    rintro k w51 ⟨hH52,hk⟩
    refine seq (zr (oM hH52 Z (oM hH52 Z (oY hH52 (yA T.vN Z ((show Rd encI 1 p42 (Ex.TR l.length i) _ from hH52.get (n:=0) Z)).is) (oY hH52 (zY Z Z) (zt ?_))))))
    by_cases hc53:(k:Int)<((Ex.TR l.length i).length:Int)
    ·refine zL Z (dT hc53) (skip (zN (seq (block (seq ?_)))))
     obtain ⟨x,hx1,hx2,hx3,hx4,hx5⟩:=Ex.tr_ord hc0 hl12 hil (k:=k) (by omega)
     refine region (oM hH52 Z (oM hH52 Z (oY hH52 (zW T.vN Z Z ((show Rd encI 1 p42 (Ex.TR l.length i) _ from hH52.get (n:=0) Z)).is om) (oY hH52 (xL hx1 (zD T.YF Z (fun _ hw=>Rd.at ((show Rd encI 1 p42 (Ex.TR l.length i) _ from hw.get (n:=0) Z)) (i:=(k:Int)) om (j:=0) Z))) (oA hH52 Z (zt (seq (zr (oM hH52 Z (oM hH52 Z (oY hH52 (zY Z Z) (oM hH52 Z ?_))))))))))))
     by_cases hc54:(x:Int)<((Ex.leftT l.length i k).1:Int)
     ·refine zA Z Z (dT hc54) Z (zA Z Z (dT hc54) Z (zA Z Z (dT hc54) Z (oY hH52 (zH Z (dT hc54) Z) (zt (zL Z Z (seq ?_))))))
      have hbad:False:=by omega
      refine region (oA hH52 Z (zt (ret (zV (z8 (zV (xV (z8 (zV (fin (hH52.sub (sC (sC (sC (sC sR))))) (fun w' hf=>(zU Z (rt Z))) (fun w' hf=>?_)))))))))))
      first | rfl | exact hbad.elim
     refine zB Z Z (dF hc54) (oM hH52 Z (zB Z Z (dF hc54) (oM hH52 Z (zB Z Z (dF hc54) (oY hH52 (zZ Z Z) (oY hH52 (zF Z (dF hc54) Z) (zt ?_)))))))
     by_cases hc56:((Ex.leftT l.length i k).2:Int)<(x:Int)
     ·refine zL Z (dT hc56) (seq ?_)
      have hbad:False:=by omega
      refine region (oA hH52 Z (zt (ret (zV (z8 (zV (xV (z8 (zV (fin (hH52.sub (sC (sC (sC (sC sR))))) (fun w' hf=>(zU Z (rt Z))) (fun w' hf=>?_)))))))))))
      first | rfl | exact hbad.elim
     refine zM Z (dF hc56) (skip (zN (seq (vO (fun w'=>Heap [⟨lo39,hi40,Rd encI 1 p42 (Ex.TR l.length i)⟩,⟨lo31,hi32,Rd Ex.encN 0 p34 (List.replicate (Ex.pl l.length i) ())⟩,⟨lo18,hi19,Rd encI 1 p21 (Ex.LO l.length)⟩,bx b1 24 [v],base w] w') [13] T.mixed (fun w58 hr59=>?_)))))
     have hH60:=hH52.redrawn hr59
     refine xZ [0,2,5,7] kz  _ _ _ kz (yD Z Z (zC T.vW Z) (qM Z Z Z (yD Z Z (zC T.vW Z) (qM Z Z Z (yQ (x7 [1,6] kz hH60 _ _ _ kz (yD Z Z (zD T.uD Z (cw (n:=3) Z Z)) (yD Z Z (zD T.uD Z (cw (n:=3) Z Z)) (yQ (xZ [3,8] kz  _ _ _ kz (yD Z Z (zW T.yN Z Z (h0.now hH60 (n:=4) Z).is om) (yD Z Z (zW T.yN Z Z (h0.now hH60 (n:=4) Z).is om) (yQ (x7 [4,9] kz hH60 _ _ _ kz (yD Z Z (yC (cs:=[(.int .i64 ((nth l (x:Int)).n)),(.int .i64 ((nth l (x:Int)).d)),(.int .i64 ((nth l (x:Int)).f)),(.int .i64 ((nth l (x:Int)).t)),(.int .i64 ((nth l (x:Int)).a))]) T.xJ Z Z (fun _ hw=>Rd.qR (h0.now hw (n:=4) Z) (i:=(x:Int)) om)) (yD Z Z (yC (cs:=[(.int .i64 ((nth l (i:Int)).n)),(.int .i64 ((nth l (i:Int)).d)),(.int .i64 ((nth l (i:Int)).f)),(.int .i64 ((nth l (i:Int)).t)),(.int .i64 ((nth l (i:Int)).a))]) T.xJ Z Z (fun _ hw=>Rd.qR (h0.now hw (n:=4) Z) (i:=(i:Int)) om)) (yQ (yU [10,11] kz Z (⟨⟨_,Z,?_⟩,⟨_,Z,?_⟩,trivial⟩)))))))))))))))))))
     ·refine yY (z:=(.agg #[(.int .i64 0),(.int .i64 0),(.int .i64 0),(.int .i64 0),(.int .i64 0)])) (fun _=>by kernel_rfl) Z Z hH60 (fun b61 w62 hH63=>(zG (⟨fun _ _=>(hH63.sub (sC sR)),(yU [11] kz Z (⟨⟨_,Z,(yY (z:=(.agg #[(.int .i64 0),(.int .i64 0),(.int .i64 0),(.int .i64 0),(.int .i64 0)])) (fun _=>by kernel_rfl) Z Z hH63 (fun b64 w65 hH66=>(zG (⟨fun _ _=>(hH66.sub (sC (sC sR))),(yU [12] kz Z (⟨⟨_,Z,(y7 (n:=1) (j:=0) Z Z hH66 Z T.qL Z Z Z (by rfl) (fun w67 hH68=>(zG (⟨fun _ _=>(hH68.sub (sC (sC sR))),(yU [13] kz Z (⟨⟨_,Z,(y7 (n:=0) (j:=0) Z Z hH68 Z T.qL Z Z Z (by rfl) (fun w69 hH70=>(zG (⟨(fun h=>by cases h),(vG kz (zN (seq (seq ?_))))⟩))))⟩,trivial⟩))⟩))))⟩,trivial⟩))⟩))))⟩,trivial⟩))⟩)))
      refine region (oY hH70 (zC T.zS Z) (oY hH70 (zD T.zP Z (cw (n:=1) Z Z)) (oY hH70 (zC T.zS Z) (oY hH70 (zD T.zP Z (cw (n:=0) Z Z)) (oY hH70 (zY Z Z) (oM hH70 Z ?_))))))
      by_cases hc71:((nth l (x:Int)).d)<((nth l (i:Int)).d)
      ·refine zA Z Z (dT hc71) Z (zA Z Z (dT hc71) Z (zA Z Z (dT hc71) Z (zA Z Z (dT hc71) Z (zA Z Z (dT hc71) Z (zA Z Z (dT hc71) Z (zE Z Z Z (zE Z Z Z (zE Z Z Z (zE Z Z Z (zE Z Z Z (zA Z Z (dT hc71) Z (oY hH70 (zH Z (dT hc71) Z) (zt (zL Z Z (region (oM hH70 Z (oY hH70 (zR Z Z om) (oA hH70 Z (zt ?_)))))))))))))))))))
       refine zr (oY hH70 (zC T.zS Z) (oY hH70 (zD T.zP Z (cw (n:=1) Z Z)) (oY hH70 (zC T.zS Z) (oY hH70 (zD T.zP Z (cw (n:=0) Z Z)) (oY hH70 (zZ Z Z) (oM hH70 Z ?_))))))
       by_cases hc72:((nth l (i:Int)).d)<((nth l (x:Int)).d)
       ·refine zA Z Z (dT hc72) Z (zA Z Z (dT hc72) Z (zA Z Z (dT hc72) Z (zA Z Z (dT hc72) Z (zA Z Z (dT hc72) Z (zA Z Z (dT hc72) Z (zE Z Z Z (zE Z Z Z (zE Z Z Z (zE Z Z Z (zE Z Z Z (zA Z Z (dT hc72) Z (oY hH70 (zH Z (dT hc72) Z) (zt (zL Z Z (region (oM hH70 Z (oY hH70 (z7 Z Z om) (oA hH70 Z (zG (zX ?_))))))))))))))))))))
        refine zN (region (oM hH70 Z (oY hH70 (zR Z Z om) (oA hH70 Z (zG (yH (k+1) (uC Z (Sub.cons (congrArg (fun z:Int=>some (Value.int .i64 z)) om) (Sub.cons (congrArg (fun z:Int=>some (Value.int .i64 z)) om) (uC Z (uC Z (uC Z (Sub.nil _))))))) (⟨(hH70.sub (sC (sC sR))),om⟩) om3))))))
       refine zB Z Z (dF hc72) (oY hH70 (zC T.zS Z) (zB Z Z (dF hc72) (oY hH70 (zD T.zP Z (cw (n:=1) Z Z)) (zB Z Z (dF hc72) (oY hH70 (zC T.zS Z) (zB Z Z (dF hc72) (oY hH70 (zD T.zP Z (cw (n:=0) Z Z)) (zB Z Z (dF hc72) (oY hH70 (yF Z Z) (zB Z Z (dF hc72) (oM hH70 Z ?_)))))))))))
       by_cases hc74:((nth l (x:Int)).d)=((nth l (i:Int)).d)
       ·refine zB Z Z (dT hc74) (oY hH70 (zC T.yE Z) (zB Z Z (dT hc74) (oY hH70 (zD T.zP Z (cw (n:=1) Z Z)) (zB Z Z (dT hc74) (oY hH70 (zC T.yE Z) (zB Z Z (dT hc74) (oY hH70 (zD T.zP Z (cw (n:=0) Z Z)) (zB Z Z (dT hc74) (oY hH70 (zZ Z Z) (zB Z Z (dF hc72) (oY hH70 (zH Z (dT hc74) Z) (oY hH70 (zF Z (dF hc72) Z) (zt ?_)))))))))))))
        by_cases hc75:((nth l (i:Int)).n)<((nth l (x:Int)).n)
        ·refine zL Z (dT hc75) (region (oM hH70 Z (oY hH70 (z7 Z Z om) (oA hH70 Z (zG (zX (zN (region (oM hH70 Z (oY hH70 (zR Z Z om) (oA hH70 Z (zG (yH (k+1) (uC Z (Sub.cons (congrArg (fun z:Int=>some (Value.int .i64 z)) om) (Sub.cons (congrArg (fun z:Int=>some (Value.int .i64 z)) om) (uC Z (uC Z (uC Z (Sub.nil _))))))) (⟨(hH70.sub (sC (sC sR))),om⟩) om3)))))))))))))
        refine zM Z (dF hc75) (skip (zX (zN (region (oM hH70 Z (oY hH70 (zR Z Z om) (oA hH70 Z (zG (yH (k+1) (uC Z (Sub.cons (congrArg (fun z:Int=>some (Value.int .i64 z)) om) (Sub.cons (congrArg (fun z:Int=>some (Value.int .i64 z)) om) (uC Z (uC Z (uC Z (Sub.nil _))))))) (⟨(hH70.sub (sC (sC sR))),om⟩) om3)))))))))
       refine zA Z Z (dF hc74) Z (zA Z Z (dF hc74) Z (zA Z Z (dF hc74) Z (zA Z Z (dF hc74) Z (zA Z Z (dF hc74) Z (zB Z Z (dF hc72) (oY hH70 (zF Z (dF hc74) Z) (oY hH70 (zF Z (dF hc72) Z) (zt (zM Z Z (skip (zX (zN (region (oM hH70 Z (oY hH70 (zR Z Z om) (oA hH70 Z (zG (yH (k+1) (uC Z (Sub.cons (congrArg (fun z:Int=>some (Value.int .i64 z)) om) (Sub.cons (congrArg (fun z:Int=>some (Value.int .i64 z)) om) (uC Z (uC Z (uC Z (Sub.nil _))))))) (⟨(hH70.sub (sC (sC sR))),om⟩) om3))))))))))))))))))
      refine zB Z Z (dF hc71) (oY hH70 (zC T.zS Z) (zB Z Z (dF hc71) (oY hH70 (zD T.zP Z (cw (n:=1) Z Z)) (zB Z Z (dF hc71) (oY hH70 (zC T.zS Z) (zB Z Z (dF hc71) (oY hH70 (zD T.zP Z (cw (n:=0) Z Z)) (zB Z Z (dF hc71) (oY hH70 (yF Z Z) (zB Z Z (dF hc71) (oM hH70 Z ?_)))))))))))
      by_cases hc79:((nth l (x:Int)).d)=((nth l (i:Int)).d)
      ·refine zB Z Z (dT hc79) (oY hH70 (zC T.yE Z) (zB Z Z (dT hc79) (oY hH70 (zD T.zP Z (cw (n:=1) Z Z)) (zB Z Z (dT hc79) (oY hH70 (zC T.yE Z) (zB Z Z (dT hc79) (oY hH70 (zD T.zP Z (cw (n:=0) Z Z)) (zB Z Z (dT hc79) (oY hH70 (zY Z Z) (zB Z Z (dF hc71) (oY hH70 (zH Z (dT hc79) Z) (oY hH70 (zF Z (dF hc71) Z) (zt ?_)))))))))))))
       by_cases hc80:((nth l (x:Int)).n)<((nth l (i:Int)).n)
       ·refine zL Z (dT hc80) (region (oM hH70 Z (oY hH70 (zR Z Z om) (oA hH70 Z (zs (oY hH70 (zC T.zS Z) (oY hH70 (zD T.zP Z (cw (n:=1) Z Z)) (oY hH70 (zC T.zS Z) (oY hH70 (zD T.zP Z (cw (n:=0) Z Z)) (oY hH70 (zZ Z Z) (oM hH70 Z ?_)))))))))))
        by_cases hc81:((nth l (i:Int)).d)<((nth l (x:Int)).d)
        ·refine zA Z Z (dT hc81) Z (zA Z Z (dT hc81) Z (zA Z Z (dT hc81) Z (zA Z Z (dT hc81) Z (zA Z Z (dT hc81) Z (zA Z Z (dT hc81) Z (zE Z Z Z (zE Z Z Z (zE Z Z Z (zE Z Z Z (zE Z Z Z (zA Z Z (dT hc81) Z (oY hH70 (zH Z (dT hc81) Z) (zt (zL Z Z (region (oM hH70 Z (oY hH70 (z7 Z Z om) (oA hH70 Z (zG (zX ?_))))))))))))))))))))
         refine zN (region (oM hH70 Z (oY hH70 (zR Z Z om) (oA hH70 Z (zG (yH (k+1) (uC Z (Sub.cons (congrArg (fun z:Int=>some (Value.int .i64 z)) om) (Sub.cons (congrArg (fun z:Int=>some (Value.int .i64 z)) om) (uC Z (uC Z (uC Z (Sub.nil _))))))) (⟨(hH70.sub (sC (sC sR))),om⟩) om3))))))
        refine zB Z Z (dF hc81) (oY hH70 (zC T.zS Z) (zB Z Z (dF hc81) (oY hH70 (zD T.zP Z (cw (n:=1) Z Z)) (zB Z Z (dF hc81) (oY hH70 (zC T.zS Z) (zB Z Z (dF hc81) (oY hH70 (zD T.zP Z (cw (n:=0) Z Z)) (zB Z Z (dF hc81) (oY hH70 (yF Z Z) (zB Z Z (dF hc81) (oM hH70 Z (zB Z Z (dT hc79) (oY hH70 (zC T.yE Z) (zB Z Z (dT hc79) (oY hH70 (zD T.zP Z (cw (n:=1) Z Z)) (zB Z Z (dT hc79) (oY hH70 (zC T.yE Z) (zB Z Z (dT hc79) (oY hH70 (zD T.zP Z (cw (n:=0) Z Z)) (zB Z Z (dT hc79) (oY hH70 (zZ Z Z) ?_)))))))))))))))))))))
        refine zB Z Z (dF hc81) (oY hH70 (zH Z (dT hc79) Z) (oY hH70 (zF Z (dF hc81) Z) (zt ?_)))
        by_cases hc83:((nth l (i:Int)).n)<((nth l (x:Int)).n)
        ·refine zL Z (dT hc83) (region (oM hH70 Z (oY hH70 (z7 Z Z om) (oA hH70 Z (zG (zX (zN (region (oM hH70 Z (oY hH70 (zR Z Z om) (oA hH70 Z (zG (yH (k+1) (uC Z (Sub.cons (congrArg (fun z:Int=>some (Value.int .i64 z)) om) (Sub.cons (congrArg (fun z:Int=>some (Value.int .i64 z)) om) (uC Z (uC Z (uC Z (Sub.nil _))))))) (⟨(hH70.sub (sC (sC sR))),om⟩) om3)))))))))))))
        refine zM Z (dF hc83) (skip (zX (zN (region (oM hH70 Z (oY hH70 (zR Z Z om) (oA hH70 Z (zG (yH (k+1) (uC Z (Sub.cons (congrArg (fun z:Int=>some (Value.int .i64 z)) om) (Sub.cons (congrArg (fun z:Int=>some (Value.int .i64 z)) om) (uC Z (uC Z (uC Z (Sub.nil _))))))) (⟨(hH70.sub (sC (sC sR))),om⟩) om3)))))))))
       refine zM Z (dF hc80) (skip (zu (oY hH70 (zC T.zS Z) (oY hH70 (zD T.zP Z (cw (n:=1) Z Z)) (oY hH70 (zC T.zS Z) (oY hH70 (zD T.zP Z (cw (n:=0) Z Z)) (oY hH70 (zZ Z Z) (oM hH70 Z ?_))))))))
       by_cases hc86:((nth l (i:Int)).d)<((nth l (x:Int)).d)
       ·refine zA Z Z (dT hc86) Z (zA Z Z (dT hc86) Z (zA Z Z (dT hc86) Z (zA Z Z (dT hc86) Z (zA Z Z (dT hc86) Z (zA Z Z (dT hc86) Z (zE Z Z Z (zE Z Z Z (zE Z Z Z (zE Z Z Z (zE Z Z Z (zA Z Z (dT hc86) Z (oY hH70 (zH Z (dT hc86) Z) (zt (zL Z Z (region (oM hH70 Z (oY hH70 (z7 Z Z om) (oA hH70 Z (zG (zX ?_))))))))))))))))))))
        refine zN (region (oM hH70 Z (oY hH70 (zR Z Z om) (oA hH70 Z (zG (yH (k+1) (uC Z (Sub.cons (congrArg (fun z:Int=>some (Value.int .i64 z)) om) (Sub.cons (congrArg (fun z:Int=>some (Value.int .i64 z)) om) (uC Z (uC Z (uC Z (Sub.nil _))))))) (⟨(hH70.sub (sC (sC sR))),om⟩) om3))))))
       refine zB Z Z (dF hc86) (oY hH70 (zC T.zS Z) (zB Z Z (dF hc86) (oY hH70 (zD T.zP Z (cw (n:=1) Z Z)) (zB Z Z (dF hc86) (oY hH70 (zC T.zS Z) (zB Z Z (dF hc86) (oY hH70 (zD T.zP Z (cw (n:=0) Z Z)) (zB Z Z (dF hc86) (oY hH70 (yF Z Z) (zB Z Z (dF hc86) (oM hH70 Z (zB Z Z (dT hc79) (oY hH70 (zC T.yE Z) (zB Z Z (dT hc79) (oY hH70 (zD T.zP Z (cw (n:=1) Z Z)) (zB Z Z (dT hc79) (oY hH70 (zC T.yE Z) (zB Z Z (dT hc79) (oY hH70 (zD T.zP Z (cw (n:=0) Z Z)) (zB Z Z (dT hc79) (oY hH70 (zZ Z Z) ?_)))))))))))))))))))))
       refine zB Z Z (dF hc86) (oY hH70 (zH Z (dT hc79) Z) (oY hH70 (zF Z (dF hc86) Z) (zt ?_)))
       by_cases hc88:((nth l (i:Int)).n)<((nth l (x:Int)).n)
       ·refine zL Z (dT hc88) (region (oM hH70 Z (oY hH70 (z7 Z Z om) (oA hH70 Z (zG (zX (zN (region (oM hH70 Z (oY hH70 (zR Z Z om) (oA hH70 Z (zG (yH (k+1) (uC Z (Sub.cons (congrArg (fun z:Int=>some (Value.int .i64 z)) om) (Sub.cons (congrArg (fun z:Int=>some (Value.int .i64 z)) om) (uC Z (uC Z (uC Z (Sub.nil _))))))) (⟨(hH70.sub (sC (sC sR))),om⟩) om3)))))))))))))
       refine zM Z (dF hc88) (skip (zX (zN (region (oM hH70 Z (oY hH70 (zR Z Z om) (oA hH70 Z (zG (yH (k+1) (uC Z (Sub.cons (congrArg (fun z:Int=>some (Value.int .i64 z)) om) (Sub.cons (congrArg (fun z:Int=>some (Value.int .i64 z)) om) (uC Z (uC Z (uC Z (Sub.nil _))))))) (⟨(hH70.sub (sC (sC sR))),om⟩) om3)))))))))
      refine zA Z Z (dF hc79) Z (zA Z Z (dF hc79) Z (zA Z Z (dF hc79) Z (zA Z Z (dF hc79) Z (zA Z Z (dF hc79) Z (zB Z Z (dF hc71) (oY hH70 (zF Z (dF hc79) Z) (oY hH70 (zF Z (dF hc71) Z) (zt (zM Z Z (skip (zu (oY hH70 (zC T.zS Z) (oY hH70 (zD T.zP Z (cw (n:=1) Z Z)) (oY hH70 (zC T.zS Z) (oY hH70 (zD T.zP Z (cw (n:=0) Z Z)) (oY hH70 (zZ Z Z) (oM hH70 Z ?_)))))))))))))))))
      by_cases hc91:((nth l (i:Int)).d)<((nth l (x:Int)).d)
      ·refine zA Z Z (dT hc91) Z (zA Z Z (dT hc91) Z (zA Z Z (dT hc91) Z (zA Z Z (dT hc91) Z (zA Z Z (dT hc91) Z (zA Z Z (dT hc91) Z (zE Z Z Z (zE Z Z Z (zE Z Z Z (zE Z Z Z (zE Z Z Z (zA Z Z (dT hc91) Z (oY hH70 (zH Z (dT hc91) Z) (zt (zL Z Z (region (oM hH70 Z (oY hH70 (z7 Z Z om) (oA hH70 Z (zG (zX ?_))))))))))))))))))))
       refine zN (region (oM hH70 Z (oY hH70 (zR Z Z om) (oA hH70 Z (zG (yH (k+1) (uC Z (Sub.cons (congrArg (fun z:Int=>some (Value.int .i64 z)) om) (Sub.cons (congrArg (fun z:Int=>some (Value.int .i64 z)) om) (uC Z (uC Z (uC Z (Sub.nil _))))))) (⟨(hH70.sub (sC (sC sR))),om⟩) om3))))))
      refine zB Z Z (dF hc91) (oY hH70 (zC T.zS Z) (zB Z Z (dF hc91) (oY hH70 (zD T.zP Z (cw (n:=1) Z Z)) (zB Z Z (dF hc91) (oY hH70 (zC T.zS Z) (zB Z Z (dF hc91) (oY hH70 (zD T.zP Z (cw (n:=0) Z Z)) (zB Z Z (dF hc91) (oY hH70 (yF Z Z) (zB Z Z (dF hc91) (oM hH70 Z (zA Z Z (dF hc79) Z (zA Z Z (dF hc79) Z (zA Z Z (dF hc79) Z (zA Z Z (dF hc79) Z (zA Z Z (dF hc79) Z (zB Z Z (dF hc91) (oY hH70 (zF Z (dF hc79) Z) (oY hH70 (zF Z (dF hc91) Z) (zt ?_))))))))))))))))))))
      refine zM Z Z (skip (zX (zN (region (oM hH70 Z (oY hH70 (zR Z Z om) (oA hH70 Z (zG (yH (k+1) (uC Z (Sub.cons (congrArg (fun z:Int=>some (Value.int .i64 z)) om) (Sub.cons (congrArg (fun z:Int=>some (Value.int .i64 z)) om) (uC Z (uC Z (uC Z (Sub.nil _))))))) (⟨(hH70.sub (sC (sC sR))),om⟩) om3)))))))))
     refine yY (z:=(.agg #[(.int .i64 0),(.int .i64 0),(.int .i64 0),(.int .i64 0),(.int .i64 0)])) (fun _=>by kernel_rfl) Z Z hH60 (fun b94 w95 hH96=>(zG (⟨fun _ _=>(hH96.sub (sC sR)),(yU [10] kz Z (⟨⟨_,Z,(yY (z:=(.agg #[(.int .i64 0),(.int .i64 0),(.int .i64 0),(.int .i64 0),(.int .i64 0)])) (fun _=>by kernel_rfl) Z Z hH96 (fun b97 w98 hH99=>(zG (⟨fun _ _=>(hH99.sub (sC (sC sR))),(yU [12] kz Z (⟨⟨_,Z,(y7 (n:=0) (j:=0) Z Z hH99 Z T.qL Z Z Z (by rfl) (fun w100 hH101=>(zG (⟨fun _ _=>(hH101.sub (sC (sC sR))),(yU [13] kz Z (⟨⟨_,Z,(y7 (n:=1) (j:=0) Z Z hH101 Z T.qL Z Z Z (by rfl) (fun w102 hH103=>(zG (⟨(fun h=>by cases h),(vG kz (zN (seq (seq ?_))))⟩))))⟩,trivial⟩))⟩))))⟩,trivial⟩))⟩))))⟩,trivial⟩))⟩)))
     refine region (oY hH103 (zC T.zS Z) (oY hH103 (zD T.zP Z (cw (n:=0) Z Z)) (oY hH103 (zC T.zS Z) (oY hH103 (zD T.zP Z (cw (n:=1) Z Z)) (oY hH103 (zY Z Z) (oM hH103 Z ?_))))))
     by_cases hc104:((nth l (x:Int)).d)<((nth l (i:Int)).d)
     ·refine zA Z Z (dT hc104) Z (zA Z Z (dT hc104) Z (zA Z Z (dT hc104) Z (zA Z Z (dT hc104) Z (zA Z Z (dT hc104) Z (zA Z Z (dT hc104) Z (zE Z Z Z (zE Z Z Z (zE Z Z Z (zE Z Z Z (zE Z Z Z (zA Z Z (dT hc104) Z (oY hH103 (zH Z (dT hc104) Z) (zt (zL Z Z (region (oM hH103 Z (oY hH103 (zR Z Z om) (oA hH103 Z (zt ?_)))))))))))))))))))
      refine zr (oY hH103 (zC T.zS Z) (oY hH103 (zD T.zP Z (cw (n:=0) Z Z)) (oY hH103 (zC T.zS Z) (oY hH103 (zD T.zP Z (cw (n:=1) Z Z)) (oY hH103 (zZ Z Z) (oM hH103 Z ?_))))))
      by_cases hc105:((nth l (i:Int)).d)<((nth l (x:Int)).d)
      ·refine zA Z Z (dT hc105) Z (zA Z Z (dT hc105) Z (zA Z Z (dT hc105) Z (zA Z Z (dT hc105) Z (zA Z Z (dT hc105) Z (zA Z Z (dT hc105) Z (zE Z Z Z (zE Z Z Z (zE Z Z Z (zE Z Z Z (zE Z Z Z (zA Z Z (dT hc105) Z (oY hH103 (zH Z (dT hc105) Z) (zt (zL Z Z (region (oM hH103 Z (oY hH103 (z7 Z Z om) (oA hH103 Z (zG (zX ?_))))))))))))))))))))
       refine zN (region (oM hH103 Z (oY hH103 (zR Z Z om) (oA hH103 Z (zG (yH (k+1) (uC Z (Sub.cons (congrArg (fun z:Int=>some (Value.int .i64 z)) om) (Sub.cons (congrArg (fun z:Int=>some (Value.int .i64 z)) om) (uC Z (uC Z (uC Z (Sub.nil _))))))) (⟨(hH103.sub (sC (sC sR))),om⟩) om3))))))
      refine zB Z Z (dF hc105) (oY hH103 (zC T.zS Z) (zB Z Z (dF hc105) (oY hH103 (zD T.zP Z (cw (n:=0) Z Z)) (zB Z Z (dF hc105) (oY hH103 (zC T.zS Z) (zB Z Z (dF hc105) (oY hH103 (zD T.zP Z (cw (n:=1) Z Z)) (zB Z Z (dF hc105) (oY hH103 (yF Z Z) (zB Z Z (dF hc105) (oM hH103 Z ?_)))))))))))
      by_cases hc107:((nth l (x:Int)).d)=((nth l (i:Int)).d)
      ·refine zB Z Z (dT hc107) (oY hH103 (zC T.yE Z) (zB Z Z (dT hc107) (oY hH103 (zD T.zP Z (cw (n:=0) Z Z)) (zB Z Z (dT hc107) (oY hH103 (zC T.yE Z) (zB Z Z (dT hc107) (oY hH103 (zD T.zP Z (cw (n:=1) Z Z)) (zB Z Z (dT hc107) (oY hH103 (zZ Z Z) (zB Z Z (dF hc105) (oY hH103 (zH Z (dT hc107) Z) (oY hH103 (zF Z (dF hc105) Z) (zt ?_)))))))))))))
       by_cases hc108:((nth l (i:Int)).n)<((nth l (x:Int)).n)
       ·refine zL Z (dT hc108) (region (oM hH103 Z (oY hH103 (z7 Z Z om) (oA hH103 Z (zG (zX (zN (region (oM hH103 Z (oY hH103 (zR Z Z om) (oA hH103 Z (zG (yH (k+1) (uC Z (Sub.cons (congrArg (fun z:Int=>some (Value.int .i64 z)) om) (Sub.cons (congrArg (fun z:Int=>some (Value.int .i64 z)) om) (uC Z (uC Z (uC Z (Sub.nil _))))))) (⟨(hH103.sub (sC (sC sR))),om⟩) om3)))))))))))))
       refine zM Z (dF hc108) (skip (zX (zN (region (oM hH103 Z (oY hH103 (zR Z Z om) (oA hH103 Z (zG (yH (k+1) (uC Z (Sub.cons (congrArg (fun z:Int=>some (Value.int .i64 z)) om) (Sub.cons (congrArg (fun z:Int=>some (Value.int .i64 z)) om) (uC Z (uC Z (uC Z (Sub.nil _))))))) (⟨(hH103.sub (sC (sC sR))),om⟩) om3)))))))))
      refine zA Z Z (dF hc107) Z (zA Z Z (dF hc107) Z (zA Z Z (dF hc107) Z (zA Z Z (dF hc107) Z (zA Z Z (dF hc107) Z (zB Z Z (dF hc105) (oY hH103 (zF Z (dF hc107) Z) (oY hH103 (zF Z (dF hc105) Z) (zt (zM Z Z (skip (zX (zN (region (oM hH103 Z (oY hH103 (zR Z Z om) (oA hH103 Z (zG (yH (k+1) (uC Z (Sub.cons (congrArg (fun z:Int=>some (Value.int .i64 z)) om) (Sub.cons (congrArg (fun z:Int=>some (Value.int .i64 z)) om) (uC Z (uC Z (uC Z (Sub.nil _))))))) (⟨(hH103.sub (sC (sC sR))),om⟩) om3))))))))))))))))))
     refine zB Z Z (dF hc104) (oY hH103 (zC T.zS Z) (zB Z Z (dF hc104) (oY hH103 (zD T.zP Z (cw (n:=0) Z Z)) (zB Z Z (dF hc104) (oY hH103 (zC T.zS Z) (zB Z Z (dF hc104) (oY hH103 (zD T.zP Z (cw (n:=1) Z Z)) (zB Z Z (dF hc104) (oY hH103 (yF Z Z) (zB Z Z (dF hc104) (oM hH103 Z ?_)))))))))))
     by_cases hc112:((nth l (x:Int)).d)=((nth l (i:Int)).d)
     ·refine zB Z Z (dT hc112) (oY hH103 (zC T.yE Z) (zB Z Z (dT hc112) (oY hH103 (zD T.zP Z (cw (n:=0) Z Z)) (zB Z Z (dT hc112) (oY hH103 (zC T.yE Z) (zB Z Z (dT hc112) (oY hH103 (zD T.zP Z (cw (n:=1) Z Z)) (zB Z Z (dT hc112) (oY hH103 (zY Z Z) (zB Z Z (dF hc104) (oY hH103 (zH Z (dT hc112) Z) (oY hH103 (zF Z (dF hc104) Z) (zt ?_)))))))))))))
      by_cases hc113:((nth l (x:Int)).n)<((nth l (i:Int)).n)
      ·refine zL Z (dT hc113) (region (oM hH103 Z (oY hH103 (zR Z Z om) (oA hH103 Z (zs (oY hH103 (zC T.zS Z) (oY hH103 (zD T.zP Z (cw (n:=0) Z Z)) (oY hH103 (zC T.zS Z) (oY hH103 (zD T.zP Z (cw (n:=1) Z Z)) (oY hH103 (zZ Z Z) (oM hH103 Z ?_)))))))))))
       by_cases hc114:((nth l (i:Int)).d)<((nth l (x:Int)).d)
       ·refine zA Z Z (dT hc114) Z (zA Z Z (dT hc114) Z (zA Z Z (dT hc114) Z (zA Z Z (dT hc114) Z (zA Z Z (dT hc114) Z (zA Z Z (dT hc114) Z (zE Z Z Z (zE Z Z Z (zE Z Z Z (zE Z Z Z (zE Z Z Z (zA Z Z (dT hc114) Z (oY hH103 (zH Z (dT hc114) Z) (zt (zL Z Z (region (oM hH103 Z (oY hH103 (z7 Z Z om) (oA hH103 Z (zG (zX ?_))))))))))))))))))))
        refine zN (region (oM hH103 Z (oY hH103 (zR Z Z om) (oA hH103 Z (zG (yH (k+1) (uC Z (Sub.cons (congrArg (fun z:Int=>some (Value.int .i64 z)) om) (Sub.cons (congrArg (fun z:Int=>some (Value.int .i64 z)) om) (uC Z (uC Z (uC Z (Sub.nil _))))))) (⟨(hH103.sub (sC (sC sR))),om⟩) om3))))))
       refine zB Z Z (dF hc114) (oY hH103 (zC T.zS Z) (zB Z Z (dF hc114) (oY hH103 (zD T.zP Z (cw (n:=0) Z Z)) (zB Z Z (dF hc114) (oY hH103 (zC T.zS Z) (zB Z Z (dF hc114) (oY hH103 (zD T.zP Z (cw (n:=1) Z Z)) (zB Z Z (dF hc114) (oY hH103 (yF Z Z) (zB Z Z (dF hc114) (oM hH103 Z (zB Z Z (dT hc112) (oY hH103 (zC T.yE Z) (zB Z Z (dT hc112) (oY hH103 (zD T.zP Z (cw (n:=0) Z Z)) (zB Z Z (dT hc112) (oY hH103 (zC T.yE Z) (zB Z Z (dT hc112) (oY hH103 (zD T.zP Z (cw (n:=1) Z Z)) (zB Z Z (dT hc112) (oY hH103 (zZ Z Z) ?_)))))))))))))))))))))
       refine zB Z Z (dF hc114) (oY hH103 (zH Z (dT hc112) Z) (oY hH103 (zF Z (dF hc114) Z) (zt ?_)))
       by_cases hc116:((nth l (i:Int)).n)<((nth l (x:Int)).n)
       ·refine zL Z (dT hc116) (region (oM hH103 Z (oY hH103 (z7 Z Z om) (oA hH103 Z (zG (zX (zN (region (oM hH103 Z (oY hH103 (zR Z Z om) (oA hH103 Z (zG (yH (k+1) (uC Z (Sub.cons (congrArg (fun z:Int=>some (Value.int .i64 z)) om) (Sub.cons (congrArg (fun z:Int=>some (Value.int .i64 z)) om) (uC Z (uC Z (uC Z (Sub.nil _))))))) (⟨(hH103.sub (sC (sC sR))),om⟩) om3)))))))))))))
       refine zM Z (dF hc116) (skip (zX (zN (region (oM hH103 Z (oY hH103 (zR Z Z om) (oA hH103 Z (zG (yH (k+1) (uC Z (Sub.cons (congrArg (fun z:Int=>some (Value.int .i64 z)) om) (Sub.cons (congrArg (fun z:Int=>some (Value.int .i64 z)) om) (uC Z (uC Z (uC Z (Sub.nil _))))))) (⟨(hH103.sub (sC (sC sR))),om⟩) om3)))))))))
      refine zM Z (dF hc113) (skip (zu (oY hH103 (zC T.zS Z) (oY hH103 (zD T.zP Z (cw (n:=0) Z Z)) (oY hH103 (zC T.zS Z) (oY hH103 (zD T.zP Z (cw (n:=1) Z Z)) (oY hH103 (zZ Z Z) (oM hH103 Z ?_))))))))
      by_cases hc119:((nth l (i:Int)).d)<((nth l (x:Int)).d)
      ·refine zA Z Z (dT hc119) Z (zA Z Z (dT hc119) Z (zA Z Z (dT hc119) Z (zA Z Z (dT hc119) Z (zA Z Z (dT hc119) Z (zA Z Z (dT hc119) Z (zE Z Z Z (zE Z Z Z (zE Z Z Z (zE Z Z Z (zE Z Z Z (zA Z Z (dT hc119) Z (oY hH103 (zH Z (dT hc119) Z) (zt (zL Z Z (region (oM hH103 Z (oY hH103 (z7 Z Z om) (oA hH103 Z (zG (zX ?_))))))))))))))))))))
       refine zN (region (oM hH103 Z (oY hH103 (zR Z Z om) (oA hH103 Z (zG (yH (k+1) (uC Z (Sub.cons (congrArg (fun z:Int=>some (Value.int .i64 z)) om) (Sub.cons (congrArg (fun z:Int=>some (Value.int .i64 z)) om) (uC Z (uC Z (uC Z (Sub.nil _))))))) (⟨(hH103.sub (sC (sC sR))),om⟩) om3))))))
      refine zB Z Z (dF hc119) (oY hH103 (zC T.zS Z) (zB Z Z (dF hc119) (oY hH103 (zD T.zP Z (cw (n:=0) Z Z)) (zB Z Z (dF hc119) (oY hH103 (zC T.zS Z) (zB Z Z (dF hc119) (oY hH103 (zD T.zP Z (cw (n:=1) Z Z)) (zB Z Z (dF hc119) (oY hH103 (yF Z Z) (zB Z Z (dF hc119) (oM hH103 Z (zB Z Z (dT hc112) (oY hH103 (zC T.yE Z) (zB Z Z (dT hc112) (oY hH103 (zD T.zP Z (cw (n:=0) Z Z)) (zB Z Z (dT hc112) (oY hH103 (zC T.yE Z) (zB Z Z (dT hc112) (oY hH103 (zD T.zP Z (cw (n:=1) Z Z)) (zB Z Z (dT hc112) (oY hH103 (zZ Z Z) ?_)))))))))))))))))))))
      refine zB Z Z (dF hc119) (oY hH103 (zH Z (dT hc112) Z) (oY hH103 (zF Z (dF hc119) Z) (zt ?_)))
      by_cases hc121:((nth l (i:Int)).n)<((nth l (x:Int)).n)
      ·refine zL Z (dT hc121) (region (oM hH103 Z (oY hH103 (z7 Z Z om) (oA hH103 Z (zG (zX (zN (region (oM hH103 Z (oY hH103 (zR Z Z om) (oA hH103 Z (zG (yH (k+1) (uC Z (Sub.cons (congrArg (fun z:Int=>some (Value.int .i64 z)) om) (Sub.cons (congrArg (fun z:Int=>some (Value.int .i64 z)) om) (uC Z (uC Z (uC Z (Sub.nil _))))))) (⟨(hH103.sub (sC (sC sR))),om⟩) om3)))))))))))))
      refine zM Z (dF hc121) (skip (zX (zN (region (oM hH103 Z (oY hH103 (zR Z Z om) (oA hH103 Z (zG (yH (k+1) (uC Z (Sub.cons (congrArg (fun z:Int=>some (Value.int .i64 z)) om) (Sub.cons (congrArg (fun z:Int=>some (Value.int .i64 z)) om) (uC Z (uC Z (uC Z (Sub.nil _))))))) (⟨(hH103.sub (sC (sC sR))),om⟩) om3)))))))))
     refine zA Z Z (dF hc112) Z (zA Z Z (dF hc112) Z (zA Z Z (dF hc112) Z (zA Z Z (dF hc112) Z (zA Z Z (dF hc112) Z (zB Z Z (dF hc104) (oY hH103 (zF Z (dF hc112) Z) (oY hH103 (zF Z (dF hc104) Z) (zt (zM Z Z (skip (zu (oY hH103 (zC T.zS Z) (oY hH103 (zD T.zP Z (cw (n:=0) Z Z)) (oY hH103 (zC T.zS Z) (oY hH103 (zD T.zP Z (cw (n:=1) Z Z)) (oY hH103 (zZ Z Z) (oM hH103 Z ?_)))))))))))))))))
     by_cases hc124:((nth l (i:Int)).d)<((nth l (x:Int)).d)
     ·refine zA Z Z (dT hc124) Z (zA Z Z (dT hc124) Z (zA Z Z (dT hc124) Z (zA Z Z (dT hc124) Z (zA Z Z (dT hc124) Z (zA Z Z (dT hc124) Z (zE Z Z Z (zE Z Z Z (zE Z Z Z (zE Z Z Z (zE Z Z Z (zA Z Z (dT hc124) Z (oY hH103 (zH Z (dT hc124) Z) (zt (zL Z Z (region (oM hH103 Z (oY hH103 (z7 Z Z om) (oA hH103 Z (zG (zX ?_))))))))))))))))))))
      refine zN (region (oM hH103 Z (oY hH103 (zR Z Z om) (oA hH103 Z (zG (yH (k+1) (uC Z (Sub.cons (congrArg (fun z:Int=>some (Value.int .i64 z)) om) (Sub.cons (congrArg (fun z:Int=>some (Value.int .i64 z)) om) (uC Z (uC Z (uC Z (Sub.nil _))))))) (⟨(hH103.sub (sC (sC sR))),om⟩) om3))))))
     refine zB Z Z (dF hc124) (oY hH103 (zC T.zS Z) (zB Z Z (dF hc124) (oY hH103 (zD T.zP Z (cw (n:=0) Z Z)) (zB Z Z (dF hc124) (oY hH103 (zC T.zS Z) (zB Z Z (dF hc124) (oY hH103 (zD T.zP Z (cw (n:=1) Z Z)) (zB Z Z (dF hc124) (oY hH103 (yF Z Z) (zB Z Z (dF hc124) (oM hH103 Z (zA Z Z (dF hc112) Z (zA Z Z (dF hc112) Z (zA Z Z (dF hc112) Z (zA Z Z (dF hc112) Z (zA Z Z (dF hc112) Z (zB Z Z (dF hc124) (oY hH103 (zF Z (dF hc112) Z) (oY hH103 (zF Z (dF hc124) Z) (zt ?_))))))))))))))))))))
     refine zM Z Z (skip (zX (zN (region (oM hH103 Z (oY hH103 (zR Z Z om) (oA hH103 Z (zG (yH (k+1) (uC Z (Sub.cons (congrArg (fun z:Int=>some (Value.int .i64 z)) om) (Sub.cons (congrArg (fun z:Int=>some (Value.int .i64 z)) om) (uC Z (uC Z (uC Z (Sub.nil _))))))) (⟨(hH103.sub (sC (sC sR))),om⟩) om3)))))))))
    refine zM Z (dF hc53) (exit (yS (xO (z6 (zu (oY hH52 (yC (cs:=[v]) T.qU Z Z (fun _ hw=>Heap.uQ hw (n:=3) Z (k:=0) Z)) (oM hH52 Z (oY hH52 (zR Z Z om) (zQ Z Z Z hH52 (Ex.c11 (m:=i+1) hc0 hl12 om om (h0.now hH52 (n:=4) Z) (hG.now hH52 (n:=4) Z)) (fun w127 hH128=>(oM hH128 Z (zB Z Z Z (zQ Z Z Z hH128 (h5 (hG.now hH128 (n:=4) Z)) (fun w129 hH130=>(oY hH130 (zH Z Z Z) (oA hH130 Z (zt (ret (fin (hH130.sub (sC (sC (sC (sC sR))))) (fun w' hf=>(zU Z (rt Z))) (fun w' hf=>?_))))))))))))))))))))
    first | rfl | exact hbad.elim
   refine zL Z (zI hc50) (seq ?_)
   have hbad:False:=by omega
   refine region (oA hH43 Z (zt (ret (zV (fin (hH43.sub (sC (sC (sC (sC sR))))) (fun w' hf=>(zU Z (rt Z))) (fun w' hf=>?_))))))
   first | rfl | exact hbad.elim
  refine zA Z Z (zI hc23) Z (zA Z Z (zI hc23) Z (zA Z Z (zI hc23) Z (oY hH22 (zH Z (zI hc23) Z) (zt (zL Z Z (seq ?_))))))
  have hbad:False:=by omega
  refine region (oA hH22 Z (zt (ret (zV (fin (hH22.sub (sC (sC sR))) (fun w' hf=>(zU Z (rt Z))) (fun w' hf=>?_))))))
  first | rfl | exact hbad.elim
 refine zL Z (zI hc14) (zr (zQ Z Z Z hH13 (h5 (hG.now hH13 (n:=1) Z)) (fun w134 hH135=>(oA hH135 Z (zt (ret (zV (fin (hH135.sub (sC sR)) (fun w' hf=>(zU Z (rt Z))) (fun w' hf=>?_)))))))))
 first | rfl | exact hbad.elim
end Go.Fip
