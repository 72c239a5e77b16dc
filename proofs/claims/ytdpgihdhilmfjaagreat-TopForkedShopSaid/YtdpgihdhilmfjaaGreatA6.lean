/- Joined texts: what the statement needs, walks by program (wip/tools). -/
import Derived.Test.YtdpgihdhilmfjaaGreatA5
import Derived.Test.YtdpgihdhilmfjaaGreatA3
import Derived.Test.YtdpgihdhilmfjaaGreatA4
import Derived.Test.YtdpgihdhilmfjaaGreatA2
set_option linter.unusedVariables false
set_option linter.unusedSimpArgs false
set_option linter.unusedSectionVars false
set_option linter.unnecessarySimpa false
namespace Go.Fip
open Go.RowKit
section
variable {K V : Type} [DecidableEq K] {kv : K → Value} {vv : V → Value}
theorem VX {b : Nat} {o : Obj} {w w' : World} (h : w.heap[b]? = some o) {H : List Item} {n : Nat} (hH : Heap H w') (hn : H[n]? = some (base w)) : w'.heap[b]? = some o := by
 have hb := (hH.get hn : Below w.heap.size w w')
 rw [hb.block b (Array.getElem?_eq_some_iff.1 h).1]; exact h
def MpEx (kv : K → Value) (vv : V → Value) (F : List (K × V) → Prop) (u : Value) (w : World) : Prop := ∃ b m, u = .map (some b) ∧ Mp kv vv b m w ∧ F m
theorem Heap.toMp {n lo hi : Nat} {u : Value} {F : List (K × V) → Prop} {φ : World → Prop} {H : List Item} {w : World} (hH : Heap H w) (hn : H[n]? = some ⟨lo, hi, φ⟩) (hφ : ∀ w', φ w' → MpEx kv vv F u w') :
    ∃ b m, u = .map (some b) ∧ F m ∧ Heap (H.set n (mp kv vv b m)) w := by
  have hok := hH.okAt hn
  obtain ⟨b, m, hu, hmp, hF⟩ := hφ w hok.now
  obtain ⟨es, clock, hm, he⟩ := hmp.ents
  have hmin := Item.within hok hm (fun w' h hoth hx => by
    obtain ⟨b', m', hu', hmp', _⟩ := hφ w' h
    rw [hu] at hu'
    cases hu'
    obtain ⟨es', clock', hm', _⟩ := hmp'.ents
    rw [hm'] at hx; cases hx)
  refine ⟨b, m, hu, hF, ?_⟩
  have h2 := hH.two (i := mp kv vv b m) (j := ⟨b, b, fun _ => True⟩) hn ⟨hmin.1, hmin.2⟩ ⟨hmin.1, Nat.le_of_lt hmin.2⟩ (.inl (Nat.le_refl _)) (XO hmp)
    ⟨Nat.le_refl _, Nat.le_of_lt (Nat.lt_of_lt_of_le hmin.2 hok.2.1), fun _ _ => trivial⟩
  exact h2.sub (List.Sublist.cons _ (List.Sublist.refl _))
def MpO (kv : K → Value) (vv : V → Value) (u : Value) (m : List (K × V)) (w : World) : Prop := (u = .map none ∧ m = []) ∨ ∃ b, u = .map (some b) ∧ Mp kv vv b m w
theorem Heap.zDi (kv : K → Value) (vv : V → Value) {H : List Item} {w : World} (hH : Heap H w) : Heap (⟨w.heap.size, w.heap.size, MpO kv vv (.map none) []⟩ :: H) w :=
 hH.add (Below.refl _ w) (Nat.le_refl _) ⟨Nat.le_refl _, Nat.le_refl _, fun _ _ => .inl ⟨rfl, rfl⟩⟩
theorem Heap.zBd {n b : Nat} {m : List (K × V)} {H : List Item} {w : World} (hH : Heap H w) (hn : H[n]? = some (mp kv vv b m)) : Heap (H.set n ⟨b, b + 1, MpO kv vv (.map (some b)) m⟩) w :=
 hH.weaken hn (fun w' h => .inr ⟨b, rfl, h⟩)
theorem Heap.zE9 {n lo hi b : Nat} {u : Value} {m : List (K × V)} {H : List Item} {w : World} (hH : Heap H w) (hn : H[n]? = some ⟨lo, hi, MpO kv vv u m⟩) (hu : u = .map (some b)) : Heap (H.set n (mp kv vv b m)) w := by
  obtain ⟨b', m', e1, e2, h⟩ := hH.toMp (kv := kv) (vv := vv) (u := u) (F := fun x => x = m) hn (fun w' h => by
    rcases h with ⟨h, _⟩ | ⟨b', h, hm⟩
    · rw [hu] at h; cases h
    · exact ⟨b', m, h, hm, rfl⟩)
  rw [hu] at e1
  cases e1
  rw [e2] at h
  exact h
end
section
variable {r : Option Nat} {P : Program} {N : Nat} {ds : List Deferred} {env : Env} {w : World} {Q : Post} {all : Array Oper} {rest : List Oper} {H : List Item} {x : Operand} {d : Nat} {ty : TypeId} {pos : String} {after : Array Edge}
theorem JE {K V : Type} [DecidableEq K] {kv : K → Value} {vv : V → Value} {MT KT ET : Nat} {z : V} {y c : Operand} (hM : MapT P MT KT ET kv vv z) {b n : Nat} {m : List (K × V)} {k : K} {v : V} (hx : ev env x = some (.map (some b))) (hy : ev env y = some (kv k)) (hc : ev env c = some (vv v)) (hH : Heap H w) (hn : H[n]? = some (mp kv vv b m))
  (h : ∀ w', Heap (H.set n (mp kv vv b (upd k v m))) w' → Ops r P N all rest ds env w' Q) :
  Ops r P N all (⟨none, .insert MT x y c, ty, pos, after, none⟩ :: rest) ds env w Q := by
 obtain ⟨w', hr, ho, hm⟩ := XD hM (hH.get hn : Mp kv vv b m w) k v
 refine jR (fun c hc => by cases hc) (fun a ha => .inl ?_) (h w' (hH.set hn ho (.inl ⟨Nat.le_refl _, Nat.le_refl _⟩) (XO hm)))
 simp only [execOp, ha.ev hx, ha.ev hy, ha.ev hc, Sem.run_bind, hr, Result.andThen, Sem.run_pure]
theorem WY {MT KT ET : Nat} (hT : P.underlying MT = some (.map KT ET)) (hx : ev env x = some (.map none)) (hd : Nat.blt d N = true) (hH : Heap H w)
  (h : ∀ r0 w', Heap (raw r0 (.mapIter none 0 #[] 0) :: H) w' → Ops r P N all rest ds ((d, .pointer (some ⟨r0, 0, none⟩)) :: env) w' Q) :
  Ops r P N all (⟨some d, .range MT x, ty, pos, after, none⟩ :: rest) ds env w Q := by
 refine uD hd (fun c hc => by cases hc) (fun a ha => ?_) (h w.heap.size (w.alloc (.mapIter none 0 #[] 0)) (hH.add (vY w _) (Nat.le_refl _) (Z6 (jD w _))))
 simp only [execOp, ha.ev hx, Instr.range, Sem.run_bind, run_underlying hT, Result.andThen, Sem.run_pure, newObj, Sem.run]
 rfl
theorem KB {r0 k : Nat} (hx : ev env x = some (.pointer (some ⟨r0, 0, none⟩))) (hd : Nat.blt d N = true) (hH : Heap H w) (hk : H[k]? = some (raw r0 (.mapIter none 0 #[] 0)))
  (hover : Ops r P N all rest ds ((d, .tuple #[.bool false]) :: env) w Q) :
  Ops r P N all (⟨some d, .next x false, ty, pos, after, none⟩ :: rest) ds env w Q := by
 have hr0 : w.heap[r0]? = some (.mapIter none 0 #[] 0) := hH.get hk
 have hget : (getObj r0).run P w = .ok (.mapIter none 0 #[] 0) w := by simp [getObj, Sem.run, hr0]
 refine uD hd (fun c hc => by cases hc) (fun a ha => ?_) hover
 simp only [execOp, ha.ev hx, Instr.next, Sem.run_bind, hget, Result.andThen, Sem.run_pure]
end
end Go.Fip
namespace Go.Fip
namespace Sf
abbrev Pl := Arr 9
abbrev Cm := List (Pl × Int)
def best : Cm → Pl → Option Int
 | [], _ => none
 | p :: ps, s => if p.1 = s then some (match best ps s with | none => p.2 | some m => min p.2 m) else best ps s
theorem jP : ∀ {ps : Cm} {s : Pl}, best ps s = none ↔ ∀ n, (s, n) ∉ ps
 | [], s => by simp [best]
 | p :: ps, s => by
  have ih := jP (ps := ps) (s := s)
  unfold best
  by_cases h : p.1 = s
  ·rw [if_pos h]
   refine ⟨fun e => (nomatch e), fun e => absurd (show (s, p.2) ∈ p :: ps from by rw [← h]; exact List.mem_cons_self ..) (e p.2)⟩
  ·rw [if_neg h, ih]
   refine ⟨fun e n hn => ?_, fun e n hn => e n (List.mem_cons_of_mem _ hn)⟩
   rcases List.mem_cons.1 hn with h1 | h1
   ·exact h (by rw [← h1])
   ·exact e n h1
theorem uK : ∀ {ps : Cm} {s : Pl} {n : Int}, best ps s = some n ↔ (s, n) ∈ ps ∧ ∀ m, (s, m) ∈ ps → n ≤ m
 | [], s, n => by simp [best]
 | p :: ps, s, n => by
  unfold best
  by_cases h : p.1 = s
  ·rw [if_pos h]
   have hp : p = (s, p.2) := by rw [← h]
   cases hb : best ps s with
   | none =>
    have hn := jP.1 hb
    simp only [Option.some.injEq]
    constructor
    ·rintro rfl
     refine ⟨by rw [← hp]; exact List.mem_cons_self .., fun m hm => ?_⟩
     rcases List.mem_cons.1 hm with h1 | h1
     ·rw [hp] at h1; simp only [Prod.mk.injEq, true_and] at h1; omega
     ·exact absurd h1 (hn m)
    ·rintro ⟨h1, h2⟩
     rcases List.mem_cons.1 h1 with h3 | h3
     ·rw [hp] at h3; simp only [Prod.mk.injEq, true_and] at h3; exact h3.symm
     ·exact absurd h3 (hn n)
   | some k =>
    have hk := (uK (ps := ps) (s := s) (n := k)).1 hb
    simp only [Option.some.injEq]
    constructor
    ·rintro rfl
     refine ⟨?_, fun m hm => ?_⟩
     ·rcases Int.le_total p.2 k with h1 | h1
      ·rw [Int.min_eq_left h1, ← hp]; exact List.mem_cons_self ..
      ·rw [Int.min_eq_right h1]; exact List.mem_cons_of_mem _ hk.1
     ·rcases List.mem_cons.1 hm with h1 | h1
      ·rw [hp] at h1; simp only [Prod.mk.injEq, true_and] at h1; omega
      ·have := hk.2 m h1; omega
    ·rintro ⟨h1, h2⟩
     have h3 := h2 p.2 (by rw [← hp]; exact List.mem_cons_self ..)
     have h4 := h2 k (List.mem_cons_of_mem _ hk.1)
     rcases List.mem_cons.1 h1 with h5 | h5
     ·rw [hp] at h5; simp only [Prod.mk.injEq, true_and] at h5; omega
     ·have := hk.2 n h5; omega
  ·rw [if_neg h, uK (ps := ps)]
   constructor
   ·rintro ⟨h1, h2⟩
    refine ⟨List.mem_cons_of_mem _ h1, fun m hm => ?_⟩
    rcases List.mem_cons.1 hm with h3 | h3
    ·exact absurd (by rw [← h3]) h
    ·exact h2 m h3
   ·rintro ⟨h1, h2⟩
    refine ⟨?_, fun m hm => h2 m (List.mem_cons_of_mem _ hm)⟩
    rcases List.mem_cons.1 h1 with h3 | h3
    ·exact absurd (by rw [← h3]) h
    ·exact h3
theorem VU {ps qs : Cm} (h : ∀ p, p ∈ ps ↔ p ∈ qs) (s : Pl) : best ps s = best qs s := by
 cases hb : best qs s with
 | none => rw [jP] at hb ⊢; exact fun n hn => hb n ((h _).1 hn)
 | some n =>
  rw [uK] at hb ⊢
  exact ⟨(h _).2 hb.1, fun m hm => hb.2 m ((h _).1 hm)⟩
def keep (s : Pl) (n : Int) (m : Cm) : Cm := match find s m with
 | none => upd s n m
 | some v => if n < v then upd s n m else m
theorem keep_none {s : Pl} {n : Int} {m : Cm} (h : find s m = none) : keep s n m = upd s n m := by unfold keep; rw [h]
theorem keep_lt {s : Pl} {n v : Int} {m : Cm} (h : find s m = some v) (hl : n < v) : keep s n m = upd s n m := by unfold keep; rw [h]; exact if_pos hl
theorem keep_ge {s : Pl} {n v : Int} {m : Cm} (h : find s m = some v) (hl : ¬ n < v) : keep s n m = m := by unfold keep; rw [h]; exact if_neg hl
def Kp (m ps : Cm) : Prop := ∀ s, find s m = best ps s
theorem Kp.start : Kp [] [] := fun s => rfl
theorem WA {ps : Cm} {s t : Pl} {n : Int} (h : ¬ t = s) : best (ps ++ [(s, n)]) t = best ps t := by
 cases hb : best ps t with
 | none =>
  rw [jP] at hb ⊢
  intro m hm
  rcases List.mem_append.1 hm with h1 | h1
  ·exact hb m h1
  ·simp only [List.mem_singleton, Prod.mk.injEq] at h1; exact h h1.1
 | some k =>
  rw [uK] at hb ⊢
  refine ⟨List.mem_append_left _ hb.1, fun m hm => ?_⟩
  rcases List.mem_append.1 hm with h1 | h1
  ·exact hb.2 m h1
  ·simp only [List.mem_singleton, Prod.mk.injEq] at h1; exact absurd h1.1 h
theorem Kp.keep {m ps : Cm} (h : Kp m ps) (s : Pl) (n : Int) : Kp (Sf.keep s n m) (ps ++ [(s, n)]) := fun t => by
 by_cases e : t = s
 ·subst e
  have ht := h t
  cases hf : find t m with
  | none =>
   rw [keep_none hf, vI, if_pos rfl]
   rw [hf] at ht
   have hn := jP.1 ht.symm
   refine (uK.2 ⟨by simp, fun k hk => ?_⟩).symm
   rcases List.mem_append.1 hk with h1 | h1
   ·exact absurd h1 (hn k)
   ·simp only [List.mem_singleton, Prod.mk.injEq, true_and] at h1; omega
  | some v =>
   rw [hf] at ht
   have hn := uK.1 ht.symm
   by_cases hl : n < v
   ·rw [keep_lt hf hl, vI, if_pos rfl]
    refine (uK.2 ⟨by simp, fun k hk => ?_⟩).symm
    rcases List.mem_append.1 hk with h1 | h1
    ·have := hn.2 k h1; omega
    ·simp only [List.mem_singleton, Prod.mk.injEq, true_and] at h1; omega
   ·rw [keep_ge hf hl, hf]
    refine (uK.2 ⟨List.mem_append_left _ hn.1, fun k hk => ?_⟩).symm
    rcases List.mem_append.1 hk with h1 | h1
    ·exact hn.2 k h1
    ·simp only [List.mem_singleton, Prod.mk.injEq, true_and] at h1; omega
 ·rw [WA e, ← h t]
  cases hf : find s m with
  | none => rw [keep_none hf, vI, if_neg e]
  | some v =>
   by_cases hl : n < v
   ·rw [keep_lt hf hl, vI, if_neg e]
   ·rw [keep_ge hf hl]
def keeps (m : Cm) : Cm → Cm
 | [] => m
 | p :: ps => keeps (keep p.1 p.2 m) ps
theorem Kp.keeps : ∀ {ps m qs : Cm}, Kp m qs → Kp (Sf.keeps m ps) (qs ++ ps)
 | [], m, qs, h => by rw [List.append_nil]; exact h
 | p :: ps, m, qs, h => by
  have := Kp.keeps (ps := ps) (h.keep p.1 p.2)
  rw [List.append_assoc] at this
  exact this
def putP (s : Pl) (i : Nat) (x : Int) : Pl := ⟨s.1.set i x, by rw [List.length_set]; exact s.2⟩
def awayTo (x : Int) (s : Pl) (n : Int) : Nat → Cm
 | 0 => []
 | k + 1 => awayTo x s n k ++ if 0 < nth s.1 ((k : Int) + 1) then [(putP (putP s (k + 1) 0) x.toNat 1, n + 1)] else []
theorem away_t {x : Int} {s : Pl} {n : Int} {k : Nat} (h : 0 < nth s.1 ((k : Int) + 1)) : awayTo x s n (k + 1) = awayTo x s n k ++ [(putP (putP s (k + 1) 0) x.toNat 1, n + 1)] := by
 show _ ++ (if _ then _ else _) = _; rw [if_pos h]
theorem away_f {x : Int} {s : Pl} {n : Int} {k : Nat} (h : ¬ 0 < nth s.1 ((k : Int) + 1)) : awayTo x s n (k + 1) = awayTo x s n k := by
 show _ ++ (if _ then _ else _) = _; rw [if_neg h, List.append_nil]
def nx (room x : Int) (s : Pl) (n : Int) : Cm := if 0 < nth s.1 x then [(s, n)] else if sumTo s.1 9 < room then [(putP s x.toNat 1, n + 1)] else awayTo x s n 8
def fnd (m : Cm) (s : Pl) : Int := (find s m).getD 0
def prs (room x : Int) (m : Cm) (ks : List Pl) : Cm := ks.flatMap fun s => nx room x s (fnd m s)
theorem prs_snoc {room x : Int} {m : Cm} {ks : List Pl} {s : Pl} : prs room x m (ks ++ [s]) = prs room x m ks ++ nx room x s (fnd m s) := by unfold prs; rw [List.flatMap_append]; simp
def stepL (room x : Int) (m : Cm) : Cm := keeps [] (prs room x m (m.map Prod.fst))
theorem YY {room x : Int} {m : Cm} {ks : List Pl} {p : Pl × Int} : p ∈ prs room x m ks ↔ ∃ s ∈ ks, p ∈ nx room x s (fnd m s) := by unfold prs; simp
theorem step_of {room x : Int} {m out : Cm} {ks : List Pl} (h : Kp out (prs room x m ks)) (hp : ks.Perm (m.map Prod.fst)) (s : Pl) : find s out = find s (stepL room x m) := by
 have h2 : Kp (stepL room x m) (prs room x m (m.map Prod.fst)) := by
  have := Kp.keeps (ps := prs room x m (m.map Prod.fst)) Kp.start
  rwa [List.nil_append] at this
 rw [h s, h2 s]
 refine VU (fun p => ?_) s
 rw [YY, YY]
 exact ⟨fun ⟨t, ht, hp2⟩ => ⟨t, hp.mem_iff.1 ht, hp2⟩, fun ⟨t, ht, hp2⟩ => ⟨t, hp.mem_iff.2 ht, hp2⟩⟩
theorem q9 {m : Cm} {s : Pl} : s ∈ m.map Prod.fst ↔ (find s m).isSome = true := by
 have := vW (k := s) (m := m)
 cases hf : find s m with
 | none => simp [this.1 hf]
 | some v => simp only [Option.isSome_some, iff_true]; exact Decidable.not_not.1 (fun hn => by rw [this.2 hn] at hf; cases hf)
def Eqv (m L : Cm) : Prop := ∀ s, find s m = find s L
theorem Eqv.step {room x : Int} {m L out : Cm} (h : Eqv m L) (ho : Eqv out (stepL room x m)) : Eqv out (stepL room x L) := fun s => by
 have h1 : Kp (stepL room x m) (prs room x m (m.map Prod.fst)) := by
  have := Kp.keeps (ps := prs room x m (m.map Prod.fst)) Kp.start
  rwa [List.nil_append] at this
 have h2 : Kp (stepL room x L) (prs room x L (L.map Prod.fst)) := by
  have := Kp.keeps (ps := prs room x L (L.map Prod.fst)) Kp.start
  rwa [List.nil_append] at this
 rw [ho s, h1 s, h2 s]
 refine VU (fun p => ?_) s
 rw [YY, YY]
 constructor
 ·rintro ⟨t, ht, hp⟩
  rw [q9, h t] at ht
  have e : fnd m t = fnd L t := by unfold fnd; rw [h t]
  exact ⟨t, q9.2 ht, by rwa [← e]⟩
 ·rintro ⟨t, ht, hp⟩
  rw [q9, ← h t] at ht
  have e : fnd m t = fnd L t := by unfold fnd; rw [h t]
  exact ⟨t, q9.2 ht, by rwa [e]⟩
def filt (c : Bool) (x : Int) (m : Cm) : Cm := m.filter fun p => decide (0 < nth p.1.1 x) == c
theorem jV {c : Bool} {x : Int} {s : Pl} : ∀ {m : Cm}, find s (filt c x m) = if (decide (0 < nth s.1 x) == c) = true then find s m else none
 | [] => by simp [filt, uI]
 | p :: m => by
  have ih := jV (c := c) (x := x) (s := s) (m := m)
  unfold filt at ih ⊢
  rw [List.filter_cons]
  by_cases hp : (decide (0 < nth p.1.1 x) == c) = true
  ·rw [if_pos hp, xX, xX, ih]
   by_cases e : s = p.1
   ·rw [if_pos e, if_pos e, e, if_pos hp]
   ·rw [if_neg e, if_neg e]
  ·rw [if_neg hp, ih, xX]
   by_cases e : s = p.1
   ·rw [e, if_neg hp, if_neg hp]
   ·rw [if_neg e]
theorem Eqv.filt {c : Bool} {x : Int} {m L : Cm} (h : Eqv m L) : Eqv (Sf.filt c x m) (Sf.filt c x L) := fun s => by rw [jV, jV, h s]
def Part2 (c : Bool) (x : Int) (m : Cm) (ks : List Pl) (out : Cm) : Prop := ∀ s, find s out = if s ∈ ks ∧ (decide (0 < nth s.1 x) == c) = true then find s m else none
theorem Part2.start {c : Bool} {x : Int} {m : Cm} : Part2 c x m [] [] := fun s => by simp [uI]
theorem Part2.yes {c : Bool} {x : Int} {m : Cm} {ks : List Pl} {out : Cm} (h : Part2 c x m ks out) {s : Pl} {v : Int} (hf : find s m = some v) (hc : (decide (0 < nth s.1 x) == c) = true) : Part2 c x m (ks ++ [s]) (upd s v out) := fun t => by
 rw [vI, h t]
 by_cases e : t = s
 ·subst e; rw [if_pos rfl, if_pos ⟨by simp, hc⟩, hf]
 ·rw [if_neg e]
  by_cases h1 : t ∈ ks ∧ (decide (0 < nth t.1 x) == c) = true
  ·rw [if_pos h1, if_pos ⟨by simp [h1.1], h1.2⟩]
  ·rw [if_neg h1, if_neg (fun h2 => h1 ⟨by rcases List.mem_append.1 h2.1 with h3 | h3; exact h3; exact absurd (List.mem_singleton.1 h3) e, h2.2⟩)]
theorem Part2.no {c : Bool} {x : Int} {m : Cm} {ks : List Pl} {out : Cm} (h : Part2 c x m ks out) {s : Pl} (hc : ¬ (decide (0 < nth s.1 x) == c) = true) : Part2 c x m (ks ++ [s]) out := fun t => by
 rw [h t]
 by_cases h1 : t ∈ ks ∧ (decide (0 < nth t.1 x) == c) = true
 ·rw [if_pos h1, if_pos ⟨by simp [h1.1], h1.2⟩]
 ·rw [if_neg h1, if_neg (fun h2 => h1 ⟨by rcases List.mem_append.1 h2.1 with h3 | h3; exact h3; exact absurd (List.mem_singleton.1 h3 ▸ h2.2) hc, h2.2⟩)]
theorem Part2.done {c : Bool} {x : Int} {m : Cm} {ks : List Pl} {out : Cm} (h : Part2 c x m ks out) (hp : ks.Perm (m.map Prod.fst)) : Eqv out (Sf.filt c x m) := fun s => by
 rw [h s, jV]
 by_cases h2 : (decide (0 < nth s.1 x) == c) = true
 ·rw [if_pos h2]
  by_cases h1 : s ∈ ks
  ·rw [if_pos ⟨h1, h2⟩]
  ·rw [if_neg (fun h3 => h1 h3.1)]
   exact (vW.2 (fun h3 => h1 (hp.mem_iff.2 h3))).symm
 ·rw [if_neg h2, if_neg (fun h3 => h2 h3.2)]
def lv (m : Cm) : List Pl → Int
 | [] => 1000
 | s :: ks => min (lv m ks) (fnd m s)
theorem lv_snoc {m : Cm} {s : Pl} : ∀ {ks : List Pl}, lv m (ks ++ [s]) = min (lv m ks) (fnd m s)
 | [] => rfl
 | t :: ks => by
  show min (lv m (ks ++ [s])) _ = min (min _ _) _
  rw [lv_snoc (ks := ks)]; omega
theorem XG {m : Cm} {r : Int} : ∀ {ks : List Pl}, r ≤ lv m ks ↔ r ≤ 1000 ∧ ∀ s ∈ ks, r ≤ fnd m s
 | [] => by show r ≤ 1000 ↔ _; simp
 | t :: ks => by
  show r ≤ min (lv m ks) (fnd m t) ↔ _
  rw [Int.le_min, XG (ks := ks)]
  simp only [List.mem_cons, forall_eq_or_imp]
  exact ⟨fun h => ⟨h.1.1, h.2, h.1.2⟩, fun h => ⟨⟨h.1, h.2.2⟩, h.2.1⟩⟩
def leastV (m : Cm) : Int := lv m (m.map Prod.fst)
theorem zA7 {m L : Cm} {ks qs : List Pl} (h : ∀ s, s ∈ ks ↔ s ∈ qs) (he : ∀ s, fnd m s = fnd L s) : lv m ks = lv L qs := by
 refine Int.le_antisymm (XG.2 ⟨(XG.1 (Int.le_refl (lv m ks))).1, fun s hs => ?_⟩) (XG.2 ⟨(XG.1 (Int.le_refl (lv L qs))).1, fun s hs => ?_⟩)
 ·rw [← he s]; exact (XG.1 (Int.le_refl (lv m ks))).2 s ((h s).2 hs)
 ·rw [he s]; exact (XG.1 (Int.le_refl (lv L qs))).2 s ((h s).1 hs)
theorem Eqv.least {m L : Cm} (h : Eqv m L) {ks : List Pl} (hp : ks.Perm (m.map Prod.fst)) : lv m ks = leastV L := by
 refine zA7 (fun s => ?_) (fun s => by unfold fnd; rw [h s])
 rw [hp.mem_iff, q9, q9, h s]
def X5 (s : Pl) : Prop := ∀ i : Nat, i < 9 → 0 ≤ nth s.1 (i : Int) ∧ nth s.1 (i : Int) ≤ 1
def Cok (B : Nat) (m : Cm) : Prop := ∀ s v, find s m = some v → (0 ≤ v ∧ v ≤ B) ∧ X5 s
theorem X5.int {s : Pl} (h : X5 s) : ∀ i : Int, i < 9 → 0 ≤ nth s.1 i ∧ nth s.1 i ≤ 1 := fun i hi => by
 have := h i.toNat (by omega)
 have e : nth s.1 ((i.toNat : Nat) : Int) = nth s.1 i := by unfold nth; rw [Int.toNat_natCast]
 rwa [e] at this
theorem X5.put {s : Pl} (h : X5 s) {i : Nat} {x : Int} (hx : 0 ≤ x ∧ x ≤ 1) : X5 (putP s i x) := fun j hj => by
 rw [show (putP s i x).1 = s.1.set i x from rfl, ZV (by rw [s.2]; exact hj)]
 split
 ·exact hx
 ·exact h j hj
theorem KK {x : Int} {s : Pl} {n : Int} (h : X5 s) : ∀ {k : Nat}, ∀ p ∈ awayTo x s n k, p.2 = n + 1 ∧ X5 p.1
 | 0, p, hp => by cases hp
 | k + 1, p, hp => by
  rcases List.mem_append.1 hp with h1 | h1
  ·exact KK h p h1
  ·split at h1
   ·rw [List.mem_singleton.1 h1]
    exact ⟨rfl, (h.put (by omega)).put (by omega)⟩
   ·cases h1
theorem zCp {room x : Int} {s : Pl} {n : Int} (h : X5 s) : ∀ p ∈ nx room x s n, n ≤ p.2 ∧ p.2 ≤ n + 1 ∧ X5 p.1 := fun p hp => by
 unfold nx at hp
 split at hp
 ·rw [List.mem_singleton.1 hp]; exact ⟨Int.le_refl _, by show n ≤ n + 1; omega, h⟩
 ·split at hp
  ·rw [List.mem_singleton.1 hp]; exact ⟨by show n ≤ n + 1; omega, Int.le_refl _, h.put (by omega)⟩
  ·have := KK h p hp; exact ⟨by omega, by omega, this.2⟩
theorem Cok.of_kp {room x : Int} {m out : Cm} {ks : List Pl} {B : Nat} (h : Cok B m) (hk : ∀ s ∈ ks, (find s m).isSome = true) (ho : Kp out (prs room x m ks)) : Cok (B + 1) out := fun s v hf => by
 rw [ho s] at hf
 obtain ⟨h1, -⟩ := uK.1 hf
 obtain ⟨t, ht, h2⟩ := YY.1 h1
 obtain ⟨n, hn⟩ := Option.isSome_iff_exists.1 (hk t ht)
 have h3 := h t n hn
 have e : fnd m t = n := by unfold fnd; rw [hn]; rfl
 rw [e] at h2
 have h4 := zCp h3.2 _ h2
 exact ⟨⟨by have := h4.1; omega, by have := h4.2.1; simp only at this; omega⟩, h4.2.2⟩
theorem Cok.step {room x : Int} {m : Cm} {B : Nat} (h : Cok B m) : Cok (B + 1) (stepL room x m) := by
 have h2 : Kp (stepL room x m) (prs room x m (m.map Prod.fst)) := by
  have := Kp.keeps (ps := prs room x m (m.map Prod.fst)) Kp.start
  rwa [List.nil_append] at this
 exact h.of_kp (fun s hs => q9.1 hs) h2
theorem Cok.eqv {m L : Cm} {B : Nat} (h : Cok B L) (he : Eqv m L) : Cok B m := fun s v hf => h s v (by rw [← he s]; exact hf)
theorem Cok.filt {c : Bool} {x : Int} {m : Cm} {B : Nat} (h : Cok B m) : Cok B (Sf.filt c x m) := fun s v hf => by
 rw [jV] at hf
 split at hf
 ·exact h s v hf
 ·cases hf
theorem Cok.le {m : Cm} {B B' : Nat} (h : Cok B m) (hb : B ≤ B') : Cok B' m := fun s v hf => ⟨⟨(h s v hf).1.1, by have := (h s v hf).1.2; omega⟩, (h s v hf).2⟩
def zeroP : Pl := ⟨List.replicate 9 0, by simp⟩
def kdS (room : Int) (l : List Int) (want : Int) : Nat → Cm × Cm
 | 0 => ([(zeroP, 0)], [])
 | i + 1 => if (i : Int) = want then (stepL room (nth l (i : Int)) (filt true (nth l (i : Int)) (kdS room l want i).1), stepL room (nth l (i : Int)) (filt false (nth l (i : Int)) (kdS room l want i).1))
  else (stepL room (nth l (i : Int)) (kdS room l want i).1, stepL room (nth l (i : Int)) (kdS room l want i).2)
theorem kdS_t {room : Int} {l : List Int} {want : Int} {i : Nat} (h : (i : Int) = want) : kdS room l want (i + 1) = (stepL room (nth l (i : Int)) (filt true (nth l (i : Int)) (kdS room l want i).1), stepL room (nth l (i : Int)) (filt false (nth l (i : Int)) (kdS room l want i).1)) := if_pos h
theorem kdS_f {room : Int} {l : List Int} {want : Int} {i : Nat} (h : ¬ (i : Int) = want) : kdS room l want (i + 1) = (stepL room (nth l (i : Int)) (kdS room l want i).1, stepL room (nth l (i : Int)) (kdS room l want i).2) := if_neg h
theorem kdS_ok {room : Int} {l : List Int} {want : Int} : ∀ i, Cok i (kdS room l want i).1 ∧ Cok i (kdS room l want i).2
 | 0 => by
  refine ⟨fun s v hf => ?_, fun s v hf => ?_⟩
  ·have : find s [(zeroP, (0 : Int))] = some v := hf
   rw [xX, uI] at this
   split at this
   ·rename_i e
    cases this
    refine ⟨by omega, fun j hj => ?_⟩
    rw [e, show ((zeroP, (0 : Int)) : Pl × Int).1.1 = List.replicate 9 0 from rfl, Z4 hj]; omega
   ·cases this
  ·have : find s ([] : Cm) = some v := hf
   rw [uI] at this; cases this
 | i + 1 => by
  obtain ⟨h1, h2⟩ := kdS_ok (room := room) (l := l) (want := want) i
  by_cases e : (i : Int) = want
  ·rw [kdS_t e]; exact ⟨h1.filt.step, h1.filt.step⟩
  ·rw [kdS_f e]; exact ⟨h1.step, h2.step⟩
def kindV (room : Int) (l : List Int) (want : Int) : Int := if leastV (kdS room l want l.length).1 < leastV (kdS room l want l.length).2 then 0 else if leastV (kdS room l want l.length).2 < leastV (kdS room l want l.length).1 then 2 else 1
def kindR (room : Int) (l : List Int) (want : Int) : Int × Int := if ¬ ck room l = 0 then (0, ck room l) else if ¬ (0 ≤ want ∧ want ≤ (l.length : Int) - 1) then (0, 3) else (kindV room l want, 0)
theorem kindR_1 {room : Int} {l : List Int} {want : Int} (h : ¬ ck room l = 0) : kindR room l want = (0, ck room l) := if_pos h
theorem kindR_2 {room : Int} {l : List Int} {want : Int} (h : ck room l = 0) (h2 : ¬ (0 ≤ want ∧ want ≤ (l.length : Int) - 1)) : kindR room l want = (0, 3) := by unfold kindR; rw [if_neg (fun hh => hh h), if_pos h2]
theorem kindR_3 {room : Int} {l : List Int} {want : Int} (h : ck room l = 0) (h2 : 0 ≤ want ∧ want ≤ (l.length : Int) - 1) : kindR room l want = (kindV room l want, 0) := by unfold kindR; rw [if_neg (fun hh => hh h), if_neg (fun hh => hh h2)]
theorem kind_0 {room : Int} {l : List Int} {want : Int} (h : leastV (kdS room l want l.length).1 < leastV (kdS room l want l.length).2) : 0 = kindV room l want := by unfold kindV; rw [if_pos h]
theorem kind_2 {room : Int} {l : List Int} {want : Int} (h2 : leastV (kdS room l want l.length).2 < leastV (kdS room l want l.length).1) : 2 = kindV room l want := by unfold kindV; rw [if_neg (by omega), if_pos h2]
theorem kind_1 {room : Int} {l : List Int} {want : Int} (h : ¬ leastV (kdS room l want l.length).1 < leastV (kdS room l want l.length).2) (h2 : ¬ leastV (kdS room l want l.length).2 < leastV (kdS room l want l.length).1) : 1 = kindV room l want := by unfold kindV; rw [if_neg h, if_neg h2]
end Sf
end Go.Fip
namespace Go.Fip
open Go.Proofs Go.RowKit
theorem zAi {room : Int} {v : Value} {C : List Int} (hC : C.length = 9) : ∀ w, (Instr.build 148 [(0, (.agg #[.int .i64 room, v] : Value)), (1, ag C)].toArray).run Tryz.prog w = .ok (.agg (seg [.int .i64 room, v] C [.map none]).toArray) w :=
 match C, hC with
 | [_, _, _, _, _, _, _, _, _], _ => fun w => by kernel_rfl
theorem JF {C : List Int} (hC : C.length = 9) : ∀ w, (Instr.build 148 [(1, ag C)].toArray).run Tryz.prog w = .ok (.agg (seg [.int .i64 0, .slice none 0 0] C [.map none]).toArray) w :=
 match C, hC with
 | [_, _, _, _, _, _, _, _, _], _ => fun w => by kernel_rfl
theorem zBt {s : Sf.Pl} {n : Int} {b1 kb : Nat} {m : Sf.Cm} {w : World} (hkm : Mp (kvA (n := 9)) Sf.vvI kb m w) (k1 : Bx b1 213 [.map (some kb)] w) :
  FnM Tryz.prog 187 [(ag s.1), (.int .i64 n), (.pointer (some ⟨b1, 0, none⟩))].toArray w kb (fun u w => u = .tuple #[] ∧ Mp (kvA (n := 9)) Sf.vvI kb (Sf.keep s n m) w) := by
 refine zB8 (args := [(ag s.1), (.int .i64 n), (.pointer (some ⟨b1, 0, none⟩))]) Tryz.func187 Z (ent Tryz.func187 kz Z) Z Z (XO hkm) (fun hH => ?_)
 have hs9 := s.2
 refine zr (yW (us := (ints s.1)) Z Z Z hH (fun b1 w2 hH3 => (zs (zA hH3 Z Z (zF T.Z5 Z (fun _ hw => yM ((k1.nowK hkm (hw.get (n := 2) Z) (hw.get (n := 3) Z))) Z)) (zA hH3 Z Z (v8 T.vS om Z (fun _ hw => Heap.xS hw (n := 0) Z)) (zA hH3 Z Z (YC (k := s) T.XC Z Z (fun _ hw => (Heap.kJ hw (n := 1) Z))) (oM hH3 Z (zA hH3 Z Z (zI Z Z) (zA hH3 Z Z (zI Z Z) (oA hH3 Z (oA hH3 Z (zs (oM hH3 Z (zA hH3 Z Z (y7 Z) (oM hH3 Z ?_)))))))))))))))
 by_cases hc4 : (!((find s m).isSome)) = true
 ·have hfn : find s m = none := by have hq := hc4; simpa using hq
  refine zE Z Z hc4 Z (zE Z Z hc4 Z (zE Z Z hc4 Z (zA hH3 Z Z (zR Z hc4 Z) (zt (zO Z Z (region (zA hH3 Z Z (zF T.Z5 Z (fun _ hw => yM ((k1.nowK hkm (hw.get (n := 2) Z) (hw.get (n := 3) Z))) Z)) (zA hH3 Z Z (v8 T.vS om Z (fun _ hw => Heap.xS hw (n := 0) Z)) (oM hH3 Z (uJ (n := 1) (k := s) (v := n) T.XC Z Z Z hH3 Z (fun w5 hH6 => (zD ?_))))))))))))
  have hH7 := (hH6.sub (sC sR))
  refine finK [] hH7 (fun w' => (kA Z )) (fun w' hf => ?_)
  first | exact ⟨rfl, by rw [Sf.keep_none hfn]; exact hf⟩ | exact ⟨rfl, by rw [Sf.keep_lt hv0 (by omega)]; exact hf⟩ | exact ⟨rfl, by rw [Sf.keep_ge hv0 (by omega)]; exact hf⟩
 have hfs : (find s m).isSome = true := by have hq := (Bool.eq_false_iff.2 hc4); simpa using hq
 obtain ⟨v0, hv0⟩ := Option.isSome_iff_exists.1 hfs
 have hgd : (find s m).getD 0 = v0 := by rw [hv0]; rfl
 refine zB Z Z (Bool.eq_false_iff.2 hc4) (oM hH3 Z (zB Z Z (Bool.eq_false_iff.2 hc4) (oM hH3 Z (zB Z Z (Bool.eq_false_iff.2 hc4) (zA hH3 Z Z (yK Z Z) (zA hH3 Z Z (zT Z (Bool.eq_false_iff.2 hc4) Z) (zt ?_)))))))
 by_cases hc8 : n < ((find s m).getD 0)
 ·have hlt : n < (find s m).getD 0 := by have hq := (decide_eq_true hc8); simpa using hq
  refine zO Z (dT hc8) (region (zA hH3 Z Z (zF T.Z5 Z (fun _ hw => yM ((k1.nowK hkm (hw.get (n := 2) Z) (hw.get (n := 3) Z))) Z)) (zA hH3 Z Z (v8 T.vS om Z (fun _ hw => Heap.xS hw (n := 0) Z)) (oM hH3 Z (uJ (n := 1) (k := s) (v := n) T.XC Z Z Z hH3 Z (fun w9 hH10 => (zD ?_)))))))
  have hH11 := (hH10.sub (sC sR))
  refine finK [] hH11 (fun w' => (kA Z )) (fun w' hf => ?_)
  first | exact ⟨rfl, by rw [Sf.keep_none hfn]; exact hf⟩ | exact ⟨rfl, by rw [Sf.keep_lt hv0 (by omega)]; exact hf⟩ | exact ⟨rfl, by rw [Sf.keep_ge hv0 (by omega)]; exact hf⟩
 have hge : ¬ n < (find s m).getD 0 := by have hq := (decide_eq_false hc8); simpa using hq
 refine zM Z (dF hc8) (skip ?_)
 have hH12 := (hH3.sub (sC sR))
 refine finK [] hH12 (fun w' => (kA Z )) (fun w' hf => ?_)
 first | exact ⟨rfl, by rw [Sf.keep_none hfn]; exact hf⟩ | exact ⟨rfl, by rw [Sf.keep_lt hv0 (by omega)]; exact hf⟩ | exact ⟨rfl, by rw [Sf.keep_ge hv0 (by omega)]; exact hf⟩
end Go.Fip
namespace Go.Fip
open Go.Proofs Go.RowKit
theorem zC3 {bb mb : Nat} {room : Int} {v : Value} {C : List Int} {w : World} (kb : Bx bb 148 (seg [.int .i64 room, v] C [.map (some mb)]) w) (hC : C.length = 9) {l : List Int} (h0 : Rd encI 1 v l w) (hn : l.length ≤ 16) {i : Nat} (hi : i < l.length) (hw : ∀ x ∈ l, 1 ≤ x ∧ x ≤ 8) {m : Sf.Cm} {B : Nat} (hB : Sf.Cok B m) (hBb : B ≤ 100) {cb : Nat} (hm : Mp (kvA (n := 9)) Sf.vvI cb m w)  :
  Fn Tryz.prog 161 [(.pointer (some ⟨bb, 0, none⟩)), (.map (some cb)), (.int .i64 (i : Int))].toArray w (fun u w => MpEx (kvA (n := 9)) Sf.vvI (fun o => Sf.Eqv o (Sf.stepL room (nth l (i : Int)) m)) u w) := by
 refine fz Tryz.func161 Z kz Z Z (fun hH => ?_)
 obtain ⟨es, clock, hmap, hents⟩ := hm.ents
 have hx8 := hw (nth l (i : Int)) (by rw [yJ (by omega)]; exact List.getElem_mem (by omega))
 refine zr (oA hH Z (zs (v6 (kvA (n := 9)) Sf.vvI Z hH (fun b1 w2 hH3 => (yC (z := (.map none)) (fun _ => by kernel_rfl) Z Z hH3 (fun b4 w5 hH6 => (zU (n := 0) (j := 0) Z Z hH6 Z T.zBh Z Z Z (by rfl) (fun w7 hH8 => (zs (zA hH8 Z Z (vB Z Z) (oA hH8 Z (zs (oM hH8 Z (zA hH8 Z Z (yQ Z) ?_))))))))))))))
 refine zA hH8 Z Z (zJ T.vX Z) (zA hH8 Z Z (zJ T.vP Z) (zA hH8 Z Z (xV T.xK Z (by rfl) Z (fun _ hw => (kb.now hw (n := 2) Z))) (oM hH8 Z (zA hH8 Z Z (zS T.yV Z Z (h0.now hH8 (n := 2) Z).is om) (zA hH8 Z Z (zF T.yU Z (fun _ hw => Rd.at (h0.now hw (n := 2) Z) (i := (i : Int)) om (j := 0) Z)) (oA hH8 Z (zt (seq (zr (oM hH8 Z (jB T.XC.und Z Z hH8 (VX hmap hH8 (n := 2) Z) (fun r9 w10 hH11 => (zt (block (loop (S := Array Nat × List Sf.Pl × Sf.Cm) (fun (seen, ks, o1) => [(0, (.pointer (some ⟨bb, 0, none⟩))), (6, (.map none)), (7, (.pointer (some ⟨b4, 0, none⟩))), (8, (.func (.func 187) #[] #[(.pointer (some ⟨b4, 0, none⟩))])), (9, (.int .i64 (nth l (i : Int)))), (26, (.pointer (some ⟨r9, 0, none⟩)))]) (fun (seen, ks, o1) w1 => Heap [raw r9 (.mapIter (some cb) clock seen clock), bx b4 213 [(.map (some b1))], mp (kvA (n := 9)) Sf.vvI b1 o1, base w] w1 ∧ Vis (kvA (n := 9)) es seen ks ∧ (∀ q ∈ ks, (find q m).isSome = true) ∧ Sf.Kp o1 (Sf.prs room (nth l (i : Int)) m ks)) (fun (seen, ks, o1) => unseen es seen) (#[], [], []) (uC Z (uC Z (uC Z (uC Z (uC Z (uC Z (Sub.nil _))))))) ?_ ?_)))))))))))))))
 ·exact ⟨hH11, Vis.start, (fun q hq => by cases hq), Sf.Kp.start⟩
 rintro ⟨seen, ks, o1⟩ w12 ⟨hH13, hV, hks, hKp⟩
 refine zr (j0 Z Z hH13 (VX hmap hH13 (n := 3) Z) (k := 0) Z hents.born (fun hall14 w18 hH19 => ?_) (fun e15 he16 hns17 w18 hH19 => ?_))
 ·have hperm := hV.over hents uQ hall14
  refine zA hH19 Z Z (zI Z Z) (zt (seq (zM Z Z (exit (yX (xF (z7 (zu (zA hH19 Z Z (zF T.Z5 Z (cw (n := 1) Z Z)) (oA hH19 Z (zt (ret ?_))))))))))))
  have hH20 := (hH19.sub (sC (sC sR)))
  refine fin (hH20.front (n := 1) Z) (fun w' hf => (yN Z (rt Z))) (fun w' hf => ?_)
  exact ⟨_, _, Z, Heap.kJ hf (n := 0) Z, Sf.step_of hKp hperm⟩
 obtain ⟨s, n, hkey, hval, hfind⟩ := hents.entry he16
 have hns := hns17
 have hen := he16
 have hs9 := s.2
 obtain ⟨hnb, hk01⟩ := hB s n hfind
 have hfn : Sf.fnd m s = n := by unfold Sf.fnd; rw [hfind]; rfl
 refine zA hH19 Z Z (zI Z Z) (zt (seq (zO Z Z (skip (zP (block (zr (zA hH19 Z Z (qL hkey hval Z he16 hents.bornNd (fun _ hw => (VX hmap hw (n := 3) Z)) (fun _ hw => Heap.jC hw (n := 0) Z)) (zA hH19 Z Z (zI Z Z) (zA hH19 Z Z (zI Z Z) (yC (z := (.agg #[(.int .i64 0), (.int .i64 0), (.int .i64 0), (.int .i64 0), (.int .i64 0), (.int .i64 0), (.int .i64 0), (.int .i64 0), (.int .i64 0)])) (fun _ => by kernel_rfl) Z Z hH19 (fun b21 w22 hH23 => (YS (n := 0) Z Z hH23 Z T.WK om (by first | rfl | (rw [vD]; omega)) (fun w24 hH25 => (oA hH25 Z (zt (seq (zZ (fun w' => Heap [bx b21 145 (ints s.1), raw r9 (.mapIter (some cb) clock (seen.push e15.born) clock), bx b4 213 [(.map (some b1))], mp (kvA (n := 9)) Sf.vvI b1 o1, base w] w') T.mixed (fun w26 hr27 => ?_)))))))))))))))))))
 have hH28 := hH25.redrawn hr27
 refine zK [0, 1, 2, 3, 4, 5] kz hH28 _ _ _ kz (qM Z Z Z (zL Z Z (yQ Z) (zL Z Z (zJ T.vX Z) (zL Z Z (G8 (us := [(.int .i64 room), v]) T.xZ Z Z Z (fun _ hw => (kb.now hw (n := 4) Z))) (zL Z Z (v8 T.vS om Z (fun _ hw => Heap.xS hw (n := 0) Z)) (zL Z Z (XQ (v := .agg ((seg [(.int .i64 room), v] s.1 [(.map none)])).toArray) (us := [(0, (.agg #[(.int .i64 room), v])), (1, (ag s.1))]) (fun a ha => by simp [ha.ev (show ev _ (.tmp 35) = some _ from rfl), ha.ev (show ev _ (.tmp 36) = some _ from rfl)]) (zAi ((by first | exact s.2 | omega | (simp only [List.length_set]; exact s.2))))) (zV (z1 6 kz Z (yW (us := (seg [(.int .i64 room), v] s.1 [(.map none)])) Z Z Z hH28 (fun b29 w30 hH31 => (zD (⟨(hH31.sub (sC sR)), (zK [7] kz (hH31.sub (sC sR)) _ _ _ kz (zL Z Z (yG Z) (zV (zY kz (zP (seq (block (zr ?_))))))))⟩))))))))))))
 refine oM hH31 Z (oM hH31 Z (zN Z Z Z hH31 (zBs (Heap.xS hH31 (n := 0) Z) (by first | exact s.2 | omega | (simp only [List.length_set]; exact s.2)) om) (fun w32 hH33 => (oA hH33 Z (zt ?_)))))
 by_cases hc34 : 0 < nth s.1 (nth l (i : Int))
 ·have hq1 : 0 < nth s.1 (nth l (i : Int)) := by have hq := (decide_eq_true hc34); simpa using hq
  have hnx : Sf.nx room (nth l (i : Int)) s n = [(s, n)] := if_pos hq1
  refine zO Z (dT hc34) (zr (oM hH33 Z (zA hH33 Z Z (v8 T.vS om Z (fun _ hw => Heap.xS hw (n := 1) Z)) (oM hH33 Z (x7 (g := b1) (n := 4) Z Z Z hH33 Z ⟨Nat.le_refl _, Nat.lt_succ_self _⟩ (zBt (s := s) (n := n) (Heap.kJ hH33 (n := 4) Z) (Heap.xS hH33 (n := 3) Z)) (fun u37 w35 hH36 hv38 => ?_))))))
  obtain ⟨rfl, -⟩ := hv38
  have hH39 := Heap.weaken hH36 (n := 4) Z (φ := Mp (kvA (n := 9)) Sf.vvI b1 (Sf.keep s n o1)) (fun w' h => h.2)
  refine zt (exit (YH Z (yX (z7 ?_))))
  have hH40 := (hH39.sub (sC (sC sR)))
  refine yY ((seen.push e15.born), ks ++ [s], (Sf.keep s n o1)) (uC Z (uC Z (uC Z (uC Z (uC Z (uC Z (Sub.nil _))))))) ?_ ?_
  ·exact ⟨hH40, hV.next hents uQ hen hkey hns, (fun q hq => by rcases List.mem_append.1 hq with h9 | h9; exact hks q h9; rw [List.mem_singleton.1 h9, hfind]; rfl), by rw [Sf.prs_snoc, hfn, hnx]; exact hKp.keep _ _⟩
  ·show _ < _; exact vF hen hns
 have hq1 : ¬ 0 < nth s.1 (nth l (i : Int)) := by have hq := (decide_eq_false hc34); simpa using hq
 refine zM Z (dF hc34) (seq (zZ (fun w' => Heap [bx b29 148 (seg [(.int .i64 room), v] s.1 [(.map none)]), bx b21 145 (ints s.1), raw r9 (.mapIter (some cb) clock (seen.push e15.born) clock), bx b4 213 [(.map (some b1))], mp (kvA (n := 9)) Sf.vvI b1 o1, base w] w') T.mixed (fun w41 hr42 => ?_)))
 have hH43 := hH33.redrawn hr42
 refine zK [0, 2, 3, 4, 5, 6] kz hH43 _ _ _ kz (qM Z Z Z (qM Z Z Z (zL Z Z (yQ Z) (zL Z Z (zJ T.vX Z) (zL Z Z (zJ T.Y2 Z) (zL Z Z (xV T.yU Z (by rfl) Z (fun _ hw => (kb.now hw (n := 5) Z))) (zV (z1 1 kz Z (zN Z Z Z hH43 (zDm (Heap.xS hH43 (n := 0) Z) (by first | exact s.2 | omega | (simp only [List.length_set]; exact s.2)) hk01.int) (fun w44 hH45 => (zD (⟨hH45, (zK [7, 8] kz hH45 _ _ _ kz (zL Z Z (yK Z Z) (zL Z Z (yG Z) (zV (zY kz (zP ?_))))))⟩))))))))))))
 by_cases hc46 : (Sf.sumTo s.1 9) < room
 ·have hq2 : Sf.sumTo s.1 9 < room := by have hq := (decide_eq_true hc46); simpa using hq
  have hnx : Sf.nx room (nth l (i : Int)) s n = [((Sf.putP s (nth l (i : Int)).toNat 1), n + 1)] := by unfold Sf.nx; rw [if_neg hq1, if_pos hq2]
  refine zO Z (dT hc46) (zr (oM hH45 Z (oM hH45 Z (x7 (g := b29) (n := 0) Z Z Z hH45 Z ⟨Nat.le_refl _, Nat.lt_succ_self _⟩ (JT (Heap.xS hH45 (n := 0) Z) ((by first | exact s.2 | omega | (simp only [List.length_set]; exact s.2))) om) (fun u49 w47 hH48 hv50 => ?_)))))
  obtain ⟨rfl, -⟩ := hv50
  have hH51 := Heap.weaken hH48 (n := 0) Z (φ := Bx b29 148 (seg [(.int .i64 room), v] (s.1.set (nth l (i : Int)).toNat 1) [(.map none)])) (fun w' h => h.2)
  refine zs (oM hH51 Z (oM hH51 Z (zA hH51 Z Z (yQ Z) (zA hH51 Z Z (zJ T.uZ Z) (zA hH51 Z Z (YN (show ((ag (s.1.set (nth l (i : Int)).toNat 1)) : Value) = ag (Sf.putP s (nth l (i : Int)).toNat 1).1 from by first | rfl | (rw [Sf.toNat1]; rfl)) (uA T.vS Z ((by first | exact s.2 | omega | (simp only [List.length_set]; exact s.2))) (by rfl) (fun _ hw => (Heap.xS hw (n := 0) Z)))) ?_)))))
  refine oM hH51 Z (zA hH51 Z Z (zX Z Z om) (x7 (g := b1) (n := 4) Z Z Z hH51 Z ⟨Nat.le_refl _, Nat.lt_succ_self _⟩ (zBt (s := (Sf.putP s (nth l (i : Int)).toNat 1)) (n := (n + 1)) (Heap.kJ hH51 (n := 4) Z) (Heap.xS hH51 (n := 3) Z)) (fun u54 w52 hH53 hv55 => ?_)))
  obtain ⟨rfl, -⟩ := hv55
  have hH56 := Heap.weaken hH53 (n := 4) Z (φ := Mp (kvA (n := 9)) Sf.vvI b1 (Sf.keep (Sf.putP s (nth l (i : Int)).toNat 1) (n + 1) o1)) (fun w' h => h.2)
  refine zt (exit (YH Z (yX (z7 ?_))))
  have hH57 := (hH56.sub (sC (sC sR)))
  refine yY ((seen.push e15.born), ks ++ [s], (Sf.keep (Sf.putP s (nth l (i : Int)).toNat 1) (n + 1) o1)) (uC Z (uC Z (uC Z (uC Z (uC Z (uC Z (Sub.nil _))))))) ?_ ?_
  ·exact ⟨hH57, hV.next hents uQ hen hkey hns, (fun q hq => by rcases List.mem_append.1 hq with h9 | h9; exact hks q h9; rw [List.mem_singleton.1 h9, hfind]; rfl), by rw [Sf.prs_snoc, hfn, hnx]; exact hKp.keep _ _⟩
  ·show _ < _; exact vF hen hns
 have hq2 : ¬ Sf.sumTo s.1 9 < room := by have hq := (decide_eq_false hc46); simpa using hq
 have hnx : Sf.nx room (nth l (i : Int)) s n = Sf.awayTo (nth l (i : Int)) s n 8 := by unfold Sf.nx; rw [if_neg hq1, if_neg hq2]
 refine zM Z (dF hc46) (skip (yB (zu (oA hH45 Z (zt (block (loop (S := Nat × Sf.Cm) (fun (k, o2) => [(13, (.int .i64 ((k : Int) + 1))), (0, (.pointer (some ⟨bb, 0, none⟩))), (6, (.map none)), (7, (.pointer (some ⟨b4, 0, none⟩))), (8, (.func (.func 187) #[] #[(.pointer (some ⟨b4, 0, none⟩))])), (9, (.int .i64 (nth l (i : Int)))), (10, (.pointer (some ⟨b21, 0, none⟩))), (11, (.int .i64 n)), (26, (.pointer (some ⟨r9, 0, none⟩)))]) (fun (k, o2) w1 => Heap [bx b29 148 (seg [(.int .i64 room), v] s.1 [(.map none)]), bx b21 145 (ints s.1), raw r9 (.mapIter (some cb) clock (seen.push e15.born) clock), bx b4 213 [(.map (some b1))], mp (kvA (n := 9)) Sf.vvI b1 o2, base w] w1 ∧ k ≤ 8 ∧ Sf.Kp o2 (Sf.prs room (nth l (i : Int)) m ks ++ Sf.awayTo (nth l (i : Int)) s n k)) (fun (k, o2) => 8 - k) (0, o1) (uC Z (uC Z (uC Z (uC Z (uC Z (uC Z (uC Z (uC Z (uC Z (Sub.nil _)))))))))) ?_ ?_)))))))
 ·exact ⟨hH45, by omega, by rw [show Sf.awayTo (nth l (i : Int)) s n 0 = [] from rfl, List.append_nil]; exact hKp⟩
 rintro ⟨k, o2⟩ w58 ⟨hH59, hk, hK2⟩
 refine seq (zr (oM hH59 Z (zA hH59 Z Z (uH Z Z) (zt ?_))))
 by_cases hc60 : ((k : Int) + 1) ≤ 8
 ·refine zO Z (dT hc60) (skip (zP (seq (block (zr (oM hH59 Z (zA hH59 Z Z (z6 T.jZ Z Z om) (zA hH59 Z Z (jT T.yU Z om (fun _ hw => Heap.xS hw (n := 1) Z)) (zA hH59 Z Z (xJ Z Z) (zt ?_))))))))))
  by_cases hc61 : 0 < (nth s.1 ((k : Int) + 1))
  ·have hq3 : 0 < nth s.1 ((k : Int) + 1) := by have hq := (decide_eq_true hc61); simpa using hq
   refine zO Z (dT hc61) (zr (zA hH59 Z Z (v8 T.vS om Z (fun _ hw => Heap.xS hw (n := 1) Z)) (zA hH59 Z Z (XQ (v := .agg ((seg [(.int .i64 0), (.slice none 0 0)] s.1 [(.map none)])).toArray) (us := [(1, (ag s.1))]) (fun a ha => by simp [ha.ev (show ev _ (.tmp 75) = some _ from rfl)]) (JF ((by first | exact s.2 | omega | (simp only [List.length_set]; exact s.2))))) (yW (us := (seg [(.int .i64 0), (.slice none 0 0)] s.1 [(.map none)])) Z Z Z hH59 (fun b62 w63 hH64 => (oA hH64 Z (zs (oM hH64 Z (oM hH64 Z (x7 (g := b62) (n := 0) Z Z Z hH64 Z ⟨Nat.le_refl _, Nat.lt_succ_self _⟩ (zA8 (Heap.xS hH64 (n := 0) Z) ((by first | exact s.2 | omega | (simp only [List.length_set]; exact s.2))) om) (fun u67 w65 hH66 hv68 => ?_)))))))))))
   obtain ⟨rfl, -⟩ := hv68
   have hH69 := Heap.weaken hH66 (n := 0) Z (φ := Bx b62 148 (seg [(.int .i64 0), (.slice none 0 0)] (s.1.set ((k : Int) + 1).toNat 0) [(.map none)])) (fun w' h => h.2)
   refine zs (oM hH69 Z (oM hH69 Z (x7 (g := b62) (n := 0) Z Z Z hH69 Z ⟨Nat.le_refl _, Nat.lt_succ_self _⟩ (JT (Heap.xS hH69 (n := 0) Z) ((by first | exact s.2 | omega | (simp only [List.length_set]; exact s.2))) om) (fun u72 w70 hH71 hv73 => ?_))))
   obtain ⟨rfl, -⟩ := hv73
   have hH74 := Heap.weaken hH71 (n := 0) Z (φ := Bx b62 148 (seg [(.int .i64 0), (.slice none 0 0)] ((s.1.set ((k : Int) + 1).toNat 0).set (nth l (i : Int)).toNat 1) [(.map none)])) (fun w' h => h.2)
   refine zq (oM hH74 Z (oM hH74 Z (zA hH74 Z Z (yQ Z) (zA hH74 Z Z (zJ T.uZ Z) (zA hH74 Z Z (YN (show ((ag ((s.1.set ((k : Int) + 1).toNat 0).set (nth l (i : Int)).toNat 1)) : Value) = ag (Sf.putP (Sf.putP s (k + 1) 0) (nth l (i : Int)).toNat 1).1 from by first | rfl | (rw [Sf.toNat1]; rfl)) (uA T.vS Z ((by first | exact s.2 | omega | (simp only [List.length_set]; exact s.2))) (by rfl) (fun _ hw => (Heap.xS hw (n := 0) Z)))) ?_)))))
   refine oM hH74 Z (zA hH74 Z Z (zX Z Z om) (x7 (g := b1) (n := 5) Z Z Z hH74 Z ⟨Nat.le_refl _, Nat.lt_succ_self _⟩ (zBt (s := (Sf.putP (Sf.putP s (k + 1) 0) (nth l (i : Int)).toNat 1)) (n := (n + 1)) (Heap.kJ hH74 (n := 5) Z) (Heap.xS hH74 (n := 4) Z)) (fun u77 w75 hH76 hv78 => ?_)))
   obtain ⟨rfl, -⟩ := hv78
   have hH79 := Heap.weaken hH76 (n := 5) Z (φ := Mp (kvA (n := 9)) Sf.vvI b1 (Sf.keep (Sf.putP (Sf.putP s (k + 1) 0) (nth l (i : Int)).toNat 1) (n + 1) o2)) (fun w' h => h.2)
   refine zD (yB (zP (region (oM hH79 Z (zA hH79 Z Z (zX Z Z om) (oA hH79 Z (zD ?_)))))))
   have hH80 := (hH79.sub (sC sR))
   refine yY (k + 1, (Sf.keep (Sf.putP (Sf.putP s (k + 1) 0) (nth l (i : Int)).toNat 1) (n + 1) o2)) (uC Z (uC Z (uC Z (uC Z (uC Z (uC Z (uC Z (uC Z (uC Z (Sub.nil _)))))))))) ?_ ?_
   ·exact ⟨hH80, by omega, by rw [Sf.away_t hq3, ← List.append_assoc]; exact hK2.keep _ _⟩
   ·first | (dsimp only; omega) | (show _ < _; omega)
  have hq4 : ¬ 0 < nth s.1 ((k : Int) + 1) := by have hq := (decide_eq_false hc61); simpa using hq
  refine zM Z (dF hc61) (skip (yB (zP (region (oM hH59 Z (zA hH59 Z Z (zX Z Z om) (oA hH59 Z (zD (yY (k + 1, o2) (uC Z (uC Z (uC Z (uC Z (uC Z (uC Z (uC Z (uC Z (uC Z (Sub.nil _)))))))))) ?_ ?_)))))))))
  ·exact ⟨hH59, by omega, by rw [Sf.away_f hq4]; exact hK2⟩
  ·first | (dsimp only; omega) | (show _ < _; omega)
 have hk8 : k = 8 := by omega
 refine zM Z (dF hc60) (exit (yX (xF (z7 (yB ?_)))))
 have hH81 := (hH59.sub (sC (sC sR)))
 refine yY ((seen.push e15.born), ks ++ [s], o2) (uC Z (uC Z (uC Z (uC Z (uC Z (uC Z (Sub.nil _))))))) ?_ ?_
 ·exact ⟨hH81, hV.next hents uQ hen hkey hns, (fun q hq => by rcases List.mem_append.1 hq with h9 | h9; exact hks q h9; rw [List.mem_singleton.1 h9, hfind]; rfl), by rw [Sf.prs_snoc, hfn, hnx, ← hk8]; exact hK2⟩
 ·show _ < _; exact vF hen hns
end Go.Fip
namespace Go.Fip
open Go.Proofs Go.RowKit
theorem zCh {bb mb : Nat} {room : Int} {v : Value} {C : List Int} {w : World} (kb : Bx bb 148 (seg [.int .i64 room, v] C [.map (some mb)]) w) (hC : C.length = 9) {l : List Int} (h0 : Rd encI 1 v l w) (hn : l.length ≤ 16) {i : Nat} (hi : i < l.length)  :
  Fn Tryz.prog 161 [(.pointer (some ⟨bb, 0, none⟩)), (.map none), (.int .i64 (i : Int))].toArray w (fun u w => MpEx (kvA (n := 9)) Sf.vvI (fun o => Sf.Eqv o (Sf.stepL room (nth l (i : Int)) [])) u w) := by
 refine fz Tryz.func161 Z kz Z Z (fun hH => (zr (oA hH Z (zs (v6 (kvA (n := 9)) Sf.vvI Z hH (fun b1 w2 hH3 => (yC (z := (.map none)) (fun _ => by kernel_rfl) Z Z hH3 (fun b4 w5 hH6 => (zU (n := 0) (j := 0) Z Z hH6 Z T.zBh Z Z Z (by rfl) (fun w7 hH8 => (zs (zA hH8 Z Z (vB Z Z) (oA hH8 Z (zs (oM hH8 Z ?_)))))))))))))))
 refine zA hH8 Z Z (yQ Z) (zA hH8 Z Z (zJ T.vX Z) (zA hH8 Z Z (zJ T.vP Z) (zA hH8 Z Z (xV T.xK Z (by rfl) Z (fun _ hw => (kb.now hw (n := 2) Z))) (oM hH8 Z (zA hH8 Z Z (zS T.yV Z Z (h0.now hH8 (n := 2) Z).is om) (zA hH8 Z Z (zF T.yU Z (fun _ hw => Rd.at (h0.now hw (n := 2) Z) (i := (i : Int)) om (j := 0) Z)) (oA hH8 Z (zt (seq (zr (oM hH8 Z (WY T.XC.und Z Z hH8 (fun r9 w10 hH11 => (zt (block (loop (S := Unit) (fun _u => [(0, (.pointer (some ⟨bb, 0, none⟩))), (6, (.map none)), (7, (.pointer (some ⟨b4, 0, none⟩))), (8, (.func (.func 187) #[] #[(.pointer (some ⟨b4, 0, none⟩))])), (9, (.int .i64 (nth l (i : Int)))), (26, (.pointer (some ⟨r9, 0, none⟩)))]) (fun _u w1 => Heap [raw r9 (.mapIter none 0 #[] 0), bx b4 213 [(.map (some b1))], mp (kvA (n := 9)) Sf.vvI b1 ([] : List (Sf.Pl × Int)), base w] w1) (fun _u => 0) () (uC Z (uC Z (uC Z (uC Z (uC Z (uC Z (Sub.nil _))))))) ?_ ?_))))))))))))))))
 ·exact hH11
 rintro _u w12 hH13
 refine zr (KB Z Z hH13 (k := 0) Z (zA hH13 Z Z (zI Z Z) (zt (seq (zM Z Z (exit (yX (xF (z7 (zu (zA hH13 Z Z (zF T.Z5 Z (cw (n := 1) Z Z)) (oA hH13 Z (zt (ret ?_))))))))))))))
 have hH14 := (hH13.sub (sC (sC sR)))
 refine fin (hH14.front (n := 1) Z) (fun w' hf => (yN Z (rt Z))) (fun w' hf => ?_)
 exact ⟨_, _, Z, Heap.kJ hf (n := 0) Z, fun _ => Z⟩
theorem zAn {bb mb : Nat} {room : Int} {v : Value} {C : List Int} {w : World} (kb : Bx bb 148 (seg [.int .i64 room, v] C [.map (some mb)]) w) (hC : C.length = 9) {l : List Int} (h0 : Rd encI 1 v l w) (hn : l.length ≤ 16) {i : Nat} (hi : i < l.length) (hw : ∀ x ∈ l, 1 ≤ x ∧ x ≤ 8) {m : Sf.Cm} {B : Nat} (hB : Sf.Cok B m) (hBb : B ≤ 100) {mv : Value} (hm : MpO (kvA (n := 9)) Sf.vvI mv m w) :
  Fn Tryz.prog 161 #[.pointer (some ⟨bb, 0, none⟩), mv, .int .i64 (i : Int)] w (fun u w => MpEx (kvA (n := 9)) Sf.vvI (fun o => Sf.Eqv o (Sf.stepL room (nth l (i : Int)) m)) u w) := by
 rcases hm with ⟨rfl, rfl⟩ | ⟨cb, rfl, hm⟩
 ·exact zCh kb hC h0 hn hi
 ·exact zC3 kb hC h0 hn hi hw hB hBb hm
theorem zEn {bb mb : Nat} {room : Int} {v : Value} {w : World} (kb : Bx bb 148 (seg [.int .i64 room, v] (List.replicate 9 0) [.map (some mb)]) w) {l : List Int} (h0 : Rd encI 1 v l w) (hn : l.length ≤ 16) (hw : ∀ x ∈ l, 1 ≤ x ∧ x ≤ 8) {want : Int} (hwt : 0 ≤ want ∧ want < l.length)  :
  Fn Tryz.prog 123 [(.pointer (some ⟨bb, 0, none⟩)), (.int .i64 want)].toArray w (fun u _ => u = .int .i64 (Sf.kindV room l want)) := by
 refine fz Tryz.func123 Z kz Z Z (fun hH => (zr (oA hH Z (zs (zA hH Z Z (yS (v := (.agg #[(.int .i64 1000), (.int .i64 1000)])) Z (fun w => by kernel_rfl)) (yC (z := (.agg #[(.int .i64 0), (.int .i64 0)])) (fun _ => by kernel_rfl) Z Z hH (fun b1 w2 hH3 => (zU (n := 0) (j := 0) Z Z hH3 Z T.zDp Z Z Z (by rfl) (fun w4 hH5 => (zs (v6 (kvA (n := 9)) Sf.vvI Z hH5 (fun b6 w7 hH8 => (oM hH8 Z (zA hH8 Z Z (yQ Z) (zA hH8 Z Z (zJ T.uZ Z) (zA hH8 Z Z (YN (show (ag (List.replicate 9 (0 : Int)) : Value) = ag Sf.zeroP.1 from Z) (uA T.vS Z ((by first | rfl | omega | simp)) (by rfl) (fun _ hw => (kb.now hw (n := 2) Z)))) (JE (n := 0) (k := Sf.zeroP) (v := 0) T.XC Z Z Z hH8 Z (fun w9 hH10 => (oM hH10 Z ?_)))))))))))))))))))
 refine oA hH10 Z (zs (oA hH10 Z (zt (seq (zr (oM hH10 Z (zA hH10 Z Z (yQ Z) (zA hH10 Z Z (zJ T.vX Z) (zA hH10 Z Z (zJ T.vP Z) (zA hH10 Z Z (xV T.xK Z (by rfl) Z (fun _ hw => (kb.now hw (n := 2) Z))) (zA hH10 Z Z (yA T.yV Z (h0.now hH10 (n := 2) Z).is) (oM hH10 Z (zt (block ?_))))))))))))))
 have hH11 := Heap.zDi (kvA (n := 9)) Sf.vvI hH10
 refine loop (S := Nat × Nat × Sf.Cm × Value × Sf.Cm × Nat × Nat) (fun (i, b6, m6, v7, m7, lo7, hi7) => [(30, (.int .i64 (i : Int))), (6, (.map (some b6))), (7, v7), (0, (.pointer (some ⟨bb, 0, none⟩))), (1, (.int .i64 want)), (4, (.int .i64 0)), (5, (.pointer (some ⟨b1, 0, none⟩))), (29, (.int .i64 (l.length : Int)))]) (fun (i, b6, m6, v7, m7, lo7, hi7) w1 => Heap [⟨lo7, hi7, MpO (kvA (n := 9)) Sf.vvI v7 m7⟩, mp (kvA (n := 9)) Sf.vvI b6 m6, bx b1 181 [(.int .i64 1000), (.int .i64 1000)], base w] w1 ∧ i ≤ l.length ∧ Sf.Eqv m6 (Sf.kdS room l want i).1 ∧ Sf.Eqv m7 (Sf.kdS room l want i).2 ∧ (1 ≤ i → ∃ b, v7 = .map (some b))) (fun (i, b6, m6, v7, m7, lo7, hi7) => l.length - i) (0, b6, [(Sf.zeroP, 0)], (.map none), [], w9.heap.size, w9.heap.size) (uC Z (uC Z (uC Z (uC Z (uC Z (uC Z (uC Z (uC Z (Sub.nil _))))))))) ?_ ?_
 ·exact ⟨hH11, by omega, fun _ => Z, fun _ => Z, fun h => absurd h om⟩
 rintro ⟨i, b6, m6, v7, m7, lo7, hi7⟩ w12 ⟨hH13, hi, hE6, hE7, hv7⟩
 have hx8 := hw
 refine zr (zA hH13 Z Z (yK Z Z) (zt (seq ?_)))
 by_cases hc14 : (i : Int) < (l.length : Int)
 ·refine zO Z (dT hc14) (skip (zP (seq (block (seq ?_)))))
  have hx8 := fun h => hw (nth l (i : Int)) (by rw [yJ (show i < l.length from h)]; exact List.getElem_mem _)
  have hk := Sf.kdS_ok (room := room) (l := l) (want := want) i
  have hx9 := hx8 (by omega)
  refine region (oM hH13 Z (oA hH13 Z (zt (seq (zr (oM hH13 Z (oM hH13 Z (zA hH13 Z Z (y6 Z Z) (zt ?_)))))))))
  by_cases hc15 : (i : Int) = want
  ·have hiw : (i : Int) = want := by have hq := (decide_eq_true hc15); simpa using hq
   refine zO Z (dT hc15) (zr (v6 (kvA (n := 9)) Sf.vvI Z hH13 (fun b16 w17 hH18 => (oA hH18 Z (zs (v6 (kvA (n := 9)) Sf.vvI Z hH18 (fun b19 w20 hH21 => (oA hH21 Z (zt (seq (zr (oM hH21 Z ?_))))))))))))
   obtain ⟨eso23, clocko23, hH22, hv1, hv2, hv3, hv4⟩ := Heap.Y3 hH21 (n := 3) rfl
   have hentso23 : Ents (kvA (n := 9)) Sf.vvI eso23 clocko23 m6 := ⟨hv1, hv2, hv3, hv4⟩
   refine jB T.XC.und Z Z hH22 (Heap.jC hH22 (n := 3) Z) (fun r24 w25 hH26 => (zt (block (loop (S := Array Nat × List Sf.Pl × Sf.Cm × Sf.Cm) (fun (seen, ks, hh, gg) => [(0, (.pointer (some ⟨bb, 0, none⟩))), (1, (.int .i64 want)), (4, (.int .i64 0)), (5, (.pointer (some ⟨b1, 0, none⟩))), (6, (.map (some b6))), (7, v7), (8, (.int .i64 (i : Int))), (9, (.map (some b16))), (10, (.map (some b19))), (29, (.int .i64 (l.length : Int))), (30, (.int .i64 (i : Int))), (39, (.pointer (some ⟨r24, 0, none⟩)))]) (fun (seen, ks, hh, gg) w1 => Heap [raw r24 (.mapIter (some b6) clocko23 seen clocko23), mp (kvA (n := 9)) Sf.vvI b19 gg, mp (kvA (n := 9)) Sf.vvI b16 hh, ⟨lo7, hi7, MpO (kvA (n := 9)) Sf.vvI v7 m7⟩, raw b6 (.map eso23 clocko23), bx b1 181 [(.int .i64 1000), (.int .i64 1000)], base w] w1 ∧ Vis (kvA (n := 9)) eso23 seen ks ∧ Sf.Part2 true (nth l (i : Int)) m6 ks hh ∧ Sf.Part2 false (nth l (i : Int)) m6 ks gg) (fun (seen, ks, hh, gg) => unseen eso23 seen) (#[], [], [], []) (uC Z (uC Z (uC Z (uC Z (uC Z (uC Z (uC Z (uC Z (uC Z (uC Z (uC Z (uC Z (Sub.nil _))))))))))))) ?_ ?_))))
   ·exact ⟨hH26, Vis.start, Sf.Part2.start, Sf.Part2.start⟩
   rintro ⟨seen, ks, hh, gg⟩ w27 ⟨hH28, hV, hP1, hP2⟩
   refine zr (j0 Z Z hH28 (Heap.jC hH28 (n := 4) Z) (k := 0) Z hentso23.born (fun hall29 w33 hH34 => ?_) (fun e30 he31 hns32 w33 hH34 => ?_))
   ·have hE9 : Sf.Eqv hh (Sf.filt true (nth l (i : Int)) (Sf.kdS room l want i).1) := (fun q => (hP1.done (hV.over hentso23 uQ hall29) q).trans (hE6.filt (c := true) (x := (nth l (i : Int))) q))
    have hE10 : Sf.Eqv gg (Sf.filt false (nth l (i : Int)) (Sf.kdS room l want i).1) := (fun q => (hP2.done (hV.over hentso23 uQ hall29) q).trans (hE6.filt (c := false) (x := (nth l (i : Int))) q))
    refine zA hH34 Z Z (zI Z Z) (zt (seq (zM Z Z (exit (yX (xF (z7 (zu (oM hH34 Z (oM hH34 Z (oM hH34 Z (y2 Z Z Z hH34 (zAn (kb.now hH34 (n := 6) Z) (by rfl) (h0.now hH34 (n := 6) Z) om om hw (B := i) (m := hh) (hk.1.filt.eqv hE9) om (.inr ⟨_, Z, Heap.kJ hH34 (n := 2) Z⟩)) (fun u37 w35 lo38 hi39 hH36 hv40 => ?_)))))))))))))
    obtain ⟨sb41, sm42, hu44, hsE43, hH45⟩ := Heap.toMp hH36 (n := 0) rfl (fun _ h => h)
    subst hu44
    refine oM hH45 Z (oM hH45 Z (oM hH45 Z (y2 Z Z Z hH45 (zAn (kb.now hH45 (n := 7) Z) (by rfl) (h0.now hH45 (n := 7) Z) om om hw (B := i) (m := gg) (hk.1.filt.eqv hE10) om (.inr ⟨_, Z, Heap.kJ hH45 (n := 2) Z⟩)) (fun u48 w46 lo49 hi50 hH47 hv51 => ?_))))
    obtain ⟨sb52, sm53, hu55, hsE54, hH56⟩ := Heap.toMp hH47 (n := 0) rfl (fun _ h => h)
    subst hu55
    have hH57 := Heap.zBd hH56 (n := 0) Z
    refine oA hH57 Z (oA hH57 Z (zt (exit (yX (z7 (zP (region (zA hH57 Z Z (zX Z Z om) (oM hH57 Z (zD ?_))))))))))
    have hH58 := (hH57.sub (sK (sK (sC (sC (sC (sC (sC sR))))))))
    refine yY (i + 1, sb41, sm42, (.map (some sb52)), sm53, sb52, sb52 + 1) (uC Z (uC Z (uC Z (uC Z (uC Z (uC Z (uC Z (uC Z (Sub.nil _))))))))) ?_ ?_
    ·exact ⟨hH58, by omega, by rw [Sf.kdS_t hiw]; exact (hE9.step hsE43), by rw [Sf.kdS_t hiw]; exact (hE10.step hsE54), fun _ => ⟨_, Z⟩⟩
    ·first | (dsimp only; omega) | (show _ < _; omega)
   obtain ⟨s, n, hkey, hval, hfind⟩ := hentso23.entry he31
   have hns := hns32
   have hen := he31
   have hs9 := s.2
   have hfn : Sf.fnd m6 s = n := by unfold Sf.fnd; rw [hfind]; rfl
   refine zA hH34 Z Z (zI Z Z) (zt (seq (zO Z Z (skip (zP (block (zr (zA hH34 Z Z (qL hkey hval Z he31 hentso23.bornNd (fun _ hw => (Heap.jC hw (n := 4) Z)) (fun _ hw => Heap.jC hw (n := 0) Z)) (zA hH34 Z Z (zI Z Z) (zA hH34 Z Z (zI Z Z) (yC (z := (.agg #[(.int .i64 0), (.int .i64 0), (.int .i64 0), (.int .i64 0), (.int .i64 0), (.int .i64 0), (.int .i64 0), (.int .i64 0), (.int .i64 0)])) (fun _ => by kernel_rfl) Z Z hH34 (fun b59 w60 hH61 => (YS (n := 0) Z Z hH61 Z T.WK om (by first | rfl | (rw [vD]; omega)) (fun w62 hH63 => (oA hH63 Z (zs (oM hH63 Z (zA hH63 Z Z (yQ Z) ?_))))))))))))))))))
   refine zA hH63 Z Z (zJ T.vX Z) (zA hH63 Z Z (zJ T.vP Z) (zA hH63 Z Z (xV T.xK Z (by rfl) Z (fun _ hw => (kb.now hw (n := 7) Z))) (oM hH63 Z (zA hH63 Z Z (zS T.yV Z Z (h0.now hH63 (n := 7) Z).is om) (zA hH63 Z Z (zF T.yU Z (fun _ hw => Rd.at (h0.now hw (n := 7) Z) (i := (i : Int)) om (j := 0) Z)) (zA hH63 Z Z (z6 T.jZ Z Z om) (zA hH63 Z Z (jT T.yU Z om (fun _ hw => Heap.xS hw (n := 0) Z)) (zA hH63 Z Z (xJ Z Z) (zt ?_)))))))))
   by_cases hc64 : 0 < (nth s.1 (nth l (i : Int)))
   ·have hq1 : 0 < nth s.1 (nth l (i : Int)) := by have hq := (decide_eq_true hc64); simpa using hq
    refine zO Z (dT hc64) (region (oM hH63 Z (zA hH63 Z Z (v8 T.vS om Z (fun _ hw => Heap.xS hw (n := 0) Z)) (oM hH63 Z (uJ (n := 3) (k := s) (v := n) T.XC Z Z Z hH63 Z (fun w65 hH66 => (zD (yB ?_))))))))
    have hH67 := (hH66.sub (sC sR))
    refine yY ((seen.push e30.born), ks ++ [s], (upd s n hh), gg) (uC Z (uC Z (uC Z (uC Z (uC Z (uC Z (uC Z (uC Z (uC Z (uC Z (uC Z (uC Z (Sub.nil _))))))))))))) ?_ ?_
    ·exact ⟨hH67, hV.next hentso23 uQ hen hkey hns, hP1.yes hfind (by simp [hq1]), hP2.no (by simp [hq1])⟩
    ·show _ < _; exact vF hen hns
   have hq2 : ¬ 0 < nth s.1 (nth l (i : Int)) := by have hq := (decide_eq_false hc64); simpa using hq
   refine zM Z (dF hc64) (region (oM hH63 Z (zA hH63 Z Z (v8 T.vS om Z (fun _ hw => Heap.xS hw (n := 0) Z)) (oM hH63 Z (uJ (n := 2) (k := s) (v := n) T.XC Z Z Z hH63 Z (fun w68 hH69 => (zD (yB ?_))))))))
   have hH70 := (hH69.sub (sC sR))
   refine yY ((seen.push e30.born), ks ++ [s], hh, (upd s n gg)) (uC Z (uC Z (uC Z (uC Z (uC Z (uC Z (uC Z (uC Z (uC Z (uC Z (uC Z (uC Z (Sub.nil _))))))))))))) ?_ ?_
   ·exact ⟨hH70, hV.next hentso23 uQ hen hkey hns, hP1.no (by simp [hq2]), hP2.yes hfind (by simp [hq2])⟩
   ·show _ < _; exact vF hen hns
  have hin : ¬ (i : Int) = want := by have hq := (decide_eq_false hc15); simpa using hq
  refine zM Z (dF hc15) (skip (zP (region (oM hH13 Z (oM hH13 Z (oM hH13 Z (y2 Z Z Z hH13 (zAn (kb.now hH13 (n := 3) Z) (by rfl) (h0.now hH13 (n := 3) Z) om om hw (B := i) (m := m6) (hk.1.eqv hE6) om (.inr ⟨_, Z, Heap.kJ hH13 (n := 1) Z⟩)) (fun u73 w71 lo74 hi75 hH72 hv76 => ?_))))))))
  obtain ⟨sb77, sm78, hu80, hsE79, hH81⟩ := Heap.toMp hH72 (n := 0) rfl (fun _ h => h)
  subst hu80
  refine oM hH81 Z (oM hH81 Z (oM hH81 Z (y2 Z Z Z hH81 (zAn (kb.now hH81 (n := 4) Z) (by rfl) (h0.now hH81 (n := 4) Z) om om hw (B := i) (m := m7) (hk.2.eqv hE7) om (hH81.get (n := 1) Z)) (fun u84 w82 lo85 hi86 hH83 hv87 => ?_))))
  obtain ⟨sb88, sm89, hu91, hsE90, hH92⟩ := Heap.toMp hH83 (n := 0) rfl (fun _ h => h)
  subst hu91
  have hH93 := Heap.zBd hH92 (n := 0) Z
  refine oA hH93 Z (oA hH93 Z (zD (yB (zP (region (zA hH93 Z Z (zX Z Z om) (oM hH93 Z (zD ?_))))))))
  have hH94 := (hH93.sub (sK (sK (sC (sC sR)))))
  refine yY (i + 1, sb77, sm78, (.map (some sb88)), sm89, sb88, sb88 + 1) (uC Z (uC Z (uC Z (uC Z (uC Z (uC Z (uC Z (uC Z (Sub.nil _))))))))) ?_ ?_
  ·exact ⟨hH94, by omega, by rw [Sf.kdS_f hin]; exact (hE6.step hsE79), by rw [Sf.kdS_f hin]; exact (hE7.step hsE90), fun _ => ⟨_, Z⟩⟩
  ·first | (dsimp only; omega) | (show _ < _; omega)
 refine zM Z (dF hc14) (exit (yX (xF (z7 (zP (seq (seq ?_)))))))
 have hil : i = l.length := by omega
 refine region (oM hH13 Z ?_)
 obtain ⟨eso96, clocko96, hH95, hv1, hv2, hv3, hv4⟩ := Heap.Y3 hH13 (n := 1) rfl
 have hentso96 : Ents (kvA (n := 9)) Sf.vvI eso96 clocko96 m6 := ⟨hv1, hv2, hv3, hv4⟩
 refine jB T.XC.und Z Z hH95 (Heap.jC hH95 (n := 1) Z) (fun r97 w98 hH99 => (zt (block (loop (S := Array Nat × List Sf.Pl) (fun (seen6, ks6) => [(4, (.int .i64 0)), (5, (.pointer (some ⟨b1, 0, none⟩))), (7, v7), (80, (.pointer (some ⟨r97, 0, none⟩)))]) (fun (seen6, ks6) w1 => Heap [raw r97 (.mapIter (some b6) clocko96 seen6 clocko96), ⟨lo7, hi7, MpO (kvA (n := 9)) Sf.vvI v7 m7⟩, raw b6 (.map eso96 clocko96), bx b1 181 [(.int .i64 (Sf.lv m6 ks6)), (.int .i64 1000)], base w] w1 ∧ Vis (kvA (n := 9)) eso96 seen6 ks6) (fun (seen6, ks6) => unseen eso96 seen6) (#[], []) (uC Z (uC Z (uC Z (uC Z (Sub.nil _))))) ?_ ?_))))
 ·exact ⟨(Heap.xA (n := 3) hH99 Z (Z)), Vis.start⟩
 rintro ⟨seen6, ks6⟩ w100 ⟨hH101, hV⟩
 refine zr (j0 Z Z hH101 (Heap.jC hH101 (n := 2) Z) (k := 0) Z hentso96.born (fun hall102 w106 hH107 => ?_) (fun e103 he104 hns105 w106 hH107 => ?_))
 ·have hl6 := hE6.least (hV.over hentso96 uQ hall102)
  refine zA hH107 Z Z (zI Z Z) (zt (seq (zM Z Z (exit (yX (xF (z7 (zP (seq (seq ?_))))))))))
  obtain ⟨b7, hb7⟩ := hv7 (by omega)
  have hH108 := Heap.zE9 hH107 (n := 1) Z hb7
  subst hb7
  refine region (oM hH108 Z ?_)
  obtain ⟨eso110, clocko110, hH109, hv1, hv2, hv3, hv4⟩ := Heap.Y3 hH108 (n := 1) rfl
  have hentso110 : Ents (kvA (n := 9)) Sf.vvI eso110 clocko110 m7 := ⟨hv1, hv2, hv3, hv4⟩
  refine jB T.XC.und Z Z hH109 (Heap.jC hH109 (n := 1) Z) (fun r111 w112 hH113 => (zt (block (loop (S := Array Nat × List Sf.Pl) (fun (seen7, ks7) => [(4, (.int .i64 0)), (5, (.pointer (some ⟨b1, 0, none⟩))), (91, (.pointer (some ⟨r111, 0, none⟩)))]) (fun (seen7, ks7) w1 => Heap [raw r111 (.mapIter (some b7) clocko110 seen7 clocko110), raw r97 (.mapIter (some b6) clocko96 seen6 clocko96), raw b7 (.map eso110 clocko110), raw b6 (.map eso96 clocko96), bx b1 181 [(.int .i64 (Sf.lv m6 ks6)), (.int .i64 (Sf.lv m7 ks7))], base w] w1 ∧ Vis (kvA (n := 9)) eso110 seen7 ks7) (fun (seen7, ks7) => unseen eso110 seen7) (#[], []) (uC Z (uC Z (uC Z (Sub.nil _)))) ?_ ?_))))
  ·exact ⟨(Heap.xA (n := 4) hH113 Z (Z)), Vis.start⟩
  rintro ⟨seen7, ks7⟩ w114 ⟨hH115, hV⟩
  refine zr (j0 Z Z hH115 (Heap.jC hH115 (n := 2) Z) (k := 0) Z hentso110.born (fun hall116 w120 hH121 => ?_) (fun e117 he118 hns119 w120 hH121 => ?_))
  ·have hl7 := hE7.least (hV.over hentso110 uQ hall116)
   refine zA hH121 Z Z (zI Z Z) (zt (seq (zM Z Z (exit (yX (xF (z7 (zP (seq (block (zr (zA hH121 Z Z (z6 T.jO Z Z om) (zA hH121 Z Z (zF T.yU Z (cw (n := 4) Z Z)) (zA hH121 Z Z (z6 T.jO Z Z om) (zA hH121 Z Z (zF T.yU Z (cw (n := 4) Z Z)) (zA hH121 Z Z (yK Z Z) (oA hH121 Z (zt ?_))))))))))))))))))
   by_cases hc122 : (Sf.lv m6 ks6) < (Sf.lv m7 ks7)
   ·have hk1 : Sf.lv m6 ks6 < Sf.lv m7 ks7 := by have hq := (decide_eq_true hc122); simpa using hq
    refine zO Z (dT hc122) (zr (oA hH121 Z (zt (ret (yD (z2 ?_))))))
    have hH123 := (hH121.sub (sC (sC (sC (sC (sC sR))))))
    refine fin hH123 (fun w' hf => (yN Z (rt Z))) (fun w' hf => ?_)
    rw [hl6, hl7] at *
    subst hil
    first | exact congrArg (Value.int .i64) (Sf.kind_0 hk1) | exact congrArg (Value.int .i64) (Sf.kind_2 hk3) | exact congrArg (Value.int .i64) (Sf.kind_1 hk2 hk4)
   have hk2 : ¬ Sf.lv m6 ks6 < Sf.lv m7 ks7 := by have hq := (decide_eq_false hc122); simpa using hq
   refine zM Z (dF hc122) (zr (zA hH121 Z Z (z6 T.jO Z Z om) (zA hH121 Z Z (zF T.yU Z (cw (n := 4) Z Z)) (zA hH121 Z Z (z6 T.jO Z Z om) (zA hH121 Z Z (zF T.yU Z (cw (n := 4) Z Z)) (zA hH121 Z Z (xJ Z Z) (oA hH121 Z (zt ?_))))))))
   by_cases hc124 : (Sf.lv m7 ks7) < (Sf.lv m6 ks6)
   ·have hk3 : Sf.lv m7 ks7 < Sf.lv m6 ks6 := by have hq := (decide_eq_true hc124); simpa using hq
    refine zO Z (dT hc124) (zr (oA hH121 Z (zt (ret (yD (z2 ?_))))))
    have hH125 := (hH121.sub (sC (sC (sC (sC (sC sR))))))
    refine fin hH125 (fun w' hf => (yN Z (rt Z))) (fun w' hf => ?_)
    rw [hl6, hl7] at *
    subst hil
    first | exact congrArg (Value.int .i64) (Sf.kind_0 hk1) | exact congrArg (Value.int .i64) (Sf.kind_2 hk3) | exact congrArg (Value.int .i64) (Sf.kind_1 hk2 hk4)
   have hk4 : ¬ Sf.lv m7 ks7 < Sf.lv m6 ks6 := by have hq := (decide_eq_false hc124); simpa using hq
   refine zM Z (dF hc124) (skip (yB (zu (oA hH121 Z (zt (ret ?_))))))
   have hH126 := (hH121.sub (sC (sC (sC (sC (sC sR))))))
   refine fin hH126 (fun w' hf => (yN Z (rt Z))) (fun w' hf => ?_)
   rw [hl6, hl7] at *
   subst hil
   first | exact congrArg (Value.int .i64) (Sf.kind_0 hk1) | exact congrArg (Value.int .i64) (Sf.kind_2 hk3) | exact congrArg (Value.int .i64) (Sf.kind_1 hk2 hk4)
  obtain ⟨s, n, hkey, hval, hfind⟩ := hentso110.entry he118
  have hns := hns119
  have hen := he118
  have hs9 := s.2
  have hfn : Sf.fnd m7 s = n := by unfold Sf.fnd; rw [hfind]; rfl
  refine zA hH121 Z Z (zI Z Z) (zt (seq (zO Z Z (skip (zP (block (zr (zA hH121 Z Z (qL hkey hval Z he118 hentso110.bornNd (fun _ hw => (Heap.jC hw (n := 2) Z)) (fun _ hw => Heap.jC hw (n := 0) Z)) (zA hH121 Z Z (zI Z Z) (oA hH121 Z (zq (zA hH121 Z Z (z6 T.jO Z Z om) (zA hH121 Z Z (zF T.yU Z (cw (n := 4) Z Z)) (oM hH121 Z (zA hH121 Z Z (j4 Z Z) (zA hH121 Z Z (z6 T.jO Z Z om) (zU (n := 4) (j := 1) Z Z hH121 Z T.sz3 Z Z Z (by rfl) (fun w127 hH128 => ?_))))))))))))))))))
  refine zD (yB (yY ((seen7.push e117.born), ks7 ++ [s]) (uC Z (uC Z (uC Z (Sub.nil _)))) ?_ ?_))
  ·exact ⟨(Heap.xA (n := 4) hH128 Z (by first | rfl | (rw [Sf.lv_snoc, hfn]; rfl))), hV.next hentso110 uQ hen hkey hns⟩
  ·show _ < _; exact vF hen hns
 obtain ⟨s, n, hkey, hval, hfind⟩ := hentso96.entry he104
 have hns := hns105
 have hen := he104
 have hs9 := s.2
 have hfn : Sf.fnd m6 s = n := by unfold Sf.fnd; rw [hfind]; rfl
 refine zA hH107 Z Z (zI Z Z) (zt (seq (zO Z Z (skip (zP (block (zr (zA hH107 Z Z (qL hkey hval Z he104 hentso96.bornNd (fun _ hw => (Heap.jC hw (n := 2) Z)) (fun _ hw => Heap.jC hw (n := 0) Z)) (zA hH107 Z Z (zI Z Z) (oA hH107 Z (zq (zA hH107 Z Z (z6 T.jO Z Z om) (zA hH107 Z Z (zF T.yU Z (cw (n := 3) Z Z)) (oM hH107 Z (zA hH107 Z Z (j4 Z Z) (zA hH107 Z Z (z6 T.jO Z Z om) (zU (n := 3) (j := 0) Z Z hH107 Z T.sz3 Z Z Z (by rfl) (fun w129 hH130 => ?_))))))))))))))))))
 refine zD (yB (yY ((seen6.push e103.born), ks6 ++ [s]) (uC Z (uC Z (uC Z (uC Z (Sub.nil _))))) ?_ ?_))
 ·exact ⟨(Heap.xA (n := 3) hH130 Z (by first | rfl | (rw [Sf.lv_snoc, hfn]; rfl))), hV.next hentso96 uQ hen hkey hns⟩
 ·show _ < _; exact vF hen hns
end Go.Fip
namespace Go.Fip
open Go.Proofs Go.RowKit
theorem zD0 {v : Value} {l : List Int} {room : Int} {w : World} (h0 : Rd encI 1 v l w) (hn : l.length ≤ 1000000) (hc : Sf.ck room l = 0)  :
  Fn Tryz.prog 56 [(.agg #[(.int .i64 room), v])].toArray w (fun u w => ∃ q, u = .tuple #[q, .int .i64 0] ∧ Rd encI 1 q (Sf.tm room l.length (Sf.gl l l.length)) w) := by
 refine fz Tryz.func56 Z kz Z Z (fun hH => ?_)
 have hc0 : Sf.ck room l = 0 := hc
 have hday := Sf.ck_iff.1 hc0
 have hd1 := hday.r1
 have hd2 := hday.r2
 have hd3 := hday.n
 refine zr (yW Z Z Z hH (fun b1 w2 hH3 => (oA hH3 Z (oA hH3 Z (zs (zA hH3 Z Z (zW (cs := [(.int .i64 room), v]) T.xZ Z Z (fun _ hw => Heap.yI hw (n := 0) Z (k := 0) Z)) (y2 Z Z Z hH3 (G5 (h0.now hH3 (n := 1) Z) om hc0) (fun u6 w4 lo7 hi8 hH5 hv9 => ?_))))))))
 obtain ⟨bbD11, hu, hrowD11⟩ := hv9
 subst hu
 obtain ⟨mbD11, mmD11, hfullD11, hH10⟩ := Heap.X4 hH5 (n := 0) rfl (fun w' h => by obtain ⟨rb', e, h⟩ := h; cases e; exact h)
 refine oM hH10 Z (zA hH10 Z Z (zI Z Z) (zA hH10 Z Z (zI Z Z) (oA hH10 Z (oA hH10 Z (zt (seq (zr (oM hH10 Z (zA hH10 Z Z (yH Z Z) (zt (zM Z Z (skip (zu (oM hH10 Z (y2 Z Z Z hH10 (zEu (Heap.xS hH10 (n := 1) Z) (by simp) (h0.now hH10 (n := 3) Z) om (Heap.kJ hH10 (n := 0) Z) ⟨by omega, by omega⟩) (fun u14 w12 lo15 hi16 hH13 hv17 => ?_))))))))))))))))
 have hH18 := Heap.weaken hH13 (n := 0) Z (φ := Rd encI 1 u14 (Sf.tm room l.length (Sf.gl l l.length))) (fun w' h => by rw [← hfullD11.lst hday _ (Nat.le_refl _)]; exact h)
 refine oA hH18 Z (oA hH18 Z (zt (ret ?_)))
 have hH19 := (hH18.sub (sK (sC (sC (sC sR)))))
 refine fin (hH19.front (n := 1) Z) (fun w' hf => (xI Z (rt Z) (rt Z))) (fun w' hf => ?_)
 exact ⟨_, Z, hf.get (n := 0) Z⟩
theorem c57 {v : Value} {l : List Int} {room : Int} {w : World} (h0 : Rd encI 1 v l w) (hn : l.length ≤ 1000000) {want : Int}  :
  Fn Tryz.prog 57 [(.agg #[(.int .i64 room), v]), (.int .i64 want)].toArray w (fun u _ => u = .tuple #[.int .i64 (Sf.kindR room l want).1, .int .i64 (Sf.kindR room l want).2]) := by
 refine fz Tryz.func57 Z kz Z Z (fun hH => (zr (yW Z Z Z hH (fun b1 w2 hH3 => (oA hH3 Z (oA hH3 Z (zt (seq ?_))))))))
 by_cases hc4 : Sf.ck room l = 0
 ·have hc0 : Sf.ck room l = 0 := ‹_›
  have hday := Sf.ck_iff.1 hc0
  have hd1 := hday.r1
  have hd2 := hday.r2
  have hd3 := hday.n
  refine region (zA hH3 Z Z (zW (cs := [(.int .i64 room), v]) T.xZ Z Z (fun _ hw => Heap.yI hw (n := 0) Z (k := 0) Z)) (y2 Z Z Z hH3 (G5 (h0.now hH3 (n := 1) Z) om hc0) (fun u7 w5 lo8 hi9 hH6 hv10 => ?_)))
  obtain ⟨bbD12, hu, hrowD12⟩ := hv10
  subst hu
  obtain ⟨mbD12, mmD12, hfullD12, hH11⟩ := Heap.X4 hH6 (n := 0) rfl (fun w' h => by obtain ⟨rb', e, h⟩ := h; cases e; exact h)
  refine oM hH11 Z (zA hH11 Z Z (zI Z Z) (zA hH11 Z Z (zI Z Z) (oA hH11 Z (oA hH11 Z (zt (seq (block (zr (oM hH11 Z (zA hH11 Z Z (yH Z Z) (oA hH11 Z (zt (zM Z Z (zr (zA hH11 Z Z (zJ T.vP Z) (zA hH11 Z Z (zF T.xK Z (cw (n := 2) Z Z)) (zA hH11 Z Z (yA T.yV Z (h0.now hH11 (n := 3) Z).is) ?_)))))))))))))))))
  refine zA hH11 Z Z (xB Z Z om) (oM hH11 Z (z8 T.zC [want] Z (fun w => by kernel_rfl) hH11 (fun u13 lo15 hi16 w14 hH17 => (zN Z Z Z hH17 (WH (Heap.yO T.zC hH17 (n := 0) Z)) (fun w18 hH19 => (zA hH19 Z Z (y7 Z) (oA hH19 Z (zt ?_))))))))
  by_cases hc20 : 0 ≤ want ∧ want ≤ (l.length : Int) - 1
  ·have hwy : 0 ≤ want ∧ want ≤ (l.length : Int) - 1 := by have hq := (zH hc20); simpa using hq
   refine zM Z (zH hc20) (skip (yB (zu (oM hH19 Z (oM hH19 Z (zN Z Z Z hH19 (zEn (Heap.xS hH19 (n := 2) Z) (h0.now hH19 (n := 4) Z) om hday.w ⟨by omega, by omega⟩) (fun w21 hH22 => (oA hH22 Z (oA hH22 Z (zt (ret ?_)))))))))))
   have hH23 := (hH22.sub (sC (sC (sC (sC sR)))))
   refine fin hH23 (fun w' hf => (xI Z (rt Z) (rt Z))) (fun w' hf => ?_)
   first | (rw [Sf.kindR_1 hcn] <;> rfl) | (rw [Sf.kindR_2 hc0 hwn] <;> rfl) | (rw [Sf.kindR_3 hc0 hwy] <;> rfl)
  have hwn : ¬ (0 ≤ want ∧ want ≤ (l.length : Int) - 1) := by have hq := (zG hc20); simp at hq; omega
  refine zO Z (zG hc20) (zr (oA hH19 Z (oA hH19 Z (zt (ret (yD (z2 ?_)))))))
  have hH24 := (hH19.sub (sC (sC (sC (sC sR)))))
  refine fin hH24 (fun w' hf => (xI Z (rt Z) (rt Z))) (fun w' hf => ?_)
  first | (rw [Sf.kindR_1 hcn] <;> rfl) | (rw [Sf.kindR_2 hc0 hwn] <;> rfl) | (rw [Sf.kindR_3 hc0 hwy] <;> rfl)
 have hcn : ¬ Sf.ck room l = 0 := ‹_›
 refine region (zA hH3 Z Z (zW (cs := [(.int .i64 room), v]) T.xZ Z Z (fun _ hw => Heap.yI hw (n := 0) Z (k := 0) Z)) (zN Z Z Z hH3 (zA4 (h0.now hH3 (n := 1) Z) om hcn) (fun w25 hH26 => (oM hH26 Z (zA hH26 Z Z (zI Z Z) (zA hH26 Z Z (zI Z Z) (oA hH26 Z (oA hH26 Z (zt (seq (block (zr (oM hH26 Z (zA hH26 Z Z (yH Z Z) (oA hH26 Z (zt ?_))))))))))))))))
 have hc27 : ¬ ((Sf.ck room l) = 0) := hcn
 refine zO Z (zG hc27) (zr (oM hH26 Z (oA hH26 Z (oA hH26 Z (zt (ret (yD (z2 ?_))))))))
 have hH28 := (hH26.sub (sC sR))
 refine fin hH28 (fun w' hf => (xI Z (rt Z) (rt Z))) (fun w' hf => ?_)
 first | (rw [Sf.kindR_1 hcn] <;> rfl) | (rw [Sf.kindR_2 hc0 hwn] <;> rfl) | (rw [Sf.kindR_3 hc0 hwy] <;> rfl)
theorem zEa {v : Value} {l : List Int} {room : Int} {w : World} (h0 : Rd encI 1 v l w) (hn : l.length ≤ 1000000) (hc : Sf.ck room l = 0)  :
  Fn Tryz.prog 58 [(.agg #[(.int .i64 room), v])].toArray w (fun u w => ∃ q, u = .tuple #[q, .int .i64 0] ∧ Own 3 1 encI q (Sf.dps l (Sf.gl l l.length) l.length) w) := by
 refine fz Tryz.func58 Z kz Z Z (fun hH => ?_)
 have hc0 : Sf.ck room l = 0 := hc
 have hday := Sf.ck_iff.1 hc0
 have hd1 := hday.r1
 have hd2 := hday.r2
 have hd3 := hday.n
 refine zr (yW Z Z Z hH (fun b1 w2 hH3 => (oA hH3 Z (oA hH3 Z (zs (zA hH3 Z Z (zW (cs := [(.int .i64 room), v]) T.xZ Z Z (fun _ hw => Heap.yI hw (n := 0) Z (k := 0) Z)) (y2 Z Z Z hH3 (G5 (h0.now hH3 (n := 1) Z) om hc0) (fun u6 w4 lo7 hi8 hH5 hv9 => ?_))))))))
 obtain ⟨bbD11, hu, hrowD11⟩ := hv9
 subst hu
 obtain ⟨mbD11, mmD11, hfullD11, hH10⟩ := Heap.X4 hH5 (n := 0) rfl (fun w' h => by obtain ⟨rb', e, h⟩ := h; cases e; exact h)
 refine oM hH10 Z (zA hH10 Z Z (zI Z Z) (zA hH10 Z Z (zI Z Z) (oA hH10 Z (oA hH10 Z (zt (seq (zr (oM hH10 Z (zA hH10 Z Z (yH Z Z) (zt (zM Z Z (skip (zu (oA hH10 Z (zt ?_)))))))))))))))
 refine seq (zr (zA hH10 Z Z (zJ T.vP Z) (zA hH10 Z Z (zF T.xK Z (cw (n := 2) Z Z)) (zA hH10 Z Z (yA T.yV Z (h0.now hH10 (n := 3) Z).is) (oM hH10 Z (zt (block ?_)))))))
 have hH12 := uE (enc := encI) 3 1 hH10
 refine loop (S := Nat × Value × Nat × Nat) (fun (k, v_6, lo_6, hi_6) => [(19, (.int .i64 (k : Int))), (6, v_6), (2, (.slice none 0 0)), (3, (.int .i64 0)), (4, (.pointer (some ⟨bbD11, 0, none⟩))), (18, (.int .i64 (l.length : Int)))]) (fun (k, v_6, lo_6, hi_6) w1 => Heap [ow lo_6 hi_6 3 1 encI v_6 (Sf.dps l (Sf.gl l l.length) k), mp Sf.kvS Sf.vvI mbD11 mmD11, bx bbD11 148 (seg [(.int .i64 room), v] (List.replicate 9 0) [(.map (some mbD11))]), bx b1 51 [(.int .i64 room), v], base w] w1 ∧ k ≤ l.length) (fun (k, v_6, lo_6, hi_6) => l.length - k) (0, (.slice none 0 0), w4.heap.size, w4.heap.size) (uC Z (uC Z (uC Z (uC Z (uC Z (uC Z (Sub.nil _))))))) ?_ ?_
 ·exact ⟨(Heap.y5 (n := 0) hH12 Z (Z)), by omega⟩
 rintro ⟨k, v_6, lo_6, hi_6⟩ w13 ⟨hH14, hk⟩
 have hdl := Sf.dps_len l (Sf.gl l l.length) k
 refine zr (zA hH14 Z Z (yK Z Z) (zt (seq ?_)))
 by_cases hc15 : (k : Int) < (l.length : Int)
 ·refine zO Z (dT hc15) (skip (zP (seq (block (zr (oM hH14 Z (oA hH14 Z (zt ?_))))))))
  obtain ⟨ac, hce⟩ := j6 (sz := 1) (Heap.yO T.zC hH14 (n := 0) rfl).is
  refine zZ (fun w' => True) T.mixed (fun w16 hr17 => ?_)
  have hH18 := hH14.redrawn hr17
  refine zK [0, 1, 2, 3, 4, 5, 6, 7] kz trivial _ _ _ kz (qM Z Z Z (qM Z Z Z (zL Z Z (yA T.yV Z (Heap.yO T.zC hH18 (n := 0) Z).is) (qM Z Z Z (zL Z Z (yA T.yV Z (Heap.yO T.zC hH18 (n := 0) Z).is) (zL Z Z (Z1 T.yV Z Z Z (Heap.yO T.zC hH18 (n := 0) Z).is om) (qM Z Z Z (qM Z Z Z (zV (z1 8 kz Z (zN Z Z Z hH18 ((show Fn _ _ _ _ (fun u _ => u = .int .i64 (Sf.dp l (Sf.gl l l.length) (k : Int))) from by rw [← hfullD11.lst hday _ (Nat.le_refl _)]; exact zEl (Heap.xS hH18 (n := 2) rfl) (by simp) (h0.now hH18 (n := 4) rfl) om (Heap.kJ hH18 (n := 1) rfl) hday.w)) (fun w19 hH20 => ?_))))))))))))
  refine zD (⟨trivial, (z1 9 kz Z (z8 T.zC [(Sf.dp l (Sf.gl l l.length) (k : Int))] Z (fun w => by kernel_rfl) hH20 (fun u21 lo23 hi24 w22 hH25 => (zD (⟨trivial, (z1 10 kz Z (qN T.zC Z hce Z Z hH25 (Rd.KW (Heap.yO T.zC hH25 (n := 1) Z) ) (Heap.yO T.zC hH25 (n := 0) Z) (by simp) om2 (fun u26 lo28 hi29 w27 hH30 => (zD (⟨trivial, (zK [11] kz trivial _ _ _ kz (zL Z Z (yG Z) (zV (zY kz (yB (zP (region (zA hH30 Z Z (zX Z Z om) (oM hH30 Z (zD ?_))))))))))⟩)))))⟩)))))⟩)
  have hH31 := (hH30.sub (sK (sC (sC sR))))
  refine yY (k + 1, u26, lo28, hi29) (uC Z (uC Z (uC Z (uC Z (uC Z (uC Z (Sub.nil _))))))) ?_ ?_
  ·exact ⟨(Heap.y5 (n := 0) hH31 Z (Z)), by omega⟩
  ·first | (dsimp only; omega) | (show _ < _; omega)
 refine zM Z (dF hc15) (exit (yX (xF (z7 (zu (oM hH14 Z (oA hH14 Z (oA hH14 Z (zt (ret ?_))))))))))
 have hH32 := (hH14.sub (sK (sC (sC (sC sR)))))
 refine fin (hH32.front (n := 1) Z) (fun w' hf => (xI Z (rt Z) (rt Z))) (fun w' hf => ?_)
 have hke : k = l.length := by omega
 have h8 : Own 3 1 encI v_6 (Sf.dps l (Sf.gl l l.length) k) w' := Heap.own hf (n := 0) rfl
 rw [show (Sf.dps l (Sf.gl l l.length) k) = (Sf.dps l (Sf.gl l l.length) l.length) from by rw [hke]] at h8
 exact ⟨_, Z, h8⟩
end Go.Fip
namespace Go.Fip
open Go.Proofs Go.RowKit
def Sf.wants : List Int := [1, 2, 3, 4, 1, 2, 5, 1, 2, 3, 4, 5]
theorem c51 {room : Int} {w : World}  :
  Fn Tryz.prog 51 [(.int .i64 room)].toArray w (fun u w => ∃ v, u = .agg #[.int .i64 room, v] ∧ Own 3 1 encI v Sf.wants w) := by
 refine fz Tryz.func51 Z kz Z Z (fun hH => (zr (yC (z := (.agg #[(.int .i64 0), (.slice none 0 0)])) (fun _ => by kernel_rfl) Z Z hH (fun b1 w2 hH3 => (zs (oM hH3 Z (z8 T.zC [1, 2, 3, 4, 1, 2, 5, 1, 2, 3, 4, 5] Z (fun w => by kernel_rfl) hH3 (fun u4 lo6 hi7 w5 hH8 => (zN Z Z Z hH8 (zE5 (Heap.yO T.zC hH8 (n := 0) Z)) (fun w9 hH10 => (zU (n := 1) (j := 0) Z Z hH10 Z T.zAt Z Z Z (xN Z (xN (SliceIs.qK (Heap.yO T.zC hH10 (n := 0) Z).is) Z)) (fun w11 hH12 => (zt (ret (fin (hH12.front (n := 2) Z) (fun w' hf => (yN Z (rvA (cs := [(.int .i64 room), u4]) Z T.xZ Z (y4 (Heap.xS hf (n := 2) Z) (k := 0) Z)))) (fun w' hf => ?_))))))))))))))))
 exact ⟨_, Z, Heap.own hf (n := 0) Z⟩
end Go.Fip
namespace Go.Fip
open Go.Proofs Go.RowKit
namespace KQ
theorem ck3 : Sf.ck 3 Sf.wants = 0 := by kernel_rfl
theorem ck4 : Sf.ck 4 Sf.wants = 0 := by kernel_rfl
theorem a : (Sf.runTo 3 1 Sf.wants Sf.wants.length).mis = [0, 1, 2, 3, 4, 5, 6, 9, 10] := by kernel_rfl
theorem b : (Sf.runTo 3 2 Sf.wants Sf.wants.length).mis = [0, 1, 2, 3, 4, 5, 6, 9, 10, 11] := by kernel_rfl
theorem c : (Sf.runTo 3 3 Sf.wants Sf.wants.length).out = [0, 0, 0, 3, 0, 0, 4, 0, 0, 1, 2, 0] := by kernel_rfl
theorem f : (Sf.runTo 4 1 Sf.wants Sf.wants.length).mis = [0, 1, 2, 3, 6, 7, 8, 9, 10, 11] := by kernel_rfl
theorem m : Sf.fewest 3 Sf.wants = (7, 0) := by kernel_rfl
theorem n : Sf.fewest 4 Sf.wants = (6, 0) := by kernel_rfl
theorem t : Sf.tm 3 Sf.wants.length (Sf.gl Sf.wants Sf.wants.length) = [6] := by kernel_rfl
theorem l : Sf.dps Sf.wants (Sf.gl Sf.wants Sf.wants.length) Sf.wants.length = [0, 0, 0, 0, 4, 4, 0, 3, 3, 5, 5, 5] := by kernel_rfl
theorem x : Sf.kindR 3 Sf.wants 4 = (0, 0) := by kernel_rfl
theorem k9 : Sf.cp 3 Sf.wants [0, 0, 0, 3, 0, 0, 4, 0, 0, 2, 1, 0] = (7, 0) := by kernel_rfl
theorem k10 : Sf.cp 3 Sf.wants [0, 0, 0, 5, 0, 0, 4, 0, 0, 1, 2, 0] = (0, 18) := by kernel_rfl
theorem k11 : Sf.cp 3 Sf.wants [0, 0, 0, 3, 1, 0, 4, 0, 0, 1, 2, 0] = (0, 16) := by kernel_rfl
theorem i12 : Sf.ct 3 Sf.wants [6] = (7, 0) := by kernel_rfl
theorem i13 : Sf.ct 3 Sf.wants [6, 6] = (0, 3) := by kernel_rfl
theorem j : Sf.rt 3 Sf.wants [6] = (7, 0) := by kernel_rfl
end KQ
theorem c19 {w : World}  :
  Fn Tryz.prog 19 [].toArray w (fun u _ => u = .bool true) := by
 refine fz Tryz.func19 Z kz Z Z (fun hH => (zr (oA hH Z (zs (y2 Z Z Z hH (c51) (fun u3 w1 lo4 hi5 hH2 hv6 => ?_))))))
 obtain ⟨vD7, hu, -⟩ := hv6
 subst hu
 have hH8 := Heap.weaken hH2 (n := 0) Z (φ := Own 3 1 encI vD7 Sf.wants) (fun w' h => by obtain ⟨p', e, h1⟩ := h; cases e; exact h1)
 have hH9 := Heap.vA hH8 (n := 0) (by rfl)
 refine y2 Z Z Z hH9 (c51) (fun u12 w10 lo13 hi14 hH11 hv15 => ?_)
 obtain ⟨vD16, hu, -⟩ := hv15
 subst hu
 have hH17 := Heap.weaken hH11 (n := 0) Z (φ := Own 3 1 encI vD16 Sf.wants) (fun w' h => by obtain ⟨p', e, h1⟩ := h; cases e; exact h1)
 have hH18 := Heap.vA hH17 (n := 0) (by rfl)
 refine yC (z := (.agg #[(.int .i64 0), (.slice none 0 0)])) (fun _ => by kernel_rfl) Z Z hH18 (fun b19 w20 hH21 => (yC (z := (.agg #[(.int .i64 0), (.slice none 0 0)])) (fun _ => by kernel_rfl) Z Z hH21 (fun b22 w23 hH24 => (zU (n := 1) (j := 0) Z Z hH24 Z T.zAt Z Z Z (xN Z (xN (SliceIs.qK (Heap.yO T.zC hH24 (n := 3) Z).is) Z)) (fun w25 hH26 => (zU (n := 0) (j := 0) Z Z hH26 Z T.zAt Z Z Z (xN Z (xN (SliceIs.qK (Heap.yO T.zC hH26 (n := 2) Z).is) Z)) (fun w27 hH28 => (zs (zA hH28 Z Z (zW (cs := [(.int .i64 3), vD7]) T.xZ Z Z (fun _ hw => Heap.yI hw (n := 1) Z (k := 0) Z)) (y2 Z Z Z hH28 ((by have h := zAo (room := 3) (rule := 1) (Heap.yO T.zC hH28 (n := 3) rfl) (by decide) KQ.ck3 ⟨by decide, by decide⟩; simp only [KQ.a] at h; exact h)) (fun u31 w29 lo32 hi33 hH30 hv34 => ?_)))))))))))
 obtain ⟨p36, hu, -⟩ := hv34
 subst hu
 have hH35 := Heap.tup2 hH30 (n := 0) Z
 refine oM hH35 Z (zA hH35 Z Z (zI Z Z) (zA hH35 Z Z (zI Z Z) (oA hH35 Z (oA hH35 Z (zs (zA hH35 Z Z (zW (cs := [(.int .i64 3), vD7]) T.xZ Z Z (fun _ hw => Heap.yI hw (n := 2) Z (k := 0) Z)) (y2 Z Z Z hH35 ((by have h := zAo (room := 3) (rule := 2) (Heap.yO T.zC hH35 (n := 4) rfl) (by decide) KQ.ck3 ⟨by decide, by decide⟩; simp only [KQ.b] at h; exact h)) (fun u39 w37 lo40 hi41 hH38 hv42 => ?_))))))))
 obtain ⟨p44, hu, -⟩ := hv42
 subst hu
 have hH43 := Heap.tup2 hH38 (n := 0) Z
 refine oM hH43 Z (zA hH43 Z Z (zI Z Z) (zA hH43 Z Z (zI Z Z) (oA hH43 Z (oA hH43 Z (zs (zA hH43 Z Z (zW (cs := [(.int .i64 3), vD7]) T.xZ Z Z (fun _ hw => Heap.yI hw (n := 3) Z (k := 0) Z)) (y2 Z Z Z hH43 ((by have h := zEv (room := 3) (rule := 3) (Heap.yO T.zC hH43 (n := 5) rfl) (by decide) KQ.ck3 ⟨by decide, by decide⟩; simp only [KQ.c] at h; exact h)) (fun u47 w45 lo48 hi49 hH46 hv50 => ?_))))))))
 obtain ⟨p52, hu, -⟩ := hv50
 subst hu
 have hH51 := Heap.tup2 hH46 (n := 0) Z
 refine oM hH51 Z (zA hH51 Z Z (zI Z Z) (zA hH51 Z Z (zI Z Z) (oA hH51 Z (oA hH51 Z (zs (zA hH51 Z Z (zW (cs := [(.int .i64 3), vD7]) T.xZ Z Z (fun _ hw => Heap.yI hw (n := 4) Z (k := 0) Z)) (zN Z Z Z hH51 (zEx (rule := 4) (Heap.yO T.zC hH51 (n := 6) Z) (by decide) KQ.ck3 (by decide)) (fun w53 hH54 => (oM hH54 Z (zA hH54 Z Z (zI Z Z) (zA hH54 Z Z (zI Z Z) (oA hH54 Z (oA hH54 Z (zs (zA hH54 Z Z (zW (cs := [(.int .i64 4), vD16]) T.xZ Z Z (fun _ hw => Heap.yI hw (n := 3) Z (k := 0) Z)) (y2 Z Z Z hH54 ((by have h := zAo (room := 4) (rule := 1) (Heap.yO T.zC hH54 (n := 5) rfl) (by decide) KQ.ck4 ⟨by decide, by decide⟩; simp only [KQ.f] at h; exact h)) (fun u57 w55 lo58 hi59 hH56 hv60 => ?_)))))))))))))))))
 obtain ⟨p62, hu, -⟩ := hv60
 subst hu
 have hH61 := Heap.tup2 hH56 (n := 0) Z
 refine oM hH61 Z (zA hH61 Z Z (zI Z Z) (zA hH61 Z Z (zI Z Z) (oA hH61 Z (oA hH61 Z (zs (zA hH61 Z Z (zW (cs := [(.int .i64 3), vD7]) T.xZ Z Z (fun _ hw => Heap.yI hw (n := 5) Z (k := 0) Z)) (zN Z Z Z hH61 ((by have h := c15 (room := 3) (Heap.yO T.zC hH61 (n := 7) rfl) (by decide); simp only [KQ.m] at h; exact h)) (fun w63 hH64 => (oM hH64 Z (zA hH64 Z Z (zI Z Z) (zA hH64 Z Z (zI Z Z) (oA hH64 Z (oA hH64 Z (zs (zA hH64 Z Z (zW (cs := [(.int .i64 4), vD16]) T.xZ Z Z (fun _ hw => Heap.yI hw (n := 4) Z (k := 0) Z)) (zN Z Z Z hH64 ((by have h := c15 (room := 4) (Heap.yO T.zC hH64 (n := 6) rfl) (by decide); simp only [KQ.n] at h; exact h)) (fun w65 hH66 => ?_)))))))))))))))))
 refine oM hH66 Z (zA hH66 Z Z (zI Z Z) (zA hH66 Z Z (zI Z Z) (oA hH66 Z (oA hH66 Z (zt (seq (zZ (fun w' => Heap [ow lo58 hi59 3 1 encI p62 [0, 1, 2, 3, 6, 7, 8, 9, 10, 11], ow lo48 hi49 3 1 encI p52 [0, 0, 0, 3, 0, 0, 4, 0, 0, 1, 2, 0], ow lo40 hi41 3 1 encI p44 [0, 1, 2, 3, 4, 5, 6, 9, 10, 11], ow lo32 hi33 3 1 encI p36 [0, 1, 2, 3, 4, 5, 6, 9, 10], bx b22 51 [(.int .i64 4), vD16], bx b19 51 [(.int .i64 3), vD7], ow lo13 hi14 3 1 encI vD16 Sf.wants, ow lo4 hi5 3 1 encI vD7 Sf.wants, base w] w') T.mixed (fun w67 hr68 => ?_))))))))
 have hH69 := hH66.redrawn hr68
 refine zK [0] kz hH69 _ _ _ kz (zL Z Z (zW (cs := [(.int .i64 3), vD7]) T.xZ Z Z (fun _ hw => Heap.yI hw (n := 5) Z (k := 0) Z)) (zV (z1 1 kz Z (z8 T.zC [0, 0, 0, 3, 0, 0, 4, 0, 0, 2, 1, 0] Z (fun w => by kernel_rfl) hH69 (fun u70 lo72 hi73 w71 hH74 => (zD (⟨(hH74.sub (sC sR)), (z1 2 kz Z (zN Z Z Z hH74 (c54) (fun w75 hH76 => (zD (⟨(hH76.sub (sC sR)), (z1 3 kz Z (zN Z Z Z hH76 ((by have h := c53 (room := 3) (Heap.yO T.zC hH76 (n := 8) rfl) (by decide) (Heap.yO T.zC hH76 (n := 0) rfl) (by decide); simp only [KQ.k9] at h; exact h)) (fun w77 hH78 => (zD (⟨(hH78.sub (sC sR)), (zK [4, 5, 6, 7, 8] kz (hH78.sub (sC sR)) _ _ _ kz (qM Z Z Z (zL Z Z (zI Z Z) (zL Z Z (zI Z Z) ?_))))⟩)))))⟩)))))⟩)))))))
 refine zL Z Z (yG Z) (zL Z Z (yG Z) (zV (zY kz (zP (seq (zZ (fun w' => Heap [ow lo72 hi73 3 1 encI u70 [0, 0, 0, 3, 0, 0, 4, 0, 0, 2, 1, 0], ow lo58 hi59 3 1 encI p62 [0, 1, 2, 3, 6, 7, 8, 9, 10, 11], ow lo48 hi49 3 1 encI p52 [0, 0, 0, 3, 0, 0, 4, 0, 0, 1, 2, 0], ow lo40 hi41 3 1 encI p44 [0, 1, 2, 3, 4, 5, 6, 9, 10, 11], ow lo32 hi33 3 1 encI p36 [0, 1, 2, 3, 4, 5, 6, 9, 10], bx b22 51 [(.int .i64 4), vD16], bx b19 51 [(.int .i64 3), vD7], ow lo13 hi14 3 1 encI vD16 Sf.wants, ow lo4 hi5 3 1 encI vD7 Sf.wants, base w] w') T.mixed (fun w79 hr80 => ?_)))))))
 have hH81 := hH78.redrawn hr80
 refine zK [0] kz hH81 _ _ _ kz (zL Z Z (zW (cs := [(.int .i64 3), vD7]) T.xZ Z Z (fun _ hw => Heap.yI hw (n := 6) Z (k := 0) Z)) (zV (z1 1 kz Z (z8 T.zC [0, 0, 0, 5, 0, 0, 4, 0, 0, 1, 2, 0] Z (fun w => by kernel_rfl) hH81 (fun u82 lo84 hi85 w83 hH86 => (zD (⟨(hH86.sub (sC sR)), (z1 2 kz Z (zN Z Z Z hH86 (c54) (fun w87 hH88 => (zD (⟨(hH88.sub (sC sR)), (z1 3 kz Z (zN Z Z Z hH88 ((by have h := c53 (room := 3) (Heap.yO T.zC hH88 (n := 9) rfl) (by decide) (Heap.yO T.zC hH88 (n := 0) rfl) (by decide); simp only [KQ.k10] at h; exact h)) (fun w89 hH90 => (zD (⟨(hH90.sub (sC sR)), (zK [4, 5, 6, 7, 8] kz (hH90.sub (sC sR)) _ _ _ kz (qM Z Z Z (zL Z Z (zI Z Z) (zL Z Z (zI Z Z) ?_))))⟩)))))⟩)))))⟩)))))))
 refine zL Z Z (yG Z) (zL Z Z (yG Z) (zV (zY kz (zP (seq (zZ (fun w' => Heap [ow lo84 hi85 3 1 encI u82 [0, 0, 0, 5, 0, 0, 4, 0, 0, 1, 2, 0], ow lo72 hi73 3 1 encI u70 [0, 0, 0, 3, 0, 0, 4, 0, 0, 2, 1, 0], ow lo58 hi59 3 1 encI p62 [0, 1, 2, 3, 6, 7, 8, 9, 10, 11], ow lo48 hi49 3 1 encI p52 [0, 0, 0, 3, 0, 0, 4, 0, 0, 1, 2, 0], ow lo40 hi41 3 1 encI p44 [0, 1, 2, 3, 4, 5, 6, 9, 10, 11], ow lo32 hi33 3 1 encI p36 [0, 1, 2, 3, 4, 5, 6, 9, 10], bx b22 51 [(.int .i64 4), vD16], bx b19 51 [(.int .i64 3), vD7], ow lo13 hi14 3 1 encI vD16 Sf.wants, ow lo4 hi5 3 1 encI vD7 Sf.wants, base w] w') T.mixed (fun w91 hr92 => ?_)))))))
 have hH93 := hH90.redrawn hr92
 refine zK [0] kz hH93 _ _ _ kz (zL Z Z (zW (cs := [(.int .i64 3), vD7]) T.xZ Z Z (fun _ hw => Heap.yI hw (n := 7) Z (k := 0) Z)) (zV (z1 1 kz Z (z8 T.zC [0, 0, 0, 3, 1, 0, 4, 0, 0, 1, 2, 0] Z (fun w => by kernel_rfl) hH93 (fun u94 lo96 hi97 w95 hH98 => (zD (⟨(hH98.sub (sC sR)), (z1 2 kz Z (zN Z Z Z hH98 (c54) (fun w99 hH100 => (zD (⟨(hH100.sub (sC sR)), (z1 3 kz Z (zN Z Z Z hH100 ((by have h := c53 (room := 3) (Heap.yO T.zC hH100 (n := 10) rfl) (by decide) (Heap.yO T.zC hH100 (n := 0) rfl) (by decide); simp only [KQ.k11] at h; exact h)) (fun w101 hH102 => (zD (⟨(hH102.sub (sC sR)), (zK [4, 5, 6, 7, 8] kz (hH102.sub (sC sR)) _ _ _ kz (qM Z Z Z (zL Z Z (zI Z Z) (zL Z Z (zI Z Z) ?_))))⟩)))))⟩)))))⟩)))))))
 refine zL Z Z (yG Z) (zL Z Z (yG Z) (zV (zY kz (zP (seq (zZ (fun w' => Heap [ow lo96 hi97 3 1 encI u94 [0, 0, 0, 3, 1, 0, 4, 0, 0, 1, 2, 0], ow lo84 hi85 3 1 encI u82 [0, 0, 0, 5, 0, 0, 4, 0, 0, 1, 2, 0], ow lo72 hi73 3 1 encI u70 [0, 0, 0, 3, 0, 0, 4, 0, 0, 2, 1, 0], ow lo58 hi59 3 1 encI p62 [0, 1, 2, 3, 6, 7, 8, 9, 10, 11], ow lo48 hi49 3 1 encI p52 [0, 0, 0, 3, 0, 0, 4, 0, 0, 1, 2, 0], ow lo40 hi41 3 1 encI p44 [0, 1, 2, 3, 4, 5, 6, 9, 10, 11], ow lo32 hi33 3 1 encI p36 [0, 1, 2, 3, 4, 5, 6, 9, 10], bx b22 51 [(.int .i64 4), vD16], bx b19 51 [(.int .i64 3), vD7], ow lo13 hi14 3 1 encI vD16 Sf.wants, ow lo4 hi5 3 1 encI vD7 Sf.wants, base w] w') T.mixed (fun w103 hr104 => ?_)))))))
 have hH105 := hH102.redrawn hr104
 refine zK [0] kz hH105 _ _ _ kz (zL Z Z (zW (cs := [(.int .i64 3), vD7]) T.xZ Z Z (fun _ hw => Heap.yI hw (n := 8) Z (k := 0) Z)) (zV (z1 1 kz Z (z8 T.zC [6] Z (fun w => by kernel_rfl) hH105 (fun u106 lo108 hi109 w107 hH110 => (zD (⟨(hH110.sub (sC sR)), (z1 2 kz Z (zN Z Z Z hH110 (c54) (fun w111 hH112 => (zD (⟨(hH112.sub (sC sR)), (z1 3 kz Z (zN Z Z Z hH112 ((by have h := c55 (room := 3) (Heap.yO T.zC hH112 (n := 11) rfl) (by decide) (Heap.yO T.zC hH112 (n := 0) rfl) (by decide); simp only [KQ.i12] at h; exact h)) (fun w113 hH114 => (zD (⟨(hH114.sub (sC sR)), (zK [4, 5, 6, 7, 8] kz (hH114.sub (sC sR)) _ _ _ kz (qM Z Z Z (zL Z Z (zI Z Z) (zL Z Z (zI Z Z) ?_))))⟩)))))⟩)))))⟩)))))))
 refine zL Z Z (yG Z) (zL Z Z (yG Z) (zV (zY kz (zP (seq (zZ (fun w' => Heap [ow lo108 hi109 3 1 encI u106 [6], ow lo96 hi97 3 1 encI u94 [0, 0, 0, 3, 1, 0, 4, 0, 0, 1, 2, 0], ow lo84 hi85 3 1 encI u82 [0, 0, 0, 5, 0, 0, 4, 0, 0, 1, 2, 0], ow lo72 hi73 3 1 encI u70 [0, 0, 0, 3, 0, 0, 4, 0, 0, 2, 1, 0], ow lo58 hi59 3 1 encI p62 [0, 1, 2, 3, 6, 7, 8, 9, 10, 11], ow lo48 hi49 3 1 encI p52 [0, 0, 0, 3, 0, 0, 4, 0, 0, 1, 2, 0], ow lo40 hi41 3 1 encI p44 [0, 1, 2, 3, 4, 5, 6, 9, 10, 11], ow lo32 hi33 3 1 encI p36 [0, 1, 2, 3, 4, 5, 6, 9, 10], bx b22 51 [(.int .i64 4), vD16], bx b19 51 [(.int .i64 3), vD7], ow lo13 hi14 3 1 encI vD16 Sf.wants, ow lo4 hi5 3 1 encI vD7 Sf.wants, base w] w') T.mixed (fun w115 hr116 => ?_)))))))
 have hH117 := hH114.redrawn hr116
 refine zK [0] kz hH117 _ _ _ kz (zL Z Z (zW (cs := [(.int .i64 3), vD7]) T.xZ Z Z (fun _ hw => Heap.yI hw (n := 9) Z (k := 0) Z)) (zV (z1 1 kz Z (z8 T.zC [6, 6] Z (fun w => by kernel_rfl) hH117 (fun u118 lo120 hi121 w119 hH122 => (zD (⟨(hH122.sub (sC sR)), (z1 2 kz Z (zN Z Z Z hH122 (c54) (fun w123 hH124 => (zD (⟨(hH124.sub (sC sR)), (z1 3 kz Z (zN Z Z Z hH124 ((by have h := c55 (room := 3) (Heap.yO T.zC hH124 (n := 12) rfl) (by decide) (Heap.yO T.zC hH124 (n := 0) rfl) (by decide); simp only [KQ.i13] at h; exact h)) (fun w125 hH126 => (zD (⟨(hH126.sub (sC sR)), (zK [4, 5, 6, 7, 8] kz (hH126.sub (sC sR)) _ _ _ kz (qM Z Z Z (zL Z Z (zI Z Z) (zL Z Z (zI Z Z) ?_))))⟩)))))⟩)))))⟩)))))))
 refine zL Z Z (yG Z) (zL Z Z (yG Z) (zV (zY kz (zu (zA hH126 Z Z (zW (cs := [(.int .i64 3), vD7]) T.xZ Z Z (fun _ hw => Heap.yI hw (n := 10) Z (k := 0) Z)) (y2 Z Z Z hH126 ((by have h := zD0 (w := w125) (Heap.yO T.zC hH126 (n := 12) rfl) (by decide) KQ.ck3; simp only [KQ.t] at h; exact h)) (fun u129 w127 lo130 hi131 hH128 hv132 => ?_)))))))
 obtain ⟨q133, hu, -⟩ := hv132
 subst hu
 have hH134 := Heap.weaken hH128 (n := 0) Z (φ := Rd encI 1 q133 [6]) (fun w' h => by obtain ⟨p', e, h1⟩ := h; cases e; exact h1)
 refine oM hH134 Z (zA hH134 Z Z (zI Z Z) (zA hH134 Z Z (zI Z Z) (oA hH134 Z (oA hH134 Z (zs (zA hH134 Z Z (zW (cs := [(.int .i64 3), vD7]) T.xZ Z Z (fun _ hw => Heap.yI hw (n := 11) Z (k := 0) Z)) (zN Z Z Z hH134 ((by have h := c57 (room := 3) (want := 4) (Heap.yO T.zC hH134 (n := 13) rfl) (by decide); simp only [KQ.x] at h; exact h)) (fun w135 hH136 => (oM hH136 Z (zA hH136 Z Z (zI Z Z) (zA hH136 Z Z (zI Z Z) (oA hH136 Z (oA hH136 Z (zs (zA hH136 Z Z (zW (cs := [(.int .i64 3), vD7]) T.xZ Z Z (fun _ hw => Heap.yI hw (n := 11) Z (k := 0) Z)) (y2 Z Z Z hH136 ((by have h := zEa (room := 3) (Heap.yO T.zC hH136 (n := 13) rfl) (by decide) KQ.ck3; simp only [KQ.l] at h; exact h)) (fun u139 w137 lo140 hi141 hH138 hv142 => ?_)))))))))))))))))
 obtain ⟨p144, hu, -⟩ := hv142
 subst hu
 have hH143 := Heap.tup2 hH138 (n := 0) Z
 refine oM hH143 Z (zA hH143 Z Z (zI Z Z) (zA hH143 Z Z (zI Z Z) (oA hH143 Z (oA hH143 Z (zt (seq (zr (oM hH143 Z (zA hH143 Z Z (yL Z (yH Z Z)) (oM hH143 Z (zB Z Z Z (oM hH143 Z (zB Z Z Z (zA hH143 Z Z (yL Z (yH Z Z)) (zA hH143 Z Z (zT Z Z Z) (oM hH143 Z (zB Z Z Z (oM hH143 Z (zB Z Z Z ?_)))))))))))))))))))
 refine zA hH143 Z Z (yL Z (yH Z Z)) (zA hH143 Z Z (zT Z Z Z) (oM hH143 Z (zB Z Z Z (oM hH143 Z (zB Z Z Z (zA hH143 Z Z (yL Z (yH Z Z)) (zA hH143 Z Z (zT Z Z Z) (oM hH143 Z (zB Z Z Z (oM hH143 Z (zB Z Z Z (zA hH143 Z Z (yL Z (yH Z Z)) (zA hH143 Z Z (zT Z Z Z) (oM hH143 Z (zB Z Z Z (oM hH143 Z (zB Z Z Z (zA hH143 Z Z (yL Z (yH Z Z)) (zA hH143 Z Z (zT Z Z Z) (oM hH143 Z (zB Z Z Z ?_)))))))))))))))))))))
 refine oM hH143 Z (zB Z Z Z (zA hH143 Z Z (yL Z (yH Z Z)) (zA hH143 Z Z (zT Z Z Z) (oM hH143 Z (zB Z Z Z (oM hH143 Z (zB Z Z Z (zA hH143 Z Z (yL Z (yH Z Z)) (zA hH143 Z Z (zT Z Z Z) (oM hH143 Z (zB Z Z Z (oM hH143 Z (zB Z Z Z (zA hH143 Z Z (yL Z (yH Z Z)) (zA hH143 Z Z (zT Z Z Z) (oM hH143 Z (zB Z Z Z (oM hH143 Z (zB Z Z Z (zA hH143 Z Z (yL Z (yH Z Z)) (zA hH143 Z Z (zT Z Z Z) ?_)))))))))))))))))))))
 refine oM hH143 Z (zB Z Z Z (oM hH143 Z (zB Z Z Z (zA hH143 Z Z (yL Z (yH Z Z)) (zA hH143 Z Z (zT Z Z Z) (oM hH143 Z (zB Z Z Z (oM hH143 Z (zB Z Z Z (zA hH143 Z Z (yL Z (yH Z Z)) (zA hH143 Z Z (zT Z Z Z) (oM hH143 Z (zB Z Z Z (oM hH143 Z (zB Z Z Z (zA hH143 Z Z (yL Z (yH Z Z)) (zA hH143 Z Z (zT Z Z Z) (oM hH143 Z (zB Z Z Z (oM hH143 Z (zB Z Z Z ?_)))))))))))))))))))))
 refine zA hH143 Z Z (yL Z (yH Z Z)) (zA hH143 Z Z (zT Z Z Z) (oM hH143 Z (zB Z Z Z (oM hH143 Z (zB Z Z Z (zA hH143 Z Z (yL Z (yH Z Z)) (zA hH143 Z Z (zT Z Z Z) (zt (zM Z Z (skip (zu (zA hH143 Z Z (zW (cs := [(.int .i64 3), vD7]) T.xZ Z Z (fun _ hw => Heap.yI hw (n := 12) Z (k := 0) Z)) (oM hH143 Z (zN Z Z Z hH143 ((by have h := c59 (room := 3) (Heap.yO T.zC hH143 (n := 14) rfl) (by decide) ((show Rd encI 1 q133 [6] _ from hH143.get (n := 1) rfl)) (by decide); simp only [KQ.j] at h; exact h)) (fun w145 hH146 => (oM hH146 Z (zA hH146 Z Z (zI Z Z) (zA hH146 Z Z (zI Z Z) (oA hH146 Z ?_)))))))))))))))))))
 refine oA hH146 Z (zs (oM hH146 Z (z8 T.zC [0, 1, 2, 3, 4, 5, 6, 9, 10] Z (fun w => by kernel_rfl) hH146 (fun u147 lo149 hi150 w148 hH151 => (zN Z Z Z hH151 (c54) (fun w152 hH153 => (zN Z Z Z hH153 ((by have h := c60 (Heap.yO T.zC hH153 (n := 11) rfl) (Heap.yO T.zC hH153 (n := 0) rfl) (by decide) (by decide); simp only [show (decide (([0, 1, 2, 3, 4, 5, 6, 9, 10] : List Int) = [0, 1, 2, 3, 4, 5, 6, 9, 10])) = true from rfl] at h; exact h)) (fun w154 hH155 => (oM hH155 Z (zB Z Z Z (oM hH155 Z (zB Z Z Z (z8 T.zC [0, 1, 2, 3, 4, 5, 6, 9, 10, 11] Z (fun w => by kernel_rfl) hH155 (fun u156 lo158 hi159 w157 hH160 => (zB Z Z Z (zN Z Z Z hH160 (c54) (fun w161 hH162 => (zB Z Z Z (zN Z Z Z hH162 ((by have h := c60 (Heap.yO T.zC hH162 (n := 11) rfl) (Heap.yO T.zC hH162 (n := 0) rfl) (by decide) (by decide); simp only [show (decide (([0, 1, 2, 3, 4, 5, 6, 9, 10, 11] : List Int) = [0, 1, 2, 3, 4, 5, 6, 9, 10, 11])) = true from rfl] at h; exact h)) (fun w163 hH164 => (zA hH164 Z Z (zR Z Z Z) (oM hH164 Z (zB Z Z Z (oM hH164 Z ?_))))))))))))))))))))))))
 refine zB Z Z Z (z8 T.zC [0, 0, 0, 3, 0, 0, 4, 0, 0, 1, 2, 0] Z (fun w => by kernel_rfl) hH164 (fun u165 lo167 hi168 w166 hH169 => (zB Z Z Z (zN Z Z Z hH169 (c54) (fun w170 hH171 => (zB Z Z Z (zN Z Z Z hH171 ((by have h := c60 (Heap.yO T.zC hH171 (n := 11) rfl) (Heap.yO T.zC hH171 (n := 0) rfl) (by decide) (by decide); simp only [show (decide (([0, 0, 0, 3, 0, 0, 4, 0, 0, 1, 2, 0] : List Int) = [0, 0, 0, 3, 0, 0, 4, 0, 0, 1, 2, 0])) = true from rfl] at h; exact h)) (fun w172 hH173 => (zA hH173 Z Z (zR Z Z Z) (oM hH173 Z (zB Z Z Z (oM hH173 Z (zB Z Z Z (zA hH173 Z Z (x5 (show ([0, 1, 2, 3, 6, 7, 8, 9, 10, 11].length : Int) = (10 : Int) from Z) (yA T.yV Z (Heap.yO T.zC hH173 (n := 10) Z).is)) (zB Z Z Z (zA hH173 Z Z (yL Z (y6 Z Z)) (zA hH173 Z Z (zR Z Z Z) (oM hH173 Z (zB Z Z Z (oM hH173 Z (zB Z Z Z (zA hH173 Z Z (yL Z (y6 Z Z)) (zA hH173 Z Z (zR Z Z Z) (oM hH173 Z ?_))))))))))))))))))))))))
 refine zB Z Z Z (oM hH173 Z (zB Z Z Z (zA hH173 Z Z (yL Z (y6 Z Z)) (zA hH173 Z Z (zR Z Z Z) (oM hH173 Z (zB Z Z Z (oM hH173 Z (zB Z Z Z (zA hH173 Z Z (yL Z (y6 Z Z)) (zA hH173 Z Z (zR Z Z Z) (oM hH173 Z (zB Z Z Z (oM hH173 Z (zB Z Z Z (zA hH173 Z Z (yL Z (y6 Z Z)) (zA hH173 Z Z (zR Z Z Z) (oM hH173 Z (zB Z Z Z (oM hH173 Z (zB Z Z Z (zA hH173 Z Z (yL Z (y6 Z Z)) ?_)))))))))))))))))))))
 refine zA hH173 Z Z (zR Z Z Z) (oM hH173 Z (zB Z Z Z (oM hH173 Z (zB Z Z Z (zA hH173 Z Z (yL Z (y6 Z Z)) (zA hH173 Z Z (zR Z Z Z) (oM hH173 Z (zB Z Z Z (oM hH173 Z (zB Z Z Z (zA hH173 Z Z (yL Z (y6 Z Z)) (zA hH173 Z Z (zR Z Z Z) (oM hH173 Z (zB Z Z Z (oM hH173 Z (zB Z Z Z (z8 T.zC [0, 0, 0, 0, 4, 4, 0, 3, 3, 5, 5, 5] Z (fun w => by kernel_rfl) hH173 (fun u174 lo176 hi177 w175 hH178 => (zB Z Z Z (zN Z Z Z hH178 (c54) (fun w179 hH180 => (zB Z Z Z (zN Z Z Z hH180 ((by have h := c60 (Heap.yO T.zC hH180 (n := 4) rfl) (Heap.yO T.zC hH180 (n := 0) rfl) (by decide) (by decide); simp only [show (decide (([0, 0, 0, 0, 4, 4, 0, 3, 3, 5, 5, 5] : List Int) = [0, 0, 0, 0, 4, 4, 0, 3, 3, 5, 5, 5])) = true from rfl] at h; exact h)) (fun w181 hH182 => ?_))))))))))))))))))))))))
 refine zA hH182 Z Z (zR Z Z Z) (oA hH182 Z (zt (ret ?_)))
 have hH183 := (hH182.sub (sC (sC (sC (sC (sC (sC (sC (sC (sC (sC (sC (sC (sC (sC (sC (sC (sC (sC (sC sR))))))))))))))))))))
 refine fin hH183 (fun w' hf => (yN Z (rt Z))) (fun w' hf => ?_)
 rfl
end Go.Fip
namespace Go.Fip
open Go.Proofs Go.RowKit
namespace S
def CircOK (l : List Pr) (B U F c : List Int) : Prop := (circleError l B U F ≠ 0 → c = []) ∧ (circleError l B U F = 0 → checkCircle l B U F c = 0) ∧ c.length ≤ 2 * l.length
theorem ok_err {l : List Pr} {B U F : List Int} (h : ¬ checkOrder l B U F = 0) : CircOK l B U F [] := ⟨fun _ => rfl, fun h2 => by rw [ce1 h] at h2; exact absurd h2 h, by simp⟩
theorem ok_play {l : List Pr} {B U F : List Int} {E : Mm} (hj : Jobs l) (hO : Ord l.length B U F) (hOK : DayOK l B U F E) (hf : E.length = 2 * l.length) : circleError l B U F = 5 ∧ CircOK l B U F [] := by
 have hc := checkOrder_iff.2 ⟨hj, hO⟩
 have hs : SolP l B U F (pairsTo ((List.range (2 * l.length)).map fun w : Nat => (find (w : Int) E).getD 0 - at2 l (w : Int)) l.length) := hOK.sol hO (by omega) (pairsTo_length _ _) (fun w hw => by
  rw [ZC _ hw, yJ (by simpa using hw)]; simp)
 have e : circleError l B U F = 5 := ce2 hc (by rw [playOf_some hj hs]; rfl)
 exact ⟨e, fun _ => Z, fun h2 => by omega, by simp⟩
theorem ok_circ {l : List Pr} {B U F c : List Int} (hj : Jobs l) (hO : Ord l.length B U F) (h : 2 ≤ c.length ∧ c.length ≤ 2 * l.length ∧ InC l.length c ∧ Circ B U F c) : circleError l B U F = 0 ∧ CircOK l B U F c := by
 have hc := checkOrder_iff.2 ⟨hj, hO⟩
 have e : circleError l B U F = 0 := ce3 hc (by rw [playOf_none (circ_none hj (by omega) h.2.2.1 h.2.2.2)]; simp)
 exact ⟨e, fun h2 => absurd e h2, fun _ => cc5 hc om h.2.2.1 h.2.2.2, h.2.1⟩
end S
theorem Heap.zDc {n lo hi : Nat} {u : Value} {c : List Int} {p : List Int → Prop} {H : List Item} {w : World} (hH : Heap H w) (hn : H[n]? = some ⟨lo, hi, fun w => ∃ c : List Int, Rd encI 1 u c w ∧ p c⟩) (hu : Rd encI 1 u c w) (hc : 0 < c.length) : Heap (H.set n ⟨lo, hi, Rd encI 1 u c⟩) w := by
 have hok := hH.okAt hn
 have hlt : eb u < w.heap.size := hu.lt (i := 0) (x := c[0]) (by simp [hc]) (j := 0) (u := .int .i64 c[0]) rfl
 have hin := Item.within hok (b := eb u) (o := w.heap[eb u]) (Array.getElem?_eq_getElem hlt) (fun w' h _ hx => by
  obtain ⟨c', hc', _⟩ := h
  have hl : c'.length = c.length := by
   obtain ⟨a, cp, e, _⟩ := hc'.is
   obtain ⟨a2, cp2, e2, _⟩ := hu.is
   rw [e] at e2
   simp only [Value.slice.injEq] at e2
   exact e2.2.1
  have h2 := hc'.2 0 (c'[0]'(by omega)) (by simp) 0 (.int .i64 (c'[0]'(by omega))) rfl
  simp only [World.cell?] at h2
  rw [hx] at h2
  cases h2)
 refine hH.set hn ⟨Z, Z, Z, Nat.le_refl _, fun _ _ _ => Z⟩ (.inl ⟨Nat.le_refl _, Nat.le_refl _⟩) ⟨hok.1, hok.2.1, fun w' ha => ⟨hu.1, fun i x hi j v hj => ?_⟩⟩
 exact (ha.cell (p := ⟨eb u, eo u + i * 1 + j, none⟩) hin.1 hin.2).trans (hu.2 i x hi j v hj)
theorem Heap.zBa {n lo hi : Nat} {u : Value} {c : List Int} {H : List Item} {w : World} (hH : Heap H w) (hn : H[n]? = some ⟨lo, hi, Rd encI 1 u c⟩) : Rd encI 1 u c w := hH.get hn
theorem c68 {v : Value} {js : List S.Pr} {vb vt vf : Value} {B U F : List Int} {w : World} (h0 : Rd encP 2 v js w) (hB : Rd encI 1 vb B w) (hT : Rd encI 1 vt U w) (hF : Rd encI 1 vf F w) (hn : js.length ≤ 1000000) (hBl : B.length ≤ 1000000) (hTl : U.length ≤ 1000000) (hFl : F.length ≤ 1000000)  :
  Fn Tryz.prog 68 [v, (.agg #[vb, vt, vf])].toArray w (fun u w => ∃ q c, u = .tuple #[q, .int .i64 (S.circleError js B U F)] ∧ Own 3 1 encI q c w ∧ S.CircOK js B U F c) := by
 refine fz Tryz.func68 Z kz Z Z (fun hH => (zr (yW Z Z Z hH (fun b1 w2 hH3 => (oA hH3 Z (oA hH3 Z (zt (seq ?_))))))))
 by_cases hc4 : S.checkOrder js B U F = 0
 ·have hco : S.checkOrder js B U F = 0 := ‹_›
  obtain ⟨hj, hO⟩ := S.checkOrder_iff.1 hco
  have hO8 := hO
  obtain ⟨hlB, hlU, hlF, hOk⟩ := hO8
  have hl1 := hj.1
  have hl8 := hj.2.1
  refine region (oM hH3 Z (zA hH3 Z Z (zW (cs := [vb, vt, vf]) T.uN Z Z (fun _ hw => Heap.yI hw (n := 0) Z (k := 0) Z)) (y2 Z Z Z hH3 (c36 (h0.now hH3 (n := 1) Z) (hB.now hH3 (n := 1) Z) (hT.now hH3 (n := 1) Z) (hF.now hH3 (n := 1) Z) om om om om hco) (fun u7 w5 lo8 hi9 hH6 hv10 => ?_))))
  obtain ⟨d, m, E, hu, hday, hOK⟩ := hv10
  subst hu
  obtain ⟨es, clock, hents, hH11⟩ := Heap.K7 hH6 (n := 0) rfl (fun w' h => by obtain ⟨d', m', E', e, h, _⟩ := h; cases e; exact ⟨_, _, h⟩) hday
  refine oM hH11 Z (zA hH11 Z Z (zI Z Z) (zA hH11 Z Z (zI Z Z) (oA hH11 Z (oA hH11 Z (zt (seq (block (zr (oM hH11 Z (zA hH11 Z Z (yH Z Z) (oA hH11 Z (zt ?_))))))))))))
  have hc12 : ¬ (¬ ((0 : Int) = 0)) := fun h => h rfl
  refine zM Z (vN hc12) (zr (oM hH11 Z (zA hH11 Z Z (yQ Z) (zA hH11 Z Z (zJ T.X9 Z) (zA hH11 Z Z (zF T.XI Z (fun _ hw => yM ((Heap.dr hw (n := 0) Z).1) Z)) (zA hH11 Z Z (X8 T.m84 Z (fun _ hw => ((DayR.day (Heap.dr hw (n := 0) Z) hents).2))) (oM hH11 Z (zA hH11 Z Z (yA T.vH Z (h0.now hH11 (n := 2) Z).is) (zA hH11 Z Z (xC Z Z om) (zA hH11 Z Z (y6 Z Z) (oA hH11 Z (zt ?_))))))))))))
  by_cases hc13 : (E.length : Int) = (2 * (js.length : Int))
  ·obtain ⟨hce, hcok⟩ := S.ok_play hj hO hOK (by omega)
   refine zO Z (dT hc13) (zr (oA hH11 Z (oA hH11 Z (zt (ret (yD (z2 ?_)))))))
   have hH14 := (hH11.sub (sC (sC sR)))
   refine fin hH14 (fun w' hf => (xI Z (rt Z) (rt Z))) (fun w' hf => ?_)
   first | (rw [S.ce1 hcn]; exact ⟨_, _, rfl, vU, S.ok_err hcn⟩) | (rw [hce]; exact ⟨_, _, rfl, vU, hcok⟩) | (rw [hce]; exact ⟨_, _, rfl, Heap.own hf (n := 0) rfl, by simpa using hcok⟩)
  have hEl := hOK.len
  refine zM Z (dF hc13) (skip (yB (zu (oM hH11 Z (y2 Z Z Z hH11 (zDs (DayR.day (Heap.dr hH11 (n := 0) Z) hents) (hB.now hH11 (n := 2) Z) (hT.now hH11 (n := 2) Z) (hF.now hH11 (n := 2) Z) hj hO hOK om) (fun u17 w15 lo18 hi19 hH16 hv20 => ?_))))))
  obtain ⟨c21, hcr, hcp⟩ := hv20
  have hH22 := Heap.zDc hH16 (n := 0) Z hcr om
  obtain ⟨hce, hcok⟩ := S.ok_circ hj hO hcp
  have hcl := hcp.2.1
  refine oA hH22 Z (zs (oM hH22 Z (zA hH22 Z Z (yA T.yV Z (Heap.zBa hH22 (n := 0) Z).is) (qU T.zC (0 : Int) T.uO Z Z Z hH22 om om (fun u23 lo25 hi26 w24 hH27 => (oA hH27 Z (zs (oM hH27 Z (oM hH27 Z (VV (n := 0) T.zC Z Z Z hH27 Z (Heap.zBa hH27 (n := 1) Z) (by simp) (fun w28 hH29 => (zs (oM hH29 Z (oA hH29 Z ?_))))))))))))))
  refine oA hH29 Z (zt (ret ?_))
  have hH30 := (hH29.sub (sK (sC (sC (sC sR)))))
  refine fin (hH30.front (n := 1) Z) (fun w' hf => (xI Z (rt Z) (rt Z))) (fun w' hf => ?_)
  first | (rw [S.ce1 hcn]; exact ⟨_, _, rfl, vU, S.ok_err hcn⟩) | (rw [hce]; exact ⟨_, _, rfl, vU, hcok⟩) | (rw [hce]; exact ⟨_, _, rfl, Heap.own hf (n := 0) rfl, by simpa using hcok⟩)
 have hcn : ¬ S.checkOrder js B U F = 0 := ‹_›
 refine region (oM hH3 Z (zA hH3 Z Z (zW (cs := [vb, vt, vf]) T.uN Z Z (fun _ hw => Heap.yI hw (n := 0) Z (k := 0) Z)) (zN Z Z Z hH3 (zBz (h0.now hH3 (n := 1) Z) (hB.now hH3 (n := 1) Z) (hT.now hH3 (n := 1) Z) (hF.now hH3 (n := 1) Z) om om om om hcn) (fun w31 hH32 => (oM hH32 Z (zA hH32 Z Z (zI Z Z) (zA hH32 Z Z (zI Z Z) (oA hH32 Z (oA hH32 Z (zt (seq (block (zr (oM hH32 Z (zA hH32 Z Z (yH Z Z) (oA hH32 Z (zt ?_)))))))))))))))))
 have hc33 : ¬ ((S.checkOrder js B U F) = 0) := hcn
 refine zO Z (zG hc33) (zr (oM hH32 Z (oA hH32 Z (oA hH32 Z (zt (ret (yD (z2 ?_))))))))
 have hH34 := (hH32.sub (sC sR))
 refine fin hH34 (fun w' hf => (xI Z (rt Z) (rt Z))) (fun w' hf => ?_)
 first | (rw [S.ce1 hcn]; exact ⟨_, _, rfl, vU, S.ok_err hcn⟩) | (rw [hce]; exact ⟨_, _, rfl, vU, hcok⟩) | (rw [hce]; exact ⟨_, _, rfl, Heap.own hf (n := 0) rfl, by simpa using hcok⟩)
theorem Heap.KM {α : Type} {E sz n lo hi : Nat} {enc : α → List Value} {v : Value} {xs : List α} {φ : World → Prop} {H : List Item} {w : World} (hH : Heap H w) (hn : H[n]? = some ⟨lo, hi, φ⟩)
  (hφ : ∀ w', φ w' → ∃ ys : List α, Own E sz enc v ys w') (hown : Own E sz enc v xs w) : Heap (H.set n (ow lo hi E sz enc v xs)) w := by
 have hok := hH.okAt hn
 refine hH.set hn ⟨Z, Z, Z, Nat.le_refl _, fun _ _ _ => Z⟩ (.inl ⟨Nat.le_refl _, Nat.le_refl _⟩) (jA ⟨hown, fun g hg => ?_⟩ hok.1 hok.2.1)
 by_cases hin : lo ≤ g ∧ g < hi
 ·exact hin
 ·exfalso
  have hlt := (hown.lt g hg).2
  obtain ⟨ys, h1⟩ := hφ _ (hok.2.2 (w.putObj g (.deferred none)) ⟨rfl, rfl, rfl, by simp, fun k a b => World.putObj_heap_other (by simp only at a b; omega)⟩)
  rcases h1.2 with ⟨hv, _⟩ | ⟨g', cap, cur, hv, _, hg', _⟩
  ·rw [hv] at hg; cases hg
  ·rw [hv] at hg
   simp [Value.ownBlock] at hg
   subst hg
   rw [World.putObj_heap_same hlt] at hg'
   cases hg'
end Go.Fip
namespace Go.Fip
open Go.Proofs Go.RowKit
namespace K
theorem l : S.pairsTo [3, 4, 5, 2, 4, 6] (([3, 4, 5, 2, 4, 6] : List Int).length / 2) = [(3, 4), (5, 2), (4, 6)] := by decide
theorem m : S.pairsTo [3, 4] (([3, 4] : List Int).length / 2) = [(3, 4)] := by decide
theorem n : S.pairsTo [1, 1, 1, 1] (([1, 1, 1, 1] : List Int).length / 2) = [(1, 1), (1, 1)] := by decide
theorem p : S.pairsTo [0, 6, 3, 10, 8, 0] (([0, 6, 3, 10, 8, 0] : List Int).length / 2) = [(0, 6), (3, 10), (8, 0)] := by decide
theorem p7 : S.pairsTo [0, 6, 3, 10, 7, 0] (([0, 6, 3, 10, 7, 0] : List Int).length / 2) = [(0, 6), (3, 10), (7, 0)] := by decide
theorem t : S.pairsTo [0, 5] (([0, 5] : List Int).length / 2) = [(0, 5)] := by decide
theorem sl : S.shortest [(3, 4), (5, 2), (4, 6)] = (12, 0) := by decide
theorem sm : S.shortest [(3, 4)] = (7, 0) := by decide
theorem tm : S.tight [(3, 4)] = (2, 0, 0) := by decide
theorem bl : S.bound [(3, 4), (5, 2), (4, 6)] 2 2 = (10, 0) := by decide
theorem bl3 : S.bound [(3, 4), (5, 2), (4, 6)] 3 0 = (0, 2) := by decide
theorem cp : S.checkPlan [(3, 4), (5, 2), (4, 6)] [(0, 6), (3, 10), (8, 0)] = (12, 0) := by decide
theorem cp7 : S.checkPlan [(3, 4), (5, 2), (4, 6)] [(0, 6), (3, 10), (7, 0)] = (0, 16) := by decide
theorem idm : S.idle [(3, 4)] [(0, 5)] 1 = (5, 0) := by decide
theorem jl : S.Jobs [(3, 4), (5, 2), (4, 6)] := by decide
theorem jn : S.Jobs [(1, 1), (1, 1)] := by decide
theorem col : S.checkOrder [(3, 4), (5, 2), (4, 6)] [0, 1, 2] [2, 0, 1] [0, 0, 1] = 0 := by decide
theorem con : S.checkOrder [(1, 1), (1, 1)] [0, 1] [1, 0] [1, 0] = 0 := by decide
theorem spl : S.SolP [(3, 4), (5, 2), (4, 6)] [0, 1, 2] [2, 0, 1] [0, 0, 1] [(0, 6), (3, 10), (8, 0)] := by decide
theorem nsn : ¬ ∃ s, S.SolF [(1, 1), (1, 1)] [0, 1] [1, 0] [1, 0] s := S.circ_none (c := [0, 2, 3, 1]) jn (by decide) (by decide) (by decide)
theorem pyl : S.play [(3, 4), (5, 2), (4, 6)] [0, 1, 2] [2, 0, 1] [0, 0, 1] = ([(0, 6), (3, 10), (8, 0)], 0) := S.pl_some col jl spl
theorem pyn : S.play [(1, 1), (1, 1)] [0, 1] [1, 0] [1, 0] = ([], 13) := S.pl_none con nsn
theorem cc4 : S.checkCircle [(1, 1), (1, 1)] [0, 1] [1, 0] [1, 0] [0, 2, 3, 1] = 0 := by decide
theorem cc2 : S.checkCircle [(1, 1), (1, 1)] [0, 1] [1, 0] [1, 0] [0, 2] = 14 := by decide
theorem cel : S.circleError [(3, 4), (5, 2), (4, 6)] [0, 1, 2] [2, 0, 1] [0, 0, 1] = 5 := S.ce2 col (by rw [S.playOf_some jl spl]; rfl)
theorem cen : S.circleError [(1, 1), (1, 1)] [0, 1] [1, 0] [1, 0] = 0 := S.ce3 con (by rw [S.playOf_none nsn]; simp)
end K
theorem c20 {w : World}  :
  Fn Tryz.prog 20 [].toArray w (fun u _ => u = .bool true) := by
 refine fz Tryz.func20 Z kz Z Z (fun hH => ?_)
 obtain ⟨p, hpl, hps, hpc⟩ := S.plan_ok K.jl
 rw [show S.shortestOf [(3, 4), (5, 2), (4, 6)] = 12 from by decide] at hpc
 have hpn : p.length = 3 := hps.1
 refine zr (oA hH Z (zs (z8 T.zQ [3, 4, 5, 2, 4, 6] Z (fun w => by kernel_rfl) hH (fun u1 lo3 hi4 w2 hH5 => ?_))))
 have hev8 : Fn Tryz.prog 61 [u1].toArray _ _ := c61 (Heap.yO T.zQ hH5 (n := 0) rfl) (by simp)
 simp only [K.l] at hev8
 refine y2 Z Z Z hH5 (hev8) (fun u9 w6 lo10 hi11 hH7 hv12 => ?_)
 have hH13 := Heap.vA hH7 (n := 0) Z
 refine z8 T.zQ [3, 4] Z (fun w => by kernel_rfl) hH13 (fun u14 lo16 hi17 w15 hH18 => ?_)
 have hev21 : Fn Tryz.prog 61 [u14].toArray _ _ := c61 (Heap.yO T.zQ hH18 (n := 0) rfl) (by simp)
 simp only [K.m] at hev21
 refine y2 Z Z Z hH18 (hev21) (fun u22 w19 lo23 hi24 hH20 hv25 => ?_)
 have hH26 := Heap.vA hH20 (n := 0) Z
 refine z8 T.zQ [1, 1, 1, 1] Z (fun w => by kernel_rfl) hH26 (fun u27 lo29 hi30 w28 hH31 => ?_)
 have hev34 : Fn Tryz.prog 61 [u27].toArray _ _ := c61 (Heap.yO T.zQ hH31 (n := 0) rfl) (by simp)
 simp only [K.n] at hev34
 refine y2 Z Z Z hH31 (hev34) (fun u35 w32 lo36 hi37 hH33 hv38 => ?_)
 have hH39 := Heap.vA hH33 (n := 0) Z
 refine oA hH39 Z (oA hH39 Z (oA hH39 Z (zs (z8 T.zQ [0, 6, 3, 10, 8, 0] Z (fun w => by kernel_rfl) hH39 (fun u40 lo42 hi43 w41 hH44 => ?_)))))
 have hev47 : Fn Tryz.prog 62 [u40].toArray _ _ := c62 (Heap.yO T.zQ hH44 (n := 0) rfl) (by simp)
 simp only [K.p] at hev47
 refine y2 Z Z Z hH44 (hev47) (fun u48 w45 lo49 hi50 hH46 hv51 => ?_)
 have hH52 := Heap.vA hH46 (n := 0) Z
 refine oA hH52 Z (zs (oM hH52 Z ?_))
 have hev55 : Fn Tryz.prog 9 [u9].toArray _ _ := c9 (Heap.yO T.yZ hH52 (n := 6) rfl) (by first | omega | simp)
 simp only [K.sl] at hev55
 refine zN Z Z Z hH52 (hev55) (fun w53 hH54 => (oM hH54 Z (zA hH54 Z Z (zI Z Z) (zA hH54 Z Z (zI Z Z) (oA hH54 Z (oA hH54 Z (zs (oM hH54 Z ?_))))))))
 have hev58 : Fn Tryz.prog 9 [u22].toArray _ _ := c9 (Heap.yO T.yZ hH54 (n := 4) rfl) (by first | omega | simp)
 simp only [K.sm] at hev58
 refine zN Z Z Z hH54 (hev58) (fun w56 hH57 => (oM hH57 Z (zA hH57 Z Z (zI Z Z) (zA hH57 Z Z (zI Z Z) (oA hH57 Z (oA hH57 Z (zs (oM hH57 Z ?_))))))))
 have hev61 : Fn Tryz.prog 24 [u22].toArray _ _ := c24 (Heap.yO T.yZ hH57 (n := 4) rfl) (by first | omega | simp)
 simp only [K.tm] at hev61
 refine zN Z Z Z hH57 (hev61) (fun w59 hH60 => (oM hH60 Z (zA hH60 Z Z (zI Z Z) (zA hH60 Z Z (zI Z Z) (zA hH60 Z Z (zI Z Z) (oA hH60 Z (oA hH60 Z (oA hH60 Z (zs (oM hH60 Z ?_))))))))))
 have hev64 : Fn Tryz.prog 16 [u9, (.int .i64 2), (.int .i64 2)].toArray _ _ := c16 (Heap.yO T.yZ hH60 (n := 6) rfl) (by first | omega | simp)
 simp only [K.bl] at hev64
 refine zN Z Z Z hH60 (hev64) (fun w62 hH63 => (oM hH63 Z (zA hH63 Z Z (zI Z Z) (zA hH63 Z Z (zI Z Z) (oA hH63 Z (oA hH63 Z (zs (oM hH63 Z (oM hH63 Z ?_)))))))))
 have hev67 : Fn Tryz.prog 11 [u9, u48].toArray _ _ := c11 (Heap.yO T.yZ hH63 (n := 6) rfl) (Heap.yO T.xO hH63 (n := 0) rfl) (by first | omega | simp) (by first | omega | simp)
 simp only [K.cp] at hev67
 refine zN Z Z Z hH63 (hev67) (fun w65 hH66 => (oM hH66 Z (zA hH66 Z Z (zI Z Z) (zA hH66 Z Z (zI Z Z) (oA hH66 Z (oA hH66 Z (zs (oM hH66 Z (z8 T.zQ [0, 6, 3, 10, 7, 0] Z (fun w => by kernel_rfl) hH66 (fun u68 lo70 hi71 w69 hH72 => ?_))))))))))
 have hev75 : Fn Tryz.prog 62 [u68].toArray _ _ := c62 (Heap.yO T.zQ hH72 (n := 0) rfl) (by simp)
 simp only [K.p7] at hev75
 refine y2 Z Z Z hH72 (hev75) (fun u76 w73 lo77 hi78 hH74 hv79 => ?_)
 have hH80 := Heap.vA hH74 (n := 0) Z
 have hev83 : Fn Tryz.prog 11 [u9, u76].toArray _ _ := c11 (Heap.yO T.yZ hH80 (n := 8) rfl) (Heap.yO T.xO hH80 (n := 0) rfl) (by first | omega | simp) (by first | omega | simp)
 simp only [K.cp7] at hev83
 refine zN Z Z Z hH80 (hev83) (fun w81 hH82 => (oM hH82 Z (zA hH82 Z Z (zI Z Z) (zA hH82 Z Z (zI Z Z) (oA hH82 Z (oA hH82 Z (zs (oM hH82 Z (z8 T.zQ [0, 5] Z (fun w => by kernel_rfl) hH82 (fun u84 lo86 hi87 w85 hH88 => ?_))))))))))
 have hev91 : Fn Tryz.prog 62 [u84].toArray _ _ := c62 (Heap.yO T.zQ hH88 (n := 0) rfl) (by simp)
 simp only [K.t] at hev91
 refine y2 Z Z Z hH88 (hev91) (fun u92 w89 lo93 hi94 hH90 hv95 => ?_)
 have hH96 := Heap.vA hH90 (n := 0) Z
 have hev99 : Fn Tryz.prog 63 [u22, u92, (.int .i64 1)].toArray _ _ := c63 (Heap.yO T.yZ hH96 (n := 8) rfl) (Heap.yO T.xO hH96 (n := 0) rfl) (by first | omega | simp) (by first | omega | simp)
 simp only [K.idm] at hev99
 refine zN Z Z Z hH96 (hev99) (fun w97 hH98 => (oM hH98 Z (zA hH98 Z Z (zI Z Z) (zA hH98 Z Z (zI Z Z) (oA hH98 Z (oA hH98 Z (zs (oM hH98 Z ?_))))))))
 have hev102 : Fn Tryz.prog 10 [u9].toArray _ _ := c10 (Heap.yO T.yZ hH98 (n := 10) rfl) (by first | omega | simp)
 simp only [hpl] at hev102
 refine y2 Z Z Z hH98 (hev102) (fun u103 w100 lo104 hi105 hH101 hv106 => ?_)
 obtain ⟨p108, hu, -⟩ := hv106
 subst hu
 have hH107 := Heap.tup2 hH101 (n := 0) Z
 refine oM hH107 Z (zA hH107 Z Z (zI Z Z) (zA hH107 Z Z (zI Z Z) (oA hH107 Z (oA hH107 Z (zs (oM hH107 Z (y2 Z Z Z hH107 (c64) (fun u111 w109 lo112 hi113 hH110 hv114 => ?_))))))))
 obtain ⟨ob115, ot116, of117, hu, -⟩ := hv114
 subst hu
 have hH118 := Heap.rd3 hH110 (n := 0) Z
 have hev121 : Fn Tryz.prog 17 [u9, (.agg #[ob115, ot116, of117])].toArray _ _ := c17 (Heap.yO T.yZ hH118 (n := 12) rfl) ((Heap.vO hH118 (n := 0) rfl).1) ((Heap.vO hH118 (n := 0) rfl).2.1) ((Heap.vO hH118 (n := 0) rfl).2.2) (by first | omega | simp) (by first | omega | simp) (by first | omega | simp) (by first | omega | simp)
 simp only [K.pyl] at hev121
 refine y2 Z Z Z hH118 (hev121) (fun u122 w119 lo123 hi124 hH120 hv125 => ?_)
 obtain ⟨p127, hu, -⟩ := hv125
 subst hu
 have hH126 := Heap.tup2 hH120 (n := 0) Z
 refine oM hH126 Z (zA hH126 Z Z (zI Z Z) (zA hH126 Z Z (zI Z Z) (oA hH126 Z (oA hH126 Z (zs (oM hH126 Z (y2 Z Z Z hH126 (c65) (fun u130 w128 lo131 hi132 hH129 hv133 => ?_))))))))
 obtain ⟨ob134, ot135, of136, hu, -⟩ := hv133
 subst hu
 have hH137 := Heap.rd3 hH129 (n := 0) Z
 have hev140 : Fn Tryz.prog 17 [u35, (.agg #[ob134, ot135, of136])].toArray _ _ := c17 (Heap.yO T.yZ hH137 (n := 10) rfl) ((Heap.vO hH137 (n := 0) rfl).1) ((Heap.vO hH137 (n := 0) rfl).2.1) ((Heap.vO hH137 (n := 0) rfl).2.2) (by first | omega | simp) (by first | omega | simp) (by first | omega | simp) (by first | omega | simp)
 simp only [K.pyn] at hev140
 refine y2 Z Z Z hH137 (hev140) (fun u141 w138 lo142 hi143 hH139 hv144 => ?_)
 obtain ⟨p146, hu, -⟩ := hv144
 subst hu
 have hH145 := Heap.tup2 hH139 (n := 0) Z
 refine oM hH145 Z (zA hH145 Z Z (zI Z Z) (zA hH145 Z Z (zI Z Z) (oA hH145 Z (oA hH145 Z (zs (oM hH145 Z (y2 Z Z Z hH145 (c65) (fun u149 w147 lo150 hi151 hH148 hv152 => ?_))))))))
 obtain ⟨ob153, ot154, of155, hu, -⟩ := hv152
 subst hu
 have hH156 := Heap.rd3 hH148 (n := 0) Z
 refine z8 T.zC [0, 2, 3, 1] Z (fun w => by kernel_rfl) hH156 (fun u157 lo159 hi160 w158 hH161 => (zN Z Z Z hH161 (c67) (fun w162 hH163 => ?_)))
 have hev166 : Fn Tryz.prog 66 [u35, (.agg #[ob153, ot154, of155]), u157].toArray _ _ := c66 (Heap.yO T.yZ hH163 (n := 13) rfl) ((Heap.vO hH163 (n := 1) rfl).1) ((Heap.vO hH163 (n := 1) rfl).2.1) ((Heap.vO hH163 (n := 1) rfl).2.2) (Heap.yO T.zC hH163 (n := 0) rfl) (by first | omega | simp) (by first | omega | simp) (by first | omega | simp) (by first | omega | simp) (by first | omega | simp)
 simp only [K.cc4] at hev166
 refine zN Z Z Z hH163 (hev166) (fun w164 hH165 => (oM hH165 Z (y2 Z Z Z hH165 (c65) (fun u169 w167 lo170 hi171 hH168 hv172 => ?_))))
 obtain ⟨ob173, ot174, of175, hu, -⟩ := hv172
 subst hu
 have hH176 := Heap.rd3 hH168 (n := 0) Z
 refine z8 T.zC [0, 2] Z (fun w => by kernel_rfl) hH176 (fun u177 lo179 hi180 w178 hH181 => (zN Z Z Z hH181 (c67) (fun w182 hH183 => ?_)))
 have hev186 : Fn Tryz.prog 66 [u35, (.agg #[ob173, ot174, of175]), u177].toArray _ _ := c66 (Heap.yO T.yZ hH183 (n := 15) rfl) ((Heap.vO hH183 (n := 1) rfl).1) ((Heap.vO hH183 (n := 1) rfl).2.1) ((Heap.vO hH183 (n := 1) rfl).2.2) (Heap.yO T.zC hH183 (n := 0) rfl) (by first | omega | simp) (by first | omega | simp) (by first | omega | simp) (by first | omega | simp) (by first | omega | simp)
 simp only [K.cc2] at hev186
 refine zN Z Z Z hH183 (hev186) (fun w184 hH185 => (oA hH185 Z (oA hH185 Z (zs (oM hH185 Z (y2 Z Z Z hH185 (c65) (fun u189 w187 lo190 hi191 hH188 hv192 => ?_)))))))
 obtain ⟨ob193, ot194, of195, hu, -⟩ := hv192
 subst hu
 have hH196 := Heap.rd3 hH188 (n := 0) Z
 have hev199 : Fn Tryz.prog 68 [u35, (.agg #[ob193, ot194, of195])].toArray _ _ := c68 (Heap.yO T.yZ hH196 (n := 16) rfl) ((Heap.vO hH196 (n := 0) rfl).1) ((Heap.vO hH196 (n := 0) rfl).2.1) ((Heap.vO hH196 (n := 0) rfl).2.2) (by first | omega | simp | (simp only [List.length_map]; omega)) (by first | omega | simp | (simp only [List.length_map]; omega)) (by first | omega | simp | (simp only [List.length_map]; omega)) (by first | omega | simp | (simp only [List.length_map]; omega))
 simp only [K.cen] at hev199
 refine y2 Z Z Z hH196 (hev199) (fun u200 w197 lo201 hi202 hH198 hv203 => ?_)
 obtain ⟨q204, c205, hu, ho208, hcok206⟩ := hv203
 subst hu
 have hH207 := Heap.KM hH198 (n := 0) Z (fun w' h => by obtain ⟨_, ys, e, h, _⟩ := h; cases e; exact ⟨ys, h⟩) ho208
 refine oM hH207 Z (zA hH207 Z Z (zI Z Z) (zA hH207 Z Z (zI Z Z) (oA hH207 Z (oA hH207 Z (zt (seq ?_))))))
 have hcc0 := hcok206.2.1 K.cen
 have hcl : c205.length ≤ 4 := hcok206.2.2
 refine region (oM hH207 Z (y2 Z Z Z hH207 (c64) (fun u211 w209 lo212 hi213 hH210 hv214 => ?_)))
 obtain ⟨ob215, ot216, of217, hu, -⟩ := hv214
 subst hu
 have hH218 := Heap.rd3 hH210 (n := 0) Z
 have hev221 : Fn Tryz.prog 68 [u9, (.agg #[ob215, ot216, of217])].toArray _ _ := c68 (Heap.yO T.yZ hH218 (n := 22) rfl) ((Heap.vO hH218 (n := 0) rfl).1) ((Heap.vO hH218 (n := 0) rfl).2.1) ((Heap.vO hH218 (n := 0) rfl).2.2) (by first | omega | simp | (simp only [List.length_map]; omega)) (by first | omega | simp | (simp only [List.length_map]; omega)) (by first | omega | simp | (simp only [List.length_map]; omega)) (by first | omega | simp | (simp only [List.length_map]; omega))
 simp only [K.cel] at hev221
 refine y2 Z Z Z hH218 (hev221) (fun u222 w219 lo223 hi224 hH220 hv225 => ?_)
 obtain ⟨q226, c227, hu, ho230, hcok228⟩ := hv225
 subst hu
 have hH229 := Heap.KM hH220 (n := 0) Z (fun w' h => by obtain ⟨_, ys, e, h, _⟩ := h; cases e; exact ⟨ys, h⟩) ho230
 refine oM hH229 Z (zA hH229 Z Z (zI Z Z) (zA hH229 Z Z (zI Z Z) (oA hH229 Z (oA hH229 Z (zs (oM hH229 Z ?_))))))
 have hev233 : Fn Tryz.prog 16 [u9, (.int .i64 3), (.int .i64 0)].toArray _ _ := c16 (Heap.yO T.yZ hH229 (n := 23) rfl) (by first | omega | simp)
 simp only [K.bl3] at hev233
 refine zN Z Z Z hH229 (hev233) (fun w231 hH232 => (oM hH232 Z (zA hH232 Z Z (zI Z Z) (zA hH232 Z Z (zI Z Z) (oA hH232 Z (oA hH232 Z (zt (seq (zr (oM hH232 Z (zA hH232 Z Z (yL Z (yH Z Z)) (oM hH232 Z (zB Z Z Z (oM hH232 Z (zB Z Z Z (zA hH232 Z Z (yL Z (yH Z Z)) (zA hH232 Z Z (zT Z Z Z) (oM hH232 Z (zB Z Z Z (oM hH232 Z ?_))))))))))))))))))))
 refine zB Z Z Z (zA hH232 Z Z (yL Z (yH Z Z)) (zA hH232 Z Z (zT Z Z Z) (oM hH232 Z (zB Z Z Z (oM hH232 Z (zB Z Z Z (zA hH232 Z Z (yL Z (yH Z Z)) (zA hH232 Z Z (zT Z Z Z) (oM hH232 Z (zB Z Z Z (oM hH232 Z (zB Z Z Z (zA hH232 Z Z (yL Z (yH Z Z)) (zA hH232 Z Z (zT Z Z Z) (oM hH232 Z (zB Z Z Z (oM hH232 Z (zB Z Z Z (zA hH232 Z Z (yL Z (yH Z Z)) (zA hH232 Z Z (zT Z Z Z) (oM hH232 Z ?_)))))))))))))))))))))
 refine zB Z Z Z (oM hH232 Z (zB Z Z Z (zA hH232 Z Z (yL Z (yH Z Z)) (zA hH232 Z Z (zT Z Z Z) (oM hH232 Z (zB Z Z Z (oM hH232 Z (zB Z Z Z (zA hH232 Z Z (yL Z (yH Z Z)) (zA hH232 Z Z (zT Z Z Z) (oM hH232 Z (zB Z Z Z (oM hH232 Z (zB Z Z Z (zA hH232 Z Z (yL Z (yH Z Z)) (zA hH232 Z Z (zT Z Z Z) (oM hH232 Z (zB Z Z Z (oM hH232 Z (zB Z Z Z (zA hH232 Z Z (yL Z (yH Z Z)) ?_)))))))))))))))))))))
 refine zA hH232 Z Z (zT Z Z Z) (oM hH232 Z (zB Z Z Z (oM hH232 Z (zB Z Z Z (zA hH232 Z Z (yL Z (yH Z Z)) (zA hH232 Z Z (zT Z Z Z) (oM hH232 Z (zB Z Z Z (oM hH232 Z (zB Z Z Z (zA hH232 Z Z (yL Z (yH Z Z)) (zA hH232 Z Z (zT Z Z Z) (oM hH232 Z (zB Z Z Z (oM hH232 Z (zB Z Z Z (zA hH232 Z Z (yL Z (yH Z Z)) (zA hH232 Z Z (zT Z Z Z) (oM hH232 Z (zB Z Z Z (oM hH232 Z ?_)))))))))))))))))))))
 refine zB Z Z Z (zA hH232 Z Z (yL Z (yH Z Z)) (zA hH232 Z Z (zT Z Z Z) (oM hH232 Z (zB Z Z Z (oM hH232 Z (zB Z Z Z (zA hH232 Z Z (yL Z (yH Z Z)) (zA hH232 Z Z (zT Z Z Z) (zt (zM Z Z (skip (zu (oM hH232 Z (oM hH232 Z ?_))))))))))))))
 have hev236 : Fn Tryz.prog 69 [u9, p108].toArray _ _ := c69 (Heap.yO T.yZ hH232 (n := 23) rfl) (Heap.yO T.xO hH232 (n := 12) rfl) (by first | omega | simp) (by first | omega | simp)
 simp only [hpc] at hev236
 refine zN Z Z Z hH232 (hev236) (fun w234 hH235 => (oM hH235 Z (zA hH235 Z Z (zI Z Z) (zA hH235 Z Z (zI Z Z) (oA hH235 Z (oA hH235 Z (zs (oM hH235 Z (zA hH235 Z Z (yL Z (y6 Z Z)) (oM hH235 Z (zB Z Z Z (oM hH235 Z (zB Z Z Z (zA hH235 Z Z (yL Z (y6 Z Z)) (zA hH235 Z Z (zR Z Z Z) (oM hH235 Z (zB Z Z Z (oM hH235 Z (zB Z Z Z ?_)))))))))))))))))))
 refine zA hH235 Z Z (yL Z (y6 Z Z)) (zA hH235 Z Z (zR Z Z Z) (oM hH235 Z (zB Z Z Z (oM hH235 Z (zB Z Z Z (zA hH235 Z Z (yL Z (y6 Z Z)) (zA hH235 Z Z (zR Z Z Z) (oM hH235 Z (zB Z Z Z (oM hH235 Z (zB Z Z Z (zA hH235 Z Z (yL Z (y6 Z Z)) (zA hH235 Z Z (zR Z Z Z) (oM hH235 Z (zB Z Z Z (oM hH235 Z (zB Z Z Z (zA hH235 Z Z (yL Z (y6 Z Z)) (zA hH235 Z Z (zR Z Z Z) (oM hH235 Z (zB Z Z Z ?_)))))))))))))))))))))
 refine oM hH235 Z (zB Z Z Z (zA hH235 Z Z (yL Z (y6 Z Z)) (zA hH235 Z Z (zR Z Z Z) (oM hH235 Z (zB Z Z Z (oM hH235 Z (zB Z Z Z (zA hH235 Z Z (yL Z (y6 Z Z)) (zA hH235 Z Z (zR Z Z Z) (oM hH235 Z (zB Z Z Z (oM hH235 Z (zB Z Z Z (zA hH235 Z Z (yL Z (y6 Z Z)) (zA hH235 Z Z (zR Z Z Z) (oM hH235 Z (zB Z Z Z (oM hH235 Z (zB Z Z Z (oM hH235 Z (zB Z Z Z ?_)))))))))))))))))))))
 refine zN Z Z Z hH235 (c70 (Heap.yO T.xO hH235 (n := 10) Z) (Heap.yO T.xO hH235 (n := 17) Z) (by first | omega | simp) (by first | omega | simp)) (fun w237 hH238 => (zA hH238 Z Z (zR Z Z Z) (oM hH238 Z (zB Z Z (dT Z) (oM hH238 Z (zB Z Z (dT Z) (y2 Z Z Z hH238 (c65) (fun u241 w239 lo242 hi243 hH240 hv244 => ?_))))))))
 obtain ⟨ob245, ot246, of247, hu, -⟩ := hv244
 subst hu
 have hH248 := Heap.rd3 hH240 (n := 0) Z
 refine zB Z Z (dT Z) (oM hH248 Z (zB Z Z (dT Z) ?_))
 have hev251 : Fn Tryz.prog 71 [u35, (.agg #[ob245, ot246, of247]), q204].toArray _ _ := c71 (Heap.yO T.yZ hH248 (n := 20) rfl) ((Heap.vO hH248 (n := 0) rfl).1) ((Heap.vO hH248 (n := 0) rfl).2.1) ((Heap.vO hH248 (n := 0) rfl).2.2) (Heap.yO T.zC hH248 (n := 3) rfl) (by simp) (by simp) (by simp) (by simp) (by omega)
 simp only [hcc0] at hev251
 refine zN Z Z Z hH248 (hev251) (fun w249 hH250 => (zB Z Z (dT Z) (zA hH250 Z Z (yL Z (y6 Z Z)) (zA hH250 Z Z (zR Z (dT Z) Z) (oA hH250 Z (zt (ret ?_)))))))
 have hH252 := (hH250.sub (sC (sC (sC (sC (sC (sC (sC (sC (sC (sC (sC (sC (sC (sC (sC (sC (sC (sC (sC (sC (sC (sC (sC (sC (sC (sC sR)))))))))))))))))))))))))))
 refine fin hH252 (fun w' hf => (yN Z (rt Z))) (fun w' hf => ?_)
 rfl
end Go.Fip
namespace Go.Fip
open Go.Proofs Go.RowKit
theorem c5 {w : World}  :
  Fn Tryz.prog 5 [].toArray w (fun u _ => u = .bool true) := by
 refine fz Tryz.func5 Z kz Z Z (fun hH => (zr (oA hH Z (zs (zN Z Z Z hH (c18) (fun w1 hH2 => (oM hH2 Z (zB Z Z Z (zN Z Z Z hH2 (c19) (fun w3 hH4 => (zA hH4 Z Z (zR Z Z Z) (oM hH4 Z (zB Z Z Z (zN Z Z Z hH4 (c20) (fun w5 hH6 => (zA hH6 Z Z (zR Z Z Z) (oA hH6 Z (zt (ret (fin hH6 (fun w' hf => (yN Z (rt Z))) (fun w' hf => ?_)))))))))))))))))))))
 rfl
end Go.Fip
namespace Go.Fip
open Go.Proofs Go.RowKit
theorem c21 {a b : Int} {w : World} (ha : 0 ≤ a) (hb : 0 ≤ b)  :
  Fn Tryz.prog 21 [(.int .i64 a), (.int .i64 b)].toArray w (fun u _ => u = .int .i64 (Pt.gcd a b)) := by
 refine fz Tryz.func21 Z kz Z Z (fun hH => (zr (oA hH Z (zt (seq (block (loop (S := Int × Int) (fun (x, y) => [(0, (.int .i64 x)), (1, (.int .i64 y)), (4, (.int .i64 0))]) (fun (x, y) w1 => Heap [base w] w1 ∧ 0 ≤ x ∧ 0 ≤ y ∧ Pt.gcd x y = Pt.gcd a b) (fun (x, y) => y.toNat) (a, b) (uC Z (uC Z (uC Z (Sub.nil _)))) ?_ ?_)))))))
 ·exact ⟨hH, ha, hb, Z⟩
 rintro ⟨x, y⟩ w1 ⟨hH2, hx, hy, he⟩
 refine seq (zr (oM hH2 Z (zA hH2 Z Z (yH Z Z) (zt ?_))))
 by_cases hc3 : y = 0
 ·refine zM Z (zH hc3) (exit (yX (xF (z7 (zu (oM hH2 Z (oA hH2 Z (zt (ret (fin hH2 (fun w' hf => (yN Z (rt Z))) (fun w' hf => ?_)))))))))))
  rw [← he]; exact congrArg (Value.int .i64) (Pt.gcd_0 hx (by omega))
 refine zO Z (zG hc3) (skip (zP (block ?_)))
 have hm := Pt.mod_lt (a := x) (b := y) (by omega)
 have hm0 := Int.emod_nonneg x (show y ≠ 0 by omega)
 refine zZ (fun w' => Heap [base w] w') T.mixed (fun w4 hr5 => ?_)
 have hH6 := hH2.redrawn hr5
 refine zK [0, 1, 2, 3, 4, 5] kz hH6 _ _ _ kz (qM Z Z Z (qM Z Z Z (qM Z Z Z (zL Z Z (xY Z Z om om) (zL Z Z (yG Z) (zL Z Z (yG Z) (zV (zY kz (yB (yY (y, x % y) (uC Z (uC Z (uC Z (Sub.nil _)))) ?_ ?_))))))))))
 ·exact ⟨hH6, hy, hm0, by rw [Pt.gcd_s hx hy]; exact he⟩
 ·(simp only; omega)
theorem c6 {a b : Int} {w : World}  :
  Fn Tryz.prog 6 [(.agg #[(.int .i64 a), (.int .i64 b)])].toArray w (fun u _ => u = .int .i64 (Pt.chk (a, b))) := by
 refine fz Tryz.func6 Z kz Z Z (fun hH => (zr (yW Z Z Z hH (fun b1 w2 hH3 => (oA hH3 Z (zt (seq (zr (zA hH3 Z Z (zJ T.vR Z) (zA hH3 Z Z (zF T.yR Z (cw (n := 0) Z Z)) (zA hH3 Z Z (yK Z Z) (oM hH3 Z ?_))))))))))))
 by_cases hc4 : a < 1
 ·have hr : ¬ ((1 ≤ (a, b).1 ∧ (a, b).1 ≤ 10000) ∧ (1 ≤ (a, b).2 ∧ (a, b).2 ≤ 10000)) := by have hq := (decide_eq_true hc4); simp at hq; simp; omega
  refine zE Z Z (dT hc4) Z (zE Z Z (dT hc4) Z (zE Z Z (dT hc4) Z (zA hH3 Z Z (zR Z (dT hc4) Z) (oM hH3 Z (zE Z Z Z Z (zE Z Z Z Z (zE Z Z Z Z (zA hH3 Z Z (zR Z Z Z) (oM hH3 Z (zE Z Z Z Z (zE Z Z Z Z (zE Z Z Z Z (zA hH3 Z Z (zR Z Z Z) (zt (zO Z Z (zr (oA hH3 Z (zt ?_))))))))))))))))))
  refine ret (z2 ?_)
  have hH5 := (hH3.sub (sC sR))
  refine fin hH5 (fun w' hf => (yN Z (rt Z))) (fun w' hf => ?_)
  first | exact congrArg (Value.int .i64) (Pt.chk1 hr) | exact congrArg (Value.int .i64) (Pt.chk2 hr hg) | exact congrArg (Value.int .i64) (Pt.chk3 hr hg)
 refine zB Z Z (dF hc4) (zA hH3 Z Z (zJ T.vR Z) (zB Z Z (dF hc4) (zA hH3 Z Z (zF T.yR Z (cw (n := 0) Z Z)) (zB Z Z (dF hc4) (zA hH3 Z Z (xJ Z Z) (zA hH3 Z Z (zT Z (dF hc4) Z) (oM hH3 Z ?_)))))))
 by_cases hc6 : 10000 < a
 ·have hr : ¬ ((1 ≤ (a, b).1 ∧ (a, b).1 ≤ 10000) ∧ (1 ≤ (a, b).2 ∧ (a, b).2 ≤ 10000)) := by have hq := (decide_eq_true hc6); simp at hq; simp; omega
  refine zE Z Z (dT hc6) Z (zE Z Z (dT hc6) Z (zE Z Z (dT hc6) Z (zA hH3 Z Z (zR Z (dT hc6) Z) (oM hH3 Z (zE Z Z Z Z (zE Z Z Z Z (zE Z Z Z Z (zA hH3 Z Z (zR Z Z Z) (zt (zO Z Z (zr (oA hH3 Z (zt (ret (z2 ?_)))))))))))))))
  have hH7 := (hH3.sub (sC sR))
  refine fin hH7 (fun w' hf => (yN Z (rt Z))) (fun w' hf => ?_)
  first | exact congrArg (Value.int .i64) (Pt.chk1 hr) | exact congrArg (Value.int .i64) (Pt.chk2 hr hg) | exact congrArg (Value.int .i64) (Pt.chk3 hr hg)
 refine zB Z Z (dF hc6) (zA hH3 Z Z (zJ T.x4 Z) (zB Z Z (dF hc6) (zA hH3 Z Z (zF T.yR Z (cw (n := 0) Z Z)) (zB Z Z (dF hc6) (zA hH3 Z Z (yK Z Z) (zA hH3 Z Z (zT Z (dF hc6) Z) (oM hH3 Z ?_)))))))
 by_cases hc8 : b < 1
 ·have hr : ¬ ((1 ≤ (a, b).1 ∧ (a, b).1 ≤ 10000) ∧ (1 ≤ (a, b).2 ∧ (a, b).2 ≤ 10000)) := by have hq := (decide_eq_true hc8); simp at hq; simp; omega
  refine zE Z Z (dT hc8) Z (zE Z Z (dT hc8) Z (zE Z Z (dT hc8) Z (zA hH3 Z Z (zR Z (dT hc8) Z) (zt (zO Z Z (zr (oA hH3 Z (zt (ret (z2 ?_))))))))))
  have hH9 := (hH3.sub (sC sR))
  refine fin hH9 (fun w' hf => (yN Z (rt Z))) (fun w' hf => ?_)
  first | exact congrArg (Value.int .i64) (Pt.chk1 hr) | exact congrArg (Value.int .i64) (Pt.chk2 hr hg) | exact congrArg (Value.int .i64) (Pt.chk3 hr hg)
 refine zB Z Z (dF hc8) (zA hH3 Z Z (zJ T.x4 Z) (zB Z Z (dF hc8) (zA hH3 Z Z (zF T.yR Z (cw (n := 0) Z Z)) (zB Z Z (dF hc8) (zA hH3 Z Z (xJ Z Z) (zA hH3 Z Z (zT Z (dF hc8) Z) (zt ?_)))))))
 by_cases hc10 : 10000 < b
 ·have hr : ¬ ((1 ≤ (a, b).1 ∧ (a, b).1 ≤ 10000) ∧ (1 ≤ (a, b).2 ∧ (a, b).2 ≤ 10000)) := by have hq := (decide_eq_true hc10); simp at hq; simp; omega
  refine zO Z (dT hc10) (zr (oA hH3 Z (zt (ret (z2 ?_)))))
  have hH11 := (hH3.sub (sC sR))
  refine fin hH11 (fun w' hf => (yN Z (rt Z))) (fun w' hf => ?_)
  first | exact congrArg (Value.int .i64) (Pt.chk1 hr) | exact congrArg (Value.int .i64) (Pt.chk2 hr hg) | exact congrArg (Value.int .i64) (Pt.chk3 hr hg)
 have hr : (1 ≤ (a, b).1 ∧ (a, b).1 ≤ 10000) ∧ (1 ≤ (a, b).2 ∧ (a, b).2 ≤ 10000) := by simp; omega
 have hr1 : 1 ≤ a ∧ 1 ≤ b := ⟨hr.1.1, hr.2.1⟩
 refine zM Z (dF hc10) (skip (zP (seq (zr (zA hH3 Z Z (zJ T.vR Z) (zA hH3 Z Z (zF T.yR Z (cw (n := 0) Z Z)) (zA hH3 Z Z (zJ T.x4 Z) (zA hH3 Z Z (zF T.yR Z (cw (n := 0) Z Z)) (zN Z Z Z hH3 (c21 om om) (fun w12 hH13 => (zA hH13 Z Z (yH Z Z) (zt ?_))))))))))))
 by_cases hc14 : (Pt.gcd a b) = 1
 ·have hg : Pt.gcd (a, b).1 (a, b).2 = 1 := by have hq := (zH hc14); simpa using hq
  refine zM Z (zH hc14) (skip (zu (oA hH13 Z (zt (ret ?_)))))
  have hH15 := (hH13.sub (sC sR))
  refine fin hH15 (fun w' hf => (yN Z (rt Z))) (fun w' hf => ?_)
  first | exact congrArg (Value.int .i64) (Pt.chk1 hr) | exact congrArg (Value.int .i64) (Pt.chk2 hr hg) | exact congrArg (Value.int .i64) (Pt.chk3 hr hg)
 have hg : ¬ Pt.gcd (a, b).1 (a, b).2 = 1 := by have hq := (zG hc14); simpa using hq
 refine zO Z (zG hc14) (zr (oA hH13 Z (zt (ret (z2 ?_)))))
 have hH16 := (hH13.sub (sC sR))
 refine fin hH16 (fun w' hf => (yN Z (rt Z))) (fun w' hf => ?_)
 first | exact congrArg (Value.int .i64) (Pt.chk1 hr) | exact congrArg (Value.int .i64) (Pt.chk2 hr hg) | exact congrArg (Value.int .i64) (Pt.chk3 hr hg)
theorem c8 {p q : Int} {w : World} (h : Tf.okX p q)  :
  Fn Tryz.prog 8 [(.agg #[(.int .i64 p), (.int .i64 q)])].toArray w (fun u _ => u = .tuple #[.int .i64 (Tf.sx p q), .bool true]) := by
 refine fz Tryz.func8 Z kz Z Z (fun hH => ?_)
 obtain ⟨h1, h2, h3, h4⟩ := h
 have hsi := Tf.sx_in ⟨h1, h2, h3, h4⟩
 refine zr (yW Z Z Z hH (fun b1 w2 hH3 => (oA hH3 Z (oA hH3 Z (zt (seq (zr (zA hH3 Z Z (zJ T.x4 Z) (zA hH3 Z Z (zF T.yR Z (cw (n := 0) Z Z)) (zA hH3 Z Z (yK Z Z) (oM hH3 Z ?_)))))))))))
 have hc4 : ¬ (q < 1) := by omega
 refine zB Z Z (dF hc4) (zA hH3 Z Z (zJ T.x4 Z) (zB Z Z (dF hc4) (zA hH3 Z Z (zF T.yR Z (cw (n := 0) Z Z)) (zB Z Z (dF hc4) (zA hH3 Z Z (xJ Z Z) (zA hH3 Z Z (zT Z (dF hc4) Z) (oM hH3 Z ?_)))))))
 have hc5 : ¬ (5 < q) := by omega
 refine zB Z Z (dF hc5) (zA hH3 Z Z (zJ T.vR Z) (zB Z Z (dF hc5) (zA hH3 Z Z (zF T.yR Z (cw (n := 0) Z Z)) (zB Z Z (dF hc5) (zA hH3 Z Z (yK Z Z) (zA hH3 Z Z (zT Z (dF hc5) Z) (oM hH3 Z ?_)))))))
 have hc6 : ¬ (p < 0) := by omega
 refine zB Z Z (dF hc6) (zA hH3 Z Z (zJ T.vR Z) (zB Z Z (dF hc6) (zA hH3 Z Z (zF T.yR Z (cw (n := 0) Z Z)) (zB Z Z (dF hc6) (zA hH3 Z Z (zJ T.x4 Z) (zB Z Z (dF hc6) (zA hH3 Z Z (zF T.yR Z (cw (n := 0) Z Z)) (zB Z Z (dF hc6) (zA hH3 Z Z (xC Z Z om) (zB Z Z (dF hc6) (zA hH3 Z Z (xJ Z Z) (zA hH3 Z Z (zT Z (dF hc6) Z) (zt ?_)))))))))))))
 have hc7 : ¬ ((8 * q) < p) := by omega
 refine zM Z (dF hc7) (skip (zP (seq (zZ (fun w' => Heap [bx b1 27 [(.int .i64 p), (.int .i64 q)], base w] w') T.mixed (fun w8 hr9 => ?_)))))
 have hH10 := hH3.redrawn hr9
 refine zK [0, 1, 2, 3, 4, 5, 6, 7, 8] kz hH10 _ _ _ kz (zL Z Z (zJ T.vR Z) (zL Z Z (zF T.yR Z (cw (n := 0) Z Z)) (zL Z Z (zJ T.x4 Z) (zL Z Z (zF T.yR Z (cw (n := 0) Z Z)) (zL Z Z (xR Z Z om om om) (zL Z Z (xC Z Z om) (zL Z Z (kM Z Z) (zL Z Z (yG Z) (zL Z Z (yG Z) (zV (zY kz (zP (ret ?_)))))))))))))
 have hH11 := (hH10.sub (sC sR))
 refine fin hH11 (fun w' hf => (xI Z (rt Z) (rt Z))) (fun w' hf => ?_)
 rfl
end Go.Fip
namespace Go.Fip
open Go.Proofs Go.RowKit
theorem c3 {v : Value} {L : List Tf.Q4} {bd : Int} {w : World} (h0 : Rd encQ 4 v L w) (hb : 0 ≤ bd ∧ bd ≤ 255)  :
  Fn Tryz.prog 3 [v, (.int .u8 bd)].toArray w (fun u _ => u = .bool true) := by
 refine fz Tryz.func3 Z kz Z Z (fun hH => (zr (oA hH Z (zt (seq (zr (oM hH Z (zA hH Z Z (yA T.zA1 Z (h0.now hH (n := 0) Z).is) (zA hH Z Z (yK Z Z) (oM hH Z ?_))))))))))
 by_cases hc1 : (L.length : Int) < 1
 ·refine zE Z Z (dT hc1) Z (zE Z Z (dT hc1) Z (zE Z Z (dT hc1) Z (zA hH Z Z (zR Z (dT hc1) Z) (zt (zO Z Z (zr (zN Z Z Z hH (c5) (fun w2 hH3 => (oA hH3 Z (zt (ret (z2 (fin hH3 (fun w' hf => (yN Z (rt Z))) (fun w' hf => ?_))))))))))))))
  rfl
 refine zB Z Z (dF hc1) (oM hH Z (zB Z Z (dF hc1) (zA hH Z Z (yA T.zA1 Z (h0.now hH (n := 0) Z).is) (zB Z Z (dF hc1) (zA hH Z Z (xJ Z Z) (zA hH Z Z (zT Z (dF hc1) Z) (zt ?_)))))))
 by_cases hc4 : 8 < (L.length : Int)
 ·refine zO Z (dT hc4) (zr (zN Z Z Z hH (c5) (fun w5 hH6 => (oA hH6 Z (zt (ret (z2 (fin hH6 (fun w' hf => (yN Z (rt Z))) (fun w' hf => ?_)))))))))
  rfl
 refine zM Z (dF hc4) (skip (zP (seq ?_)))
 obtain ⟨most, hmost⟩ : ∃ m : Int, 1 + bd % 5 = m := ⟨_, rfl⟩
 have hm1 : 1 ≤ most := by omega
 have hm2 : most ≤ 5 := by omega
 refine region (oM hH Z (zA hH Z Z (xY Z Z om om) (zA hH Z Z (V9 Tryz.underlying5 Tryz.underlying2 Z (WM om)) (zA hH Z Z (x5 hmost (zX Z Z om)) (oA hH Z (oA hH Z (zs (oA hH Z (oA hH Z (zt (seq (zr (oA hH Z (zt (block ?_)))))))))))))))
 have hH7 := uE (enc := encP) 36 2 hH
 have hH8 := uE (enc := encP) 36 2 hH7
 refine loop (S := Nat × Value × Nat × Nat × Value × Nat × Nat) (fun (i, v_7, lo_7, hi_7, v_8, lo_8, hi_8) => [(9, (.int .i64 (i : Int))), (6, (.bool (Tf.smTo most L i))), (7, v_7), (8, v_8), (0, v), (5, (.int .i64 most))]) (fun (i, v_7, lo_7, hi_7, v_8, lo_8, hi_8) w1 => Heap [ow lo_8 hi_8 36 2 encP v_8 (Tf.highs most L i), ow lo_7 hi_7 36 2 encP v_7 (Tf.lows most L i), base w] w1 ∧ i ≤ L.length ∧ ∀ j : Nat, j < i → Tf.okE (nth L (j : Int))) (fun (i, v_7, lo_7, hi_7, v_8, lo_8, hi_8) => L.length - i) (0, (.slice none 0 0), w.heap.size, w.heap.size, (.slice none 0 0), w.heap.size, w.heap.size) (uC Z (uC Z (uC Z (uC Z (uC Z (uC Z (Sub.nil _))))))) ?_ ?_
 ·exact ⟨(Heap.y5 (n := 0) (Heap.y5 (n := 1) hH8 Z (Z)) Z (Z)), by omega, (fun j h => absurd h (Nat.not_lt_zero _))⟩
 rintro ⟨i, v_7, lo_7, hi_7, v_8, lo_8, hi_8⟩ w9 ⟨hH10, hi, hall⟩
 have hll : (Tf.lows most L i).length = i := by unfold Tf.lows; rw [List.length_map, List.length_take]; omega
 have hlh : (Tf.highs most L i).length = i := by unfold Tf.highs; rw [List.length_map, List.length_take]; omega
 refine seq (zr (oM hH10 Z (oM hH10 Z (zA hH10 Z Z (yA T.zA1 Z (h0.now hH10 (n := 2) Z).is) (zA hH10 Z Z (yK Z Z) (zt ?_))))))
 by_cases hc11 : (i : Int) < (L.length : Int)
 ·refine zO Z (dT hc11) (skip (zP (seq (block (zr (yC (z := (.agg #[(.int .i64 0), (.int .i64 0), (.int .i64 0), (.int .i64 0)])) (fun _ => by kernel_rfl) Z Z hH10 (fun b12 w13 hH14 => (zt (seq (seq ?_))))))))))
  have hH15 := Heap.xA hH14 (n := 0) Z (show [(.int .i64 0), (.int .i64 0), (.int .i64 0), (.int .i64 0)] = (ints (Tf.mn most (nth L (i : Int)) 0)) from Z)
  refine region (oA hH15 Z (zt (block (loop (S := Nat) (fun k => [(11, (.int .i64 (k : Int))), (6, (.bool (Tf.smE most (nth L (i : Int)) (Tf.smTo most L i) k))), (0, v), (5, (.int .i64 most)), (7, v_7), (8, v_8), (9, (.int .i64 (i : Int))), (10, (.pointer (some ⟨b12, 0, none⟩)))]) (fun k w1 => Heap [bx b12 25 (ints (Tf.mn most (nth L (i : Int)) k)), ow lo_8 hi_8 36 2 encP v_8 (Tf.highs most L i), ow lo_7 hi_7 36 2 encP v_7 (Tf.lows most L i), base w] w1 ∧ k ≤ 2 ∧ ∀ j : Nat, j < k → Tf.okI (Tf.xk (nth L (i : Int)) j)) (fun k => 2 - k) (0) (uC Z (uC Z (uC Z (uC Z (uC Z (uC Z (uC Z (uC Z (Sub.nil _))))))))) ?_ ?_))))
  ·exact ⟨(Heap.xA (n := 0) hH15 Z (Z)), by omega, (fun j h => absurd h (Nat.not_lt_zero _))⟩
  rintro k w16 ⟨hH17, hk, hok2⟩
  have hmn := Tf.mn_len most (nth L (i : Int)) k
  refine seq (zr (oM hH17 Z (zA hH17 Z Z (yK Z Z) (zt ?_))))
  by_cases hc18 : (k : Int) < 2
  ·refine zO Z (dT hc18) (skip (zP (seq (block (zr (oM hH17 Z (oM hH17 Z (oM hH17 Z (zA hH17 Z Z (zS T.zA1 Z Z (h0.now hH17 (n := 3) Z).is om) (zA hH17 Z Z (z6 T.zCv Z Z om) (zA hH17 Z Z (zW (cs := [.int .i64 (Tf.xk (nth L (i : Int)) k).1, .int .i64 (Tf.xk (nth L (i : Int)) k).2]) T.y3 Z Z (fun _ hw => zAd (h0.now hw (n := 3) Z) (i := (i : Int)) om (k := k) om)) (yC (z := (.agg #[(.int .i64 0), (.int .i64 0)])) (fun _ => by kernel_rfl) Z Z hH17 (fun b19 w20 hH21 => (zU (n := 0) (j := 0) Z Z hH21 Z T.xW Z Z Z (by rfl) (fun w22 hH23 => (zt (seq (zr (zA hH23 Z Z (zW (cs := [(.int .i64 ((Tf.xk (nth L (i : Int)) k).1)), (.int .i64 ((Tf.xk (nth L (i : Int)) k).2))]) T.y3 Z Z (fun _ hw => Heap.yI hw (n := 0) Z (k := 0) Z)) (zN Z Z Z hH23 (c6 (a := (Tf.xk (nth L (i : Int)) k).1) (b := (Tf.xk (nth L (i : Int)) k).2)) (fun w24 hH25 => ?_)))))))))))))))))))))
   refine zA hH25 Z Z (yH Z Z) (oM hH25 Z ?_)
   by_cases hc26 : (Pt.chk (Tf.xk (nth L (i : Int)) k)) = 0
   ·have hc0 : Pt.chk (Tf.xk (nth L (i : Int)) k) = 0 := by have hq := (zH hc26); simpa using hq
    obtain ⟨hx1, hx2⟩ := Pt.chk_rg (a := (Tf.xk (nth L (i : Int)) k).1) (b := (Tf.xk (nth L (i : Int)) k).2) hc0
    refine zB Z Z (zH hc26) (zA hH25 Z Z (zJ T.vR Z) (zB Z Z (zH hc26) (zA hH25 Z Z (zF T.yR Z (cw (n := 0) Z Z)) (zB Z Z (zH hc26) (zA hH25 Z Z (zJ T.x4 Z) (zB Z Z (zH hc26) (zA hH25 Z Z (zF T.yR Z (cw (n := 0) Z Z)) (zB Z Z (zH hc26) (zA hH25 Z Z (xC Z Z om) (zB Z Z (zH hc26) (zA hH25 Z Z (xJ Z Z) (zA hH25 Z Z (zT Z (zH hc26) Z) (zt ?_)))))))))))))
    by_cases hc27 : (8 * ((Tf.xk (nth L (i : Int)) k).2)) < ((Tf.xk (nth L (i : Int)) k).1)
    ·refine zO Z (dT hc27) (zr (zN Z Z Z hH25 (c5) (fun w28 hH29 => (oA hH29 Z (zt (ret (z2 (yD (z2 (xT (yD (z2 (yD (z2 (xT (yD (z2 ?_)))))))))))))))))
     have hH30 := (hH29.sub (sC (sC (sC (sC sR)))))
     refine fin hH30 (fun w' hf => (yN Z (rt Z))) (fun w' hf => ?_)
     rfl
    have h8 : (Tf.xk (nth L (i : Int)) k).1 ≤ 8 * (Tf.xk (nth L (i : Int)) k).2 := by have hq := (decide_eq_false hc27); simp at hq; omega
    have hok : Tf.okI (Tf.xk (nth L (i : Int)) k) := ⟨hc0, h8⟩
    have hbs := Tf.bs_of hok hm1 hm2
    refine zM Z (dF hc27) (skip (zu (zA hH25 Z Z (zW (cs := [(.int .i64 ((Tf.xk (nth L (i : Int)) k).1)), (.int .i64 ((Tf.xk (nth L (i : Int)) k).2))]) T.y3 Z Z (fun _ hw => Heap.yI hw (n := 0) Z (k := 0) Z)) (oM hH25 Z (zN Z Z Z hH25 (c7 (a := (Tf.xk (nth L (i : Int)) k).1) (b := (Tf.xk (nth L (i : Int)) k).2) (m := most) hok.1 om) (fun w31 hH32 => (oM hH32 Z (zA hH32 Z Z (zI Z Z) (zA hH32 Z Z (zI Z Z) (zA hH32 Z Z (zI Z Z) (yC (z := (.agg #[(.int .i64 0), (.int .i64 0)])) (fun _ => by kernel_rfl) Z Z hH32 (fun b33 w34 hH35 => (yC (z := (.agg #[(.int .i64 0), (.int .i64 0)])) (fun _ => by kernel_rfl) Z Z hH35 (fun b36 w37 hH38 => (zU (n := 1) (j := 0) Z Z hH38 Z T.xW Z Z Z (by rfl) (fun w39 hH40 => (zU (n := 0) (j := 0) Z Z hH40 Z T.xW Z Z Z (by rfl) (fun w41 hH42 => (oA hH42 Z (zs (zA hH42 Z Z (zW (cs := [(.int .i64 ((Pt.beside (Tf.xk (nth L (i : Int)) k).1 (Tf.xk (nth L (i : Int)) k).2 most).1)), (.int .i64 ((Pt.beside (Tf.xk (nth L (i : Int)) k).1 (Tf.xk (nth L (i : Int)) k).2 most).2.1))]) T.y3 Z Z (fun _ hw => Heap.yI hw (n := 1) Z (k := 0) Z)) ?_)))))))))))))))))))))
    refine zN Z Z Z hH42 (c8 hbs.lo) (fun w43 hH44 => (oM hH44 Z (zA hH44 Z Z (zI Z Z) (zA hH44 Z Z (zI Z Z) (oA hH44 Z (oA hH44 Z (zs (zA hH44 Z Z (zW (cs := [(.int .i64 ((Pt.beside (Tf.xk (nth L (i : Int)) k).1 (Tf.xk (nth L (i : Int)) k).2 most).2.2.1)), (.int .i64 ((Pt.beside (Tf.xk (nth L (i : Int)) k).1 (Tf.xk (nth L (i : Int)) k).2 most).2.2.2))]) T.y3 Z Z (fun _ hw => Heap.yI hw (n := 0) Z (k := 0) Z)) (zN Z Z Z hH44 (c8 hbs.hi) (fun w45 hH46 => (oM hH46 Z (zA hH46 Z Z (zI Z Z) (zA hH46 Z Z (zI Z Z) (oA hH46 Z (oA hH46 Z (zt (seq (seq ?_))))))))))))))))))
    have hle := hbs.le
    have hl1 := hbs.l1
    have hh2 := hbs.h2
    refine region (oM hH46 Z (zA hH46 Z Z (yL Z (yH Z Z)) (oM hH46 Z (zB Z Z Z (oM hH46 Z (zB Z Z Z (zA hH46 Z Z (y7 Z) (zA hH46 Z Z (zT Z Z Z) (oM hH46 Z (zB Z Z Z (oM hH46 Z (zB Z Z Z (zA hH46 Z Z (y7 Z) (zA hH46 Z Z (zT Z Z Z) (oM hH46 Z (zB Z Z Z (oM hH46 Z (zB Z Z Z (oM hH46 Z (zB Z Z Z (zA hH46 Z Z (xJ Z Z) ?_)))))))))))))))))))))
    refine zA hH46 Z Z (zT Z Z Z) (zt ?_)
    have hc47 : ¬ ((Tf.highM most (Tf.xk (nth L (i : Int)) k)) < (Tf.lowM most (Tf.xk (nth L (i : Int)) k))) := by omega
    refine zM Z (dF hc47) (skip (zu (oM hH46 Z (oM hH46 Z (zA hH46 Z Z (zX Z Z om) (oM hH46 Z (oM hH46 Z (zA hH46 Z Z (z6 T.VP Z Z om) (VZ (n := 3) Z Z hH46 Z T.sz2 om (fun w48 hH49 => (zA hH49 Z Z (z6 T.VP Z Z om) (VZ (n := 3) Z Z hH49 Z T.sz2 (by rw [List.length_set]; omega) (fun w50 hH51 => (zq (oM hH51 Z (oM hH51 Z ?_))))))))))))))))
    by_cases hc52 : Tf.smE most (nth L (i : Int)) (Tf.smTo most L i) k = true
    ·have hsm : Tf.smE most (nth L (i : Int)) (Tf.smTo most L i) k = true := hc52
     refine zB Z Z hc52 (zA hH51 Z Z (zJ T.x4 Z) (zB Z Z hc52 (zA hH51 Z Z (zF T.yR Z (cw (n := 2) Z Z)) (zB Z Z hc52 (oM hH51 Z (zB Z Z hc52 (zA hH51 Z Z (uH Z Z) (zA hH51 Z Z (zR Z hc52 Z) (oA hH51 Z (zD (yB (zP (region (oM hH51 Z (zA hH51 Z Z (zX Z Z om) (oA hH51 Z (zD ?_)))))))))))))))))
     have hH53 := (hH51.sub (sC (sC (sC sR))))
     refine yY (k + 1) (uC Z (Sub.cons (by first | exact congrArg (fun z : Bool => some (Value.bool z)) (Tf.smE_d hsm) | exact congrArg (fun z : Bool => some (Value.bool z)) (Tf.smE_n hns)) (uC Z (uC Z (uC Z (uC Z (uC Z (uC Z (Sub.nil _))))))))) ?_ ?_
     ·exact ⟨(Heap.xA (n := 0) hH53 Z (Z)), by omega, (fun j hj => by rcases Nat.lt_or_ge j k with h | h; exact hok2 j h; rw [show j = k by omega]; exact hok)⟩
     ·first | (dsimp only; omega) | (show _ < _; omega)
    have hns : ¬ Tf.smE most (nth L (i : Int)) (Tf.smTo most L i) k = true := Bool.eq_false_iff.1 (Bool.eq_false_iff.2 hc52)
    refine zE Z Z (Bool.eq_false_iff.2 hc52) Z (zE Z Z (Bool.eq_false_iff.2 hc52) Z (zE Z Z (Bool.eq_false_iff.2 hc52) Z (zE Z Z (Bool.eq_false_iff.2 hc52) Z (zA hH51 Z Z (zT Z (Bool.eq_false_iff.2 hc52) Z) (oA hH51 Z (zD (yB (zP (region (oM hH51 Z (zA hH51 Z Z (zX Z Z om) (oA hH51 Z (zD ?_)))))))))))))
    have hH54 := (hH51.sub (sC (sC (sC sR))))
    refine yY (k + 1) (uC Z (Sub.cons (by first | exact congrArg (fun z : Bool => some (Value.bool z)) (Tf.smE_d hsm) | exact congrArg (fun z : Bool => some (Value.bool z)) (Tf.smE_n hns)) (uC Z (uC Z (uC Z (uC Z (uC Z (uC Z (Sub.nil _))))))))) ?_ ?_
    ·exact ⟨(Heap.xA (n := 0) hH54 Z (Z)), by omega, (fun j hj => by rcases Nat.lt_or_ge j k with h | h; exact hok2 j h; rw [show j = k by omega]; exact hok)⟩
    ·first | (dsimp only; omega) | (show _ < _; omega)
   have hcn : ¬ Pt.chk (Tf.xk (nth L (i : Int)) k) = 0 := by have hq := (zG hc26); simpa using hq
   refine zE Z Z (zG hc26) Z (zE Z Z (zG hc26) Z (zE Z Z (zG hc26) Z (zE Z Z (zG hc26) Z (zE Z Z (zG hc26) Z (zE Z Z (zG hc26) Z (zA hH25 Z Z (zR Z (zG hc26) Z) (zt (zO Z Z (zr (zN Z Z Z hH25 (c5) (fun w55 hH56 => (oA hH56 Z (zt (ret (z2 (yD (z2 (xT (yD ?_)))))))))))))))))))
   refine z2 (yD (z2 (xT (yD (z2 ?_)))))
   have hH57 := (hH56.sub (sC (sC (sC (sC sR)))))
   refine fin hH57 (fun w' hf => (yN Z (rt Z))) (fun w' hf => ?_)
   rfl
  refine zM Z (dF hc18) (exit (yX (xF (z7 (zP ?_)))))
  have hk2 : k = 2 := by omega
  have hE2 : Tf.okE (nth L (i : Int)) := ⟨hok2 0 (by omega), hok2 1 (by omega)⟩
  refine zZ (fun w' => Heap [bx b12 25 (ints (Tf.mn most (nth L (i : Int)) k)), base w] w') T.mixed (fun w58 hr59 => ?_)
  have hH60 := hH17.redrawn hr59
  refine zK [0, 1, 2, 3, 4, 5, 8, 9, 10, 11, 12, 13] kz (hH60.sub (sK (sC (sC sR)))) _ _ _ kz (qM Z Z Z (zL Z Z (z6 T.VP Z Z om) (zL Z Z (x5 (show nth (Tf.mn most (nth L (i : Int)) k) 0 = (Tf.lowJ most (nth L (i : Int))).1 from by rw [show k = 2 by omega]; rfl) (jT T.yR Z om (fun _ hw => Heap.xS hw (n := 0) Z))) ?_)))
  refine zL Z Z (z6 T.VP Z Z om) (zL Z Z (x5 (show nth (Tf.mn most (nth L (i : Int)) k) 1 = (Tf.lowJ most (nth L (i : Int))).2 from by rw [show k = 2 by omega]; rfl) (jT T.yR Z om (fun _ hw => Heap.xS hw (n := 0) Z))) ?_)
  refine zL Z Z (yS (v := (.agg #[(.int .i64 ((Tf.lowJ most (nth L (i : Int))).1)), (.int .i64 ((Tf.lowJ most (nth L (i : Int))).2))])) Z (fun w => by kernel_rfl)) (qM Z Z Z (zL Z Z (z6 T.VP Z Z om) (zL Z Z (x5 (show nth (Tf.mn most (nth L (i : Int)) k) 2 = (Tf.highJ most (nth L (i : Int))).1 from by rw [show k = 2 by omega]; rfl) (jT T.yR Z om (fun _ hw => Heap.xS hw (n := 0) Z))) ?_)))
  refine zL Z Z (z6 T.VP Z Z om) (zL Z Z (x5 (show nth (Tf.mn most (nth L (i : Int)) k) 3 = (Tf.highJ most (nth L (i : Int))).2 from by rw [show k = 2 by omega]; rfl) (jT T.yR Z om (fun _ hw => Heap.xS hw (n := 0) Z))) ?_)
  refine zL Z Z (yS (v := (.agg #[(.int .i64 ((Tf.highJ most (nth L (i : Int))).1)), (.int .i64 ((Tf.highJ most (nth L (i : Int))).2))])) Z (fun w => by kernel_rfl)) (zV (xH [6, 14] kz Z (⟨⟨_, Z, ?_⟩, ⟨_, Z, ?_⟩, trivial⟩)))
  ·refine z8 T.yZ [((Tf.lowJ most (nth L (i : Int))).1, (Tf.lowJ most (nth L (i : Int))).2)] Z (fun w => by kernel_rfl) hH60 (fun u61 lo63 hi64 w62 hH65 => (zD (⟨(hH65.sub (sC (sK (sC (sC sR))))), (xH [7, 14] kz Z (⟨⟨_, Z, ?_⟩, ⟨_, Z, ?_⟩, trivial⟩))⟩)))
   ·refine yF (n := 3) T.yZ Z Z Z hH65 Z (Heap.yO T.yZ hH65 (n := 0) Z) om2 (fun u66 lo68 hi69 w67 hH70 => (zD (⟨(hH70.sub (sC (sK (sC (sC sR))))), (z1 14 kz Z (z8 T.yZ [((Tf.highJ most (nth L (i : Int))).1, (Tf.highJ most (nth L (i : Int))).2)] Z (fun w => by kernel_rfl) hH70 (fun u71 lo73 hi74 w72 hH75 => (zD (⟨(hH75.sub (sC (sC (sK (sC (sC sR)))))), (z1 15 kz Z (yF (n := 3) T.yZ Z Z Z hH75 Z (Heap.yO T.yZ hH75 (n := 0) Z) om2 (fun u76 lo78 hi79 w77 hH80 => (zD (⟨(hH80.sub (sC (sC (sK (sC (sC sR)))))), (zK [16, 17] kz (hH80.sub (sC (sC (sK (sC (sC sR)))))) _ _ _ kz (zL Z Z (yG Z) (zL Z Z (yG Z) (zV (zY kz (yB (zP (region (oM hH80 Z ?_)))))))))⟩)))))⟩)))))⟩)))
    refine zA hH80 Z Z (zX Z Z om) (oA hH80 Z (zD ?_))
    have hH81 := (hH80.sub (sC (sC (sC sR))))
    refine yY (i + 1, u66, lo68, hi69, u76, lo78, hi79) (uC Z (Sub.cons (by rw [show k = 2 by omega]; rfl) (uC Z (uC Z (uC Z (uC Z (Sub.nil _))))))) ?_ ?_
    ·exact ⟨(Heap.y5 (n := 0) (Heap.y5 (n := 1) hH81 Z (Tf.map_snoc (f := Tf.lowJ most) om)) Z (Tf.map_snoc (f := Tf.highJ most) om)), by omega, (fun j hj => by rcases Nat.lt_or_ge j i with h | h; exact hall j h; rw [show j = i by omega]; exact hE2)⟩
    ·first | (dsimp only; omega) | (show _ < _; omega)
   refine z8 T.yZ [((Tf.highJ most (nth L (i : Int))).1, (Tf.highJ most (nth L (i : Int))).2)] Z (fun w => by kernel_rfl) hH65 (fun u82 lo84 hi85 w83 hH86 => (zD (⟨(hH86.sub (sC (sC (sK (sC (sC sR)))))), (z1 7 kz Z (yF (n := 4) T.yZ Z Z Z hH86 Z (Heap.yO T.yZ hH86 (n := 1) Z) om2 (fun u87 lo89 hi90 w88 hH91 => (zD (⟨(hH91.sub (sC (sC (sK (sC (sC sR)))))), (z1 15 kz Z (yF (n := 3) T.yZ Z Z Z hH91 Z (Heap.yO T.yZ hH91 (n := 0) Z) om2 (fun u92 lo94 hi95 w93 hH96 => (zD (⟨(hH96.sub (sC (sC (sK (sC (sC sR)))))), (zK [16, 17] kz (hH96.sub (sC (sC (sK (sC (sC sR)))))) _ _ _ kz (zL Z Z (yG Z) (zL Z Z (yG Z) (zV (zY kz (yB (zP (region (oM hH96 Z ?_)))))))))⟩)))))⟩)))))⟩)))
   refine zA hH96 Z Z (zX Z Z om) (oA hH96 Z (zD ?_))
   have hH97 := (hH96.sub (sC (sC (sC sR))))
   refine yY (i + 1, u87, lo89, hi90, u92, lo94, hi95) (uC Z (Sub.cons (by rw [show k = 2 by omega]; rfl) (uC Z (uC Z (uC Z (uC Z (Sub.nil _))))))) ?_ ?_
   ·exact ⟨(Heap.y5 (n := 0) (Heap.y5 (n := 1) hH97 Z (Tf.map_snoc (f := Tf.lowJ most) om)) Z (Tf.map_snoc (f := Tf.highJ most) om)), by omega, (fun j hj => by rcases Nat.lt_or_ge j i with h | h; exact hall j h; rw [show j = i by omega]; exact hE2)⟩
   ·first | (dsimp only; omega) | (show _ < _; omega)
  refine z8 T.yZ [((Tf.highJ most (nth L (i : Int))).1, (Tf.highJ most (nth L (i : Int))).2)] Z (fun w => by kernel_rfl) hH60 (fun u98 lo100 hi101 w99 hH102 => (zD (⟨(hH102.sub (sC (sK (sC (sC sR))))), (z1 6 kz Z (z8 T.yZ [((Tf.lowJ most (nth L (i : Int))).1, (Tf.lowJ most (nth L (i : Int))).2)] Z (fun w => by kernel_rfl) hH102 (fun u103 lo105 hi106 w104 hH107 => (zD (⟨(hH107.sub (sC (sC (sK (sC (sC sR)))))), (z1 7 kz Z (yF (n := 4) T.yZ Z Z Z hH107 Z (Heap.yO T.yZ hH107 (n := 0) Z) om2 (fun u108 lo110 hi111 w109 hH112 => (zD (⟨(hH112.sub (sC (sC (sK (sC (sC sR)))))), (z1 15 kz Z (yF (n := 3) T.yZ Z Z Z hH112 Z (Heap.yO T.yZ hH112 (n := 1) Z) om2 (fun u113 lo115 hi116 w114 hH117 => (zD (⟨(hH117.sub (sC (sC (sK (sC (sC sR)))))), (zK [16, 17] kz (hH117.sub (sC (sC (sK (sC (sC sR)))))) _ _ _ kz (zL Z Z (yG Z) (zL Z Z (yG Z) (zV ?_))))⟩)))))⟩)))))⟩)))))⟩)))
  refine zY kz (yB (zP (region (oM hH117 Z (zA hH117 Z Z (zX Z Z om) (oA hH117 Z (zD ?_)))))))
  have hH118 := (hH117.sub (sC (sC (sC sR))))
  refine yY (i + 1, u108, lo110, hi111, u113, lo115, hi116) (uC Z (Sub.cons (by rw [show k = 2 by omega]; rfl) (uC Z (uC Z (uC Z (uC Z (Sub.nil _))))))) ?_ ?_
  ·exact ⟨(Heap.y5 (n := 0) (Heap.y5 (n := 1) hH118 Z (Tf.map_snoc (f := Tf.lowJ most) om)) Z (Tf.map_snoc (f := Tf.highJ most) om)), by omega, (fun j hj => by rcases Nat.lt_or_ge j i with h | h; exact hall j h; rw [show j = i by omega]; exact hE2)⟩
  ·first | (dsimp only; omega) | (show _ < _; omega)
 refine zM Z (dF hc11) (exit (yX (xF (z7 (zP (seq ?_))))))
 have hie : i = L.length := by omega
 have hle9 : (Tf.lows most L i) = L.map (Tf.lowJ most) := by rw [hie]; unfold Tf.lows; rw [List.take_length]
 have hhe9 : (Tf.highs most L i) = L.map (Tf.highJ most) := by rw [hie]; unfold Tf.highs; rw [List.take_length]
 have hj9 := Tf.jobs_of hm1 hm2 (by omega) (by omega) (fun j hj => hall j (by omega))
 rw [← hle9, ← hhe9] at hj9
 obtain ⟨hJl, hJh, hLs⟩ := hj9
 have hS1 := S.sh2 (S.checkJobs_iff.2 hJl)
 have hS2 := S.sh2 (S.checkJobs_iff.2 hJh)
 obtain ⟨p, hpl, -, hpc⟩ := S.plan_ok hJh
 obtain ⟨hcl, hb2, hb3⟩ := Tf.both hJl hLs hpc
 have hsame : Tf.smTo most L i = true → S.shortestOf (Tf.lows most L i) = S.shortestOf (Tf.highs most L i) := fun h => by rw [hie] at h; rw [hle9, hhe9, Tf.same_of hm1 hm2 (fun j hj => hall j (by omega)) h]
 have hpn : p.length ≤ 8 := by have h5 := (S.checkPlan_iff.1 (by rw [hpc])).2.1; have h6 := hJh.2.1; omega
 refine region (oM hH10 Z ?_)
 have hev121 : Fn Tryz.prog 9 [v_7].toArray _ _ := c9 (Heap.yO T.yZ hH10 (n := 1) rfl) (by omega)
 simp only [hS1] at hev121
 refine zN Z Z Z hH10 (hev121) (fun w119 hH120 => (oM hH120 Z (zA hH120 Z Z (zI Z Z) (zA hH120 Z Z (zI Z Z) (oA hH120 Z (oA hH120 Z (zs (oM hH120 Z ?_))))))))
 have hev124 : Fn Tryz.prog 9 [v_8].toArray _ _ := c9 (Heap.yO T.yZ hH120 (n := 0) rfl) (by omega)
 simp only [hS2] at hev124
 refine zN Z Z Z hH120 (hev124) (fun w122 hH123 => (oM hH123 Z (zA hH123 Z Z (zI Z Z) (zA hH123 Z Z (zI Z Z) (oA hH123 Z (oA hH123 Z (zs (oM hH123 Z ?_))))))))
 have hev127 : Fn Tryz.prog 10 [v_8].toArray _ _ := c10 (Heap.yO T.yZ hH123 (n := 0) rfl) (by omega)
 simp only [hpl] at hev127
 refine y2 Z Z Z hH123 (hev127) (fun u128 w125 lo129 hi130 hH126 hv131 => ?_)
 obtain ⟨p133, hu, -⟩ := hv131
 subst hu
 have hH132 := Heap.tup2 hH126 (n := 0) Z
 refine oM hH132 Z (zA hH132 Z Z (zI Z Z) (zA hH132 Z Z (zI Z Z) (oA hH132 Z (oA hH132 Z (zt (seq (zr (oM hH132 Z (zA hH132 Z Z (yL Z (yH Z Z)) (oM hH132 Z (zB Z Z Z (oM hH132 Z (zB Z Z Z (zA hH132 Z Z (yL Z (yH Z Z)) (zA hH132 Z Z (zT Z Z Z) (oM hH132 Z (zB Z Z Z (oM hH132 Z (zB Z Z Z ?_)))))))))))))))))))
 refine zA hH132 Z Z (yL Z (yH Z Z)) (zA hH132 Z Z (zT Z Z Z) (oM hH132 Z (zB Z Z Z (oM hH132 Z (zB Z Z Z (oM hH132 Z (zB Z Z Z (zA hH132 Z Z (xJ Z Z) (zA hH132 Z Z (zT Z Z Z) (oM hH132 Z ?_))))))))))
 have hc134 : ¬ ((S.shortestOf (Tf.highs most L i)) < (S.shortestOf (Tf.lows most L i))) := by omega
 refine zB Z Z (dF hc134) (oM hH132 Z (zB Z Z (dF hc134) (oM hH132 Z ?_)))
 by_cases hc135 : Tf.smTo most L i = true
 ·have hsm9 := hsame hc135
  refine zB Z Z hc135 (oM hH132 Z (zB Z Z hc135 (oM hH132 Z (zB Z Z hc135 (zA hH132 Z Z (yH Z Z) (zB Z Z (dF hc134) (zA hH132 Z Z (zR Z hc135 Z) (zA hH132 Z Z (zT Z (dF hc134) Z) (zt ?_)))))))))
  have hc136 : ¬ (¬ ((S.shortestOf (Tf.lows most L i)) = (S.shortestOf (Tf.highs most L i)))) := fun h => h hsm9
  refine zM Z (vN hc136) (skip (zu (oM hH132 Z (oM hH132 Z ?_))))
  have hev139 : Fn Tryz.prog 11 [v_8, p133].toArray _ _ := c11 (Heap.yO T.yZ hH132 (n := 1) rfl) (Heap.yO T.xO hH132 (n := 0) rfl) (by omega) (by omega)
  simp only [hpc] at hev139
  refine zN Z Z Z hH132 (hev139) (fun w137 hH138 => (oM hH138 Z (zA hH138 Z Z (zI Z Z) (zA hH138 Z Z (zI Z Z) (oA hH138 Z (oA hH138 Z (zs (oM hH138 Z (oM hH138 Z ?_)))))))))
  have hev142 : Fn Tryz.prog 11 [v_7, p133].toArray _ _ := c11 (Heap.yO T.yZ hH138 (n := 2) rfl) (Heap.yO T.xO hH138 (n := 0) rfl) (by omega) (by omega)
  simp only [hcl] at hev142
  refine zN Z Z Z hH138 (hev142) (fun w140 hH141 => (oM hH141 Z (zA hH141 Z Z (zI Z Z) (zA hH141 Z Z (zI Z Z) (oA hH141 Z (oA hH141 Z (zs (oM hH141 Z (zA hH141 Z Z (yL Z (y6 Z Z)) (oM hH141 Z (zB Z Z Z (oM hH141 Z (zB Z Z Z (zA hH141 Z Z (yL Z (y6 Z Z)) (zA hH141 Z Z (zR Z Z Z) (oM hH141 Z (zB Z Z Z (oM hH141 Z (zB Z Z Z ?_)))))))))))))))))))
  refine oM hH141 Z (zB Z Z Z (zA hH141 Z Z (yL (dT Z) (y6 Z Z)) (zA hH141 Z Z (zR Z Z Z) (oM hH141 Z (zB Z Z Z (oM hH141 Z (zB Z Z Z (oM hH141 Z (zB Z Z Z (zA hH141 Z Z (uH Z Z) (zA hH141 Z Z (zR Z Z Z) (oM hH141 Z ?_))))))))))))
  have hc143 : (S.endOf (Tf.lows most L i) p) ≤ (S.shortestOf (Tf.highs most L i)) := by omega
  refine zB Z Z (dT hc143) (oM hH141 Z (zB Z Z (dT hc143) (oM hH141 Z (zB Z Z (dT hc143) (zA hH141 Z Z (vQ Z Z) (zA hH141 Z Z (zR Z (dT hc143) Z) (oM hH141 Z ?_)))))))
  have hc144 : (S.shortestOf (Tf.lows most L i)) ≤ (S.endOf (Tf.lows most L i) p) := by omega
  refine zB Z Z (dT hc144) (zN Z Z Z hH141 (c5) (fun w145 hH146 => (zA hH146 Z Z (zR Z (dT hc144) Z) (oA hH146 Z (zt (ret ?_))))))
  have hH147 := (hH146.sub (sC (sC (sC sR))))
  refine fin hH147 (fun w' hf => (yN Z (rt Z))) (fun w' hf => ?_)
  rfl
 refine zE Z Z (Bool.eq_false_iff.2 hc135) Z (zE Z Z (Bool.eq_false_iff.2 hc135) Z (zE Z Z (Bool.eq_false_iff.2 hc135) Z (zB Z Z (dF hc134) (zA hH132 Z Z (zT Z (Bool.eq_false_iff.2 hc135) Z) (zA hH132 Z Z (zT Z (dF hc134) Z) (zt (zM Z Z (skip (zu (oM hH132 Z (oM hH132 Z ?_)))))))))))
 have hev150 : Fn Tryz.prog 11 [v_8, p133].toArray _ _ := c11 (Heap.yO T.yZ hH132 (n := 1) rfl) (Heap.yO T.xO hH132 (n := 0) rfl) (by omega) (by omega)
 simp only [hpc] at hev150
 refine zN Z Z Z hH132 (hev150) (fun w148 hH149 => (oM hH149 Z (zA hH149 Z Z (zI Z Z) (zA hH149 Z Z (zI Z Z) (oA hH149 Z (oA hH149 Z (zs (oM hH149 Z (oM hH149 Z ?_)))))))))
 have hev153 : Fn Tryz.prog 11 [v_7, p133].toArray _ _ := c11 (Heap.yO T.yZ hH149 (n := 2) rfl) (Heap.yO T.xO hH149 (n := 0) rfl) (by omega) (by omega)
 simp only [hcl] at hev153
 refine zN Z Z Z hH149 (hev153) (fun w151 hH152 => (oM hH152 Z (zA hH152 Z Z (zI Z Z) (zA hH152 Z Z (zI Z Z) (oA hH152 Z (oA hH152 Z (zs (oM hH152 Z (zA hH152 Z Z (yL Z (y6 Z Z)) (oM hH152 Z (zB Z Z Z (oM hH152 Z (zB Z Z Z (zA hH152 Z Z (yL Z (y6 Z Z)) (zA hH152 Z Z (zR Z Z Z) (oM hH152 Z (zB Z Z Z (oM hH152 Z (zB Z Z Z ?_)))))))))))))))))))
 refine oM hH152 Z (zB Z Z Z (zA hH152 Z Z (yL (dT Z) (y6 Z Z)) (zA hH152 Z Z (zR Z Z Z) (oM hH152 Z (zB Z Z Z (oM hH152 Z (zB Z Z Z (oM hH152 Z (zB Z Z Z (zA hH152 Z Z (uH Z Z) (zA hH152 Z Z (zR Z Z Z) (oM hH152 Z ?_))))))))))))
 have hc154 : (S.endOf (Tf.lows most L i) p) ≤ (S.shortestOf (Tf.highs most L i)) := by omega
 refine zB Z Z (dT hc154) (oM hH152 Z (zB Z Z (dT hc154) (oM hH152 Z (zB Z Z (dT hc154) (zA hH152 Z Z (vQ Z Z) (zA hH152 Z Z (zR Z (dT hc154) Z) (oM hH152 Z ?_)))))))
 have hc155 : (S.shortestOf (Tf.lows most L i)) ≤ (S.endOf (Tf.lows most L i) p) := by omega
 refine zB Z Z (dT hc155) (zN Z Z Z hH152 (c5) (fun w156 hH157 => (zA hH157 Z Z (zR Z (dT hc155) Z) (oA hH157 Z (zt (ret ?_))))))
 have hH158 := (hH157.sub (sC (sC (sC sR))))
 refine fin hH158 (fun w' hf => (yN Z (rt Z))) (fun w' hf => ?_)
 rfl
end Go.Fip
