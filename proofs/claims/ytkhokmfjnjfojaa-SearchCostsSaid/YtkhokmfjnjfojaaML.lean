/- Joined texts: Qy, Fd, Fe. -/
import Derived.Test.YtkhokmfjnjfojaaMC
import Derived.Test.YtkhokmfjnjfojaaMK
set_option linter.unusedVariables false
set_option linter.unusedSimpArgs false
set_option linter.unusedSectionVars false
namespace Go.Fip.Q
open Go.Fip
structure Sx where
  c : Int
  f : List Int
  m : Nat
  r : List Int
def tre (w : List Int) (i k q : Nat) : List Int := hung (F w i (i + q)) (F w (i + q + 1) k)
def mny (w : List Int) (i k q : Nat) : Nat := M w i (i + q) * M w (i + q + 1) k
def spS (w : List Int) (i k : Nat) : Nat → Sx
  | 0 => ⟨0, [], 0, []⟩
  | j + 1 =>
    if (spS w i k j).r.length = 0 ∨ K w i k (i + j) < (spS w i k j).c then ⟨K w i k (i + j), tre w i k j, mny w i k j, [((i + j : Nat) : Int)]⟩
    else if K w i k (i + j) = (spS w i k j).c then ⟨(spS w i k j).c, if cmpL (tre w i k j) (spS w i k j).f < 0 then tre w i k j else (spS w i k j).f, (spS w i k j).m + mny w i k j, (spS w i k j).r ++ [((i + j : Nat) : Int)]⟩
    else spS w i k j
variable {w : List Int} {i k j : Nat}
theorem sp_new (h : (spS w i k j).r.length = 0 ∨ K w i k (i + j) < (spS w i k j).c) : spS w i k (j + 1) = ⟨K w i k (i + j), tre w i k j, mny w i k j, [((i + j : Nat) : Int)]⟩ := by rw [spS, if_pos h]
theorem sp_eq (h : ¬ ((spS w i k j).r.length = 0 ∨ K w i k (i + j) < (spS w i k j).c)) (h2 : K w i k (i + j) = (spS w i k j).c) : spS w i k (j + 1) = ⟨(spS w i k j).c, if cmpL (tre w i k j) (spS w i k j).f < 0 then tre w i k j else (spS w i k j).f, (spS w i k j).m + mny w i k j, (spS w i k j).r ++ [((i + j : Nat) : Int)]⟩ := by rw [spS, if_neg h, if_pos h2]
theorem sp_no (h : ¬ ((spS w i k j).r.length = 0 ∨ K w i k (i + j) < (spS w i k j).c)) (h2 : ¬ K w i k (i + j) = (spS w i k j).c) : spS w i k (j + 1) = spS w i k j := by rw [spS, if_neg h, if_neg h2]
def rl (w : List Int) (i k j : Nat) (c : Int) : List Nat := (List.range j).filter fun q => decide (K w i k (i + q) = c)
theorem rl_succ {c : Int} : rl w i k (j + 1) c = rl w i k j c ++ (if K w i k (i + j) = c then [j] else []) := by
  unfold rl
  rw [List.range_succ, List.filter_append]
  congr 1
  by_cases h : K w i k (i + j) = c
  · simp [h]
  · simp [h]
theorem minT_one {x : List Int} : minT [x] = x := rfl
theorem minT_snoc {l : List (List Int)} {x : List Int} (h : l ≠ []) : minT (l ++ [x]) = if cmpL x (minT l) < 0 then x else minT l := by
  match l, h with
  | a :: l, _ => simp [minT, List.foldl_append]
structure SpI (w : List Int) (i k j : Nat) (o : Sx) : Prop where
  ne : rl w i k j o.c ≠ []
  le : ∀ q, q < j → o.c ≤ K w i k (i + q)
  f : o.f = minT ((rl w i k j o.c).map (tre w i k))
  m : o.m = ((rl w i k j o.c).map (mny w i k)).sum
  r : o.r = (rl w i k j o.c).map fun q => ((i + q : Nat) : Int)
theorem rl_none {c : Int} (h : ∀ q, q < j → c < K w i k (i + q)) : rl w i k j c = [] := by
  unfold rl
  rw [List.filter_eq_nil_iff]
  intro q hq
  have := h q (List.mem_range.1 hq)
  simp; omega
theorem sp_inv : ∀ j, 1 ≤ j → SpI w i k j (spS w i k j)
  | 0, h => absurd h (by decide)
  | j + 1, _ => by
    by_cases hj : j = 0
    · subst hj
      rw [sp_new (.inl rfl)]
      have e : rl w i k 1 (K w i k (i + 0)) = [0] := by rw [rl_succ, if_pos rfl]; rfl
      exact ⟨by rw [e]; simp, fun q hq => by rw [show q = 0 by omega]; exact Int.le_refl _, by rw [e]; rfl, by rw [e]; simp, by rw [e]; rfl⟩
    · have ih := sp_inv j (by omega)
      have hr : (spS w i k j).r.length ≠ 0 := by rw [ih.r, List.length_map]; exact fun h => ih.ne (List.eq_nil_of_length_eq_zero h)
      by_cases h1 : K w i k (i + j) < (spS w i k j).c
      · rw [sp_new (.inr h1)]
        have e : rl w i k (j + 1) (K w i k (i + j)) = [j] := by rw [rl_succ, if_pos rfl, rl_none (fun q hq => by have := ih.le q hq; omega)]; rfl
        refine ⟨by rw [e]; simp, fun q hq => ?_, by rw [e]; rfl, by rw [e]; simp, by rw [e]; rfl⟩
        rcases Nat.lt_or_ge q j with h | h
        · have := ih.le q h; show K w i k (i + j) ≤ _; omega
        · rw [show q = j by omega]; exact Int.le_refl _
      · have hno : ¬ ((spS w i k j).r.length = 0 ∨ K w i k (i + j) < (spS w i k j).c) := fun h => h.elim hr h1
        by_cases h2 : K w i k (i + j) = (spS w i k j).c
        · rw [sp_eq hno h2]
          have e : rl w i k (j + 1) (spS w i k j).c = rl w i k j (spS w i k j).c ++ [j] := by rw [rl_succ, if_pos h2]
          refine ⟨by rw [e]; simp, fun q hq => ?_, ?_, ?_, ?_⟩
          · rcases Nat.lt_or_ge q j with h | h
            · exact ih.le q h
            · rw [show q = j by omega, h2]; exact Int.le_refl _
          · rw [e, List.map_append]
            show (if cmpL (tre w i k j) (spS w i k j).f < 0 then tre w i k j else (spS w i k j).f) = _
            rw [show (List.map (tre w i k) [j]) = [tre w i k j] from rfl, minT_snoc (by simpa using ih.ne), ← ih.f]
          · rw [e, List.map_append, List.sum_append, ← ih.m]; simp
          · rw [e, List.map_append, ← ih.r]; rfl
        · rw [sp_no hno h2]
          have e : rl w i k (j + 1) (spS w i k j).c = rl w i k j (spS w i k j).c := by rw [rl_succ, if_neg h2, List.append_nil]
          refine ⟨by rw [e]; exact ih.ne, fun q hq => ?_, by rw [e]; exact ih.f, by rw [e]; exact ih.m, by rw [e]; exact ih.r⟩
          rcases Nat.lt_or_ge q j with h | h
          · exact ih.le q h
          · rw [show q = j by omega]; omega
/-- In the end it is what is least, first and many. -/
theorem sp_all (h : i < k) : (spS w i k (k - i)).c = C w i k ∧ (spS w i k (k - i)).f = F w i k ∧ (spS w i k (k - i)).m = M w i k := by
  have hi := sp_inv (w := w) (i := i) (k := k) (k - i) (by omega)
  have hc : (spS w i k (k - i)).c = C w i k := by
    obtain ⟨q, hq⟩ := List.exists_mem_of_ne_nil _ hi.ne
    have h1 := List.mem_filter.1 hq
    have h2 := List.mem_range.1 h1.1
    have h3 : K w i k (i + q) = (spS w i k (k - i)).c := by simpa using h1.2
    have h4 := C_le (w := w) (i := i) (k := k) (r := i + q) (by omega) (by omega)
    obtain ⟨r, r1, r2, r3⟩ := C_ex (w := w) h
    have h5 := hi.le (r - i) (by omega)
    rw [show i + (r - i) = r by omega] at h5
    omega
  have e : rl w i k (k - i) (spS w i k (k - i)).c = roots w i k := by rw [hc]; rfl
  refine ⟨hc, ?_, ?_⟩
  · rw [hi.f, e, F_rec h]; rfl
  · rw [hi.m, e, M_rec h]; rfl
theorem spf_len : ∀ j, i + j ≤ k → 1 ≤ j → (spS w i k j).f.length = k - i := by
  intro j hj h1
  have hi := sp_inv (w := w) (i := i) (k := k) j h1
  rw [hi.f]
  have hm := minT_mem (l := (rl w i k j (spS w i k j).c).map (tre w i k)) (by simpa using hi.ne)
  obtain ⟨q, hq, e⟩ := List.mem_map.1 hm
  have h2 := List.mem_range.1 (List.mem_filter.1 hq).1
  rw [← e]
  unfold tre
  rw [hung_length, F_length, F_length]; omega
theorem mny_bd (h : k - i ≤ 12) (hj : i + j < k) : mny w i k j ≤ 43268992144 := by
  have h1 := M_bd (w := w) (s := i) (e := i + j) (by omega)
  have h2 := M_bd (w := w) (s := i + j + 1) (e := k) (by omega)
  have h3 := Nat.mul_le_mul h1 h2
  unfold mny; omega
theorem spm_le {B : Nat} (hB : ∀ q, i + q < k → mny w i k q ≤ B) (j : Nat) (hj : i + j ≤ k) : (spS w i k j).m ≤ j * B := by
  induction j with
  | zero => exact Nat.zero_le _
  | succ j ih =>
    have ih := ih (by omega)
    have hb := hB j (by omega)
    rw [Nat.add_mul, Nat.one_mul]
    by_cases h1 : (spS w i k j).r.length = 0 ∨ K w i k (i + j) < (spS w i k j).c
    · rw [sp_new h1]; show mny w i k j ≤ _; omega
    · by_cases h2 : K w i k (i + j) = (spS w i k j).c
      · rw [sp_eq h1 h2]
        show (spS w i k j).m + mny w i k j ≤ _
        omega
      · rw [sp_no h1 h2]; omega
theorem spm_bd (h : k - i ≤ 12) (j : Nat) (hj : i + j ≤ k) : (spS w i k j).m ≤ 12 * 43268992144 :=
  Nat.le_trans (spm_le (fun q hq => mny_bd h hq) j hj) (Nat.mul_le_mul_right _ (by omega))
theorem spr_len (j : Nat) : (spS w i k j).r.length ≤ j := by
  induction j with
  | zero => exact Nat.zero_le _
  | succ j ih =>
    by_cases h1 : (spS w i k j).r.length = 0 ∨ K w i k (i + j) < (spS w i k j).c
    · rw [sp_new h1]; show 1 ≤ j + 1; omega
    · by_cases h2 : K w i k (i + j) = (spS w i k j).c
      · rw [sp_eq h1 h2]
        show ((spS w i k j).r ++ [((i + j : Nat) : Int)]).length ≤ j + 1
        rw [List.length_append, List.length_singleton]; omega
      · rw [sp_no h1 h2]; omega
theorem spr_pos (h : 1 ≤ j) : 1 ≤ (spS w i k j).r.length := by
  have hi := sp_inv (w := w) (i := i) (k := k) j h
  rw [hi.r, List.length_map]
  exact List.length_pos_iff.2 hi.ne
theorem spc_bd (hw : ∀ x ∈ w, 0 ≤ x ∧ x ≤ 1000) (hn : w.length ≤ 12) (hk : k ≤ w.length) : ∀ j, i + j ≤ k → 0 ≤ (spS w i k j).c ∧ (spS w i k j).c ≤ 300000
  | 0, _ => ⟨Int.le_refl _, by show (0 : Int) ≤ 300000; decide⟩
  | j + 1, hj => by
    have ih := spc_bd hw hn hk j (by omega)
    have h1 := P_bd hw (i := i) (k - i) (by omega)
    have h2 := C_small hw hn (i := i) (k := i + j) (by omega)
    have h3 := C_small hw hn (i := i + j + 1) (k := k) hk
    have hK : 0 ≤ K w i k (i + j) ∧ K w i k (i + j) ≤ 300000 := by
      unfold K
      rw [show i + (k - i) = k by omega] at h1
      omega
    rw [spS]
    split
    · exact hK
    · split
      · exact ih
      · exact ih
end Go.Fip.Q

set_option linter.unusedVariables false
set_option linter.unusedSimpArgs false
set_option linter.unusedSectionVars false
namespace Go.Fip
open Go.RowKit
/-- What is known of a span, as it lies: its cost, the header of the first tree, how many, the header of the roots. -/
structure Sp where
  c : Int
  f : SV
  m : Int
  r : SV
instance : Inhabited Sp := ⟨⟨0, nilV, 0, nilV⟩⟩
def encSp (x : Sp) : List Value := [.int .i64 x.c, x.f.1, .int .i64 x.m, x.r.1]
theorem Sp.one (x : Sp) : ∀ u ∈ encSp x, u.oneCell' = true := fun u hu => by
  simp only [encSp, List.mem_cons, List.not_mem_nil, or_false] at hu
  rcases hu with rfl | rfl | rfl | rfl
  · rfl
  · exact SV.one x.f
  · rfl
  · exact SV.one x.r
/-- A table: row by row. -/
def Know (u : Value) (VV : List SV) (TT : List (List Sp)) (N : Nat) (w : World) : Prop :=
  Rd encV 1 u VV w ∧ VV.length = N + 1 ∧ TT.length = N + 1 ∧ ∀ i : Nat, i ≤ N → Rd encSp 4 (nth VV (i : Int)).1 (nth TT (i : Int)) w ∧ (nth TT (i : Int)).length = N + 1
variable {u : Value} {VV : List SV} {TT : List (List Sp)} {N : Nat} {w w' : World}
theorem Know.below (h : Know u VV TT N w) (hb : Below w.heap.size w w') : Know u VV TT N w' := ⟨h.1.below hb, h.2.1, h.2.2.1, fun i hi => ⟨(h.2.2.2 i hi).1.below hb, (h.2.2.2 i hi).2⟩⟩
theorem Know.now (h : Know u VV TT N w) {H : List Item} {n : Nat} (hH : Heap H w') (hn : H[n]? = some (base w)) : Know u VV TT N w' := h.below (hH.get hn)
theorem Know.row (h : Know u VV TT N w) {i : Nat} (hi : i ≤ N) : Rd encSp 4 (nth VV (i : Int)).1 (nth TT (i : Int)) w := (h.2.2.2 i hi).1
theorem Know.at (h : Know u VV TT N w) {i : Int} (h0 : 0 ≤ i) (h1 : i < (VV.length : Int)) : Rd encSp 4 (nth VV i).1 (nth TT i) w := by
  have h2 := h.2.1
  have := (h.2.2.2 i.toNat (by omega)).1
  rwa [Int.toNat_of_nonneg h0] at this
theorem Know.hd (h : Know u VV TT N w) : Rd encV 1 u VV w := h.1
theorem Know.rlen (h : Know u VV TT N w) {i : Nat} (hi : i ≤ N) : (nth TT (i : Int)).length = N + 1 := (h.2.2.2 i hi).2
def Good (l : List Int) (x : Sp) (i k : Nat) (w : World) : Prop := x.c = Q.C l i k ∧ x.m = (Q.M l i k : Int) ∧ Rd encI 1 x.f.1 (Q.F l i k) w
end Go.Fip

set_option linter.unusedVariables false
set_option linter.unusedSimpArgs false
set_option linter.unusedSectionVars false
namespace Go.Fip
open Go.RowKit
section
variable {r : Option Nat} {P : Program} {N : Nat} {ds : List Deferred} {env : Env} {w : World} {Q : Post} {all : Array Oper} {rest : List Oper} {H : List Item}
/-- A call; where the result lies is told. -/
theorem op_fn2 {d : Nat} {c : Operand} {xs : List Operand} {vs : List Value} {ats : Array TypeId} {ty : TypeId} {pos : String} {after : Array Edge} {f : FuncId} {first cap : List Value} {R : Value → World → Prop}
    (hf : ev env c = some (.func (.func f) first.toArray cap.toArray)) (hx : evs env xs = some vs) (hd : Nat.blt d N = true) (hH : Heap H w)
    (hc : Fn P f (first ++ (vs ++ cap)).toArray w R)
    (h : ∀ v w' lo hi, w.heap.size ≤ lo → Heap (⟨lo, hi, R v⟩ :: H) w' → R v w' → Ops r P N all rest ds ((d, v) :: env) w' Q) :
    Ops r P N all (⟨some d, .call ⟨.value c, xs.toArray, ats⟩, ty, pos, after, none⟩ :: rest) ds env w Q := by
  have hH2 : Heap (⟨w.heap.size, w.heap.size, fun w' => w.heap.size ≤ w'.heap.size⟩ :: H) w := hH.add (Below.refl _ _) (Nat.le_refl _) ⟨Nat.le_refl _, Nat.le_refl _, fun w' ha => ha.size⟩
  intro a ha
  refine wpListIn_plain rfl fun K hK => ⟨fun f _ => Fr_fn r f, ?_⟩
  rw [semAt_Fr r _ _ (fun c hc => by cases hc)]
  have hargs : (xs.toArray.map a.eval) = vs.toArray := by rw [List.map_toArray, ha.evs hx]
  have hrun : (execOp a.eval ⟨some d, .call ⟨.value c, xs.toArray, ats⟩, ty, pos, after, none⟩).run P w = .ok (.enter f (first ++ (vs ++ cap)).toArray) w := by
    simp only [execOp, resolve, hargs, ha.ev hf, Deferred.ofValue, Sem.run_bind, Sem.run_pure, Result.andThen, invoke]
    have e : first.toArray ++ vs.toArray ++ cap.toArray = (first ++ (vs ++ cap)).toArray := by simp
    rw [e]
    exact hc.enters w
  rw [hrun]
  refine ⟨fun h => by simp [Fr_depth] at h, CallsIn.mono (hc.callsFr r) ?_⟩
  rintro e w' ⟨v, rfl, hb, hR⟩
  exact hK _ _ (h v w' w.heap.size w'.heap.size (Nat.le_refl _) (hH.add hb (Nat.le_refl _) ⟨hb.size, Nat.le_refl _, hR⟩) (hR w' (Agree.refl _ _ _)) _ (ha.put (by simpa [Nat.blt_eq] using hd) v))
end
structure RsI where
  lo : Nat
  hi : Nat
  s : SV
  l : List Sp
instance : Inhabited RsI := ⟨⟨0, 0, nilV, []⟩⟩
def rowSp (r : RsI) : Item := ow r.lo r.hi 89 4 encSp r.s.1 r.l
variable {w w' : World} {L : List Item} {Rs : List RsI}
theorem Heap.totailSp {lo hi : Nat} {x : SV} {l : List Sp} (h : Heap (ow lo hi 89 4 encSp x.1 l :: (L ++ Rs.map rowSp)) w) : Heap (L ++ (Rs ++ [RsI.mk lo hi x l]).map rowSp) w := by
  refine h.perm ?_
  rw [List.map_append, ← List.append_assoc]
  exact (List.perm_append_comm (l₁ := [_]))
theorem tail_at {i : Nat} (hi : i < Rs.length) : (L ++ Rs.map rowSp)[L.length + i]? = some (rowSp Rs[i]) := by
  rw [List.getElem?_append_right (by omega), Nat.add_sub_cancel_left, List.getElem?_map, List.getElem?_eq_getElem hi]; rfl
theorem nth_s {i : Nat} (hi : i < Rs.length) : nth (Rs.map RsI.s) (i : Int) = Rs[i].s := by rw [nth_nat (by simpa using hi)]; simp
theorem nth_l {i : Nat} (hi : i < Rs.length) : nth (Rs.map RsI.l) (i : Int) = Rs[i].l := by rw [nth_nat (by simpa using hi)]; simp
theorem rowSp_rd {P : Program} {Y : Nat} (he : El P Y 89 4 encSp) (h : Heap (L ++ Rs.map rowSp) w) {i : Int} (h0 : 0 ≤ i) (h1 : i < ((Rs.map RsI.s).length : Int)) : Rd encSp 4 (nth (Rs.map RsI.s) i).1 (nth (Rs.map RsI.l) i) w := by
  obtain ⟨i, rfl⟩ : ∃ k : Nat, i = (k : Int) := ⟨i.toNat, by omega⟩
  have hi : i < Rs.length := by rw [List.length_map] at h1; omega
  rw [nth_s hi, nth_l hi]
  exact Heap.rdw he h (n := L.length + i) (tail_at hi)
theorem Know.tail {P : Program} {X Y lo hi E n N : Nat} {u : Value} (he : El P X E 1 encV) (he2 : El P Y 89 4 encSp) (h : Heap (L ++ Rs.map rowSp) w) (hn : L[n]? = some (ow lo hi E 1 encV u (Rs.map RsI.s))) (hl : Rs.length = N + 1) (hlen : ∀ i : Nat, i < Rs.length → (nth (Rs.map RsI.l) (i : Int)).length = N + 1) : Know u (Rs.map RsI.s) (Rs.map RsI.l) N w := by
  have hlt := (List.getElem?_eq_some_iff.1 hn).1
  exact ⟨Heap.rdw he h (n := n) (by rw [List.getElem?_append_left hlt]; exact hn), by simpa using hl, by simpa using hl, fun i hi => ⟨rowSp_rd he2 h (by omega) (by rw [List.length_map]; omega), hlen i (by omega)⟩⟩
/-- One entry of the table. -/
def setR (Rs : List RsI) (i k : Nat) (z : Sp) : List RsI := Rs.set i ⟨(Rs.getD i default).lo, (Rs.getD i default).hi, (Rs.getD i default).s, (Rs.getD i default).l.set k z⟩
variable {i k : Nat} {z : Sp}
theorem setR_length : (setR Rs i k z).length = Rs.length := List.length_set
theorem setR_s : (setR Rs i k z).map RsI.s = Rs.map RsI.s := by
  unfold setR
  rw [List.map_set]
  by_cases h : i < Rs.length
  · refine List.ext_getElem (by simp) fun j h1 h2 => ?_
    rw [List.getElem_set]
    split
    · rename_i e; subst e; simp [List.getElem?_eq_getElem h]
    · rfl
  · rw [List.set_eq_of_length_le (by simpa using h)]
theorem setR_l (h : i < Rs.length) : (setR Rs i k z).map RsI.l = (Rs.map RsI.l).set i ((nth (Rs.map RsI.l) (i : Int)).set k z) := by
  unfold setR
  rw [List.map_set, nth_l h, List.getD_eq_getElem?_getD, List.getElem?_eq_getElem h]; rfl
theorem setR_hi {b : Nat} (h : ∀ r ∈ Rs, r.hi ≤ b) : ∀ r ∈ setR Rs i k z, r.hi ≤ b := fun r hr => by
  by_cases hi : i < Rs.length
  · unfold setR at hr
    rcases List.mem_or_eq_of_mem_set hr with h1 | h1
    · exact h r h1
    · subst h1
      rw [List.getD_eq_getElem?_getD, List.getElem?_eq_getElem hi]
      exact (show ((some Rs[i]).getD default).hi ≤ b from h Rs[i] (List.getElem_mem hi))
  · unfold setR at hr
    rw [List.set_eq_of_length_le (by omega)] at hr
    exact h r hr
theorem SV.cells (x : SV) : x.1.cells = #[x.1] := by
  obtain ⟨_, a, n, c, rfl⟩ := x
  rfl
section
variable {r : Option Nat} {P : Program} {N : Nat} {ds : List Deferred} {env : Env} {Q : Post} {all : Array Oper} {rest : List Oper}
theorem op_setT {T T' : TypeId} (hE : El P T 89 4 encSp) {ty : TypeId} {pos : String} {after : Array Edge} {x y : Operand} {v : Value} {q : Int} (hi : i < Rs.length)
    (hp : ev env x = some (.pointer (some ⟨eb (nth (Rs.map RsI.s) (i : Int)).1, eo (nth (Rs.map RsI.s) (i : Int)).1 + q.toNat * 4 + 0, none⟩))) (hx : ev env y = some v) (hH : Heap (L ++ Rs.map rowSp) w) (hq : 0 ≤ q ∧ q < ((nth (Rs.map RsI.l) (i : Int)).length : Int))
    (hsz : (P.info? T').map (·.size) = some 4) (hv : v.cells = (encSp z).toArray)
    (h : ∀ w', Heap (L ++ (setR Rs i q.toNat z).map rowSp) w' → Ops r P N all rest ds env w' Q) :
    Ops r P N all (⟨none, .store T' x y, ty, pos, after, none⟩ :: rest) ds env w Q := by
  rw [nth_s hi] at hp
  rw [nth_l hi] at hq
  refine op_setE (n := L.length + i) (i := q) (k := 0) (z := z) hE hp hx hH (tail_at hi) hq hsz hv rfl (by simp [splice, encSp]) (Nat.le_refl _) (fun w' hw => h w' ?_)
  have e : (L ++ Rs.map rowSp).set (L.length + i) (ow Rs[i].lo Rs[i].hi 89 4 encSp Rs[i].s.1 (Rs[i].l.set q.toNat z)) = L ++ (setR Rs i q.toNat z).map rowSp := by
    unfold setR
    rw [List.set_append_right _ _ (by omega), Nat.add_sub_cancel_left, List.map_set, List.getD_eq_getElem?_getD, List.getElem?_eq_getElem hi]
    rfl
  rw [← e]
  exact hw
end
/-- Which spans are known. -/
def Done (l : List Int) (TT : List (List Sp)) (wd i0 : Nat) (w : World) : Prop := ∀ i k : Nat, i ≤ k → k ≤ l.length → (k - i < wd ∨ (k - i = wd ∧ i < i0)) → Good l (nth (nth TT (i : Int)) (k : Int)) i k w
theorem nth_setT {α : Type} [Inhabited α] {l : List α} {i j : Nat} {x : α} (hi : i < l.length) (hj : j < l.length) : nth (l.set i x) (j : Int) = if i = j then x else nth l (j : Int) := by
  rw [nth_nat (by simpa using hj), List.getElem_set, nth_nat hj]
theorem Done.step {l : List Int} {TT : List (List Sp)} {wd i0 : Nat} (h : Done l TT wd i0 w) (hT : TT.length = l.length + 1) (hi : i0 + wd ≤ l.length) (hr : ∀ i : Nat, i ≤ l.length → (nth TT (i : Int)).length = l.length + 1) (hz : Good l z i0 (i0 + wd) w) : Done l (TT.set i0 ((nth TT (i0 : Int)).set (i0 + wd) z)) wd (i0 + 1) w := fun i k h1 h2 h3 => by
  have h4 := hr i0 (by omega)
  rw [nth_setT (by omega) (by omega)]
  split
  · rename_i e
    subst e
    rw [nth_setT (by omega) (by omega)]
    split
    · rename_i e2; rw [← e2]; exact hz
    · rename_i e2; exact h i0 k h1 h2 (by omega)
  · rename_i e; exact h i k h1 h2 (by omega)
theorem Done.next {l : List Int} {TT : List (List Sp)} {wd i0 : Nat} (h : Done l TT wd i0 w) (hi : l.length < i0 + wd) : Done l TT (wd + 1) 0 w := fun i k h1 h2 h3 => h i k h1 h2 (by omega)
theorem Heap.joinFr {b hh lo hi : Nat} {φ ψ χ : World → Prop} {o bs : Item} {T : List Item} (h : Heap ([⟨lo, hi, φ⟩, ⟨b, hh, ψ⟩, o, bs] ++ T) w) (hb : b ≤ lo) (ho : o.hi ≤ b) (hbs : bs.hi ≤ b) (hT : ∀ j ∈ T, j.hi ≤ b) (hχ : ∀ w', φ w' → ψ w' → χ w') : Heap ([⟨b, w.heap.size, χ⟩, o, bs] ++ T) w := by
  have h1 := h.okAt (n := 0) rfl
  have h2 := h.okAt (n := 1) rfl
  have hok : (⟨b, w.heap.size, χ⟩ : Item).ok w := by
    refine ⟨Nat.le_trans h2.1 h2.2.1, Nat.le_refl _, fun w' ha => hχ w' (h1.2.2 w' ?_) (h2.2.2 w' ?_)⟩
    · exact ⟨ha.os, ha.tape, ha.output, ha.size, fun k a c => ha.block k (Nat.le_trans hb a) (Nat.lt_of_lt_of_le c h1.2.1)⟩
    · exact ⟨ha.os, ha.tape, ha.output, ha.size, fun k a c => ha.block k a (Nat.lt_of_lt_of_le c h2.2.1)⟩
  have hs : Heap ([o, bs] ++ T) w := h.sub (List.Sublist.cons _ (List.Sublist.cons _ (List.Sublist.refl _)))
  show Heap (⟨b, w.heap.size, χ⟩ :: ([o, bs] ++ T)) w
  refine ⟨fun j hj => ?_, List.Pairwise.cons (fun j hj => .inr ?_) hs.apart⟩
  · rcases List.mem_cons.1 hj with rfl | hj
    · exact hok
    · exact hs.ok j hj
  · simp only [List.cons_append, List.nil_append, List.mem_cons] at hj
    rcases hj with rfl | rfl | hj
    · exact ho
    · exact hbs
    · exact hT j hj
def z0Sp : Sp := ⟨0, nilV, 0, nilV⟩
def row0 (n i : Nat) : List Sp := (List.replicate (n + 1) z0Sp).set i ⟨0, nilV, 1, nilV⟩
theorem row0_length {n i : Nat} : (row0 n i).length = n + 1 := by simp [row0]
theorem Rd.sv {α : Type} {enc : α → List Value} {sz : Nat} {v : Value} {xs : List α} (h : Rd enc sz v xs w) : ∃ x : SV, v = x.1 := by
  obtain ⟨a, c, e, _⟩ := h.1
  exact ⟨⟨v, a, _, c, e⟩, rfl⟩
theorem Heap.hiAll (h : Heap (L ++ Rs.map rowSp) w) : ∀ r ∈ Rs, r.hi ≤ w.heap.size := fun r hr => (h.ok (rowSp r) (List.mem_append_right _ (List.mem_map.2 ⟨r, hr, rfl⟩))).2.1
theorem rowSp_hi {b : Nat} (h : ∀ r ∈ Rs, r.hi ≤ b) : ∀ j ∈ Rs.map rowSp, j.hi ≤ b := fun j hj => by
  obtain ⟨r, hr, rfl⟩ := List.mem_map.1 hj
  exact h r hr
theorem nth_set_self {α : Type} [Inhabited α] {l : List α} {i : Nat} {x : α} (hi : i < l.length) : nth (l.set (i : Int).toNat x) (i : Int) = x := by
  rw [Int.toNat_natCast, nth_setT hi hi, if_pos rfl]
theorem row0_of {n i : Nat} {m : Int} (hm : m = (n : Int) + 1) (hi : i ≤ n) : (List.replicate m.toNat z0Sp).set (i : Int).toNat ⟨(nth (List.replicate m.toNat z0Sp) (i : Int)).c, (nth (List.replicate m.toNat z0Sp) (i : Int)).f, 1, (nth (List.replicate m.toNat z0Sp) (i : Int)).r⟩ = row0 n i := by
  have e : m.toNat = n + 1 := by omega
  rw [e, nth_nat (by simp; omega), List.getElem_replicate]; rfl
theorem out_set {n i : Nat} {r : RsI} (h : Rs.length = i) (hi : i ≤ n) : (Rs.map RsI.s ++ List.replicate (n + 1 - i) nilV).set (i : Int).toNat r.s = (Rs ++ [r]).map RsI.s ++ List.replicate (n + 1 - (i + 1)) nilV := by
  rw [Int.toNat_natCast, List.set_append_right _ _ (by simp; omega), List.length_map, h, Nat.sub_self, show n + 1 - i = (n + 1 - (i + 1)) + 1 by omega, List.replicate_succ, List.set_cons_zero, List.map_append, List.append_assoc]; rfl
theorem done0 {l : List Int} {TT : List (List Sp)} (h : TT = (List.range (l.length + 1)).map (row0 l.length)) : Done l TT 1 0 w := fun i k h1 h2 h3 => by
  obtain rfl : i = k := by omega
  have e : nth TT (i : Int) = row0 l.length i := by
    subst h
    rw [nth_nat (by simp; omega)]; simp
  rw [e]
  have e2 : nth (row0 l.length i) (i : Int) = ⟨0, nilV, 1, nilV⟩ := by
    unfold row0
    rw [nth_setT (by simp; omega) (by simp; omega), if_pos rfl]
  rw [e2]
  refine ⟨by rw [Q.C_nil (Nat.le_refl _)], by rw [Q.M_nil (Nat.le_refl _)]; rfl, ?_⟩
  rw [Q.F_nil (Nat.le_refl _)]
  exact Rd.nil
end Go.Fip
