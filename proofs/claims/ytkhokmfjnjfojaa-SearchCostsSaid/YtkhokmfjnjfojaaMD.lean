/- Joined texts: Fp, Ty, Wa, Wb, Wc, Wd, We, Wf, Wg. -/
import Derived.Test.YtkhokmfjnjfojaaMB
import Derived.Test.YtkhokmfjnjfojaaMC
import Derived.Shelf.SlSortCmp.Whole1
import Derived.Test.YtkhokmfjnjfojaaMA
import Derived.Test.YtkhokmfjnjfojaaProg
set_option linter.unusedVariables false
set_option linter.unusedSimpArgs false
set_option linter.unusedSectionVars false
namespace Go.Fip
open Go.Proofs Go.Shelf Go.RowKit Go.Lib Go.Sort
theorem Rd.other {α : Type} {enc : α → List Value} {sz : Nat} {v : Value} {xs : List α} {w w' : World} (h : Rd enc sz v xs w) (hb : xs ≠ [] → w'.heap[eb v]? = w.heap[eb v]?) : Rd enc sz v xs w' := by
  refine ⟨h.1, fun i x hi j u hj => ?_⟩
  have hne : xs ≠ [] := fun e => by subst e; simp at hi
  rw [← h.2 i x hi j u hj]
  exact World.cell?_of_block (w := w) (hb hne)
theorem sortWorld_block {α : Type} [Inhabited α] {enc : α → Value} {w : World} {g off m k : Nat} {dk : Array α} {os : Array Obj} (hk : k < w.heap.size) (hne : k ≠ g) : (sortWorld enc w g off m dk os).heap[k]? = w.heap[k]? := by
  unfold sortWorld grow putRow mapBlock
  show ((Sort.ahead w m).heap.modify g _ ++ os)[k]? = _
  rw [Array.getElem?_append_left (by simpa [Sort.ahead] using hk)]
  simp [Sort.ahead, Array.getElem?_modify, Ne.symm hne]
theorem sortWorld_own {α : Type} [Inhabited α] {enc : α → Value} {w : World} {g off m : Nat} {dk : Array α} {os : Array Obj} {cur : Array Value} {e : TypeId} {fz : Nat × Nat} (hg : w.heap[g]? = some (.cells cur e fz)) : (sortWorld enc w g off m dk os).heap[g]? = some (.cells (putCells enc off dk cur) e fz) := by
  have hlt := (Array.getElem?_eq_some_iff.1 hg).1
  unfold sortWorld grow putRow mapBlock
  show ((Sort.ahead w m).heap.modify g _ ++ os)[g]? = _
  rw [Array.getElem?_append_left (by simpa [Sort.ahead] using hlt)]
  simp [Sort.ahead, Array.getElem?_modify, hg, onCells]
theorem extract_all {α : Type} {a : Array α} {k : Nat} (h : a.size = k) : (a.extract 0 k).toList = a.toList := by subst h; rw [Array.extract_size]
theorem swo_cmp {n : Nat} (R : Fin n → List Int) : SWO (ltOf fun i j : Fin n => Q.cmpL (R i) (R j)) where
  irrefl x := by simp [ltOf, Q.cmpL_self]
  trans x y z h1 h2 := by
    simp only [ltOf, decide_eq_true_eq] at *
    exact Q.cmpL_trans h1 h2
  ntrans x y z h1 h2 := by
    simp only [ltOf, decide_eq_false_iff_not] at *
    exact Q.cmpL_le_trans h2 h1
theorem sort_fnM {P : Program} {ρ : Ren} (L : SlLaysF.n6 P ρ) {f75 E : Nat} {v : Value} {TT : List SV} {RR : List (List Int)} {g : Nat} {w : World}
    (eg : ∀ args w, (callFunc f75 args).run P w = .ok (.enter f75 args) w) (en : ∀ args w, (callFunc (ρ.f 6) args).run P w = .ok (.enter (ρ.f 6) args) w)
    (hcmp : ∀ (W : World) (x y : Value) (l m : List Int), Rd encI 1 x l W → Rd encI 1 y m W → l.length ≤ 1000000 → m.length ≤ 1000000 → FnE P f75 #[x, y] W (.int .i64 (Q.cmpL l m)))
    (hown : Own E 1 encV v TT w) (hg : v.ownBlock = some g) (h1 : 1 ≤ TT.length) (hsz : TT.length ≤ 1000000) (hrow : ∀ i : Nat, i < TT.length → Rd encI 1 (nth TT (i : Int)).1 (nth RR (i : Int)) w) (hlen : ∀ i : Nat, i < TT.length → (nth RR (i : Int)).length ≤ 1000000) (hap : ∀ i : Nat, i < TT.length → nth RR (i : Int) ≠ [] → eb (nth TT (i : Int)).1 ≠ g) :
    FnM P (ρ.f 6) #[v, .func (.func f75) #[] #[]] w g (fun u w' => u = .tuple #[] ∧ ∃ ds : List Nat, ds.Perm (List.range TT.length) ∧ (ds.map fun i : Nat => nth RR (i : Int)).Pairwise (fun a b => ¬ Q.cmpL b a < 0) ∧ Own E 1 encV v (ds.map fun i : Nat => nth TT (i : Int)) w') := by
  obtain ⟨hxs, hv⟩ := hown
  rcases hv with ⟨_, h0⟩ | ⟨g', cap, cur, hv, _, hb, hnc, hcap, hcs, hcur⟩
  · omega
  have hgg : g' = g := by rw [hv] at hg; exact Option.some.inj hg
  subst hgg
  have hlt := (Array.getElem?_eq_some_iff.1 hb).1
  rw [Nat.mul_one] at hcs hcur
  let n := TT.length
  let enc : Fin n → Value := fun i => (nth TT (i : Int)).1
  haveI : Inhabited (Fin n) := ⟨⟨0, h1⟩⟩
  let d : Array (Fin n) := Array.ofFn fun i => i
  have hds : d.size = n := by simp [d]
  have hdj : ∀ j (hj : j < n), d[j]! = ⟨j, hj⟩ := fun j hj => by
    rw [getElem!_pos d j (by rw [hds]; exact hj)]; simp [d]
  have hcell : ∀ j (hj : j < n), cur[j]? = some (nth TT (j : Int)).1 := fun j hj => by
    have e : cur.toList[j]? = (cur.toList.take n)[j]? := by rw [List.getElem?_take, if_pos hj]
    rw [← Array.getElem?_toList, e, hcur]
    have e2 : TT.flatMap encV = TT.map (·.1) := by
      show TT.flatMap (fun x => [x.1]) = _
      rw [← List.map_eq_flatMap]
    rw [e2, List.getElem?_map, List.getElem?_eq_getElem hj, nth_nat hj]; rfl
  have hH : Go.Sort.Holds enc w g' 0 d := fun j hj => by
    rw [hds] at hj
    rw [hdj j hj]
    constructor
    · simp only [World.cell?, hb, Nat.zero_add]
      exact hcell j hj
    · simp [World.frozen?, hb]
  have hO : OneCell enc := fun x => SV.one _
  have hrowb : ∀ (i : Nat) (hi : i < n), nth RR (i : Int) ≠ [] → eb (nth TT (i : Int)).1 ≠ g' ∧ eb (nth TT (i : Int)).1 < w.heap.size := fun i hi hne => by
    have hr := hrow i hi
    obtain ⟨x, xs, hx⟩ := List.exists_cons_of_ne_nil hne
    refine ⟨hap i hi hne, ?_⟩
    rw [hx] at hr
    have hc := hr.2 0 x rfl 0 (.int .i64 x) rfl
    obtain ⟨o, ho⟩ := block_some hc
    exact (Array.getElem?_eq_some_iff.1 ho).1
  have hblk : ∀ (W : World), (∀ k, k < w.heap.size → k ≠ g' → W.heap[k]? = w.heap[k]?) → ∀ i : Fin n, Rd encI 1 (enc i) (nth RR (i : Int)) W := fun W hW i =>
    (hrow i.1 i.2).other (fun hne => hW _ (hrowb i.1 i.2 hne).2 (hrowb i.1 i.2 hne).1)
  have hC : CmpLays1 P f75 #[] enc (fun i j : Fin n => Q.cmpL (nth RR (i : Int)) (nth RR (j : Int))) g' 0 d.size w := fun m os dk hs x y => by
    have hW := hblk (sortWorld enc w g' 0 m dk os) (fun k hk hne => sortWorld_block hk hne)
    have h := (hcmp _ _ _ _ _ (hW x) (hW y) (hlen x.1 x.2) (hlen y.1 y.2)).calls
    refine (callsIn_wide.1 h).mono fun e w' ⟨he, hw⟩ => ⟨he, 0, #[], ?_⟩
    rw [hw, grow_empty]; rfl
  have hS := Any.slices_SortFunc L enc hO (fun i j : Fin n => Q.cmpL (nth RR (i : Int)) (nth RR (j : Int))) (swo_cmp fun i : Fin n => nth RR (i : Int)) f75 #[] g' 0 cap d w eg hC hH hlt (by rw [hds]; show TT.length < _; omega)
  rw [hds] at hS
  rw [hv]
  refine ⟨fun w' => en _ w', CallsIn.mono (callsIn_wide.2 hS) ?_⟩
  rintro e w' ⟨rfl, d', m, os, ⟨hsz', _, hperm⟩, hsort, rfl⟩
  refine ⟨_, rfl, ⟨rfl, rfl, rfl, ?_, fun k hk hne => sortWorld_block hk (by omega)⟩, fun w'' ha => ⟨rfl, d'.toList.map Fin.val, ?_, ?_, ?_⟩⟩
  · unfold sortWorld grow putRow mapBlock
    show w.heap.size ≤ ((Sort.ahead w m).heap.modify g' _ ++ os).size
    simp [Sort.ahead]
  · have e1 : (d'.extract 0 n).toList = d'.toList := extract_all (by rw [hsz', hds])
    have e2 : (d.extract 0 n).toList = d.toList := extract_all hds
    rw [e1, e2] at hperm
    have e3 : d.toList.map Fin.val = List.range n := by
      refine List.ext_getElem (by simp [d]) fun i h1 h2 => ?_
      simp [d]
    rw [← e3]
    exact hperm.map _
  · rw [List.map_map, List.pairwise_map, List.pairwise_iff_getElem]
    intro i j hi hj hij
    have hi' : i < d'.size := by simpa using hi
    have hj' : j < d'.size := by simpa using hj
    have := hsort i j (Nat.zero_le _) hij (by rw [← hds, ← hsz']; exact hj')
    rw [getElem!_pos d' i hi', getElem!_pos d' j hj'] at this
    simpa [ltOf] using this
  · have hd's : d'.size = n := by rw [hsz', hds]
    have hown := sortWorld_own (enc := enc) (w := w) (off := 0) (m := m) (dk := d') (os := os) hb
    have hb2 := (ha.block g' (Nat.le_refl _) (Nat.lt_succ_self _)).trans hown
    refine ⟨by simp [encV, hd's], .inr ⟨g', cap, putCells enc 0 d' cur, ?_, Nat.zero_le _, hb2, ?_, hcap, ?_, ?_⟩⟩
    · simp [hd's]; rfl
    · simp [hd's]; exact hnc
    · simp [putCells]; exact hcs
    · have hlen' : (d'.toList.map Fin.val).length = n := by simp [hd's]
      rw [List.map_map]
      refine List.ext_getElem? fun k => ?_
      have e2 : (List.map ((fun i : Nat => nth TT (i : Int)) ∘ Fin.val) d'.toList).flatMap encV = (d'.toList.map fun i => enc i) := by
        show (List.map ((fun i : Nat => nth TT (i : Int)) ∘ Fin.val) d'.toList).flatMap (fun x => [x.1]) = _
        rw [← List.map_eq_flatMap, List.map_map]; rfl
      rw [e2, List.getElem?_take]
      simp only [List.length_map, Array.length_toList, hd's, Nat.mul_one]
      by_cases hk : k < n
      · have hkc : k < cur.size := by rw [hcs]; omega
        rw [if_pos hk, Array.getElem?_toList, List.getElem?_map, Array.getElem?_toList]
        simp only [putCells, Array.getElem?_mapIdx, Array.getElem?_eq_getElem hkc, Option.map_some, Nat.sub_zero]
        rw [if_pos ⟨Nat.zero_le _, by omega⟩, getElem!_pos d' k (by omega), Array.getElem?_eq_getElem (by omega)]
        rfl
      · rw [if_neg hk, List.getElem?_eq_none (by simp [hd's]; omega)]
end Go.Fip

namespace Go.Fip
open Go.Proofs
namespace T
theorem mixed : Try.prog.follows .mixedOrders = true := by kernel_rfl
theorem sz2 : (Try.prog.info? 2).map (·.size) = some 1 := by kernel_rfl
theorem one2 : TOne Try.prog 2 := fun _ => by kernel_rfl
theorem sz3 : (Try.prog.info? 3).map (·.size) = some 1 := by kernel_rfl
theorem one3 : TOne Try.prog 3 := fun _ => by kernel_rfl
theorem sz4 : (Try.prog.info? 4).map (·.size) = some 1 := by kernel_rfl
theorem one4 : TOne Try.prog 4 := fun _ => by kernel_rfl
theorem sz5 : (Try.prog.info? 5).map (·.size) = some 1 := by kernel_rfl
theorem one5 : TOne Try.prog 5 := fun _ => by kernel_rfl
theorem sz9 : (Try.prog.info? 9).map (·.size) = some 1 := by kernel_rfl
theorem one9 : TOne Try.prog 9 := fun _ => by kernel_rfl
theorem sz22 : (Try.prog.info? 22).map (·.size) = some 1 := by kernel_rfl
theorem sl22 : TSlice Try.prog 22 3 1 := ⟨by kernel_rfl, by kernel_rfl⟩
theorem one22 : TOne Try.prog 22 := fun _ => by kernel_rfl
theorem sz24 : (Try.prog.info? 24).map (·.size) = some 1 := by kernel_rfl
theorem one24 : TOne Try.prog 24 := fun _ => by kernel_rfl
theorem one28 : TOne Try.prog 28 := fun _ => by kernel_rfl
theorem sz30 : (Try.prog.info? 30).map (·.size) = some 1 := by kernel_rfl
theorem sl30 : TSlice Try.prog 30 2 1 := ⟨by kernel_rfl, by kernel_rfl⟩
theorem one30 : TOne Try.prog 30 := fun _ => by kernel_rfl
theorem sz44 : (Try.prog.info? 44).map (·.size) = some 1 := by kernel_rfl
theorem sl44 : TSlice Try.prog 44 5 1 := ⟨by kernel_rfl, by kernel_rfl⟩
theorem one44 : TOne Try.prog 44 := fun _ => by kernel_rfl
theorem sz45 : (Try.prog.info? 45).map (·.size) = some 1 := by kernel_rfl
theorem sl45 : TSlice Try.prog 45 30 1 := ⟨by kernel_rfl, by kernel_rfl⟩
theorem one45 : TOne Try.prog 45 := fun _ => by kernel_rfl
theorem sz58 : (Try.prog.info? 58).map (·.size) = some 1 := by kernel_rfl
theorem one58 : TOne Try.prog 58 := fun _ => by kernel_rfl
theorem sz76 : (Try.prog.info? 76).map (·.size) = some 1 := by kernel_rfl
theorem one76 : TOne Try.prog 76 := fun _ => by kernel_rfl
theorem one79 : TOne Try.prog 79 := fun _ => by kernel_rfl
theorem sz80 : (Try.prog.info? 80).map (·.size) = some 2 := by kernel_rfl
theorem agg80 : TAgg Try.prog 80 2 := ⟨fun _ => by kernel_rfl, by kernel_rfl⟩
theorem f80_0 : TField Try.prog 80 0 0 := tfield_of Try.underlying80 rfl rfl ⟨0, by kernel_rfl⟩
theorem f80_1 : TField Try.prog 80 1 1 := tfield_of Try.underlying80 rfl rfl ⟨0, by kernel_rfl⟩
theorem sz81 : (Try.prog.info? 81).map (·.size) = some 2 := by kernel_rfl
theorem agg81 : TAgg Try.prog 81 2 := ⟨fun _ => by kernel_rfl, by kernel_rfl⟩
theorem f81_0 : TField Try.prog 81 0 0 := tfield_of Try.underlying81 rfl rfl ⟨0, by kernel_rfl⟩
theorem f81_1 : TField Try.prog 81 1 1 := tfield_of Try.underlying81 rfl rfl ⟨0, by kernel_rfl⟩
theorem sz83 : (Try.prog.info? 83).map (·.size) = some 1 := by kernel_rfl
theorem agg83 : TAgg Try.prog 83 1 := ⟨fun _ => by kernel_rfl, by kernel_rfl⟩
theorem f83_0 : TField Try.prog 83 0 0 := tfield_of Try.underlying83 rfl rfl ⟨0, by kernel_rfl⟩
theorem sz84 : (Try.prog.info? 84).map (·.size) = some 1 := by kernel_rfl
theorem agg84 : TAgg Try.prog 84 1 := ⟨fun _ => by kernel_rfl, by kernel_rfl⟩
theorem f84_0 : TField Try.prog 84 0 0 := tfield_of Try.underlying84 rfl rfl ⟨0, by kernel_rfl⟩
theorem sz85 : (Try.prog.info? 85).map (·.size) = some 1 := by kernel_rfl
theorem one85 : TOne Try.prog 85 := fun _ => by kernel_rfl
theorem sz86 : (Try.prog.info? 86).map (·.size) = some 2 := by kernel_rfl
theorem agg86 : TAgg Try.prog 86 2 := ⟨fun _ => by kernel_rfl, by kernel_rfl⟩
theorem f86_0 : TField Try.prog 86 0 0 := tfield_of Try.underlying86 rfl rfl ⟨0, by kernel_rfl⟩
theorem f86_1 : TField Try.prog 86 1 1 := tfield_of Try.underlying86 rfl rfl ⟨0, by kernel_rfl⟩
theorem sz87 : (Try.prog.info? 87).map (·.size) = some 2 := by kernel_rfl
theorem agg87 : TAgg Try.prog 87 2 := ⟨fun _ => by kernel_rfl, by kernel_rfl⟩
theorem f87_0 : TField Try.prog 87 0 0 := tfield_of Try.underlying87 rfl rfl ⟨0, by kernel_rfl⟩
theorem f87_1 : TField Try.prog 87 1 1 := tfield_of Try.underlying87 rfl rfl ⟨0, by kernel_rfl⟩
theorem sz88 : (Try.prog.info? 88).map (·.size) = some 4 := by kernel_rfl
theorem agg88 : TAgg Try.prog 88 4 := ⟨fun _ => by kernel_rfl, by kernel_rfl⟩
theorem f88_0 : TField Try.prog 88 0 0 := tfield_of Try.underlying88 rfl rfl ⟨0, by kernel_rfl⟩
theorem f88_1 : TField Try.prog 88 1 1 := tfield_of Try.underlying88 rfl rfl ⟨0, by kernel_rfl⟩
theorem f88_2 : TField Try.prog 88 2 2 := tfield_of Try.underlying88 rfl rfl ⟨0, by kernel_rfl⟩
theorem f88_3 : TField Try.prog 88 3 3 := tfield_of Try.underlying88 rfl rfl ⟨0, by kernel_rfl⟩
theorem sz89 : (Try.prog.info? 89).map (·.size) = some 4 := by kernel_rfl
theorem agg89 : TAgg Try.prog 89 4 := ⟨fun _ => by kernel_rfl, by kernel_rfl⟩
theorem f89_0 : TField Try.prog 89 0 0 := tfield_of Try.underlying89 rfl rfl ⟨0, by kernel_rfl⟩
theorem f89_1 : TField Try.prog 89 1 1 := tfield_of Try.underlying89 rfl rfl ⟨0, by kernel_rfl⟩
theorem f89_2 : TField Try.prog 89 2 2 := tfield_of Try.underlying89 rfl rfl ⟨0, by kernel_rfl⟩
theorem f89_3 : TField Try.prog 89 3 3 := tfield_of Try.underlying89 rfl rfl ⟨0, by kernel_rfl⟩
theorem sz90 : (Try.prog.info? 90).map (·.size) = some 1 := by kernel_rfl
theorem sl90 : TSlice Try.prog 90 89 4 := ⟨by kernel_rfl, by kernel_rfl⟩
theorem one90 : TOne Try.prog 90 := fun _ => by kernel_rfl
theorem sz91 : (Try.prog.info? 91).map (·.size) = some 1 := by kernel_rfl
theorem sl91 : TSlice Try.prog 91 90 1 := ⟨by kernel_rfl, by kernel_rfl⟩
theorem one91 : TOne Try.prog 91 := fun _ => by kernel_rfl
theorem sz100 : (Try.prog.info? 100).map (·.size) = some 1 := by kernel_rfl
theorem sl100 : TSlice Try.prog 100 22 1 := ⟨by kernel_rfl, by kernel_rfl⟩
theorem one100 : TOne Try.prog 100 := fun _ => by kernel_rfl
theorem one102 : TOne Try.prog 102 := fun _ => by kernel_rfl
theorem one105 : TOne Try.prog 105 := fun _ => by kernel_rfl
theorem one106 : TOne Try.prog 106 := fun _ => by kernel_rfl
theorem one110 : TOne Try.prog 110 := fun _ => by kernel_rfl
theorem sz111 : (Try.prog.info? 111).map (·.size) = some 12 := by kernel_rfl
theorem arr111 : TArr Try.prog 111 12 3 1 := ⟨by kernel_rfl, by kernel_rfl⟩
theorem agg111 : TAgg Try.prog 111 12 := ⟨fun _ => by kernel_rfl, by kernel_rfl⟩
theorem sz112 : (Try.prog.info? 112).map (·.size) = some 12 := by kernel_rfl
theorem arr112 : TArr Try.prog 112 12 3 1 := ⟨by kernel_rfl, by kernel_rfl⟩
theorem agg112 : TAgg Try.prog 112 12 := ⟨fun _ => by kernel_rfl, by kernel_rfl⟩
theorem sz118 : (Try.prog.info? 118).map (·.size) = some 1 := by kernel_rfl
theorem one118 : TOne Try.prog 118 := fun _ => by kernel_rfl
theorem sz121 : (Try.prog.info? 121).map (·.size) = some 1 := by kernel_rfl
theorem sl121 : TSlice Try.prog 121 100 1 := ⟨by kernel_rfl, by kernel_rfl⟩
theorem one121 : TOne Try.prog 121 := fun _ => by kernel_rfl
theorem one124 : TOne Try.prog 124 := fun _ => by kernel_rfl
theorem one128 : TOne Try.prog 128 := fun _ => by kernel_rfl
theorem sz133 : (Try.prog.info? 133).map (·.size) = some 1 := by kernel_rfl
theorem one133 : TOne Try.prog 133 := fun _ => by kernel_rfl
theorem sz140 : (Try.prog.info? 140).map (·.size) = some 1 := by kernel_rfl
theorem one140 : TOne Try.prog 140 := fun _ => by kernel_rfl
theorem sz142 : (Try.prog.info? 142).map (·.size) = some 1 := by kernel_rfl
theorem one142 : TOne Try.prog 142 := fun _ => by kernel_rfl
theorem sz143 : (Try.prog.info? 143).map (·.size) = some 1 := by kernel_rfl
theorem one143 : TOne Try.prog 143 := fun _ => by kernel_rfl
theorem sz147 : (Try.prog.info? 147).map (·.size) = some 1 := by kernel_rfl
theorem one147 : TOne Try.prog 147 := fun _ => by kernel_rfl
theorem sz149 : (Try.prog.info? 149).map (·.size) = some 1 := by kernel_rfl
theorem one149 : TOne Try.prog 149 := fun _ => by kernel_rfl
theorem el22_encI : El Try.prog 22 3 1 encI := el_of (z := (.int .i64 0)) (bytes := 8) (by kernel_rfl) (by kernel_rfl) rfl rfl rfl (fun _ => rfl) (by simp [encI, Value.oneCell'])
theorem el30_encI : El Try.prog 30 2 1 encI := el_of (z := (.int .i64 0)) (bytes := 8) (by kernel_rfl) (by kernel_rfl) rfl rfl rfl (fun _ => rfl) (by simp [encI, Value.oneCell'])
theorem el44_encB : El Try.prog 44 5 1 encB := el_of (z := (.int .u8 0)) (bytes := 1) (by kernel_rfl) (by kernel_rfl) rfl rfl rfl (fun _ => rfl) (by simp [encB, Value.oneCell'])
theorem eqi81 : EqI Try.prog 81 2 := eqi_struct' (by kernel_rfl) (by kernel_rfl) (by kernel_rfl) (by kernel_rfl) (by kernel_rfl)
theorem z22_encI : ∀ i, Try.prog.info? 3 = some i → i.zero.map (·.cells.toList) = some (encI 0) := z_of (z := (.int .i64 0)) (by kernel_rfl) rfl
theorem z30_encI : ∀ i, Try.prog.info? 2 = some i → i.zero.map (·.cells.toList) = some (encI 0) := z_of (z := (.int .i64 0)) (by kernel_rfl) rfl
end T
end Go.Fip

set_option linter.unusedVariables false
set_option linter.unusedSimpArgs false
set_option linter.unusedSectionVars false
set_option linter.unnecessarySimpa false
namespace Go.Fip
open Go.Proofs Go.RowKit

theorem c22 {v : Value} {l : List Int} {w : World} (h0 : Rd encI 1 v l w)  :
    Fn Try.prog 22 [v].toArray w (fun u _ => u = .bool (decide (16 < (l.length : Int)))) := by
  refine fn_of' (args := [v]) Try.func22 rfl (ent Try.func22 (by kernel_rfl) rfl) rfl rfl (fun hH => ?_)
  refine seq (region (ops_y hH rfl rfl (yv_assign rfl) (ops_nil (thn_n (seq (region (ops_y hH rfl rfl (yv_move rfl) ?_)))))))
  refine ops_y hH rfl rfl (yv_len T.sl30 rfl (h0.now hH (n := 0) rfl).is) ?_
  refine ops_y hH rfl rfl (yv_gtr rfl rfl) ?_
  refine ops_y hH rfl rfl (yv_assign rfl) (ops_nil (thn_n (ret ?_)))
  refine fin hH (fun w' hf => (res1 rfl (show RV _ _ _ (.tmp 2) _ from rfl))) (fun w' hf => ?_)
  rfl

theorem c21 {v u : Value} {l m : List Int} {w : World} (h0 : Rd encI 1 v l w) (h1 : Rd encI 1 u m w) (hn : l.length ≤ 1000000) (hn2 : m.length ≤ 1000000)  :
    Fn Try.prog 21 [v, u].toArray w (fun u _ => u = .bool (decide (l = m))) := by
  refine fn_of' (args := [v, u]) Try.func21 rfl (ent Try.func21 (by kernel_rfl) rfl) rfl rfl (fun hH => ?_)
  refine seq (region (ops_y hH rfl rfl (yv_assign rfl) (ops_nil (thn_n (seq (seq (region (ops_y hH rfl rfl (yv_move rfl) ?_))))))))
  refine ops_y hH rfl rfl (yv_len T.sl22 rfl (h0.now hH (n := 0) rfl).is) ?_
  refine ops_y hH rfl rfl (yv_move rfl) ?_
  refine ops_y hH rfl rfl (yv_len T.sl22 rfl (h1.now hH (n := 0) rfl).is) ?_
  refine ops_y hH rfl rfl (yv_neq rfl rfl) ?_
  refine ops_nil (thn_n ?_)
  by_cases hc1 : (l.length : Int) = (m.length : Int)
  · skip
    refine cond_f rfl (not_decide_n hc1) ?_
    refine skip (thn_n (seq (seq (region (ops_y hH rfl rfl (yv_assign rfl) (ops_nil (thn_n (block ?_))))))))
    refine loop (S := Nat) (fun k => [(5, (.int .i64 (k : Int))), (0, v), (1, u)]) (fun k w1 => Heap [base w] w1 ∧ k ≤ l.length ∧ ∀ i, i < k → nth l (i : Int) = nth m (i : Int)) (fun k => l.length - k) (0) (Sub.cons rfl (Sub.cons rfl (Sub.cons rfl (Sub.nil _)))) ?_ ?_
    · exact ⟨hH, by omega, S.all_zero⟩
    · rintro k w2 ⟨hH3, hk, hall⟩
      show Holds _ _ _ _ _ [(5, (.int .i64 (k : Int))), (0, v), (1, u)] _ _
      refine seq (seq (region (ops_y hH3 rfl rfl (yv_move rfl) (ops_y hH3 rfl rfl (yv_move rfl) ?_))))
      refine ops_y hH3 rfl rfl (yv_len T.sl22 rfl (h0.now hH3 (n := 0) rfl).is) ?_
      refine ops_y hH3 rfl rfl (yv_lss rfl rfl) ?_
      refine ops_nil (thn_n ?_)
      by_cases hc4 : (k : Int) < (l.length : Int)
      · skip
        refine cond_t rfl (decide_eq_true hc4) ?_
        refine skip (thn_n (seq (block (seq ?_))))
        refine region_draw (fun w' => Heap [base w] w') T.mixed (fun w5 hr6 => ?_)
        have hH7 := hH3.redrawn hr6
        refine any_takes [0, 1, 2, 3, 4, 5, 6, 7, 8] (by kernel_rfl) hH7 _ _ _ (by kernel_rfl) ?_
        refine qs_y rfl rfl (yv_move rfl) (qs_y rfl rfl (yv_move rfl) ?_)
        refine qs_y rfl rfl (yv_index T.sl22 rfl rfl (h0.now hH7 (n := 0) rfl).is (by omega)) ?_
        refine qs_y rfl rfl (yv_load T.one3 rfl (fun _ hw => Rd.at (h0.now hw (n := 0) rfl) (i := (k : Int)) (by omega) (j := 0) rfl)) ?_
        refine qs_y rfl rfl (yv_move rfl) (qs_y rfl rfl (yv_move rfl) ?_)
        refine qs_y rfl rfl (yv_index T.sl22 rfl rfl (h1.now hH7 (n := 0) rfl).is (by omega)) ?_
        refine qs_y rfl rfl (yv_load T.one3 rfl (fun _ hw => Rd.at (h1.now hw (n := 0) rfl) (i := (k : Int)) (by omega) (j := 0) rfl)) ?_
        refine qs_y rfl rfl (yv_neq rfl rfl) ?_
        refine qs_nil ?_
        refine any_done (by kernel_rfl) ?_
        refine thn_n ?_
        by_cases hc8 : (nth l (k : Int)) = (nth m (k : Int))
        · skip
          refine cond_f rfl (not_decide_n hc8) ?_
          refine skip (blk_n (thn_n (region (ops_y hH7 rfl rfl (yv_move rfl) ?_))))
          refine ops_y hH7 rfl rfl (yv_add rfl rfl (by omega)) ?_
          refine ops_y hH7 rfl rfl (yv_assign rfl) (ops_nil ?_)
          refine lp_n (k + 1) (Sub.cons rfl (Sub.cons rfl (Sub.cons rfl (Sub.nil _)))) ?_ ?_
          · exact ⟨hH7, by omega, S.all_snoc hall (by omega)⟩
          · first | (dsimp only; omega) | (show _ < _; omega)
        · skip
          refine cond_t rfl (not_decide_t hc8) ?_
          refine seq (region (ops_y hH7 rfl rfl (yv_assign rfl) (ops_nil (thn_n (ret (blk_r (thn_r (lp_r (blk_r ?_)))))))))
          refine thn_r ?_
          refine fin hH7 (fun w' hf => (res1 rfl (show RV _ _ _ (.tmp 4) _ from rfl))) (fun w' hf => ?_)
          first | exact congrArg Value.bool (decide_eq_false (fun e => by subst e; omega)).symm | exact congrArg Value.bool (decide_eq_true (S.ext_nth (by omega) (fun i hi => hall i (by omega)))).symm
      · skip
        refine cond_f rfl (decide_eq_false hc4) ?_
        refine exit (thn_x (lp_x (blk_here (thn_n (seq (region (ops_y hH3 rfl rfl (yv_assign rfl) (ops_nil (thn_n ?_)))))))))
        refine ret ?_
        refine fin hH3 (fun w' hf => (res1 rfl (show RV _ _ _ (.tmp 4) _ from rfl))) (fun w' hf => ?_)
        first | exact congrArg Value.bool (decide_eq_false (fun e => by subst e; omega)).symm | exact congrArg Value.bool (decide_eq_true (S.ext_nth (by omega) (fun i hi => hall i (by omega)))).symm
  · skip
    refine cond_t rfl (not_decide_t hc1) ?_
    refine seq (region (ops_y hH rfl rfl (yv_assign rfl) (ops_nil (thn_n (ret (thn_r ?_))))))
    refine fin hH (fun w' hf => (res1 rfl (show RV _ _ _ (.tmp 4) _ from rfl))) (fun w' hf => ?_)
    first | exact congrArg Value.bool (decide_eq_false (fun e => by subst e; omega)).symm | exact congrArg Value.bool (decide_eq_true (S.ext_nth (by omega) (fun i hi => hall i (by omega)))).symm

theorem c83 {v u : Value} {l m : List Int} {w : World} (h0 : Rd encI 1 v l w) (h1 : Rd encI 1 u m w) (hn : l.length ≤ 1000000) (hn2 : m.length ≤ 1000000)  :
    Fn Try.prog 83 [v, u].toArray w (fun u _ => u = .bool (decide (l = m))) := by
  refine fn_of' (args := [v, u]) Try.func83 rfl (ent Try.func83 (by kernel_rfl) rfl) rfl rfl (fun hH => ?_)
  refine seq (region (ops_y hH rfl rfl (yv_assign rfl) (ops_nil (thn_n (seq (seq (region (ops_y hH rfl rfl (yv_move rfl) ?_))))))))
  refine ops_y hH rfl rfl (yv_len T.sl30 rfl (h0.now hH (n := 0) rfl).is) ?_
  refine ops_y hH rfl rfl (yv_move rfl) ?_
  refine ops_y hH rfl rfl (yv_len T.sl30 rfl (h1.now hH (n := 0) rfl).is) ?_
  refine ops_y hH rfl rfl (yv_neq rfl rfl) ?_
  refine ops_nil (thn_n ?_)
  by_cases hc1 : (l.length : Int) = (m.length : Int)
  · skip
    refine cond_f rfl (not_decide_n hc1) ?_
    refine skip (thn_n (seq (seq (region (ops_y hH rfl rfl (yv_assign rfl) (ops_nil (thn_n (block ?_))))))))
    refine loop (S := Nat) (fun k => [(5, (.int .i64 (k : Int))), (0, v), (1, u)]) (fun k w1 => Heap [base w] w1 ∧ k ≤ l.length ∧ ∀ i, i < k → nth l (i : Int) = nth m (i : Int)) (fun k => l.length - k) (0) (Sub.cons rfl (Sub.cons rfl (Sub.cons rfl (Sub.nil _)))) ?_ ?_
    · exact ⟨hH, by omega, S.all_zero⟩
    · rintro k w2 ⟨hH3, hk, hall⟩
      show Holds _ _ _ _ _ [(5, (.int .i64 (k : Int))), (0, v), (1, u)] _ _
      refine seq (seq (region (ops_y hH3 rfl rfl (yv_move rfl) (ops_y hH3 rfl rfl (yv_move rfl) ?_))))
      refine ops_y hH3 rfl rfl (yv_len T.sl30 rfl (h0.now hH3 (n := 0) rfl).is) ?_
      refine ops_y hH3 rfl rfl (yv_lss rfl rfl) ?_
      refine ops_nil (thn_n ?_)
      by_cases hc4 : (k : Int) < (l.length : Int)
      · skip
        refine cond_t rfl (decide_eq_true hc4) ?_
        refine skip (thn_n (seq (block (seq ?_))))
        refine region_draw (fun w' => Heap [base w] w') T.mixed (fun w5 hr6 => ?_)
        have hH7 := hH3.redrawn hr6
        refine any_takes [0, 1, 2, 3, 4, 5, 6, 7, 8] (by kernel_rfl) hH7 _ _ _ (by kernel_rfl) ?_
        refine qs_y rfl rfl (yv_move rfl) (qs_y rfl rfl (yv_move rfl) ?_)
        refine qs_y rfl rfl (yv_index T.sl30 rfl rfl (h0.now hH7 (n := 0) rfl).is (by omega)) ?_
        refine qs_y rfl rfl (yv_load T.one2 rfl (fun _ hw => Rd.at (h0.now hw (n := 0) rfl) (i := (k : Int)) (by omega) (j := 0) rfl)) ?_
        refine qs_y rfl rfl (yv_move rfl) (qs_y rfl rfl (yv_move rfl) ?_)
        refine qs_y rfl rfl (yv_index T.sl30 rfl rfl (h1.now hH7 (n := 0) rfl).is (by omega)) ?_
        refine qs_y rfl rfl (yv_load T.one2 rfl (fun _ hw => Rd.at (h1.now hw (n := 0) rfl) (i := (k : Int)) (by omega) (j := 0) rfl)) ?_
        refine qs_y rfl rfl (yv_neq rfl rfl) ?_
        refine qs_nil ?_
        refine any_done (by kernel_rfl) ?_
        refine thn_n ?_
        by_cases hc8 : (nth l (k : Int)) = (nth m (k : Int))
        · skip
          refine cond_f rfl (not_decide_n hc8) ?_
          refine skip (blk_n (thn_n (region (ops_y hH7 rfl rfl (yv_move rfl) ?_))))
          refine ops_y hH7 rfl rfl (yv_add rfl rfl (by omega)) ?_
          refine ops_y hH7 rfl rfl (yv_assign rfl) (ops_nil ?_)
          refine lp_n (k + 1) (Sub.cons rfl (Sub.cons rfl (Sub.cons rfl (Sub.nil _)))) ?_ ?_
          · exact ⟨hH7, by omega, S.all_snoc hall (by omega)⟩
          · first | (dsimp only; omega) | (show _ < _; omega)
        · skip
          refine cond_t rfl (not_decide_t hc8) ?_
          refine seq (region (ops_y hH7 rfl rfl (yv_assign rfl) (ops_nil (thn_n (ret (blk_r (thn_r (lp_r (blk_r ?_)))))))))
          refine thn_r ?_
          refine fin hH7 (fun w' hf => (res1 rfl (show RV _ _ _ (.tmp 4) _ from rfl))) (fun w' hf => ?_)
          first | exact congrArg Value.bool (decide_eq_false (fun e => by subst e; omega)).symm | exact congrArg Value.bool (decide_eq_true (S.ext_nth (by omega) (fun i hi => hall i (by omega)))).symm
      · skip
        refine cond_f rfl (decide_eq_false hc4) ?_
        refine exit (thn_x (lp_x (blk_here (thn_n (seq (region (ops_y hH3 rfl rfl (yv_assign rfl) (ops_nil (thn_n ?_)))))))))
        refine ret ?_
        refine fin hH3 (fun w' hf => (res1 rfl (show RV _ _ _ (.tmp 4) _ from rfl))) (fun w' hf => ?_)
        first | exact congrArg Value.bool (decide_eq_false (fun e => by subst e; omega)).symm | exact congrArg Value.bool (decide_eq_true (S.ext_nth (by omega) (fun i hi => hall i (by omega)))).symm
  · skip
    refine cond_t rfl (not_decide_t hc1) ?_
    refine seq (region (ops_y hH rfl rfl (yv_assign rfl) (ops_nil (thn_n (ret (thn_r ?_))))))
    refine fin hH (fun w' hf => (res1 rfl (show RV _ _ _ (.tmp 4) _ from rfl))) (fun w' hf => ?_)
    first | exact congrArg Value.bool (decide_eq_false (fun e => by subst e; omega)).symm | exact congrArg Value.bool (decide_eq_true (S.ext_nth (by omega) (fun i hi => hall i (by omega)))).symm

theorem c48 {v : Value} {w : World}  :
    Fn Try.prog 48 [v].toArray w (fun u _ => u = v) := by
  refine fn_of' (args := [v]) Try.func48 rfl (ent Try.func48 (by kernel_rfl) rfl) rfl rfl (fun hH => ?_)
  refine seq (region (ops_y hH rfl rfl (yv_assign rfl) (ops_nil (thn_n (seq (region (ops_y hH rfl rfl (yv_move rfl) (ops_y hH rfl rfl (yv_assign rfl) (ops_nil ?_)))))))))
  refine thn_n (ret ?_)
  refine fin hH (fun w' hf => (res1 rfl (show RV _ _ _ (.tmp 2) _ from rfl))) (fun w' hf => ?_)
  rfl

theorem c52 {v : Value} {w : World}  :
    Fn Try.prog 52 [v].toArray w (fun u _ => u = v) := by
  refine fn_of' (args := [v]) Try.func52 rfl (ent Try.func52 (by kernel_rfl) rfl) rfl rfl (fun hH => ?_)
  refine seq (region (ops_y hH rfl rfl (yv_assign rfl) (ops_nil (thn_n (seq (region (ops_y hH rfl rfl (yv_move rfl) (ops_y hH rfl rfl (yv_assign rfl) (ops_nil ?_)))))))))
  refine thn_n (ret ?_)
  refine fin hH (fun w' hf => (res1 rfl (show RV _ _ _ (.tmp 2) _ from rfl))) (fun w' hf => ?_)
  rfl

theorem inside_iff {l : List Int} {lo hi : Int} : (∀ i, i < l.length → (fun x : Int => decide (x < lo ∨ hi < x)) (nth l (i : Int)) = false) ↔ ∀ x ∈ l, lo ≤ x ∧ x ≤ hi := by
  constructor
  · intro h x hx
    obtain ⟨i, hi', rfl⟩ := List.getElem_of_mem hx
    have := h i hi'
    rw [nth_nat hi'] at this
    simp at this
    omega
  · intro h i hi'
    have := h (nth l (i : Int)) (by rw [nth_nat hi']; exact List.getElem_mem hi')
    simp
    omega

theorem c85 {n : Int} {lo hi : Int} {b1 b2 : Nat} {w : World} (k1 : Bx b1 2 [.int .i64 lo] w) (k2 : Bx b2 2 [.int .i64 hi] w)  :
    Fn Try.prog 85 [(.int .i64 n), (.pointer (some ⟨b1, 0, none⟩)), (.pointer (some ⟨b2, 0, none⟩))].toArray w (fun u _ => u = .bool (decide (n < lo ∨ hi < n))) := by
  refine fn_of' (args := [(.int .i64 n), (.pointer (some ⟨b1, 0, none⟩)), (.pointer (some ⟨b2, 0, none⟩))]) Try.func85 rfl (ent Try.func85 (by kernel_rfl) rfl) rfl rfl (fun hH => ?_)
  refine seq (region (ops_y hH rfl rfl (yv_assign rfl) (ops_nil (thn_n (seq (region (ops_y hH rfl rfl (yv_move rfl) ?_)))))))
  refine ops_y hH rfl rfl (yv_load T.one2 rfl (fun _ hw => bx_cell (k1.now hw (n := 0) rfl) rfl)) ?_
  refine ops_y hH rfl rfl (yv_lss rfl rfl) ?_
  refine ops_y hH rfl rfl (yv_move rfl) ?_
  by_cases hc1 : n < lo
  · skip
    refine guard_no rfl rfl (decide_eq_true hc1) rfl ?_
    refine guard_no rfl rfl (decide_eq_true hc1) rfl ?_
    refine guard_no rfl rfl (decide_eq_true hc1) rfl ?_
    refine ops_y hH rfl rfl (yv_pick_t rfl (decide_eq_true hc1) rfl) ?_
    refine ops_y hH rfl rfl (yv_assign rfl) (ops_nil (thn_n (ret ?_)))
    refine fin hH (fun w' hf => (res1 rfl (show RV _ _ _ (.tmp 4) _ from rfl))) (fun w' hf => ?_)
    first | (show Value.bool _ = Value.bool _; congr 1; rw [Bool.eq_iff_iff]; simp; done) | (show Value.bool _ = Value.bool _; congr 1; rw [Bool.eq_iff_iff]; simp; omega)
  · skip
    refine guard_yes rfl rfl (decide_eq_false hc1) ?_
    refine ops_y hH rfl rfl (yv_move rfl) ?_
    refine guard_yes rfl rfl (decide_eq_false hc1) ?_
    refine ops_y hH rfl rfl (yv_load T.one2 rfl (fun _ hw => bx_cell (k2.now hw (n := 0) rfl) rfl)) ?_
    refine guard_yes rfl rfl (decide_eq_false hc1) ?_
    refine ops_y hH rfl rfl (yv_gtr rfl rfl) ?_
    refine ops_y hH rfl rfl (yv_pick_f rfl (decide_eq_false hc1) rfl) ?_
    refine ops_y hH rfl rfl (yv_assign rfl) (ops_nil (thn_n (ret ?_)))
    refine fin hH (fun w' hf => (res1 rfl (show RV _ _ _ (.tmp 4) _ from rfl))) (fun w' hf => ?_)
    first | (show Value.bool _ = Value.bool _; congr 1; rw [Bool.eq_iff_iff]; simp; done) | (show Value.bool _ = Value.bool _; congr 1; rw [Bool.eq_iff_iff]; simp; omega)

theorem c101 {v : Value} {l : List Int} {lo hi : Int} {b1 b2 : Nat} {w : World} (h0 : Rd encI 1 v l w) (k1 : Bx b1 2 [.int .i64 lo] w) (k2 : Bx b2 2 [.int .i64 hi] w) (hn : l.length ≤ 1000000)  :
    Fn Try.prog 101 [v, (.func (.func 85) #[] #[(.pointer (some ⟨b1, 0, none⟩)), (.pointer (some ⟨b2, 0, none⟩))])].toArray w (fun u _ => u = .int .i64 (idx (fun x : Int => decide (x < lo ∨ hi < x)) l)) := by
  refine fn_of' (args := [v, (.func (.func 85) #[] #[(.pointer (some ⟨b1, 0, none⟩)), (.pointer (some ⟨b2, 0, none⟩))])]) Try.func101 rfl (ent Try.func101 (by kernel_rfl) rfl) rfl rfl (fun hH => ?_)
  refine seq (region (ops_y hH rfl rfl (yv_assign rfl) (ops_nil (thn_n (seq (seq (region (ops_y hH rfl rfl (yv_move rfl) ?_))))))))
  refine ops_y hH rfl rfl (yv_len T.sl30 rfl (h0.now hH (n := 0) rfl).is) ?_
  refine ops_y hH rfl rfl (yv_move rfl) (ops_nil (thn_n (block ?_)))
  refine loop (S := Nat) (fun k => [(8, (.int .i64 (k : Int))), (0, v), (1, (.func (.func 85) #[] #[(.pointer (some ⟨b1, 0, none⟩)), (.pointer (some ⟨b2, 0, none⟩))])), (7, (.int .i64 (l.length : Int)))]) (fun k w1 => Heap [base w] w1 ∧ k ≤ l.length ∧ ∀ i, i < k → (fun x : Int => decide (x < lo ∨ hi < x)) (nth l (i : Int)) = false) (fun k => l.length - k) (0) (Sub.cons rfl (Sub.cons rfl (Sub.cons rfl (Sub.cons rfl (Sub.nil _))))) ?_ ?_
  · exact ⟨hH, by omega, S.all_zero⟩
  · rintro k w1 ⟨hH2, hk, hall⟩
    show Holds _ _ _ _ _ [(8, (.int .i64 (k : Int))), (0, v), (1, (.func (.func 85) #[] #[(.pointer (some ⟨b1, 0, none⟩)), (.pointer (some ⟨b2, 0, none⟩))])), (7, (.int .i64 (l.length : Int)))] _ _
    refine seq (region ?_)
    refine ops_y hH2 rfl rfl (yv_lss rfl rfl) ?_
    refine ops_nil (thn_n (seq ?_))
    by_cases hc3 : (k : Int) < (l.length : Int)
    · skip
      refine cond_t rfl (decide_eq_true hc3) ?_
      refine skip (thn_n (seq (block (seq (region (ops_y hH2 rfl rfl (yv_move rfl) (ops_y hH2 rfl rfl (yv_assign rfl) (ops_nil (thn_n ?_)))))))))
      refine seq (region (ops_y hH2 rfl rfl (yv_move rfl) (ops_y hH2 rfl rfl (yv_move rfl) (ops_y hH2 rfl rfl (yv_move rfl) ?_))))
      refine ops_y hH2 rfl rfl (yv_index T.sl30 rfl rfl (h0.now hH2 (n := 0) rfl).is (by omega)) ?_
      refine ops_y hH2 rfl rfl (yv_load T.one2 rfl (fun _ hw => Rd.at (h0.now hw (n := 0) rfl) (i := (k : Int)) (by omega) (j := 0) rfl)) ?_
      refine op_fnV rfl rfl rfl hH2 (c85 (k1.now hH2 (n := 0) rfl) (k2.now hH2 (n := 0) rfl)) (fun w4 hH5 => ?_)
      refine ops_nil (thn_n ?_)
      by_cases hc6 : nth l (k : Int) < lo ∨ hi < nth l (k : Int)
      · skip
        have hp : (fun x : Int => decide (x < lo ∨ hi < x)) (nth l (k : Int)) = true := (decide_eq_true hc6)
        refine cond_t rfl (decide_eq_true hc6) ?_
        refine seq (region (ops_y hH5 rfl rfl (yv_move rfl) (ops_y hH5 rfl rfl (yv_assign rfl) (ops_nil (thn_n (ret (blk_r (thn_r (lp_r ?_)))))))))
        refine blk_r (thn_r ?_)
        refine fin hH5 (fun w' hf => (res1 rfl (show RV _ _ _ (.tmp 4) _ from rfl))) (fun w' hf => ?_)
        first | exact congrArg (Value.int .i64) (idx_hit (k := k) (by omega) hall hp).symm | exact congrArg (Value.int .i64) (idx_miss (fun i hi => hall i (by omega))).symm
      · skip
        have hp : (fun x : Int => decide (x < lo ∨ hi < x)) (nth l (k : Int)) = false := (decide_eq_false hc6)
        refine cond_f rfl (decide_eq_false hc6) ?_
        refine skip (blk_n (thn_n (region ?_)))
        refine ops_y hH5 rfl rfl (yv_add rfl rfl (by omega)) ?_
        refine ops_y hH5 rfl rfl (yv_move rfl) (ops_nil ?_)
        refine lp_n (k + 1) (Sub.cons rfl (Sub.cons rfl (Sub.cons rfl (Sub.cons rfl (Sub.nil _))))) ?_ ?_
        · exact ⟨hH5, by omega, S.all_snoc hall hp⟩
        · first | (dsimp only; omega) | (show _ < _; omega)
    · skip
      refine cond_f rfl (decide_eq_false hc3) ?_
      refine exit (thn_x (lp_x (blk_here (thn_n (seq (region (ops_y hH2 rfl rfl (yv_assign rfl) (ops_nil (thn_n ?_)))))))))
      refine ret ?_
      refine fin hH2 (fun w' hf => (res1 rfl (show RV _ _ _ (.tmp 4) _ from rfl))) (fun w' hf => ?_)
      first | exact congrArg (Value.int .i64) (idx_hit (k := k) (by omega) hall hp).symm | exact congrArg (Value.int .i64) (idx_miss (fun i hi => hall i (by omega))).symm

theorem c84 {v : Value} {l : List Int} {lo hi : Int} {b1 b2 : Nat} {w : World} (h0 : Rd encI 1 v l w) (k1 : Bx b1 2 [.int .i64 lo] w) (k2 : Bx b2 2 [.int .i64 hi] w) (hn : l.length ≤ 1000000)  :
    Fn Try.prog 84 [v, (.func (.func 85) #[] #[(.pointer (some ⟨b1, 0, none⟩)), (.pointer (some ⟨b2, 0, none⟩))])].toArray w (fun u _ => u = .bool (has (fun x : Int => decide (x < lo ∨ hi < x)) l)) := by
  refine fn_of' (args := [v, (.func (.func 85) #[] #[(.pointer (some ⟨b1, 0, none⟩)), (.pointer (some ⟨b2, 0, none⟩))])]) Try.func84 rfl (ent Try.func84 (by kernel_rfl) rfl) rfl rfl (fun hH => ?_)
  refine seq (region (ops_y hH rfl rfl (yv_assign rfl) (ops_nil (thn_n (seq (region (ops_y hH rfl rfl (yv_move rfl) (ops_y hH rfl rfl (yv_move rfl) ?_))))))))
  refine op_fnV rfl rfl rfl hH (c101 (h0.now hH (n := 0) rfl) (k1.now hH (n := 0) rfl) (k2.now hH (n := 0) rfl) (by omega)) (fun w1 hH2 => ?_)
  refine ops_y hH2 rfl rfl (yv_geq rfl rfl) ?_
  refine ops_y hH2 rfl rfl (yv_assign rfl) (ops_nil (thn_n (ret ?_)))
  refine fin hH2 (fun w' hf => (res1 rfl (show RV _ _ _ (.tmp 4) _ from rfl))) (fun w' hf => ?_)
  rfl

theorem c58 {v : Value} {l : List Int} {lo hi : Int} {w : World} (h0 : Rd encI 1 v l w) (hn : l.length ≤ 1000000)  :
    Fn Try.prog 58 [(.int .i64 lo), (.int .i64 hi), v].toArray w (fun u _ => u = .bool (decide (∀ x ∈ l, lo ≤ x ∧ x ≤ hi))) := by
  refine fn_of' (args := [(.int .i64 lo), (.int .i64 hi), v]) Try.func58 rfl (ent Try.func58 (by kernel_rfl) rfl) rfl rfl (fun hH => ?_)
  refine seq (region ?_)
  refine op_box (us := [(.int .i64 lo)]) rfl rfl rfl hH (fun b1 w2 hH3 => ?_)
  refine op_box (us := [(.int .i64 hi)]) rfl rfl rfl hH3 (fun b4 w5 hH6 => ?_)
  refine ops_y hH6 rfl rfl (yv_assign rfl) (ops_nil (thn_n (seq (region (ops_y hH6 rfl rfl (yv_move rfl) ?_)))))
  refine ops_y hH6 rfl rfl (yv_func rfl rfl) ?_
  refine op_fnV rfl rfl rfl hH6 (c84 (h0.now hH6 (n := 2) rfl) (Heap.bxw hH6 (n := 1) rfl) (Heap.bxw hH6 (n := 0) rfl) hn) (fun w7 hH8 => ?_)
  refine ops_y hH8 rfl rfl (yv_not rfl) ?_
  refine ops_y hH8 rfl rfl (yv_assign rfl) (ops_nil (thn_n (ret ?_)))
  have hH9 := (hH8.sub (List.Sublist.cons _ (List.Sublist.cons _ (List.Sublist.refl _))))
  refine fin hH9 (fun w' hf => (res1 rfl (show RV _ _ _ (.tmp 6) _ from rfl))) (fun w' hf => ?_)
  refine congrArg Value.bool ?_; rw [Bool.eq_iff_iff, Bool.not_eq_true', has_not, decide_eq_true_eq]; exact inside_iff

theorem c58_1 {v : Value} {a lo hi : Int} {w : World} (h0 : Rd encI 1 v [a] w) : Fn Try.prog 58 [.int .i64 lo, .int .i64 hi, v].toArray w (fun u _ => u = .bool (decide (lo ≤ a ∧ a ≤ hi))) := by
  have h := c58 (lo := lo) (hi := hi) h0 (by simp)
  rwa [show decide (∀ x ∈ [a], lo ≤ x ∧ x ≤ hi) = decide (lo ≤ a ∧ a ≤ hi) from decide_eq_decide.2 (by simp)] at h
theorem c58_2 {v : Value} {a b lo hi : Int} {w : World} (h0 : Rd encI 1 v [a, b] w) : Fn Try.prog 58 [.int .i64 lo, .int .i64 hi, v].toArray w (fun u _ => u = .bool (decide ((lo ≤ a ∧ a ≤ hi) ∧ lo ≤ b ∧ b ≤ hi))) := by
  have h := c58 (lo := lo) (hi := hi) h0 (by simp)
  rwa [show decide (∀ x ∈ [a, b], lo ≤ x ∧ x ≤ hi) = decide ((lo ≤ a ∧ a ≤ hi) ∧ lo ≤ b ∧ b ≤ hi) from decide_eq_decide.2 (by simp)] at h

theorem c31 {v : Value} {l : List Int} {w : World} (h0 : Rd encI 1 v l w) (hn : l.length ≤ 1000000)  :
    Fn Try.prog 31 [v].toArray w (fun u _ => u = .int .i64 (Q.ckW l)) := by
  refine fn_of' (args := [v]) Try.func31 rfl (ent Try.func31 (by kernel_rfl) rfl) rfl rfl (fun hH => ?_)
  refine seq (region (ops_y hH rfl rfl (yv_assign rfl) (ops_nil (thn_n (seq (block (seq (region (ops_y hH rfl rfl (yv_move rfl) ?_)))))))))
  refine ops_y hH rfl rfl (yv_len T.sl30 rfl (h0.now hH (n := 0) rfl).is) ?_
  refine op_lit (us := [(0, (.int .i64 (l.length : Int)))]) T.el30_encI [(l.length : Int)] rfl (by decide) rfl (fun a ha => by simp [ha.ev (show ev _ (.tmp 5) = some _ from rfl)]) (fun w => by kernel_rfl) hH (fun u1 lo3 hi4 w2 hH5 => ?_)
  refine op_fnV rfl rfl rfl hH5 (c58_1 (Heap.rdw T.el30_encI hH5 (n := 0) rfl)) (fun w6 hH7 => ?_)
  refine ops_y hH7 rfl rfl (yv_not rfl) ?_
  refine ops_y hH7 rfl rfl (yv_assign rfl) (ops_nil (thn_n ?_))
  by_cases hc8 : 1 ≤ (l.length : Int) ∧ (l.length : Int) ≤ 12
  · skip
    refine cond_f rfl (not_decide_n hc8) ?_
    refine seq ?_
    by_cases hc9 : ∀ x ∈ l, 0 ≤ x ∧ x ≤ 1000
    · skip
      have hgood : ∀ x ∈ l, 0 ≤ x ∧ x ≤ 1000 := ‹_›
      refine region (ops_y hH7 rfl rfl (yv_move rfl) ?_)
      refine op_fnV rfl rfl rfl hH7 (c58 (lo := 0) (hi := 1000) (h0.now hH7 (n := 1) rfl) (by omega)) (fun w10 hH11 => ?_)
      refine ops_y hH11 rfl rfl (yv_not rfl) ?_
      refine ops_y hH11 rfl rfl (yv_assign rfl) (ops_nil (thn_n ?_))
      refine cond_f rfl (bnot_f (decide_eq_true hc9)) ?_
      refine skip (blk_n (thn_n (seq (region (ops_y hH11 rfl rfl (yv_assign rfl) (ops_nil (thn_n (ret ?_))))))))
      have hH12 := (hH11.sub (List.Sublist.cons _ (List.Sublist.refl _)))
      refine fin hH12 (fun w' hf => (res1 rfl (show RV _ _ _ (.tmp 2) _ from rfl))) (fun w' hf => ?_)
      first | exact congrArg (Value.int .i64) (Q.kw1 (by omega)).symm | exact congrArg (Value.int .i64) (Q.kw2 (by omega) hbad).symm | exact congrArg (Value.int .i64) (Q.kw3 (by omega) hgood).symm
    · skip
      have hbad : ¬ ∀ x ∈ l, 0 ≤ x ∧ x ≤ 1000 := ‹_›
      refine region (ops_y hH7 rfl rfl (yv_move rfl) ?_)
      refine op_fnV rfl rfl rfl hH7 (c58 (lo := 0) (hi := 1000) (h0.now hH7 (n := 1) rfl) (by omega)) (fun w13 hH14 => ?_)
      refine ops_y hH14 rfl rfl (yv_not rfl) ?_
      refine ops_y hH14 rfl rfl (yv_assign rfl) (ops_nil (thn_n ?_))
      refine cond_t rfl (bnot_t (decide_eq_false hc9)) ?_
      refine seq (region (ops_y hH14 rfl rfl (yv_assign rfl) (ops_nil (thn_n (ret (blk_r (thn_r ?_)))))))
      have hH15 := (hH14.sub (List.Sublist.cons _ (List.Sublist.refl _)))
      refine fin hH15 (fun w' hf => (res1 rfl (show RV _ _ _ (.tmp 2) _ from rfl))) (fun w' hf => ?_)
      first | exact congrArg (Value.int .i64) (Q.kw1 (by omega)).symm | exact congrArg (Value.int .i64) (Q.kw2 (by omega) hbad).symm | exact congrArg (Value.int .i64) (Q.kw3 (by omega) hgood).symm
  · skip
    refine cond_t rfl (not_decide_t hc8) ?_
    refine seq (region (ops_y hH7 rfl rfl (yv_assign rfl) (ops_nil (thn_n (ret (blk_r (thn_r ?_)))))))
    have hH16 := (hH7.sub (List.Sublist.cons _ (List.Sublist.refl _)))
    refine fin hH16 (fun w' hf => (res1 rfl (show RV _ _ _ (.tmp 2) _ from rfl))) (fun w' hf => ?_)
    first | exact congrArg (Value.int .i64) (Q.kw1 (by omega)).symm | exact congrArg (Value.int .i64) (Q.kw2 (by omega) hbad).symm | exact congrArg (Value.int .i64) (Q.kw3 (by omega) hgood).symm

theorem c32 {v : Value} {l : List Int} {w : World} (h0 : Rd encI 1 v l w) (hn : l.length ≤ 1000000)  :
    Fn Try.prog 32 [v].toArray w (fun u _ => u = .int .i64 (Q.ckW l)) := by
  refine fn_of' (args := [v]) Try.func32 rfl (ent Try.func32 (by kernel_rfl) rfl) rfl rfl (fun hH => ?_)
  refine seq (region (ops_y hH rfl rfl (yv_assign rfl) (ops_nil (thn_n (seq (seq (region (ops_y hH rfl rfl (yv_move rfl) ?_))))))))
  refine ops_y hH rfl rfl (yv_len T.sl30 rfl (h0.now hH (n := 0) rfl).is) ?_
  refine ops_y hH rfl rfl (yv_lss rfl rfl) ?_
  refine ops_y hH rfl rfl (yv_move rfl) ?_
  by_cases hc1 : (l.length : Int) < 1
  · skip
    refine guard_no rfl rfl (decide_eq_true hc1) rfl ?_
    refine guard_no rfl rfl (decide_eq_true hc1) rfl ?_
    refine guard_no rfl rfl (decide_eq_true hc1) rfl ?_
    refine ops_y hH rfl rfl (yv_pick_t rfl (decide_eq_true hc1) rfl) ?_
    refine ops_nil (thn_n ?_)
    refine cond_t rfl rfl ?_
    refine seq (region (ops_y hH rfl rfl (yv_assign rfl) (ops_nil (thn_n (ret (thn_r ?_))))))
    refine fin hH (fun w' hf => (res1 rfl (show RV _ _ _ (.tmp 2) _ from rfl))) (fun w' hf => ?_)
    first | exact congrArg (Value.int .i64) (Q.kw1 (by omega)).symm | exact congrArg (Value.int .i64) (Q.kw2 (by omega) hbad).symm | exact congrArg (Value.int .i64) (Q.kw3 (by omega) hgood).symm
  · skip
    refine guard_yes rfl rfl (decide_eq_false hc1) ?_
    refine ops_y hH rfl rfl (yv_move rfl) ?_
    refine guard_yes rfl rfl (decide_eq_false hc1) ?_
    refine ops_y hH rfl rfl (yv_len T.sl30 rfl (h0.now hH (n := 0) rfl).is) ?_
    refine guard_yes rfl rfl (decide_eq_false hc1) ?_
    refine ops_y hH rfl rfl (yv_gtr rfl rfl) ?_
    refine ops_y hH rfl rfl (yv_pick_f rfl (decide_eq_false hc1) rfl) ?_
    refine ops_nil (thn_n ?_)
    by_cases hc2 : 12 < (l.length : Int)
    · skip
      refine cond_t rfl (decide_eq_true hc2) ?_
      refine seq (region (ops_y hH rfl rfl (yv_assign rfl) (ops_nil (thn_n (ret (thn_r ?_))))))
      refine fin hH (fun w' hf => (res1 rfl (show RV _ _ _ (.tmp 2) _ from rfl))) (fun w' hf => ?_)
      first | exact congrArg (Value.int .i64) (Q.kw1 (by omega)).symm | exact congrArg (Value.int .i64) (Q.kw2 (by omega) hbad).symm | exact congrArg (Value.int .i64) (Q.kw3 (by omega) hgood).symm
    · skip
      refine cond_f rfl (decide_eq_false hc2) ?_
      refine skip (thn_n (seq (seq (region (ops_y hH rfl rfl (yv_assign rfl) (ops_nil (thn_n (block ?_))))))))
      refine loop (S := Nat) (fun k => [(3, (.int .i64 (k : Int))), (0, v)]) (fun k w1 => Heap [base w] w1 ∧ k ≤ l.length ∧ ∀ i, i < k → 0 ≤ nth l (i : Int) ∧ nth l (i : Int) ≤ 1000) (fun k => l.length - k) (0) (Sub.cons rfl (Sub.cons rfl (Sub.nil _))) ?_ ?_
      · exact ⟨hH, by omega, S.all_zero⟩
      · rintro k w3 ⟨hH4, hk, hall⟩
        show Holds _ _ _ _ _ [(3, (.int .i64 (k : Int))), (0, v)] _ _
        refine seq (seq (region (ops_y hH4 rfl rfl (yv_move rfl) (ops_y hH4 rfl rfl (yv_move rfl) ?_))))
        refine ops_y hH4 rfl rfl (yv_len T.sl30 rfl (h0.now hH4 (n := 0) rfl).is) ?_
        refine ops_y hH4 rfl rfl (yv_lss rfl rfl) ?_
        refine ops_nil (thn_n ?_)
        by_cases hc5 : (k : Int) < (l.length : Int)
        · skip
          refine cond_t rfl (decide_eq_true hc5) ?_
          refine skip (thn_n (seq (block (seq (region (ops_y hH4 rfl rfl (yv_move rfl) (ops_y hH4 rfl rfl (yv_move rfl) ?_)))))))
          refine ops_y hH4 rfl rfl (yv_index T.sl30 rfl rfl (h0.now hH4 (n := 0) rfl).is (by omega)) ?_
          refine ops_y hH4 rfl rfl (yv_load T.one2 rfl (fun _ hw => Rd.at (h0.now hw (n := 0) rfl) (i := (k : Int)) (by omega) (j := 0) rfl)) ?_
          refine ops_y hH4 rfl rfl (yv_lss rfl rfl) ?_
          refine ops_y hH4 rfl rfl (yv_move rfl) ?_
          by_cases hc6 : (nth l (k : Int)) < 0
          · skip
            refine guard_no rfl rfl (decide_eq_true hc6) rfl ?_
            refine guard_no rfl rfl (decide_eq_true hc6) rfl ?_
            refine guard_no rfl rfl (decide_eq_true hc6) rfl ?_
            refine guard_no rfl rfl (decide_eq_true hc6) rfl ?_
            refine guard_no rfl rfl (decide_eq_true hc6) rfl ?_
            refine ops_y hH4 rfl rfl (yv_pick_t rfl (decide_eq_true hc6) rfl) ?_
            refine ops_nil (thn_n ?_)
            refine cond_t rfl rfl ?_
            refine seq ?_
            have hbad : ¬ ∀ x ∈ l, 0 ≤ x ∧ x ≤ 1000 := fun h => by have := Q.of_all h (i := k) (by omega); omega
            refine region (ops_y hH4 rfl rfl (yv_assign rfl) (ops_nil (thn_n (ret (blk_r (thn_r (lp_r (blk_r (thn_r ?_)))))))))
            refine fin hH4 (fun w' hf => (res1 rfl (show RV _ _ _ (.tmp 2) _ from rfl))) (fun w' hf => ?_)
            first | exact congrArg (Value.int .i64) (Q.kw1 (by omega)).symm | exact congrArg (Value.int .i64) (Q.kw2 (by omega) hbad).symm | exact congrArg (Value.int .i64) (Q.kw3 (by omega) hgood).symm
          · skip
            refine guard_yes rfl rfl (decide_eq_false hc6) ?_
            refine ops_y hH4 rfl rfl (yv_move rfl) ?_
            refine guard_yes rfl rfl (decide_eq_false hc6) ?_
            refine ops_y hH4 rfl rfl (yv_move rfl) ?_
            refine guard_yes rfl rfl (decide_eq_false hc6) ?_
            refine ops_y hH4 rfl rfl (yv_index T.sl30 rfl rfl (h0.now hH4 (n := 0) rfl).is (by omega)) ?_
            refine guard_yes rfl rfl (decide_eq_false hc6) ?_
            refine ops_y hH4 rfl rfl (yv_load T.one2 rfl (fun _ hw => Rd.at (h0.now hw (n := 0) rfl) (i := (k : Int)) (by omega) (j := 0) rfl)) ?_
            refine guard_yes rfl rfl (decide_eq_false hc6) ?_
            refine ops_y hH4 rfl rfl (yv_gtr rfl rfl) ?_
            refine ops_y hH4 rfl rfl (yv_pick_f rfl (decide_eq_false hc6) rfl) ?_
            refine ops_nil (thn_n ?_)
            by_cases hc7 : 1000 < (nth l (k : Int))
            · skip
              refine cond_t rfl (decide_eq_true hc7) ?_
              refine seq ?_
              have hbad : ¬ ∀ x ∈ l, 0 ≤ x ∧ x ≤ 1000 := fun h => by have := Q.of_all h (i := k) (by omega); omega
              refine region (ops_y hH4 rfl rfl (yv_assign rfl) (ops_nil (thn_n (ret (blk_r (thn_r (lp_r (blk_r (thn_r ?_)))))))))
              refine fin hH4 (fun w' hf => (res1 rfl (show RV _ _ _ (.tmp 2) _ from rfl))) (fun w' hf => ?_)
              first | exact congrArg (Value.int .i64) (Q.kw1 (by omega)).symm | exact congrArg (Value.int .i64) (Q.kw2 (by omega) hbad).symm | exact congrArg (Value.int .i64) (Q.kw3 (by omega) hgood).symm
            · skip
              refine cond_f rfl (decide_eq_false hc7) ?_
              refine skip (blk_n (thn_n (region (ops_y hH4 rfl rfl (yv_move rfl) ?_))))
              refine ops_y hH4 rfl rfl (yv_add rfl rfl (by omega)) ?_
              refine ops_y hH4 rfl rfl (yv_assign rfl) (ops_nil ?_)
              refine lp_n (k + 1) (Sub.cons rfl (Sub.cons rfl (Sub.nil _))) ?_ ?_
              · exact ⟨hH4, by omega, S.all_snoc hall (by omega)⟩
              · first | (dsimp only; omega) | (show _ < _; omega)
        · skip
          refine cond_f rfl (decide_eq_false hc5) ?_
          refine exit (thn_x (lp_x (blk_here (thn_n (seq ?_)))))
          have hgood : ∀ x ∈ l, 0 ≤ x ∧ x ≤ 1000 := Q.all_of (fun i hi => hall i (by omega))
          refine region (ops_y hH4 rfl rfl (yv_assign rfl) (ops_nil (thn_n (ret ?_))))
          refine fin hH4 (fun w' hf => (res1 rfl (show RV _ _ _ (.tmp 2) _ from rfl))) (fun w' hf => ?_)
          first | exact congrArg (Value.int .i64) (Q.kw1 (by omega)).symm | exact congrArg (Value.int .i64) (Q.kw2 (by omega) hbad).symm | exact congrArg (Value.int .i64) (Q.kw3 (by omega) hgood).symm

end Go.Fip

set_option linter.unusedVariables false
set_option linter.unusedSimpArgs false
set_option linter.unusedSectionVars false
set_option linter.unnecessarySimpa false
namespace Go.Fip
open Go.Proofs Go.RowKit

theorem c86 {v : Value} {l : List Int} {x : Int} {w : World} (h0 : Rd encI 1 v l w) (hn : l.length ≤ 1000000)  :
    Fn Try.prog 86 [v, (.int .i64 x)].toArray w (fun u _ => u = .int .i64 (S.place l x)) := by
  refine fn_of' (args := [v, (.int .i64 x)]) Try.func86 rfl (ent Try.func86 (by kernel_rfl) rfl) rfl rfl (fun hH => ?_)
  refine seq (region (ops_y hH rfl rfl (yv_assign rfl) (ops_nil (thn_n (seq (seq (region (ops_y hH rfl rfl (yv_move rfl) ?_))))))))
  refine ops_y hH rfl rfl (yv_len T.sl22 rfl (h0.now hH (n := 0) rfl).is) ?_
  refine ops_y hH rfl rfl (yv_move rfl) (ops_nil (thn_n (block ?_)))
  refine loop (S := Nat) (fun k => [(8, (.int .i64 (k : Int))), (0, v), (1, (.int .i64 x)), (7, (.int .i64 (l.length : Int)))]) (fun k w1 => Heap [base w] w1 ∧ k ≤ l.length ∧ ∀ i, i < k → (fun y : Int => decide (y = x)) (nth l (i : Int)) = false) (fun k => l.length - k) (0) (Sub.cons rfl (Sub.cons rfl (Sub.cons rfl (Sub.cons rfl (Sub.nil _))))) ?_ ?_
  · exact ⟨hH, by omega, S.all_zero⟩
  · rintro k w1 ⟨hH2, hk, hall⟩
    show Holds _ _ _ _ _ [(8, (.int .i64 (k : Int))), (0, v), (1, (.int .i64 x)), (7, (.int .i64 (l.length : Int)))] _ _
    refine seq (region ?_)
    refine ops_y hH2 rfl rfl (yv_lss rfl rfl) ?_
    refine ops_nil (thn_n (seq ?_))
    by_cases hc3 : (k : Int) < (l.length : Int)
    · skip
      refine cond_t rfl (decide_eq_true hc3) ?_
      refine skip (thn_n (seq (block (seq (region (ops_y hH2 rfl rfl (yv_move rfl) (ops_y hH2 rfl rfl (yv_assign rfl) (ops_nil (thn_n ?_)))))))))
      refine seq (region (ops_y hH2 rfl rfl (yv_move rfl) (ops_y hH2 rfl rfl (yv_move rfl) (ops_y hH2 rfl rfl (yv_move rfl) ?_))))
      refine ops_y hH2 rfl rfl (yv_index T.sl22 rfl rfl (h0.now hH2 (n := 0) rfl).is (by omega)) ?_
      refine ops_y hH2 rfl rfl (yv_load T.one3 rfl (fun _ hw => Rd.at (h0.now hw (n := 0) rfl) (i := (k : Int)) (by omega) (j := 0) rfl)) ?_
      refine ops_y hH2 rfl rfl (yv_eql rfl rfl) ?_
      refine ops_nil (thn_n ?_)
      by_cases hc4 : x = (nth l (k : Int))
      · skip
        have hp : (fun y : Int => decide (y = x)) (nth l (k : Int)) = true := decide_eq_true (by omega)
        refine cond_t rfl (decide_eq_true hc4) ?_
        refine seq (region (ops_y hH2 rfl rfl (yv_move rfl) (ops_y hH2 rfl rfl (yv_assign rfl) (ops_nil (thn_n (ret (blk_r (thn_r (lp_r ?_)))))))))
        refine blk_r (thn_r ?_)
        refine fin hH2 (fun w' hf => (res1 rfl (show RV _ _ _ (.tmp 4) _ from rfl))) (fun w' hf => ?_)
        first | exact congrArg (Value.int .i64) (idx_hit (k := k) (by omega) hall hp).symm | exact congrArg (Value.int .i64) (idx_miss (fun i hi => hall i (by omega))).symm
      · skip
        have hp : (fun y : Int => decide (y = x)) (nth l (k : Int)) = false := decide_eq_false (by omega)
        refine cond_f rfl (decide_eq_false hc4) ?_
        refine skip (blk_n (thn_n (region ?_)))
        refine ops_y hH2 rfl rfl (yv_add rfl rfl (by omega)) ?_
        refine ops_y hH2 rfl rfl (yv_move rfl) (ops_nil ?_)
        refine lp_n (k + 1) (Sub.cons rfl (Sub.cons rfl (Sub.cons rfl (Sub.cons rfl (Sub.nil _))))) ?_ ?_
        · exact ⟨hH2, by omega, S.all_snoc hall hp⟩
        · first | (dsimp only; omega) | (show _ < _; omega)
    · skip
      refine cond_f rfl (decide_eq_false hc3) ?_
      refine exit (thn_x (lp_x (blk_here (thn_n (seq (region (ops_y hH2 rfl rfl (yv_assign rfl) (ops_nil (thn_n ?_)))))))))
      refine ret ?_
      refine fin hH2 (fun w' hf => (res1 rfl (show RV _ _ _ (.tmp 4) _ from rfl))) (fun w' hf => ?_)
      first | exact congrArg (Value.int .i64) (idx_hit (k := k) (by omega) hall hp).symm | exact congrArg (Value.int .i64) (idx_miss (fun i hi => hall i (by omega))).symm

theorem c87 {v : Value} {l : List Int} {x : Int} {w : World} (h0 : Rd encI 1 v l w) (hn : l.length ≤ 1000000)  :
    Fn Try.prog 87 [v, (.int .i64 x)].toArray w (fun u _ => u = .bool (decide (0 ≤ S.place l x))) := by
  refine fn_of' (args := [v, (.int .i64 x)]) Try.func87 rfl (ent Try.func87 (by kernel_rfl) rfl) rfl rfl (fun hH => ?_)
  refine seq (region (ops_y hH rfl rfl (yv_assign rfl) (ops_nil (thn_n (seq (region (ops_y hH rfl rfl (yv_move rfl) (ops_y hH rfl rfl (yv_move rfl) ?_))))))))
  refine op_fnV rfl rfl rfl hH (c86 (h0.now hH (n := 0) rfl) (by omega)) (fun w1 hH2 => ?_)
  refine ops_y hH2 rfl rfl (yv_geq rfl rfl) ?_
  refine ops_y hH2 rfl rfl (yv_assign rfl) (ops_nil (thn_n (ret ?_)))
  refine fin hH2 (fun w' hf => (res1 rfl (show RV _ _ _ (.tmp 4) _ from rfl))) (fun w' hf => ?_)
  rfl

theorem c88 {v : Value} {l : List Int} {w : World} (h0 : Rd encI 1 v l w) (hn : l.length ≤ 1000000) (h1 : 1 ≤ l.length)  :
    Fn Try.prog 88 [v].toArray w (fun u _ => u = .int .i64 (S.minTo l (l.length - 1))) := by
  refine fn_of' (args := [v]) Try.func88 rfl (ent Try.func88 (by kernel_rfl) rfl) rfl rfl (fun hH => ?_)
  refine seq (region (ops_y hH rfl rfl (yv_assign rfl) (ops_nil (thn_n (seq (seq (region (ops_y hH rfl rfl (yv_move rfl) ?_))))))))
  refine ops_y hH rfl rfl (yv_len T.sl22 rfl (h0.now hH (n := 0) rfl).is) ?_
  refine ops_y hH rfl rfl (yv_lss rfl rfl) ?_
  refine ops_nil (thn_n ?_)
  have hc1 : ¬ ((l.length : Int) < 1) := by omega
  refine cond_f rfl (decide_eq_false hc1) ?_
  refine skip (thn_n (seq (region (ops_y hH rfl rfl (yv_move rfl) ?_))))
  refine ops_y hH rfl rfl (yv_index T.sl22 rfl rfl (h0.now hH (n := 0) rfl).is (by omega)) ?_
  refine ops_y hH rfl rfl (yv_load T.one3 rfl (fun _ hw => Rd.at (h0.now hw (n := 0) rfl) (i := 0) (by omega) (j := 0) rfl)) ?_
  refine ops_y hH rfl rfl (yv_assign rfl) (ops_nil (thn_n (seq (seq (region (ops_y hH rfl rfl (yv_assign rfl) (ops_nil (thn_n (block ?_)))))))))
  refine loop (S := Nat) (fun k => [(3, (.int .i64 (S.minTo l k))), (4, (.int .i64 ((k : Int) + 1))), (0, v), (2, (.int .i64 0))]) (fun k w1 => Heap [base w] w1 ∧ k + 1 ≤ l.length) (fun k => l.length - k) (0) (Sub.cons rfl (Sub.cons rfl (Sub.cons rfl (Sub.cons rfl (Sub.nil _))))) ?_ ?_
  · exact ⟨hH, by omega⟩
  · rintro k w2 ⟨hH3, hk⟩
    show Holds _ _ _ _ _ [(3, (.int .i64 (S.minTo l k))), (4, (.int .i64 ((k : Int) + 1))), (0, v), (2, (.int .i64 0))] _ _
    refine seq (seq (region (ops_y hH3 rfl rfl (yv_move rfl) (ops_y hH3 rfl rfl (yv_move rfl) ?_))))
    refine ops_y hH3 rfl rfl (yv_len T.sl22 rfl (h0.now hH3 (n := 0) rfl).is) ?_
    refine ops_y hH3 rfl rfl (yv_lss rfl rfl) ?_
    refine ops_nil (thn_n ?_)
    by_cases hc4 : ((k : Int) + 1) < (l.length : Int)
    · skip
      refine cond_t rfl (decide_eq_true hc4) ?_
      refine skip (thn_n (seq (block (region (ops_y hH3 rfl rfl (yv_move rfl) (ops_y hH3 rfl rfl (yv_move rfl) (ops_y hH3 rfl rfl (yv_move rfl) ?_)))))))
      refine ops_y hH3 rfl rfl (yv_index T.sl22 rfl rfl (h0.now hH3 (n := 0) rfl).is (by omega)) ?_
      refine ops_y hH3 rfl rfl (yv_load T.one3 rfl (fun _ hw => Rd.at (h0.now hw (n := 0) rfl) (i := ((k : Int) + 1)) (by omega) (j := 0) rfl)) ?_
      refine ops_y hH3 rfl rfl (yv_min rfl rfl) ?_
      refine ops_y hH3 rfl rfl (yv_assign rfl) (ops_nil (blk_n (thn_n (region (ops_y hH3 rfl rfl (yv_move rfl) ?_)))))
      refine ops_y hH3 rfl rfl (yv_add rfl rfl (by omega)) ?_
      refine ops_y hH3 rfl rfl (yv_assign rfl) (ops_nil ?_)
      refine lp_n (k + 1) (Sub.cons rfl (Sub.cons (congrArg (fun z => some (Value.int .i64 z)) (by omega)) (Sub.cons rfl (Sub.cons rfl (Sub.nil _))))) ?_ ?_
      · exact ⟨hH3, by omega⟩
      · first | (dsimp only; omega) | (show _ < _; omega)
    · skip
      refine cond_f rfl (decide_eq_false hc4) ?_
      refine exit (thn_x (lp_x (blk_here (thn_n (seq (region (ops_y hH3 rfl rfl (yv_move rfl) (ops_y hH3 rfl rfl (yv_assign rfl) (ops_nil ?_)))))))))
      refine thn_n (ret ?_)
      refine fin hH3 (fun w' hf => (res1 rfl (show RV _ _ _ (.tmp 2) _ from rfl))) (fun w' hf => ?_)
      have hk2 : k = l.length - 1 := by omega
      subst hk2; rfl

theorem c104 {v : Value} {l : List Int} {w : World} (h0 : Rd encI 1 v l w) (hn : l.length ≤ 1000000)  :
    Fn Try.prog 104 [v].toArray w (fun u w => Own 3 1 encI u l w) := by
  refine fn_of' (args := [v]) Try.func104 rfl (ent Try.func104 (by kernel_rfl) rfl) rfl rfl (fun hH => ?_)
  refine seq (region (ops_y hH rfl rfl (yv_assign rfl) (ops_nil (thn_n (seq (seq (region (ops_y hH rfl rfl (yv_move rfl) ?_))))))))
  refine ops_y hH rfl rfl (yv_eqNil T.sl22.1 rfl (h0.now hH (n := 0) rfl).is) ?_
  refine ops_nil (thn_n ?_)
  by_cases hc1 : isNilS v = true
  · skip
    have hl : l = [] := List.eq_nil_of_length_eq_zero (isNilS_len h0.is ‹_›)
    refine cond_t rfl hc1 ?_
    refine seq (region (ops_y hH rfl rfl (yv_assign rfl) (ops_nil (thn_n (ret (thn_r ?_))))))
    refine fin hH (fun w' hf => (res1 rfl (show RV _ _ _ (.tmp 2) _ from rfl))) (fun w' hf => ?_)
    first | exact (by rw [hl]; exact own_nil) | exact (by have h := Heap.own hf (n := 0) rfl; simpa using h)
  · skip
    refine cond_f rfl (Bool.eq_false_iff.2 hc1) ?_
    refine skip (thn_n (seq (region ?_)))
    refine op_lit (us := []) T.el22_encI ([] : List Int) rfl (by decide) rfl (fun a ha => by simp) (fun w => by kernel_rfl) hH (fun u2 lo4 hi5 w3 hH6 => ?_)
    refine ops_y hH6 rfl rfl (yv_move rfl) ?_
    refine op_append (n := 0) T.el22_encI rfl rfl rfl hH6 rfl (h0.now hH6 (n := 1) rfl) (by first | omega | (simp only [List.length_append, List.length_cons, List.length_nil]; omega)) (fun u7 lo9 hi10 w8 hH11 => ?_)
    refine ops_y hH11 rfl rfl (yv_assign rfl) (ops_nil (thn_n (ret ?_)))
    refine fin (hH11.front (n := 1) rfl) (fun w' hf => (res1 rfl (show RV _ _ _ (.tmp 2) _ from rfl))) (fun w' hf => ?_)
    first | exact (by rw [hl]; exact own_nil) | exact (by have h := Heap.own hf (n := 0) rfl; simpa using h)

theorem c107 {a : Int} {w : World}  :
    Fn Try.prog 107 [(.int .i64 a)].toArray w (fun u _ => u = .bool false) := by
  refine fn_of' (args := [(.int .i64 a)]) Try.func107 rfl (ent Try.func107 (by kernel_rfl) rfl) rfl rfl (fun hH => ?_)
  refine seq (region (ops_y hH rfl rfl (yv_assign rfl) (ops_nil (thn_n (seq (region (ops_y hH rfl rfl (yv_move rfl) (ops_y hH rfl rfl (yv_move rfl) ?_))))))))
  refine ops_y hH rfl rfl (yv_neq rfl rfl) ?_
  refine ops_y hH rfl rfl (yv_assign rfl) (ops_nil (thn_n (ret ?_)))
  refine fin hH (fun w' hf => (res1 rfl (show RV _ _ _ (.tmp 2) _ from rfl))) (fun w' hf => ?_)
  first | rfl | (show Value.bool _ = _; congr 1; simp)

theorem c96 {a b : Int} {w : World}  :
    Fn Try.prog 96 [(.int .i64 a), (.int .i64 b)].toArray w (fun u _ => u = .int .i64 (Q.cmp3 a b)) := by
  refine fn_of' (args := [(.int .i64 a), (.int .i64 b)]) Try.func96 rfl (ent Try.func96 (by kernel_rfl) rfl) rfl rfl (fun hH => ?_)
  refine seq (region (ops_y hH rfl rfl (yv_assign rfl) (ops_nil (thn_n (seq (region (ops_y hH rfl rfl (yv_move rfl) ?_)))))))
  refine op_fnV rfl rfl rfl hH (c107 ) (fun w1 hH2 => ?_)
  refine ops_y hH2 rfl rfl (yv_assign rfl) (ops_nil (thn_n (seq (region (ops_y hH2 rfl rfl (yv_move rfl) ?_)))))
  refine op_fnV rfl rfl rfl hH2 (c107 ) (fun w3 hH4 => ?_)
  refine ops_y hH4 rfl rfl (yv_assign rfl) (ops_nil (thn_n (seq (seq (region (ops_y hH4 rfl rfl (yv_move rfl) (ops_nil (thn_n ?_))))))))
  refine cond_f rfl rfl ?_
  refine skip (thn_n (seq (seq (region (ops_y hH4 rfl rfl (yv_move rfl) (ops_nil (thn_n ?_)))))))
  refine cond_f rfl rfl ?_
  refine skip (thn_n (seq (seq (region (ops_y hH4 rfl rfl (yv_move rfl) (ops_y hH4 rfl rfl (yv_move rfl) ?_))))))
  refine ops_y hH4 rfl rfl (yv_lss rfl rfl) ?_
  refine ops_nil (thn_n ?_)
  by_cases hc5 : a < b
  · skip
    refine cond_t rfl (decide_eq_true hc5) ?_
    refine seq (region (ops_y hH4 rfl rfl (yv_assign rfl) (ops_nil (thn_n (ret (thn_r ?_))))))
    refine fin hH4 (fun w' hf => (res1 rfl (show RV _ _ _ (.tmp 4) _ from rfl))) (fun w' hf => ?_)
    refine congrArg (Value.int .i64) ?_; unfold Q.cmp3; first | (rw [if_pos (by omega)]; done) | (rw [if_neg (by omega), if_pos (by omega)]; done) | (rw [if_neg (by omega), if_neg (by omega)]; done)
  · skip
    refine cond_f rfl (decide_eq_false hc5) ?_
    refine skip (thn_n (seq (seq (region (ops_y hH4 rfl rfl (yv_move rfl) (ops_y hH4 rfl rfl (yv_move rfl) ?_))))))
    refine ops_y hH4 rfl rfl (yv_gtr rfl rfl) ?_
    refine ops_nil (thn_n ?_)
    by_cases hc6 : b < a
    · skip
      refine cond_t rfl (decide_eq_true hc6) ?_
      refine seq (region (ops_y hH4 rfl rfl (yv_assign rfl) (ops_nil (thn_n (ret (thn_r ?_))))))
      refine fin hH4 (fun w' hf => (res1 rfl (show RV _ _ _ (.tmp 4) _ from rfl))) (fun w' hf => ?_)
      refine congrArg (Value.int .i64) ?_; unfold Q.cmp3; first | (rw [if_pos (by omega)]; done) | (rw [if_neg (by omega), if_pos (by omega)]; done) | (rw [if_neg (by omega), if_neg (by omega)]; done)
    · skip
      refine cond_f rfl (decide_eq_false hc6) ?_
      refine skip (thn_n (seq (region (ops_y hH4 rfl rfl (yv_assign rfl) (ops_nil (thn_n (ret ?_)))))))
      refine fin hH4 (fun w' hf => (res1 rfl (show RV _ _ _ (.tmp 4) _ from rfl))) (fun w' hf => ?_)
      refine congrArg (Value.int .i64) ?_; unfold Q.cmp3; first | (rw [if_pos (by omega)]; done) | (rw [if_neg (by omega), if_pos (by omega)]; done) | (rw [if_neg (by omega), if_neg (by omega)]; done)

theorem c75 {v u : Value} {l m : List Int} {w : World} (h0 : Rd encI 1 v l w) (h1 : Rd encI 1 u m w) (hn : l.length ≤ 1000000) (hn2 : m.length ≤ 1000000)  :
    Fn Try.prog 75 [v, u].toArray w (fun u _ => u = .int .i64 (Q.cmpL l m)) := by
  refine fn_of' (args := [v, u]) Try.func75 rfl (ent Try.func75 (by kernel_rfl) rfl) rfl rfl (fun hH => ?_)
  refine seq (region (ops_y hH rfl rfl (yv_assign rfl) (ops_nil (thn_n (seq (seq (region (ops_y hH rfl rfl (yv_move rfl) ?_))))))))
  refine ops_y hH rfl rfl (yv_len T.sl22 rfl (h0.now hH (n := 0) rfl).is) ?_
  refine ops_y hH rfl rfl (yv_move rfl) (ops_nil (thn_n (block ?_)))
  refine loop (S := Nat) (fun k => [(11, (.int .i64 (k : Int))), (0, v), (1, u), (9, v), (10, (.int .i64 (l.length : Int)))]) (fun k w1 => Heap [base w] w1 ∧ k ≤ l.length ∧ k ≤ m.length ∧ Q.cmpL l m = Q.cmpL (l.drop k) (m.drop k)) (fun k => l.length - k) (0) (Sub.cons rfl (Sub.cons rfl (Sub.cons rfl (Sub.cons rfl (Sub.cons rfl (Sub.nil _)))))) ?_ ?_
  · exact ⟨hH, by omega, by omega, rfl⟩
  · rintro k w1 ⟨hH2, hk, hkm, hc⟩
    show Holds _ _ _ _ _ [(11, (.int .i64 (k : Int))), (0, v), (1, u), (9, v), (10, (.int .i64 (l.length : Int)))] _ _
    refine seq (region ?_)
    refine ops_y hH2 rfl rfl (yv_lss rfl rfl) ?_
    refine ops_nil (thn_n (seq ?_))
    by_cases hc3 : (k : Int) < (l.length : Int)
    · skip
      refine cond_t rfl (decide_eq_true hc3) ?_
      refine skip (thn_n (seq (block (seq (region (ops_y hH2 rfl rfl (yv_move rfl) ?_))))))
      refine ops_y hH2 rfl rfl (yv_index T.sl22 rfl rfl (h0.now hH2 (n := 0) rfl).is (by omega)) ?_
      refine ops_y hH2 rfl rfl (yv_load T.one3 rfl (fun _ hw => Rd.at (h0.now hw (n := 0) rfl) (i := (k : Int)) (by omega) (j := 0) rfl)) ?_
      refine ops_y hH2 rfl rfl (yv_assign rfl) (ops_y hH2 rfl rfl (yv_assign rfl) (ops_nil (thn_n (seq (seq (region (ops_y hH2 rfl rfl (yv_move rfl) (ops_y hH2 rfl rfl (yv_move rfl) ?_))))))))
      refine ops_y hH2 rfl rfl (yv_len T.sl22 rfl (h1.now hH2 (n := 0) rfl).is) ?_
      refine ops_y hH2 rfl rfl (yv_geq rfl rfl) ?_
      refine ops_nil (thn_n ?_)
      by_cases hc4 : (m.length : Int) ≤ (k : Int)
      · skip
        refine cond_t rfl (decide_eq_true hc4) ?_
        refine seq (region (ops_y hH2 rfl rfl (yv_assign rfl) (ops_nil (thn_n (ret (thn_r (blk_r (thn_r (lp_r ?_)))))))))
        refine blk_r (thn_r ?_)
        refine fin hH2 (fun w' hf => (res1 rfl (show RV _ _ _ (.tmp 4) _ from rfl))) (fun w' hf => ?_)
        refine congrArg (Value.int .i64) ?_; first | exact (Q.cmpL_long (k := k) (by omega) (by omega) hc).symm | exact (Q.cmpL_ne (k := k) (by omega) (by omega) hc (by omega)).symm | exact (Q.cmpL_short (k := k) (by omega) (by omega) hc).symm | exact (Q.cmpL_same (k := k) (by omega) (by omega) hc).symm
      · skip
        refine cond_f rfl (decide_eq_false hc4) ?_
        refine skip (thn_n (seq (region (ops_y hH2 rfl rfl (yv_move rfl) (ops_y hH2 rfl rfl (yv_move rfl) ?_)))))
        refine ops_y hH2 rfl rfl (yv_index T.sl22 rfl rfl (h1.now hH2 (n := 0) rfl).is (by omega)) ?_
        refine ops_y hH2 rfl rfl (yv_load T.one3 rfl (fun _ hw => Rd.at (h1.now hw (n := 0) rfl) (i := (k : Int)) (by omega) (j := 0) rfl)) ?_
        refine ops_y hH2 rfl rfl (yv_assign rfl) (ops_nil (thn_n (seq (region (ops_y hH2 rfl rfl (yv_move rfl) (ops_y hH2 rfl rfl (yv_move rfl) ?_))))))
        refine op_fnV rfl rfl rfl hH2 (c96 ) (fun w5 hH6 => ?_)
        refine ops_y hH6 rfl rfl (yv_assign rfl) (ops_nil (thn_n (seq (region (ops_y hH6 rfl rfl (yv_move rfl) ?_)))))
        refine ops_y hH6 rfl rfl (yv_neq rfl rfl) ?_
        refine ops_nil (thn_n ?_)
        by_cases hc7 : (Q.cmp3 (nth l (k : Int)) (nth m (k : Int))) = 0
        · skip
          refine cond_f rfl (not_decide_n hc7) ?_
          refine skip (blk_n (thn_n (region ?_)))
          refine ops_y hH6 rfl rfl (yv_add rfl rfl (by omega)) ?_
          refine ops_y hH6 rfl rfl (yv_move rfl) (ops_nil ?_)
          refine lp_n (k + 1) (Sub.cons rfl (Sub.cons rfl (Sub.cons rfl (Sub.cons rfl (Sub.cons rfl (Sub.nil _)))))) ?_ ?_
          · exact ⟨hH6, by omega, by omega, Q.cmpL_go (by omega) (by omega) hc (Q.cmp3_eq (by omega))⟩
          · first | (dsimp only; omega) | (show _ < _; omega)
        · skip
          refine cond_t rfl (not_decide_t hc7) ?_
          refine seq (region (ops_y hH6 rfl rfl (yv_move rfl) (ops_y hH6 rfl rfl (yv_assign rfl) (ops_nil (thn_n (ret (blk_r (thn_r (lp_r ?_)))))))))
          refine blk_r (thn_r ?_)
          refine fin hH6 (fun w' hf => (res1 rfl (show RV _ _ _ (.tmp 4) _ from rfl))) (fun w' hf => ?_)
          refine congrArg (Value.int .i64) ?_; first | exact (Q.cmpL_long (k := k) (by omega) (by omega) hc).symm | exact (Q.cmpL_ne (k := k) (by omega) (by omega) hc (by omega)).symm | exact (Q.cmpL_short (k := k) (by omega) (by omega) hc).symm | exact (Q.cmpL_same (k := k) (by omega) (by omega) hc).symm
    · skip
      refine cond_f rfl (decide_eq_false hc3) ?_
      refine exit (thn_x (lp_x (blk_here (thn_n (seq (seq (region (ops_y hH2 rfl rfl (yv_move rfl) ?_))))))))
      refine ops_y hH2 rfl rfl (yv_len T.sl22 rfl (h0.now hH2 (n := 0) rfl).is) ?_
      refine ops_y hH2 rfl rfl (yv_move rfl) ?_
      refine ops_y hH2 rfl rfl (yv_len T.sl22 rfl (h1.now hH2 (n := 0) rfl).is) ?_
      refine ops_y hH2 rfl rfl (yv_lss rfl rfl) ?_
      refine ops_nil (thn_n ?_)
      by_cases hc8 : (l.length : Int) < (m.length : Int)
      · skip
        refine cond_t rfl (decide_eq_true hc8) ?_
        refine seq (region (ops_y hH2 rfl rfl (yv_assign rfl) (ops_nil (thn_n (ret (thn_r ?_))))))
        refine fin hH2 (fun w' hf => (res1 rfl (show RV _ _ _ (.tmp 4) _ from rfl))) (fun w' hf => ?_)
        refine congrArg (Value.int .i64) ?_; first | exact (Q.cmpL_long (k := k) (by omega) (by omega) hc).symm | exact (Q.cmpL_ne (k := k) (by omega) (by omega) hc (by omega)).symm | exact (Q.cmpL_short (k := k) (by omega) (by omega) hc).symm | exact (Q.cmpL_same (k := k) (by omega) (by omega) hc).symm
      · skip
        refine cond_f rfl (decide_eq_false hc8) ?_
        refine skip (thn_n (seq (region (ops_y hH2 rfl rfl (yv_assign rfl) (ops_nil (thn_n (ret ?_)))))))
        refine fin hH2 (fun w' hf => (res1 rfl (show RV _ _ _ (.tmp 4) _ from rfl))) (fun w' hf => ?_)
        refine congrArg (Value.int .i64) ?_; first | exact (Q.cmpL_long (k := k) (by omega) (by omega) hc).symm | exact (Q.cmpL_ne (k := k) (by omega) (by omega) hc (by omega)).symm | exact (Q.cmpL_short (k := k) (by omega) (by omega) hc).symm | exact (Q.cmpL_same (k := k) (by omega) (by omega) hc).symm

theorem c51 {v u : Value} {l m : List Int} {w : World} (h0 : Rd encI 1 v l w) (h1 : Rd encI 1 u m w) (hn : l.length ≤ 1000000) (he : l.length = m.length)  :
    Fn Try.prog 51 [v, u].toArray w (fun u _ => u = .bool (decide (Q.cmpL l m < 0))) := by
  refine fn_of' (args := [v, u]) Try.func51 rfl (ent Try.func51 (by kernel_rfl) rfl) rfl rfl (fun hH => ?_)
  refine seq (region (ops_y hH rfl rfl (yv_assign rfl) (ops_nil (thn_n (seq (seq (region (ops_y hH rfl rfl (yv_assign rfl) (ops_nil ?_)))))))))
  refine thn_n (block ?_)
  refine loop (S := Nat) (fun k => [(5, (.int .i64 (k : Int))), (0, v), (1, u)]) (fun k w1 => Heap [base w] w1 ∧ k ≤ l.length ∧ Q.cmpL l m = Q.cmpL (l.drop k) (m.drop k)) (fun k => l.length - k) (0) (Sub.cons rfl (Sub.cons rfl (Sub.cons rfl (Sub.nil _)))) ?_ ?_
  · exact ⟨hH, by omega, rfl⟩
  · rintro k w1 ⟨hH2, hk, hc⟩
    show Holds _ _ _ _ _ [(5, (.int .i64 (k : Int))), (0, v), (1, u)] _ _
    refine seq (seq (region (ops_y hH2 rfl rfl (yv_move rfl) (ops_y hH2 rfl rfl (yv_move rfl) ?_))))
    refine ops_y hH2 rfl rfl (yv_len T.sl22 rfl (h0.now hH2 (n := 0) rfl).is) ?_
    refine ops_y hH2 rfl rfl (yv_lss rfl rfl) ?_
    refine ops_nil (thn_n ?_)
    by_cases hc3 : (k : Int) < (l.length : Int)
    · skip
      refine cond_t rfl (decide_eq_true hc3) ?_
      refine skip (thn_n (seq (block (seq ?_))))
      refine region_draw (fun w' => Heap [base w] w') T.mixed (fun w4 hr5 => ?_)
      have hH6 := hH2.redrawn hr5
      refine any_takes [0, 1, 2, 3, 4, 5, 6, 7, 8] (by kernel_rfl) hH6 _ _ _ (by kernel_rfl) ?_
      refine qs_y rfl rfl (yv_move rfl) (qs_y rfl rfl (yv_move rfl) ?_)
      refine qs_y rfl rfl (yv_index T.sl22 rfl rfl (h0.now hH6 (n := 0) rfl).is (by omega)) ?_
      refine qs_y rfl rfl (yv_load T.one3 rfl (fun _ hw => Rd.at (h0.now hw (n := 0) rfl) (i := (k : Int)) (by omega) (j := 0) rfl)) ?_
      refine qs_y rfl rfl (yv_move rfl) (qs_y rfl rfl (yv_move rfl) ?_)
      refine qs_y rfl rfl (yv_index T.sl22 rfl rfl (h1.now hH6 (n := 0) rfl).is (by omega)) ?_
      refine qs_y rfl rfl (yv_load T.one3 rfl (fun _ hw => Rd.at (h1.now hw (n := 0) rfl) (i := (k : Int)) (by omega) (j := 0) rfl)) ?_
      refine qs_y rfl rfl (yv_neq rfl rfl) ?_
      refine qs_nil ?_
      refine any_done (by kernel_rfl) ?_
      refine thn_n ?_
      by_cases hc7 : (nth l (k : Int)) = (nth m (k : Int))
      · skip
        refine cond_f rfl (not_decide_n hc7) ?_
        refine skip (blk_n (thn_n (region (ops_y hH6 rfl rfl (yv_move rfl) ?_))))
        refine ops_y hH6 rfl rfl (yv_add rfl rfl (by omega)) ?_
        refine ops_y hH6 rfl rfl (yv_assign rfl) (ops_nil ?_)
        refine lp_n (k + 1) (Sub.cons rfl (Sub.cons rfl (Sub.cons rfl (Sub.nil _)))) ?_ ?_
        · exact ⟨hH6, by omega, Q.cmpL_go (by omega) (by omega) hc (by omega)⟩
        · first | (dsimp only; omega) | (show _ < _; omega)
      · skip
        refine cond_t rfl (not_decide_t hc7) ?_
        refine seq ?_
        refine region_draw (fun w' => Heap [base w] w') T.mixed (fun w8 hr9 => ?_)
        have hH10 := hH6.redrawn hr9
        refine any_takes [0, 1, 2, 3, 4, 5, 6, 7, 8, 9] (by kernel_rfl) hH10 _ _ _ (by kernel_rfl) ?_
        refine qs_y rfl rfl (yv_move rfl) (qs_y rfl rfl (yv_move rfl) ?_)
        refine qs_y rfl rfl (yv_index T.sl22 rfl rfl (h0.now hH10 (n := 0) rfl).is (by omega)) ?_
        refine qs_y rfl rfl (yv_load T.one3 rfl (fun _ hw => Rd.at (h0.now hw (n := 0) rfl) (i := (k : Int)) (by omega) (j := 0) rfl)) ?_
        refine qs_y rfl rfl (yv_move rfl) (qs_y rfl rfl (yv_move rfl) ?_)
        refine qs_y rfl rfl (yv_index T.sl22 rfl rfl (h1.now hH10 (n := 0) rfl).is (by omega)) ?_
        refine qs_y rfl rfl (yv_load T.one3 rfl (fun _ hw => Rd.at (h1.now hw (n := 0) rfl) (i := (k : Int)) (by omega) (j := 0) rfl)) ?_
        refine qs_y rfl rfl (yv_lss rfl rfl) ?_
        refine qs_y rfl rfl (yv_assign rfl) (qs_nil ?_)
        refine any_done (by kernel_rfl) ?_
        refine thn_n (ret (blk_r (thn_r (lp_r (blk_r (thn_r ?_))))))
        refine fin hH10 (fun w' hf => (res1 rfl (show RV _ _ _ (.tmp 4) _ from rfl))) (fun w' hf => ?_)
        show Value.bool _ = Value.bool _; congr 1; first | exact (decide_eq_false (by rw [Q.cmpL_same (k := k) (by omega) (by omega) hc]; omega)).symm | exact (decide_eq_decide.2 (Q.cmpL_lt (k := k) (by omega) (by omega) hc (by omega)).symm)
    · skip
      refine cond_f rfl (decide_eq_false hc3) ?_
      refine exit (thn_x (lp_x (blk_here (thn_n (seq (region (ops_y hH2 rfl rfl (yv_assign rfl) (ops_nil (thn_n ?_)))))))))
      refine ret ?_
      refine fin hH2 (fun w' hf => (res1 rfl (show RV _ _ _ (.tmp 4) _ from rfl))) (fun w' hf => ?_)
      show Value.bool _ = Value.bool _; congr 1; first | exact (decide_eq_false (by rw [Q.cmpL_same (k := k) (by omega) (by omega) hc]; omega)).symm | exact (decide_eq_decide.2 (Q.cmpL_lt (k := k) (by omega) (by omega) hc (by omega)).symm)

theorem c80 {v u : Value} {l m : List Int} {w : World} (h0 : Rd encI 1 v l w) (h1 : Rd encI 1 u m w) (hn : l.length ≤ 1000) (hn2 : m.length ≤ 1000) (hl : Q.Sm l) (hm : Q.Sm m)  :
    Fn Try.prog 80 [v, u].toArray w (fun u w => Own 3 1 encI u (Q.hung l m) w) := by
  refine fn_of' (args := [v, u]) Try.func80 rfl (ent Try.func80 (by kernel_rfl) rfl) rfl rfl (fun hH => ?_)
  refine seq (region (ops_y hH rfl rfl (yv_assign rfl) (ops_nil (thn_n (seq (region (ops_y hH rfl rfl (yv_assign rfl) (ops_nil (thn_n ?_)))))))))
  refine seq (seq (region (ops_y hH rfl rfl (yv_assign rfl) (ops_nil (thn_n (block ?_))))))
  have hH1 := ow_nil (enc := encI) 3 1 hH
  refine loop (S := Nat × Value × Nat × Nat) (fun (k, v_5, lo_5, hi_5) => [(6, (.int .i64 (k : Int))), (5, v_5), (0, v), (1, u), (4, (.slice none 0 0))]) (fun (k, v_5, lo_5, hi_5) w1 => Heap [ow lo_5 hi_5 3 1 encI v_5 (Q.inc l k), base w] w1 ∧ k ≤ l.length) (fun (k, v_5, lo_5, hi_5) => l.length - k) (0, (.slice none 0 0), w.heap.size, w.heap.size) (Sub.cons rfl (Sub.cons rfl (Sub.cons rfl (Sub.cons rfl (Sub.cons rfl (Sub.nil _)))))) ?_ ?_
  · exact ⟨(Heap.recast (n := 0) hH1 rfl (Q.inc_zero)), by omega⟩
  · rintro ⟨k, v_5, lo_5, hi_5⟩ w2 ⟨hH3, hk⟩
    show Holds _ _ _ _ _ [(6, (.int .i64 (k : Int))), (5, v_5), (0, v), (1, u), (4, (.slice none 0 0))] _ _
    refine seq (seq (region (ops_y hH3 rfl rfl (yv_move rfl) (ops_y hH3 rfl rfl (yv_move rfl) ?_))))
    refine ops_y hH3 rfl rfl (yv_len T.sl22 rfl (h0.now hH3 (n := 1) rfl).is) ?_
    refine ops_y hH3 rfl rfl (yv_lss rfl rfl) ?_
    refine ops_nil (thn_n ?_)
    by_cases hc4 : (k : Int) < (l.length : Int)
    · skip
      refine cond_t rfl (decide_eq_true hc4) ?_
      refine skip (thn_n (seq (block ?_)))
      have hla := hl.at (k := k) (by omega)
      have hil := Q.inc_len (l := l) (k := k)
      refine region (ops_y hH3 rfl rfl (yv_move rfl) (ops_y hH3 rfl rfl (yv_move rfl) (ops_y hH3 rfl rfl (yv_move rfl) ?_)))
      refine ops_y hH3 rfl rfl (yv_index T.sl22 rfl rfl (h0.now hH3 (n := 1) rfl).is (by omega)) ?_
      refine ops_y hH3 rfl rfl (yv_load T.one3 rfl (fun _ hw => Rd.at (h0.now hw (n := 1) rfl) (i := (k : Int)) (by omega) (j := 0) rfl)) ?_
      refine ops_y hH3 rfl rfl (yv_add rfl rfl (by omega)) ?_
      refine op_lit (us := [(0, (.int .i64 ((nth l (k : Int)) + 1)))]) T.el22_encI [(nth l (k : Int)) + 1] rfl (by decide) rfl (fun a ha => by simp [ha.ev (show ev _ (.tmp 19) = some _ from rfl)]) (fun w => by kernel_rfl) hH3 (fun u5 lo7 hi8 w6 hH9 => ?_)
      refine op_append (n := 1) T.el22_encI rfl rfl rfl hH9 rfl (Heap.rdw T.el22_encI hH9 (n := 0) rfl) (by first | omega | (simp only [List.length_append, List.length_cons, List.length_nil]; omega)) (fun u10 lo12 hi13 w11 hH14 => ?_)
      refine ops_y hH14 rfl rfl (yv_assign rfl) (ops_nil (blk_n (thn_n (region (ops_y hH14 rfl rfl (yv_move rfl) ?_)))))
      refine ops_y hH14 rfl rfl (yv_add rfl rfl (by omega)) ?_
      refine ops_y hH14 rfl rfl (yv_assign rfl) (ops_nil ?_)
      have hH15 := (hH14.sub (List.Sublist.cons _ (List.Sublist.refl _)))
      refine lp_n (k + 1, u10, lo12, hi13) (Sub.cons rfl (Sub.cons rfl (Sub.cons rfl (Sub.cons rfl (Sub.cons rfl (Sub.nil _)))))) ?_ ?_
      · exact ⟨(Heap.recast (n := 0) hH15 rfl (Q.inc_succ (by omega))), by omega⟩
      · first | (dsimp only; omega) | (show _ < _; omega)
    · skip
      refine cond_f rfl (decide_eq_false hc4) ?_
      refine exit (thn_x (lp_x (blk_here (thn_n (seq ?_)))))
      have hil := Q.inc_len (l := l) (k := k)
      refine region (ops_y hH3 rfl rfl (yv_move rfl) ?_)
      refine op_lit (us := [(0, (.int .i64 0))]) T.el22_encI [0] rfl (by decide) rfl (fun a ha => by simp [ha.ev (show ev _ (.const (.int .i64 0)) = some _ from rfl)]) (fun w => by kernel_rfl) hH3 (fun u16 lo18 hi19 w17 hH20 => ?_)
      refine op_append (n := 1) T.el22_encI rfl rfl rfl hH20 rfl (Heap.rdw T.el22_encI hH20 (n := 0) rfl) (by first | omega | (simp only [List.length_append, List.length_cons, List.length_nil]; omega)) (fun u21 lo23 hi24 w22 hH25 => ?_)
      refine ops_y hH25 rfl rfl (yv_assign rfl) (ops_nil (thn_n (seq (seq (region (ops_y hH25 rfl rfl (yv_assign rfl) (ops_nil (thn_n (block ?_)))))))))
      refine loop (S := Nat × Value × Nat × Nat) (fun (j, v_5, lo_5, hi_5) => [(7, (.int .i64 (j : Int))), (5, v_5), (1, u), (4, (.slice none 0 0))]) (fun (j, v_5, lo_5, hi_5) w1 => Heap [ow lo18 hi19 3 1 encI u16 [0], ow lo_5 hi_5 3 1 encI v_5 (Q.inc l k ++ [0] ++ Q.inc m j), base w] w1 ∧ j ≤ m.length) (fun (j, v_5, lo_5, hi_5) => m.length - j) (0, u21, lo23, hi24) (Sub.cons rfl (Sub.cons rfl (Sub.cons rfl (Sub.cons rfl (Sub.nil _))))) ?_ ?_
      · exact ⟨(Heap.recast (n := 1) hH25 rfl ((by rw [← Q.inc_zero, List.append_nil]))), by omega⟩
      · rintro ⟨j, v_5, lo_5, hi_5⟩ w26 ⟨hH27, hj⟩
        show Holds _ _ _ _ _ [(7, (.int .i64 (j : Int))), (5, v_5), (1, u), (4, (.slice none 0 0))] _ _
        refine seq (seq (region (ops_y hH27 rfl rfl (yv_move rfl) (ops_y hH27 rfl rfl (yv_move rfl) ?_))))
        refine ops_y hH27 rfl rfl (yv_len T.sl22 rfl (h1.now hH27 (n := 2) rfl).is) ?_
        refine ops_y hH27 rfl rfl (yv_lss rfl rfl) ?_
        refine ops_nil (thn_n ?_)
        by_cases hc28 : (j : Int) < (m.length : Int)
        · skip
          refine cond_t rfl (decide_eq_true hc28) ?_
          refine skip (thn_n (seq (block ?_)))
          have hma := hm.at (k := j) (by omega)
          have hil := Q.inc_len (l := l) (k := k)
          have him := Q.inc_len (l := m) (k := j)
          have hal : (Q.inc l k ++ [0] ++ Q.inc m j).length = (Q.inc l k).length + 1 + (Q.inc m j).length := by simp; omega
          refine region (ops_y hH27 rfl rfl (yv_move rfl) (ops_y hH27 rfl rfl (yv_move rfl) (ops_y hH27 rfl rfl (yv_move rfl) ?_)))
          refine ops_y hH27 rfl rfl (yv_index T.sl22 rfl rfl (h1.now hH27 (n := 2) rfl).is (by omega)) ?_
          refine ops_y hH27 rfl rfl (yv_load T.one3 rfl (fun _ hw => Rd.at (h1.now hw (n := 2) rfl) (i := (j : Int)) (by omega) (j := 0) rfl)) ?_
          refine ops_y hH27 rfl rfl (yv_add rfl rfl (by omega)) ?_
          refine op_lit (us := [(0, (.int .i64 ((nth m (j : Int)) + 1)))]) T.el22_encI [(nth m (j : Int)) + 1] rfl (by decide) rfl (fun a ha => by simp [ha.ev (show ev _ (.tmp 36) = some _ from rfl)]) (fun w => by kernel_rfl) hH27 (fun u29 lo31 hi32 w30 hH33 => ?_)
          refine op_append (n := 2) T.el22_encI rfl rfl rfl hH33 rfl (Heap.rdw T.el22_encI hH33 (n := 0) rfl) (by first | omega | (simp only [List.length_append, List.length_cons, List.length_nil]; omega)) (fun u34 lo36 hi37 w35 hH38 => ?_)
          refine ops_y hH38 rfl rfl (yv_assign rfl) (ops_nil (blk_n (thn_n (region (ops_y hH38 rfl rfl (yv_move rfl) ?_)))))
          refine ops_y hH38 rfl rfl (yv_add rfl rfl (by omega)) ?_
          refine ops_y hH38 rfl rfl (yv_assign rfl) (ops_nil ?_)
          have hH39 := (hH38.sub (List.Sublist.cons _ (List.Sublist.refl _)))
          refine lp_n (j + 1, u34, lo36, hi37) (Sub.cons rfl (Sub.cons rfl (Sub.cons rfl (Sub.cons rfl (Sub.nil _))))) ?_ ?_
          · exact ⟨(Heap.recast (n := 1) hH39 rfl ((by rw [← Q.inc_succ (by omega), List.append_assoc]))), by omega⟩
          · first | (dsimp only; omega) | (show _ < _; omega)
        · skip
          refine cond_f rfl (decide_eq_false hc28) ?_
          refine exit (thn_x (lp_x (blk_here (thn_n (seq (region (ops_y hH27 rfl rfl (yv_move rfl) (ops_y hH27 rfl rfl (yv_assign rfl) (ops_nil ?_)))))))))
          refine thn_n (ret ?_)
          have hH40 := (hH27.sub (List.Sublist.cons _ (List.Sublist.refl _)))
          refine fin (hH40.front (n := 1) rfl) (fun w' hf => (res1 rfl (show RV _ _ _ (.tmp 4) _ from rfl))) (fun w' hf => ?_)
          rw [← Q.hung_inc (k := k) (j := j) (by omega) (by omega)]; exact Heap.own hf (n := 0) rfl

theorem c91 {v u : Value} {l m : List Int} {w : World} (h0 : Rd encI 1 v l w) (h1 : Rd encI 1 u m w) (hn : l.length ≤ 1000) (hn2 : m.length ≤ 1000) (hl : Q.Sm l) (hm : Q.Sm m)  :
    Fn Try.prog 91 [v, u].toArray w (fun u w => Own 3 1 encI u (Q.hung l m) w) := by
  refine fn_of' (args := [v, u]) Try.func91 rfl (ent Try.func91 (by kernel_rfl) rfl) rfl rfl (fun hH => ?_)
  refine seq (region (ops_y hH rfl rfl (yv_assign rfl) (ops_nil (thn_n (seq (region (ops_y hH rfl rfl (yv_move rfl) ?_)))))))
  refine op_fn rfl rfl rfl hH (c104 (h0.now hH (n := 0) rfl) (by omega)) (fun u3 w1 lo4 hi5 hH2 hv6 => ?_)
  have hH7 := Heap.toOw hH2 (n := 0) rfl
  refine op_lit (us := [(0, (.int .i64 (-1)))]) T.el22_encI [(-1)] rfl (by decide) rfl (fun a ha => by simp [ha.ev (show ev _ (.const (.int .i64 (-1))) = some _ from rfl)]) (fun w => by kernel_rfl) hH7 (fun u8 lo10 hi11 w9 hH12 => ?_)
  refine op_append (n := 1) T.el22_encI rfl rfl rfl hH12 rfl (Heap.rdw T.el22_encI hH12 (n := 0) rfl) (by first | omega | (simp only [List.length_append, List.length_cons, List.length_nil]; omega)) (fun u13 lo15 hi16 w14 hH17 => ?_)
  refine ops_y hH17 rfl rfl (yv_assign rfl) (ops_nil (thn_n (seq (region (ops_y hH17 rfl rfl (yv_move rfl) (ops_y hH17 rfl rfl (yv_move rfl) ?_))))))
  refine op_append (n := 1) T.el22_encI rfl rfl rfl hH17 rfl (h1.now hH17 (n := 2) rfl) (by first | omega | (simp only [List.length_append, List.length_cons, List.length_nil]; omega)) (fun u18 lo20 hi21 w19 hH22 => ?_)
  refine ops_y hH22 rfl rfl (yv_assign rfl) (ops_nil (thn_n (seq (seq ?_))))
  have hol : (l ++ [-1] ++ m).length = l.length + 1 + m.length := by simp; omega
  have hos : Q.Sm (l ++ [-1] ++ m) := Q.Sm.mid hl hm
  refine region (ops_y hH22 rfl rfl (yv_move rfl) ?_)
  refine ops_y hH22 rfl rfl (yv_len T.sl22 rfl (Heap.rdw T.el22_encI hH22 (n := 1) rfl).is) ?_
  refine ops_y hH22 rfl rfl (yv_move rfl) (ops_nil (thn_n (block ?_)))
  refine loop (S := Nat × Value × Nat × Nat) (fun (q, v_5, lo_5, hi_5) => [(16, (.int .i64 (q : Int))), (5, v_5), (4, (.slice none 0 0)), (15, (.int .i64 (((l ++ [(-1)]) ++ m).length : Int)))]) (fun (q, v_5, lo_5, hi_5) w1 => Heap [ow lo10 hi11 3 1 encI u8 [(-1)], ow lo_5 hi_5 3 1 encI v_5 (Q.bump (l ++ [-1] ++ m) q), base w] w1 ∧ q ≤ (l ++ [-1] ++ m).length) (fun (q, v_5, lo_5, hi_5) => (l ++ [-1] ++ m).length - q) (0, u18, lo20, hi21) (Sub.cons rfl (Sub.cons rfl (Sub.cons rfl (Sub.cons rfl (Sub.nil _))))) ?_ ?_
  · exact ⟨(Heap.recast (n := 1) hH22 rfl (Q.bump_zero)), by omega⟩
  · rintro ⟨q, v_5, lo_5, hi_5⟩ w23 ⟨hH24, hq⟩
    show Holds _ _ _ _ _ [(16, (.int .i64 (q : Int))), (5, v_5), (4, (.slice none 0 0)), (15, (.int .i64 (((l ++ [(-1)]) ++ m).length : Int)))] _ _
    have hbl := Q.bump_length (o := (l ++ [-1] ++ m)) (q := q)
    refine seq (region ?_)
    refine ops_y hH24 rfl rfl (yv_lss rfl rfl) ?_
    refine ops_nil (thn_n (seq ?_))
    by_cases hc25 : (q : Int) < (((l ++ [(-1)]) ++ m).length : Int)
    · skip
      refine cond_t rfl (decide_eq_true hc25) ?_
      refine skip (thn_n (seq (block (seq (region (ops_y hH24 rfl rfl (yv_move rfl) (ops_y hH24 rfl rfl (yv_assign rfl) (ops_nil (thn_n ?_)))))))))
      have hnb := Q.nth_bump (o := (l ++ [-1] ++ m)) (q := q) (by omega)
      have hsm := hos.at (k := q) (by omega)
      refine region (ops_y hH24 rfl rfl (yv_move rfl) (ops_y hH24 rfl rfl (yv_move rfl) ?_))
      refine ops_y hH24 rfl rfl (yv_index T.sl22 rfl rfl (Heap.rdw T.el22_encI hH24 (n := 1) rfl).is (by omega)) ?_
      refine ops_y hH24 rfl rfl (yv_load T.one3 rfl (fun _ hw => Rd.at (Heap.rdw T.el22_encI hw (n := 1) rfl) (i := (q : Int)) (by omega) (j := 0) rfl)) ?_
      refine ops_y hH24 rfl rfl (yv_add rfl rfl (by omega)) ?_
      refine ops_y hH24 rfl rfl (yv_index T.sl22 rfl rfl (Heap.rdw T.el22_encI hH24 (n := 1) rfl).is (by omega)) ?_
      refine op_setE (n := 1) (i := (q : Int)) (k := 0) (us := [(.int .i64 ((nth (Q.bump (l ++ [-1] ++ m) q) (q : Int)) + 1))]) (z := (nth (Q.bump (l ++ [-1] ++ m) q) (q : Int)) + 1) T.el22_encI rfl rfl hH24 rfl (by omega) T.sz3 rfl rfl rfl (Nat.le_of_ble_eq_true rfl) (fun w26 hH27 => ?_)
      refine ops_nil (blk_n (thn_n (region ?_)))
      refine ops_y hH27 rfl rfl (yv_add rfl rfl (by omega)) ?_
      refine ops_y hH27 rfl rfl (yv_move rfl) (ops_nil ?_)
      refine lp_n (q + 1, v_5, lo_5, hi_5) (Sub.cons rfl (Sub.cons rfl (Sub.cons rfl (Sub.cons rfl (Sub.nil _))))) ?_ ?_
      · exact ⟨(Heap.recast (n := 1) hH27 rfl (Q.bump_succ (by omega))), by omega⟩
      · first | (dsimp only; omega) | (show _ < _; omega)
    · skip
      refine cond_f rfl (decide_eq_false hc25) ?_
      refine exit (thn_x (lp_x (blk_here (thn_n (seq (region (ops_y hH24 rfl rfl (yv_move rfl) (ops_y hH24 rfl rfl (yv_assign rfl) (ops_nil ?_)))))))))
      refine thn_n (ret ?_)
      have hH28 := (hH24.sub (List.Sublist.cons _ (List.Sublist.refl _)))
      refine fin (hH28.front (n := 1) rfl) (fun w' hf => (res1 rfl (show RV _ _ _ (.tmp 4) _ from rfl))) (fun w' hf => ?_)
      have hqe : q = (l ++ [-1] ++ m).length := by omega
      rw [← Q.bump_all, ← hqe]; exact Heap.own hf (n := 0) rfl

end Go.Fip

set_option linter.unusedVariables false
set_option linter.unusedSimpArgs false
set_option linter.unusedSectionVars false
set_option linter.unnecessarySimpa false
namespace Go.Fip
open Go.Proofs Go.RowKit

theorem c62r {v : Value} {l : List Int} {d : Int} {w : World} (h0 : Rd encI 1 v l w) (hn : l.length ≤ 1000) (hd : 0 ≤ d ∧ d + l.length ≤ 1000000) (ih : ∀ {v : Value} {m : List Int} {d : Int} {w : World}, m.length < l.length → Rd encI 1 v m w → m.length ≤ 1000 → 0 ≤ d ∧ d + m.length ≤ 1000000 → Fn Try.prog 62 [v, .int .i64 d].toArray w (fun u _ => u = .bool (Q.trB m d)))  :
    Fn Try.prog 62 [v, (.int .i64 d)].toArray w (fun u _ => u = .bool (Q.trB l d)) := by
  refine fn_of' (args := [v, (.int .i64 d)]) Try.func62 rfl (ent Try.func62 (by kernel_rfl) rfl) rfl rfl (fun hH => ?_)
  refine seq (region (ops_y hH rfl rfl (yv_assign rfl) (ops_nil (thn_n (seq (seq (region (ops_y hH rfl rfl (yv_move rfl) ?_))))))))
  refine ops_y hH rfl rfl (yv_len T.sl22 rfl (h0.now hH (n := 0) rfl).is) ?_
  refine ops_y hH rfl rfl (yv_eql rfl rfl) ?_
  refine ops_nil (thn_n ?_)
  by_cases hc1 : (l.length : Int) = 0
  · skip
    refine cond_t rfl (decide_eq_true hc1) ?_
    refine seq (region (ops_y hH rfl rfl (yv_assign rfl) (ops_nil (thn_n (ret (thn_r ?_))))))
    refine fin hH (fun w' hf => (res1 rfl (show RV _ _ _ (.tmp 4) _ from rfl))) (fun w' hf => ?_)
    refine congrArg Value.bool ?_; first | exact (Q.trB_nil (by omega)).symm | (rw [hrec, decide_eq_false (show ¬ l.count d = 1 by omega)]; rfl) | (rw [hrec, decide_eq_true hone, hat, ← hat, ← ha1, hat]; simp [*])
  · skip
    refine cond_f rfl (decide_eq_false hc1) ?_
    refine skip (thn_n (seq (region (ops_y hH rfl rfl (yv_assign rfl) (ops_y hH rfl rfl (yv_assign rfl) (ops_nil (thn_n (seq (seq ?_)))))))))
    refine region (ops_y hH rfl rfl (yv_assign rfl) (ops_nil (thn_n (block ?_))))
    refine loop (S := Nat × Int) (fun (k, a) => [(7, (.int .i64 (k : Int))), (6, (.int .i64 (Q.cntTo l d k : Int))), (5, (.int .i64 a)), (0, v), (1, (.int .i64 d)), (4, (.bool false))]) (fun (k, a) w1 => Heap [base w] w1 ∧ k ≤ l.length ∧ (Q.cntTo l d k = 1 → 0 ≤ a ∧ a < (k : Int) ∧ nth l a = d)) (fun (k, a) => l.length - k) (0, 0) (Sub.cons rfl (Sub.cons rfl (Sub.cons rfl (Sub.cons rfl (Sub.cons rfl (Sub.cons rfl (Sub.nil _))))))) ?_ ?_
    · exact ⟨hH, by omega, (fun h => absurd h (by unfold Q.cntTo; simp))⟩
    · rintro ⟨k, a⟩ w2 ⟨hH3, hk, ha⟩
      show Holds _ _ _ _ _ [(7, (.int .i64 (k : Int))), (6, (.int .i64 (Q.cntTo l d k : Int))), (5, (.int .i64 a)), (0, v), (1, (.int .i64 d)), (4, (.bool false))] _ _
      have hcl := Q.cntTo_le (l := l) (d := d) (k := k)
      refine seq (seq (region (ops_y hH3 rfl rfl (yv_move rfl) (ops_y hH3 rfl rfl (yv_move rfl) ?_))))
      refine ops_y hH3 rfl rfl (yv_len T.sl22 rfl (h0.now hH3 (n := 0) rfl).is) ?_
      refine ops_y hH3 rfl rfl (yv_lss rfl rfl) ?_
      refine ops_nil (thn_n ?_)
      by_cases hc4 : (k : Int) < (l.length : Int)
      · skip
        refine cond_t rfl (decide_eq_true hc4) ?_
        refine skip (thn_n (seq (block (seq (region (ops_y hH3 rfl rfl (yv_move rfl) (ops_y hH3 rfl rfl (yv_move rfl) ?_)))))))
        refine ops_y hH3 rfl rfl (yv_index T.sl22 rfl rfl (h0.now hH3 (n := 0) rfl).is (by omega)) ?_
        refine ops_y hH3 rfl rfl (yv_load T.one3 rfl (fun _ hw => Rd.at (h0.now hw (n := 0) rfl) (i := (k : Int)) (by omega) (j := 0) rfl)) ?_
        refine ops_y hH3 rfl rfl (yv_move rfl) ?_
        refine ops_y hH3 rfl rfl (yv_eql rfl rfl) ?_
        refine ops_nil (thn_n ?_)
        by_cases hc5 : (nth l (k : Int)) = d
        · skip
          have hyes : nth l (k : Int) = d := by omega
          have hct := Q.cntTo_t (by omega) hyes
          refine cond_t rfl (decide_eq_true hc5) ?_
          refine region (ops_y hH3 rfl rfl (yv_move rfl) (ops_y hH3 rfl rfl (yv_move rfl) ?_))
          refine ops_y hH3 rfl rfl (yv_add rfl rfl (by omega)) ?_
          refine ops_y hH3 rfl rfl (yv_assign rfl) (ops_y hH3 rfl rfl (yv_assign rfl) (ops_nil (blk_n (thn_n (region (ops_y hH3 rfl rfl (yv_move rfl) ?_))))))
          refine ops_y hH3 rfl rfl (yv_add rfl rfl (by omega)) ?_
          refine ops_y hH3 rfl rfl (yv_assign rfl) (ops_nil ?_)
          refine lp_n ((k + 1), (k : Int)) (Sub.cons rfl (Sub.cons (congrArg (fun z : Int => some (Value.int .i64 z)) (by omega)) (Sub.cons rfl (Sub.cons rfl (Sub.cons rfl (Sub.cons rfl (Sub.nil _))))))) ?_ ?_
          · exact ⟨hH3, by omega, (fun _ => ⟨by omega, by omega, by omega⟩)⟩
          · first | (dsimp only; omega) | (show _ < _; omega)
        · skip
          have hno : ¬ nth l (k : Int) = d := by omega
          have hct := Q.cntTo_f (by omega) hno
          refine cond_f rfl (decide_eq_false hc5) ?_
          refine skip (blk_n (thn_n (region (ops_y hH3 rfl rfl (yv_move rfl) ?_))))
          refine ops_y hH3 rfl rfl (yv_add rfl rfl (by omega)) ?_
          refine ops_y hH3 rfl rfl (yv_assign rfl) (ops_nil ?_)
          refine lp_n ((k + 1), a) (Sub.cons rfl (Sub.cons (congrArg (fun z : Int => some (Value.int .i64 z)) (by omega)) (Sub.cons rfl (Sub.cons rfl (Sub.cons rfl (Sub.cons rfl (Sub.nil _))))))) ?_ ?_
          · exact ⟨hH3, by omega, (fun h => by have := ha (by omega); exact ⟨this.1, by omega, this.2.2⟩)⟩
          · first | (dsimp only; omega) | (show _ < _; omega)
      · skip
        refine cond_f rfl (decide_eq_false hc4) ?_
        refine exit (thn_x (lp_x (blk_here (thn_n (seq ?_)))))
        have hca := Q.cntTo_all (l := l) (d := d) (k := k) (by omega)
        have hrec := Q.trB_rec (l := l) (d := d) (by omega)
        have hle : (l.take a.toNat).length ≤ l.length := by rw [List.length_take]; omega
        refine region (ops_y hH3 rfl rfl (yv_move rfl) ?_)
        refine ops_y hH3 rfl rfl (yv_eql rfl rfl) ?_
        refine ops_y hH3 rfl rfl (yv_move rfl) ?_
        by_cases hc6 : (Q.cntTo l d k : Int) = 1
        · skip
          have hone : l.count d = 1 := by omega
          have ha3 := ha (by omega)
          have hat := Q.count_at hone ha3.1 (by omega) ha3.2.2
          have htl : (l.take a.toNat).length = a.toNat := by rw [List.length_take]; omega
          have hdl : (l.drop (a + 1).toNat).length = l.length - (a + 1).toNat := List.length_drop
          have ha1 : (a + 1).toNat = Q.at_ l d + 1 := by omega
          refine guard_yes rfl rfl (decide_eq_true hc6) ?_
          refine ops_y hH3 rfl rfl (yv_move rfl) ?_
          refine guard_yes rfl rfl (decide_eq_true hc6) ?_
          refine ops_y hH3 rfl rfl (yv_move rfl) ?_
          refine guard_yes rfl rfl (decide_eq_true hc6) ?_
          refine ops_y hH3 rfl rfl (yv_cut_hi T.sl22 rfl rfl (h0.now hH3 (n := 0) rfl).is (by omega)) ?_
          refine guard_yes rfl rfl (decide_eq_true hc6) ?_
          refine ops_y hH3 rfl rfl (yv_move rfl) ?_
          refine guard_yes rfl rfl (decide_eq_true hc6) ?_
          refine ops_y hH3 rfl rfl (yv_add rfl rfl (by omega)) ?_
          refine guard_yes rfl rfl (decide_eq_true hc6) ?_
          refine op_fnV rfl rfl rfl hH3 ((ih (by omega) (Rd.upto (h0.now hH3 (n := 0) rfl) (hi := a.toNat) (by omega)) (by omega) (by omega))) (fun w7 hH8 => ?_)
          refine ops_y hH8 rfl rfl (yv_pick_t rfl (decide_eq_true hc6) rfl) ?_
          refine ops_y hH8 rfl rfl (yv_move rfl) ?_
          by_cases hc9 : (Q.trB (l.take a.toNat) (d + 1)) = true
          · skip
            refine guard_yes rfl rfl hc9 ?_
            refine ops_y hH8 rfl rfl (yv_move rfl) ?_
            refine guard_yes rfl rfl hc9 ?_
            refine ops_y hH8 rfl rfl (yv_move rfl) ?_
            refine guard_yes rfl rfl hc9 ?_
            refine ops_y hH8 rfl rfl (yv_add rfl rfl (by omega)) ?_
            refine guard_yes rfl rfl hc9 ?_
            refine ops_y hH8 rfl rfl (yv_cut_lo T.sl22 rfl rfl (h0.now hH8 (n := 0) rfl).is (by omega)) ?_
            refine guard_yes rfl rfl hc9 ?_
            refine ops_y hH8 rfl rfl (yv_move rfl) ?_
            refine guard_yes rfl rfl hc9 ?_
            refine ops_y hH8 rfl rfl (yv_add rfl rfl (by omega)) ?_
            refine guard_yes rfl rfl hc9 ?_
            refine op_fnV rfl rfl rfl hH8 ((ih (by omega) (Rd.from (h0.now hH8 (n := 0) rfl) (lo := (a + 1).toNat) (by omega)) (by omega) (by omega))) (fun w10 hH11 => ?_)
            refine ops_y hH11 rfl rfl (yv_pick_t rfl hc9 rfl) ?_
            refine ops_y hH11 rfl rfl (yv_assign rfl) (ops_nil (thn_n (ret ?_)))
            refine fin hH11 (fun w' hf => (res1 rfl (show RV _ _ _ (.tmp 4) _ from rfl))) (fun w' hf => ?_)
            refine congrArg Value.bool ?_; first | exact (Q.trB_nil (by omega)).symm | (rw [hrec, decide_eq_false (show ¬ l.count d = 1 by omega)]; rfl) | (rw [hrec, decide_eq_true hone, hat, ← hat, ← ha1, hat]; simp [*])
          · skip
            refine guard_no rfl rfl (Bool.eq_false_iff.2 hc9) rfl ?_
            refine guard_no rfl rfl (Bool.eq_false_iff.2 hc9) rfl ?_
            refine guard_no rfl rfl (Bool.eq_false_iff.2 hc9) rfl ?_
            refine guard_no rfl rfl (Bool.eq_false_iff.2 hc9) rfl ?_
            refine guard_no rfl rfl (Bool.eq_false_iff.2 hc9) rfl ?_
            refine guard_no rfl rfl (Bool.eq_false_iff.2 hc9) rfl ?_
            refine guard_no rfl rfl (Bool.eq_false_iff.2 hc9) rfl ?_
            refine ops_y hH8 rfl rfl (yv_pick_f rfl (Bool.eq_false_iff.2 hc9) rfl) ?_
            refine ops_y hH8 rfl rfl (yv_assign rfl) (ops_nil (thn_n (ret ?_)))
            refine fin hH8 (fun w' hf => (res1 rfl (show RV _ _ _ (.tmp 4) _ from rfl))) (fun w' hf => ?_)
            refine congrArg Value.bool ?_; first | exact (Q.trB_nil (by omega)).symm | (rw [hrec, decide_eq_false (show ¬ l.count d = 1 by omega)]; rfl) | (rw [hrec, decide_eq_true hone, hat, ← hat, ← ha1, hat]; simp [*])
        · skip
          refine guard_no rfl rfl (decide_eq_false hc6) rfl ?_
          refine guard_no rfl rfl (decide_eq_false hc6) rfl ?_
          refine guard_no rfl rfl (decide_eq_false hc6) rfl ?_
          refine guard_no rfl rfl (decide_eq_false hc6) rfl ?_
          refine guard_no rfl rfl (decide_eq_false hc6) rfl ?_
          refine guard_no rfl rfl (decide_eq_false hc6) rfl ?_
          refine ops_y hH3 rfl rfl (yv_pick_f rfl (decide_eq_false hc6) rfl) ?_
          refine ops_y hH3 rfl rfl (yv_move rfl) (guard_no rfl rfl rfl rfl (guard_no rfl rfl rfl rfl (guard_no rfl rfl rfl rfl (guard_no rfl rfl rfl rfl (guard_no rfl rfl rfl rfl (guard_no rfl rfl rfl rfl (guard_no rfl rfl rfl rfl ?_)))))))
          refine ops_y hH3 rfl rfl (yv_pick_f rfl rfl rfl) ?_
          refine ops_y hH3 rfl rfl (yv_assign rfl) (ops_nil (thn_n (ret ?_)))
          refine fin hH3 (fun w' hf => (res1 rfl (show RV _ _ _ (.tmp 4) _ from rfl))) (fun w' hf => ?_)
          refine congrArg Value.bool ?_; first | exact (Q.trB_nil (by omega)).symm | (rw [hrec, decide_eq_false (show ¬ l.count d = 1 by omega)]; rfl) | (rw [hrec, decide_eq_true hone, hat, ← hat, ← ha1, hat]; simp [*])

theorem c62 {v : Value} {l : List Int} {d : Int} {w : World} (h0 : Rd encI 1 v l w) (hn : l.length ≤ 1000) (hd : 0 ≤ d ∧ d + l.length ≤ 1000000) : Fn Try.prog 62 [v, .int .i64 d].toArray w (fun u _ => u = .bool (Q.trB l d)) := by
  induction hlen : l.length using Nat.strongRecOn generalizing v l d w with
  | _ n ih => exact c62r h0 hn hd (fun hlt h1 h2 h3 => ih _ (by omega) h1 h2 h3 rfl)

end Go.Fip

set_option linter.unusedVariables false
set_option linter.unusedSimpArgs false
set_option linter.unusedSectionVars false
set_option linter.unnecessarySimpa false
namespace Go.Fip
open Go.Proofs Go.RowKit

theorem c61r {v : Value} {l : List Int} {w : World} (h0 : Rd encI 1 v l w) (hn : l.length ≤ 1000) (hx : Q.Up l) (ih : ∀ {v : Value} {m : List Int} {w : World}, m.length < l.length → Rd encI 1 v m w → m.length ≤ 1000 → Q.Up m → Fn Try.prog 61 [v].toArray w (fun u _ => u = .bool (Q.trB m 0)))  :
    Fn Try.prog 61 [v].toArray w (fun u _ => u = .bool (Q.trB l 0)) := by
  refine fn_of' (args := [v]) Try.func61 rfl (ent Try.func61 (by kernel_rfl) rfl) rfl rfl (fun hH => ?_)
  refine seq (region (ops_y hH rfl rfl (yv_assign rfl) (ops_nil (thn_n (seq (seq (region (ops_y hH rfl rfl (yv_move rfl) ?_))))))))
  refine ops_y hH rfl rfl (yv_len T.sl22 rfl (h0.now hH (n := 0) rfl).is) ?_
  refine ops_y hH rfl rfl (yv_eql rfl rfl) ?_
  refine ops_nil (thn_n ?_)
  by_cases hc1 : (l.length : Int) = 0
  · skip
    refine cond_t rfl (decide_eq_true hc1) ?_
    refine seq (region (ops_y hH rfl rfl (yv_assign rfl) (ops_nil (thn_n (ret (thn_r ?_))))))
    refine fin hH (fun w' hf => (res1 rfl (show RV _ _ _ (.tmp 2) _ from rfl))) (fun w' hf => ?_)
    refine congrArg Value.bool ?_; first | exact (Q.trB_nil (by omega)).symm | exact (Q.tr_no1 (by omega) (by omega)).symm | exact (Q.tr_no2 (by omega) (by omega) (by assumption)).symm | exact (Q.tr_no3 (by omega) (by omega)).symm | (rw [hyes]; simp [*])
  · skip
    refine cond_f rfl (decide_eq_false hc1) ?_
    refine skip (thn_n (seq ?_))
    have hpb := Q.place_bd (l := l) (x := 0)
    refine region (ops_y hH rfl rfl (yv_move rfl) ?_)
    refine op_fnV rfl rfl rfl hH (c86 (h0.now hH (n := 0) rfl) (by omega)) (fun w2 hH3 => ?_)
    refine ops_y hH3 rfl rfl (yv_assign rfl) (ops_nil (thn_n (seq (seq (region (ops_y hH3 rfl rfl (yv_move rfl) ?_))))))
    refine ops_y hH3 rfl rfl (yv_lss rfl rfl) ?_
    refine ops_y hH3 rfl rfl (yv_move rfl) ?_
    by_cases hc4 : (S.place l 0) < 0
    · skip
      refine guard_no rfl rfl (decide_eq_true hc4) rfl ?_
      refine guard_no rfl rfl (decide_eq_true hc4) rfl ?_
      refine guard_no rfl rfl (decide_eq_true hc4) rfl ?_
      refine guard_no rfl rfl (decide_eq_true hc4) rfl ?_
      refine guard_no rfl rfl (decide_eq_true hc4) rfl ?_
      refine ops_y hH3 rfl rfl (yv_pick_t rfl (decide_eq_true hc4) rfl) ?_
      refine ops_y hH3 rfl rfl (yv_move rfl) (guard_no rfl rfl rfl rfl (guard_no rfl rfl rfl rfl (guard_no rfl rfl rfl rfl ?_)))
      refine ops_y hH3 rfl rfl (yv_pick_t rfl rfl rfl) ?_
      refine ops_nil (thn_n ?_)
      refine cond_t rfl rfl ?_
      refine seq (region (ops_y hH3 rfl rfl (yv_assign rfl) (ops_nil (thn_n (ret (thn_r ?_))))))
      refine fin hH3 (fun w' hf => (res1 rfl (show RV _ _ _ (.tmp 2) _ from rfl))) (fun w' hf => ?_)
      refine congrArg Value.bool ?_; first | exact (Q.trB_nil (by omega)).symm | exact (Q.tr_no1 (by omega) (by omega)).symm | exact (Q.tr_no2 (by omega) (by omega) (by assumption)).symm | exact (Q.tr_no3 (by omega) (by omega)).symm | (rw [hyes]; simp [*])
    · skip
      have hpy := Q.place_yes (l := l) (x := 0) (by omega)
      refine guard_yes rfl rfl (decide_eq_false hc4) ?_
      refine ops_y hH3 rfl rfl (yv_move rfl) ?_
      refine guard_yes rfl rfl (decide_eq_false hc4) ?_
      refine ops_y hH3 rfl rfl (yv_move rfl) ?_
      refine guard_yes rfl rfl (decide_eq_false hc4) ?_
      refine ops_y hH3 rfl rfl (yv_add rfl rfl (by omega)) ?_
      refine guard_yes rfl rfl (decide_eq_false hc4) ?_
      refine ops_y hH3 rfl rfl (yv_cut_lo T.sl22 rfl rfl (h0.now hH3 (n := 0) rfl).is (by omega)) ?_
      refine guard_yes rfl rfl (decide_eq_false hc4) ?_
      refine op_fnV rfl rfl rfl hH3 (c87 (Rd.from (h0.now hH3 (n := 0) rfl) (lo := ((S.place l 0) + 1).toNat) (by omega)) (by first | omega | (rw [List.length_take]; omega) | (rw [List.length_drop]; omega))) (fun w5 hH6 => ?_)
      refine ops_y hH6 rfl rfl (yv_pick_f rfl (decide_eq_false hc4) rfl) ?_
      refine ops_y hH6 rfl rfl (yv_move rfl) ?_
      by_cases hc7 : 0 ≤ S.place (l.drop ((S.place l 0) + 1).toNat) 0
      · skip
        refine guard_no rfl rfl (decide_eq_true hc7) rfl ?_
        refine guard_no rfl rfl (decide_eq_true hc7) rfl ?_
        refine guard_no rfl rfl (decide_eq_true hc7) rfl ?_
        refine ops_y hH6 rfl rfl (yv_pick_t rfl (decide_eq_true hc7) rfl) ?_
        refine ops_nil (thn_n ?_)
        refine cond_t rfl rfl ?_
        refine seq (region (ops_y hH6 rfl rfl (yv_assign rfl) (ops_nil (thn_n (ret (thn_r ?_))))))
        refine fin hH6 (fun w' hf => (res1 rfl (show RV _ _ _ (.tmp 2) _ from rfl))) (fun w' hf => ?_)
        refine congrArg Value.bool ?_; first | exact (Q.trB_nil (by omega)).symm | exact (Q.tr_no1 (by omega) (by omega)).symm | exact (Q.tr_no2 (by omega) (by omega) (by assumption)).symm | exact (Q.tr_no3 (by omega) (by omega)).symm | (rw [hyes]; simp [*])
      · skip
        refine guard_yes rfl rfl (decide_eq_false hc7) ?_
        refine ops_y hH6 rfl rfl (yv_move rfl) ?_
        refine guard_yes rfl rfl (decide_eq_false hc7) ?_
        refine op_fnV rfl rfl rfl hH6 (c88 (h0.now hH6 (n := 0) rfl) (by omega) (by omega)) (fun w8 hH9 => ?_)
        refine guard_yes rfl rfl (decide_eq_false hc7) ?_
        refine ops_y hH9 rfl rfl (yv_lss rfl rfl) ?_
        refine ops_y hH9 rfl rfl (yv_pick_f rfl (decide_eq_false hc7) rfl) ?_
        refine ops_nil (thn_n ?_)
        by_cases hc10 : (S.minTo l (l.length - 1)) < 0
        · skip
          refine cond_t rfl (decide_eq_true hc10) ?_
          refine seq (region (ops_y hH9 rfl rfl (yv_assign rfl) (ops_nil (thn_n (ret (thn_r ?_))))))
          refine fin hH9 (fun w' hf => (res1 rfl (show RV _ _ _ (.tmp 2) _ from rfl))) (fun w' hf => ?_)
          refine congrArg Value.bool ?_; first | exact (Q.trB_nil (by omega)).symm | exact (Q.tr_no1 (by omega) (by omega)).symm | exact (Q.tr_no2 (by omega) (by omega) (by assumption)).symm | exact (Q.tr_no3 (by omega) (by omega)).symm | (rw [hyes]; simp [*])
        · skip
          refine cond_f rfl (decide_eq_false hc10) ?_
          refine skip (thn_n (seq (region (ops_y hH9 rfl rfl (yv_assign rfl) (ops_y hH9 rfl rfl (yv_assign rfl) (ops_nil (thn_n (seq (seq ?_)))))))))
          have hp0 : 0 ≤ S.place l 0 := by omega
          have hmin := fun k hk => Q.min_ge (l := l) (by omega) (k := k) hk
          refine region (ops_y hH9 rfl rfl (yv_move rfl) ?_)
          refine ops_y hH9 rfl rfl (yv_len T.sl22 rfl (h0.now hH9 (n := 0) rfl).is) ?_
          refine ops_y hH9 rfl rfl (yv_move rfl) (ops_nil (thn_n (block ?_)))
          have hH11 := ow_nil (enc := encI) 3 1 hH9
          have hH12 := ow_nil (enc := encI) 3 1 hH11
          refine loop (S := Nat × Value × Nat × Nat × Value × Nat × Nat) (fun (k, v_4, lo_4, hi_4, v_5, lo_5, hi_5) => [(29, (.int .i64 (k : Int))), (4, v_4), (5, v_5), (2, (.bool false)), (3, (.int .i64 (S.place l 0))), (27, v), (28, (.int .i64 (l.length : Int)))]) (fun (k, v_4, lo_4, hi_4, v_5, lo_5, hi_5) w1 => Heap [ow lo_5 hi_5 3 1 encI v_5 (Q.rg l (S.place l 0).toNat k), ow lo_4 hi_4 3 1 encI v_4 (Q.lf l (S.place l 0).toNat k), base w] w1 ∧ k ≤ l.length) (fun (k, v_4, lo_4, hi_4, v_5, lo_5, hi_5) => l.length - k) (0, (.slice none 0 0), w8.heap.size, w8.heap.size, (.slice none 0 0), w8.heap.size, w8.heap.size) (Sub.cons rfl (Sub.cons rfl (Sub.cons rfl (Sub.cons rfl (Sub.cons rfl (Sub.cons rfl (Sub.cons rfl (Sub.nil _)))))))) ?_ ?_
          · exact ⟨(Heap.recast (n := 0) (Heap.recast (n := 1) hH12 rfl (Q.lf_zero)) rfl (Q.rg_zero)), by omega⟩
          · rintro ⟨k, v_4, lo_4, hi_4, v_5, lo_5, hi_5⟩ w13 ⟨hH14, hk⟩
            show Holds _ _ _ _ _ [(29, (.int .i64 (k : Int))), (4, v_4), (5, v_5), (2, (.bool false)), (3, (.int .i64 (S.place l 0))), (27, v), (28, (.int .i64 (l.length : Int)))] _ _
            have hlr := Q.lf_len (l := l) (a := (S.place l 0).toNat) (k := k) (by omega)
            refine seq (region ?_)
            refine ops_y hH14 rfl rfl (yv_lss rfl rfl) ?_
            refine ops_nil (thn_n (seq ?_))
            by_cases hc15 : (k : Int) < (l.length : Int)
            · skip
              refine cond_t rfl (decide_eq_true hc15) ?_
              refine skip (thn_n (seq (block (seq ?_))))
              have hmk := hmin k (by omega)
              have hup := hx.at (k := k) (by omega)
              refine region (ops_y hH14 rfl rfl (yv_move rfl) ?_)
              refine ops_y hH14 rfl rfl (yv_index T.sl22 rfl rfl (h0.now hH14 (n := 2) rfl).is (by omega)) ?_
              refine ops_y hH14 rfl rfl (yv_load T.one3 rfl (fun _ hw => Rd.at (h0.now hw (n := 2) rfl) (i := (k : Int)) (by omega) (j := 0) rfl)) ?_
              refine ops_y hH14 rfl rfl (yv_assign rfl) (ops_y hH14 rfl rfl (yv_assign rfl) (ops_nil (thn_n (block (seq (region (ops_y hH14 rfl rfl (yv_move rfl) (ops_y hH14 rfl rfl (yv_move rfl) ?_))))))))
              refine ops_y hH14 rfl rfl (yv_lss rfl rfl) ?_
              refine ops_y hH14 rfl rfl (yv_assign rfl) (ops_nil (thn_n ?_))
              by_cases hc16 : (k : Int) < (S.place l 0)
              · skip
                refine cond_t rfl (decide_eq_true hc16) ?_
                refine region (ops_y hH14 rfl rfl (yv_move rfl) (ops_y hH14 rfl rfl (yv_move rfl) ?_))
                refine ops_y hH14 rfl rfl (yv_sub rfl rfl (by omega)) ?_
                refine op_lit (us := [(0, (.int .i64 ((nth l (k : Int)) - 1)))]) T.el22_encI [(nth l (k : Int)) - 1] rfl (by decide) rfl (fun a ha => by simp [ha.ev (show ev _ (.tmp 40) = some _ from rfl)]) (fun w => by kernel_rfl) hH14 (fun u17 lo19 hi20 w18 hH21 => ?_)
                refine op_append (n := 2) T.el22_encI rfl rfl rfl hH21 rfl (Heap.rdw T.el22_encI hH21 (n := 0) rfl) (by first | omega | (simp only [List.length_append, List.length_cons, List.length_nil]; omega)) (fun u22 lo24 hi25 w23 hH26 => ?_)
                refine ops_y hH26 rfl rfl (yv_assign rfl) (ops_nil (blk_n (blk_n (thn_n (region ?_)))))
                refine ops_y hH26 rfl rfl (yv_add rfl rfl (by omega)) ?_
                refine ops_y hH26 rfl rfl (yv_move rfl) (ops_nil ?_)
                have hH27 := (hH26.sub (List.Sublist.cons _ (List.Sublist.refl _)))
                refine lp_n (k + 1, u22, lo24, hi25, v_5, lo_5, hi_5) (Sub.cons rfl (Sub.cons rfl (Sub.cons rfl (Sub.cons rfl (Sub.cons rfl (Sub.cons rfl (Sub.cons rfl (Sub.nil _)))))))) ?_ ?_
                · exact ⟨(Heap.recast (n := 0) (Heap.recast (n := 1) hH27 rfl ((by first | exact Q.lf_on (by omega) (by omega) | exact Q.lf_off (by omega)))) rfl ((by first | exact Q.rg_on (by omega) (by omega) | exact Q.rg_off (by omega)))), by omega⟩
                · first | (dsimp only; omega) | (show _ < _; omega)
              · skip
                refine cond_f rfl (decide_eq_false hc16) ?_
                refine seq (region (ops_y hH14 rfl rfl (yv_move rfl) (ops_y hH14 rfl rfl (yv_move rfl) ?_)))
                refine ops_y hH14 rfl rfl (yv_gtr rfl rfl) ?_
                refine ops_y hH14 rfl rfl (yv_assign rfl) (ops_nil (thn_n ?_))
                by_cases hc28 : (S.place l 0) < (k : Int)
                · skip
                  refine cond_t rfl (decide_eq_true hc28) ?_
                  refine region (ops_y hH14 rfl rfl (yv_move rfl) (ops_y hH14 rfl rfl (yv_move rfl) ?_))
                  refine ops_y hH14 rfl rfl (yv_sub rfl rfl (by omega)) ?_
                  refine op_lit (us := [(0, (.int .i64 ((nth l (k : Int)) - 1)))]) T.el22_encI [(nth l (k : Int)) - 1] rfl (by decide) rfl (fun a ha => by simp [ha.ev (show ev _ (.tmp 49) = some _ from rfl)]) (fun w => by kernel_rfl) hH14 (fun u29 lo31 hi32 w30 hH33 => ?_)
                  refine op_append (n := 1) T.el22_encI rfl rfl rfl hH33 rfl (Heap.rdw T.el22_encI hH33 (n := 0) rfl) (by first | omega | (simp only [List.length_append, List.length_cons, List.length_nil]; omega)) (fun u34 lo36 hi37 w35 hH38 => ?_)
                  refine ops_y hH38 rfl rfl (yv_assign rfl) (ops_nil (blk_n (blk_n (thn_n (region ?_)))))
                  refine ops_y hH38 rfl rfl (yv_add rfl rfl (by omega)) ?_
                  refine ops_y hH38 rfl rfl (yv_move rfl) (ops_nil ?_)
                  have hH39 := (hH38.sub (List.Sublist.cons _ (List.Sublist.refl _)))
                  refine lp_n (k + 1, v_4, lo_4, hi_4, u34, lo36, hi37) (Sub.cons rfl (Sub.cons rfl (Sub.cons rfl (Sub.cons rfl (Sub.cons rfl (Sub.cons rfl (Sub.cons rfl (Sub.nil _)))))))) ?_ ?_
                  · exact ⟨(Heap.recast (n := 0) (Heap.recast (n := 1) hH39 rfl ((by first | exact Q.lf_on (by omega) (by omega) | exact Q.lf_off (by omega)))) rfl ((by first | exact Q.rg_on (by omega) (by omega) | exact Q.rg_off (by omega)))), by omega⟩
                  · first | (dsimp only; omega) | (show _ < _; omega)
                · skip
                  refine cond_f rfl (decide_eq_false hc28) ?_
                  refine skip (blk_n (blk_n (thn_n (region ?_))))
                  refine ops_y hH14 rfl rfl (yv_add rfl rfl (by omega)) ?_
                  refine ops_y hH14 rfl rfl (yv_move rfl) (ops_nil ?_)
                  refine lp_n (k + 1, v_4, lo_4, hi_4, v_5, lo_5, hi_5) (Sub.cons rfl (Sub.cons rfl (Sub.cons rfl (Sub.cons rfl (Sub.cons rfl (Sub.cons rfl (Sub.cons rfl (Sub.nil _)))))))) ?_ ?_
                  · exact ⟨(Heap.recast (n := 0) (Heap.recast (n := 1) hH14 rfl ((by first | exact Q.lf_on (by omega) (by omega) | exact Q.lf_off (by omega)))) rfl ((by first | exact Q.rg_on (by omega) (by omega) | exact Q.rg_off (by omega)))), by omega⟩
                  · first | (dsimp only; omega) | (show _ < _; omega)
            · skip
              refine cond_f rfl (decide_eq_false hc15) ?_
              refine exit (thn_x (lp_x (blk_here (thn_n (seq ?_)))))
              have hyes := Q.tr_yes (l := l) (by omega) hp0 (by assumption) (k := k) (by omega)
              refine region (ops_y hH14 rfl rfl (yv_move rfl) ?_)
              refine op_fnV rfl rfl rfl hH14 ((ih (by omega) (Heap.rdw T.el22_encI hH14 (n := 1) rfl) (by omega) hx.lf)) (fun w40 hH41 => ?_)
              refine ops_y hH41 rfl rfl (yv_move rfl) ?_
              by_cases hc42 : (Q.trB (Q.lf l (S.place l 0).toNat k) 0) = true
              · skip
                refine guard_yes rfl rfl hc42 ?_
                refine ops_y hH41 rfl rfl (yv_move rfl) ?_
                refine guard_yes rfl rfl hc42 ?_
                refine op_fnV rfl rfl rfl hH41 ((ih (by omega) (Heap.rdw T.el22_encI hH41 (n := 0) rfl) (by omega) hx.rg)) (fun w43 hH44 => ?_)
                refine ops_y hH44 rfl rfl (yv_pick_t rfl hc42 rfl) ?_
                refine ops_y hH44 rfl rfl (yv_assign rfl) (ops_nil (thn_n (ret ?_)))
                have hH45 := (hH44.sub (List.Sublist.cons _ (List.Sublist.cons _ (List.Sublist.refl _))))
                refine fin hH45 (fun w' hf => (res1 rfl (show RV _ _ _ (.tmp 2) _ from rfl))) (fun w' hf => ?_)
                refine congrArg Value.bool ?_; first | exact (Q.trB_nil (by omega)).symm | exact (Q.tr_no1 (by omega) (by omega)).symm | exact (Q.tr_no2 (by omega) (by omega) (by assumption)).symm | exact (Q.tr_no3 (by omega) (by omega)).symm | (rw [hyes]; simp [*])
              · skip
                refine guard_no rfl rfl (Bool.eq_false_iff.2 hc42) rfl ?_
                refine guard_no rfl rfl (Bool.eq_false_iff.2 hc42) rfl ?_
                refine ops_y hH41 rfl rfl (yv_pick_f rfl (Bool.eq_false_iff.2 hc42) rfl) ?_
                refine ops_y hH41 rfl rfl (yv_assign rfl) (ops_nil (thn_n (ret ?_)))
                have hH46 := (hH41.sub (List.Sublist.cons _ (List.Sublist.cons _ (List.Sublist.refl _))))
                refine fin hH46 (fun w' hf => (res1 rfl (show RV _ _ _ (.tmp 2) _ from rfl))) (fun w' hf => ?_)
                refine congrArg Value.bool ?_; first | exact (Q.trB_nil (by omega)).symm | exact (Q.tr_no1 (by omega) (by omega)).symm | exact (Q.tr_no2 (by omega) (by omega) (by assumption)).symm | exact (Q.tr_no3 (by omega) (by omega)).symm | (rw [hyes]; simp [*])

theorem c61 {v : Value} {l : List Int} {w : World} (h0 : Rd encI 1 v l w) (hn : l.length ≤ 1000) (hx : Q.Up l) : Fn Try.prog 61 [v].toArray w (fun u _ => u = .bool (Q.trB l 0)) := by
  induction hlen : l.length using Nat.strongRecOn generalizing v l w with
  | _ n ih => exact c61r h0 hn hx (fun hlt h1 h2 h3 => ih _ (by omega) h1 h2 h3 rfl)

theorem c19 {v : Value} {l : List Int} {w : World} (h0 : Rd encI 1 v l w) (hn : l.length ≤ 1000000) (hx : Q.Up l)  :
    Fn Try.prog 19 [v].toArray w (fun u _ => u = .int .i64 (Q.ckT l)) := by
  refine fn_of' (args := [v]) Try.func19 rfl (ent Try.func19 (by kernel_rfl) rfl) rfl rfl (fun hH => ?_)
  refine seq (region (ops_y hH rfl rfl (yv_assign rfl) (ops_nil (thn_n (seq (block (seq (region (ops_y hH rfl rfl (yv_move rfl) ?_)))))))))
  refine ops_y hH rfl rfl (yv_len T.sl22 rfl (h0.now hH (n := 0) rfl).is) ?_
  refine op_lit (us := [(0, (.int .i64 (l.length : Int)))]) T.el30_encI [(l.length : Int)] rfl (by decide) rfl (fun a ha => by simp [ha.ev (show ev _ (.tmp 5) = some _ from rfl)]) (fun w => by kernel_rfl) hH (fun u1 lo3 hi4 w2 hH5 => ?_)
  refine op_fnV rfl rfl rfl hH5 (c58_1 (Heap.rdw T.el30_encI hH5 (n := 0) rfl)) (fun w6 hH7 => ?_)
  refine ops_y hH7 rfl rfl (yv_not rfl) ?_
  refine ops_y hH7 rfl rfl (yv_assign rfl) (ops_nil (thn_n ?_))
  by_cases hc8 : 1 ≤ (l.length : Int) ∧ (l.length : Int) ≤ 12
  · skip
    refine cond_f rfl (not_decide_n hc8) ?_
    refine seq ?_
    by_cases hc9 : Q.trB l 0 = true
    · skip
      have hgood : Q.trB l 0 = true := ‹_›
      refine region (ops_y hH7 rfl rfl (yv_move rfl) ?_)
      refine op_fnV rfl rfl rfl hH7 (c61 (h0.now hH7 (n := 1) rfl) (by omega) (by first | assumption | decide)) (fun w10 hH11 => ?_)
      refine ops_y hH11 rfl rfl (yv_not rfl) ?_
      refine ops_y hH11 rfl rfl (yv_assign rfl) (ops_nil (thn_n ?_))
      have hc12 : ¬ ((!(Q.trB l 0)) = true) := by simp [hgood]
      refine cond_f rfl (Bool.eq_false_iff.2 hc12) ?_
      refine skip (blk_n (thn_n (seq (region (ops_y hH11 rfl rfl (yv_assign rfl) (ops_nil (thn_n (ret ?_))))))))
      have hH13 := (hH11.sub (List.Sublist.cons _ (List.Sublist.refl _)))
      refine fin hH13 (fun w' hf => (res1 rfl (show RV _ _ _ (.tmp 2) _ from rfl))) (fun w' hf => ?_)
      first | exact congrArg (Value.int .i64) (Q.kt1 (by omega)).symm | exact congrArg (Value.int .i64) (Q.kt2 (by omega) hbad).symm | exact congrArg (Value.int .i64) (Q.kt3 (by omega) hgood).symm
    · skip
      have hbad : ¬ Q.trB l 0 = true := ‹_›
      refine region (ops_y hH7 rfl rfl (yv_move rfl) ?_)
      refine op_fnV rfl rfl rfl hH7 (c61 (h0.now hH7 (n := 1) rfl) (by omega) (by first | assumption | decide)) (fun w14 hH15 => ?_)
      refine ops_y hH15 rfl rfl (yv_not rfl) ?_
      refine ops_y hH15 rfl rfl (yv_assign rfl) (ops_nil (thn_n ?_))
      have hc16 : (!(Q.trB l 0)) = true := by simp [hbad]
      refine cond_t rfl hc16 ?_
      refine seq (region (ops_y hH15 rfl rfl (yv_assign rfl) (ops_nil (thn_n (ret (blk_r (thn_r ?_)))))))
      have hH17 := (hH15.sub (List.Sublist.cons _ (List.Sublist.refl _)))
      refine fin hH17 (fun w' hf => (res1 rfl (show RV _ _ _ (.tmp 2) _ from rfl))) (fun w' hf => ?_)
      first | exact congrArg (Value.int .i64) (Q.kt1 (by omega)).symm | exact congrArg (Value.int .i64) (Q.kt2 (by omega) hbad).symm | exact congrArg (Value.int .i64) (Q.kt3 (by omega) hgood).symm
  · skip
    refine cond_t rfl (not_decide_t hc8) ?_
    refine seq (region (ops_y hH7 rfl rfl (yv_assign rfl) (ops_nil (thn_n (ret (blk_r (thn_r ?_)))))))
    have hH18 := (hH7.sub (List.Sublist.cons _ (List.Sublist.refl _)))
    refine fin hH18 (fun w' hf => (res1 rfl (show RV _ _ _ (.tmp 2) _ from rfl))) (fun w' hf => ?_)
    first | exact congrArg (Value.int .i64) (Q.kt1 (by omega)).symm | exact congrArg (Value.int .i64) (Q.kt2 (by omega) hbad).symm | exact congrArg (Value.int .i64) (Q.kt3 (by omega) hgood).symm

theorem c20 {v : Value} {l : List Int} {w : World} (h0 : Rd encI 1 v l w) (hn : l.length ≤ 1000000) (hx : Q.Up l)  :
    Fn Try.prog 20 [v].toArray w (fun u _ => u = .int .i64 (Q.ckT l)) := by
  refine fn_of' (args := [v]) Try.func20 rfl (ent Try.func20 (by kernel_rfl) rfl) rfl rfl (fun hH => ?_)
  refine seq (region (ops_y hH rfl rfl (yv_assign rfl) (ops_nil (thn_n (seq (seq (region (ops_y hH rfl rfl (yv_move rfl) ?_))))))))
  refine ops_y hH rfl rfl (yv_len T.sl22 rfl (h0.now hH (n := 0) rfl).is) ?_
  refine ops_y hH rfl rfl (yv_lss rfl rfl) ?_
  refine ops_y hH rfl rfl (yv_move rfl) ?_
  by_cases hc1 : (l.length : Int) < 1
  · skip
    refine guard_no rfl rfl (decide_eq_true hc1) rfl ?_
    refine guard_no rfl rfl (decide_eq_true hc1) rfl ?_
    refine guard_no rfl rfl (decide_eq_true hc1) rfl ?_
    refine ops_y hH rfl rfl (yv_pick_t rfl (decide_eq_true hc1) rfl) ?_
    refine ops_nil (thn_n ?_)
    refine cond_t rfl rfl ?_
    refine seq (region (ops_y hH rfl rfl (yv_assign rfl) (ops_nil (thn_n (ret (thn_r ?_))))))
    refine fin hH (fun w' hf => (res1 rfl (show RV _ _ _ (.tmp 2) _ from rfl))) (fun w' hf => ?_)
    first | exact congrArg (Value.int .i64) (Q.kt1 (by omega)).symm | exact congrArg (Value.int .i64) (Q.kt2 (by omega) hbad).symm | exact congrArg (Value.int .i64) (Q.kt3 (by omega) hgood).symm
  · skip
    refine guard_yes rfl rfl (decide_eq_false hc1) ?_
    refine ops_y hH rfl rfl (yv_move rfl) ?_
    refine guard_yes rfl rfl (decide_eq_false hc1) ?_
    refine ops_y hH rfl rfl (yv_len T.sl22 rfl (h0.now hH (n := 0) rfl).is) ?_
    refine guard_yes rfl rfl (decide_eq_false hc1) ?_
    refine ops_y hH rfl rfl (yv_gtr rfl rfl) ?_
    refine ops_y hH rfl rfl (yv_pick_f rfl (decide_eq_false hc1) rfl) ?_
    refine ops_nil (thn_n ?_)
    by_cases hc2 : 12 < (l.length : Int)
    · skip
      refine cond_t rfl (decide_eq_true hc2) ?_
      refine seq (region (ops_y hH rfl rfl (yv_assign rfl) (ops_nil (thn_n (ret (thn_r ?_))))))
      refine fin hH (fun w' hf => (res1 rfl (show RV _ _ _ (.tmp 2) _ from rfl))) (fun w' hf => ?_)
      first | exact congrArg (Value.int .i64) (Q.kt1 (by omega)).symm | exact congrArg (Value.int .i64) (Q.kt2 (by omega) hbad).symm | exact congrArg (Value.int .i64) (Q.kt3 (by omega) hgood).symm
    · skip
      refine cond_f rfl (decide_eq_false hc2) ?_
      refine skip (thn_n (seq (seq ?_)))
      by_cases hc3 : Q.trB l 0 = true
      · skip
        have hgood : Q.trB l 0 = true := ‹_›
        refine region (ops_y hH rfl rfl (yv_move rfl) ?_)
        refine op_fnV rfl rfl rfl hH (c62 (h0.now hH (n := 0) rfl) (by omega) (by omega)) (fun w4 hH5 => ?_)
        refine ops_y hH5 rfl rfl (yv_not rfl) ?_
        refine ops_nil (thn_n ?_)
        have hc6 : ¬ ((!(Q.trB l 0)) = true) := by simp [hgood]
        refine cond_f rfl (Bool.eq_false_iff.2 hc6) ?_
        refine skip (thn_n (seq (region (ops_y hH5 rfl rfl (yv_assign rfl) (ops_nil (thn_n (ret ?_)))))))
        refine fin hH5 (fun w' hf => (res1 rfl (show RV _ _ _ (.tmp 2) _ from rfl))) (fun w' hf => ?_)
        first | exact congrArg (Value.int .i64) (Q.kt1 (by omega)).symm | exact congrArg (Value.int .i64) (Q.kt2 (by omega) hbad).symm | exact congrArg (Value.int .i64) (Q.kt3 (by omega) hgood).symm
      · skip
        have hbad : ¬ Q.trB l 0 = true := ‹_›
        refine region (ops_y hH rfl rfl (yv_move rfl) ?_)
        refine op_fnV rfl rfl rfl hH (c62 (h0.now hH (n := 0) rfl) (by omega) (by omega)) (fun w7 hH8 => ?_)
        refine ops_y hH8 rfl rfl (yv_not rfl) ?_
        refine ops_nil (thn_n ?_)
        have hc9 : (!(Q.trB l 0)) = true := by simp [hbad]
        refine cond_t rfl hc9 ?_
        refine seq (region (ops_y hH8 rfl rfl (yv_assign rfl) (ops_nil (thn_n (ret (thn_r ?_))))))
        refine fin hH8 (fun w' hf => (res1 rfl (show RV _ _ _ (.tmp 2) _ from rfl))) (fun w' hf => ?_)
        first | exact congrArg (Value.int .i64) (Q.kt1 (by omega)).symm | exact congrArg (Value.int .i64) (Q.kt2 (by omega) hbad).symm | exact congrArg (Value.int .i64) (Q.kt3 (by omega) hgood).symm

end Go.Fip

set_option linter.unusedVariables false
set_option linter.unusedSimpArgs false
set_option linter.unusedSectionVars false
set_option linter.unnecessarySimpa false
namespace Go.Fip
open Go.Proofs Go.RowKit

theorem tup2 {p : Int × Int} {a b : Int} {k k2 : IntKind} (h : p = (a, b)) : Value.tuple #[.int k a, .int k2 b] = .tuple #[.int k p.1, .int k2 p.2] := by subst h; rfl

theorem c63 {v u : Value} {l m : List Int} {w : World} (h0 : Rd encI 1 v l w) (h1 : Rd encI 1 u m w) (hw : ∀ x ∈ l, 0 ≤ x ∧ x ≤ 1000) (hm : Q.ckT m = 0) (he : m.length = l.length) (hn : l.length ≤ 12)  :
    Fn Try.prog 63 [v, u].toArray w (fun u _ => u = .int .i64 (Q.costTo l m m.length)) := by
  refine fn_of' (args := [v, u]) Try.func63 rfl (ent Try.func63 (by kernel_rfl) rfl) rfl rfl (fun hH => ?_)
  refine seq (region (ops_y hH rfl rfl (yv_assign rfl) (ops_nil (thn_n (seq (region (ops_y hH rfl rfl (yv_assign rfl) (ops_nil (thn_n ?_)))))))))
  refine seq (seq (region (ops_y hH rfl rfl (yv_assign rfl) (ops_nil (thn_n (block ?_))))))
  refine loop (S := Nat) (fun k => [(5, (.int .i64 (Q.costTo l m k))), (6, (.int .i64 (k : Int))), (0, v), (1, u), (4, (.int .i64 0))]) (fun k w1 => Heap [base w] w1 ∧ k ≤ m.length) (fun k => m.length - k) (0) (Sub.cons rfl (Sub.cons rfl (Sub.cons rfl (Sub.cons rfl (Sub.cons rfl (Sub.nil _)))))) ?_ ?_
  · exact ⟨hH, by omega⟩
  · rintro k w1 ⟨hH2, hk⟩
    show Holds _ _ _ _ _ [(5, (.int .i64 (Q.costTo l m k))), (6, (.int .i64 (k : Int))), (0, v), (1, u), (4, (.int .i64 0))] _ _
    refine seq (seq (region (ops_y hH2 rfl rfl (yv_move rfl) (ops_y hH2 rfl rfl (yv_move rfl) ?_))))
    refine ops_y hH2 rfl rfl (yv_len T.sl22 rfl (h1.now hH2 (n := 0) rfl).is) ?_
    refine ops_y hH2 rfl rfl (yv_lss rfl rfl) ?_
    refine ops_nil (thn_n ?_)
    by_cases hc3 : (k : Int) < (m.length : Int)
    · skip
      refine cond_t rfl (decide_eq_true hc3) ?_
      refine skip (thn_n (seq (block ?_)))
      have hcb := Q.costTo_bd hw hm he k (by omega)
      have hwa := Q.of_all hw (i := k) (by omega)
      have hta := Q.ck_bd hm (k := k) (by omega)
      have hmb := Q.mul_bd hwa.1 hwa.2 (b := nth m (k : Int) + 1) (by omega) (by omega)
      have hmc := Int.mul_comm (nth l (k : Int)) (nth m (k : Int) + 1)
      have hst : Q.costTo l m k + nth l (k : Int) * (nth m (k : Int) + 1) = Q.costTo l m (k + 1) := rfl
      have hst2 : Q.costTo l m k + (nth m (k : Int) + 1) * nth l (k : Int) = Q.costTo l m (k + 1) := by rw [← hmc]; rfl
      refine region_draw (fun w' => Heap [base w] w') T.mixed (fun w4 hr5 => ?_)
      have hH6 := hH2.redrawn hr5
      refine any_takes [0, 1, 2, 3, 4, 5, 6, 7, 8, 9, 10, 11, 12] (by kernel_rfl) hH6 _ _ _ (by kernel_rfl) ?_
      refine qs_y rfl rfl (yv_move rfl) (qs_y rfl rfl (yv_move rfl) (qs_y rfl rfl (yv_move rfl) ?_))
      refine qs_y rfl rfl (yv_index T.sl30 rfl rfl (h0.now hH6 (n := 0) rfl).is (by omega)) ?_
      refine qs_y rfl rfl (yv_load T.one2 rfl (fun _ hw => Rd.at (h0.now hw (n := 0) rfl) (i := (k : Int)) (by omega) (j := 0) rfl)) ?_
      refine qs_y rfl rfl (yv_move rfl) (qs_y rfl rfl (yv_move rfl) ?_)
      refine qs_y rfl rfl (yv_index T.sl22 rfl rfl (h1.now hH6 (n := 0) rfl).is (by omega)) ?_
      refine qs_y rfl rfl (yv_load T.one3 rfl (fun _ hw => Rd.at (h1.now hw (n := 0) rfl) (i := (k : Int)) (by omega) (j := 0) rfl)) ?_
      refine qs_y rfl rfl (yv_add rfl rfl (by omega)) ?_
      refine qs_y rfl rfl (yv_mul rfl rfl (by omega)) ?_
      refine qs_y rfl rfl (yv_add rfl rfl (by omega)) ?_
      refine qs_y rfl rfl (yv_assign rfl) (qs_nil ?_)
      refine any_done (by kernel_rfl) ?_
      refine blk_n (thn_n (region (ops_y hH6 rfl rfl (yv_move rfl) ?_)))
      refine ops_y hH6 rfl rfl (yv_add rfl rfl (by omega)) ?_
      refine ops_y hH6 rfl rfl (yv_assign rfl) (ops_nil ?_)
      refine lp_n (k + 1) (Sub.cons (congrArg (fun z : Int => some (Value.int .i64 z)) (by first | exact hst | exact hst2)) (Sub.cons rfl (Sub.cons rfl (Sub.cons rfl (Sub.cons rfl (Sub.nil _)))))) ?_ ?_
      · exact ⟨hH6, by omega⟩
      · first | (dsimp only; omega) | (show _ < _; omega)
    · skip
      refine cond_f rfl (decide_eq_false hc3) ?_
      refine exit (thn_x (lp_x (blk_here (thn_n (seq (region (ops_y hH2 rfl rfl (yv_move rfl) (ops_y hH2 rfl rfl (yv_assign rfl) (ops_nil ?_)))))))))
      refine thn_n (ret ?_)
      refine fin hH2 (fun w' hf => (res1 rfl (show RV _ _ _ (.tmp 4) _ from rfl))) (fun w' hf => ?_)
      have hke : k = m.length := by omega
      rw [hke]

theorem c23 {v u : Value} {l m : List Int} {w : World} (h0 : Rd encI 1 v l w) (h1 : Rd encI 1 u m w) (hn : l.length ≤ 1000000) (hn2 : m.length ≤ 1000000) (hx : Q.Up m)  :
    Fn Try.prog 23 [v, u].toArray w (fun u _ => u = .tuple #[.int .i64 (Q.costR l m).1, .int .i64 (Q.costR l m).2]) := by
  refine fn_of' (args := [v, u]) Try.func23 rfl (ent Try.func23 (by kernel_rfl) rfl) rfl rfl (fun hH => ?_)
  refine seq (region (ops_y hH rfl rfl (yv_assign rfl) (ops_y hH rfl rfl (yv_assign rfl) (ops_nil (thn_n (seq (seq (region (ops_y hH rfl rfl (yv_move rfl) ?_)))))))))
  refine op_fnV rfl rfl rfl hH (c31 (h0.now hH (n := 0) rfl) (by omega)) (fun w1 hH2 => ?_)
  refine ops_y hH2 rfl rfl (yv_assign rfl) (ops_nil (thn_n (seq (region (ops_y hH2 rfl rfl (yv_move rfl) ?_)))))
  refine ops_y hH2 rfl rfl (yv_neq rfl rfl) ?_
  refine ops_nil (thn_n ?_)
  by_cases hc3 : (Q.ckW l) = 0
  · skip
    have hcw : Q.ckW l = 0 := by omega
    obtain ⟨hwl, hw⟩ := Q.ckW_w hcw
    refine cond_f rfl (not_decide_n hc3) ?_
    refine skip (thn_n (seq (seq (region (ops_y hH2 rfl rfl (yv_move rfl) ?_)))))
    refine op_fnV rfl rfl rfl hH2 (c19 (h1.now hH2 (n := 0) rfl) (by omega) (by first | assumption | decide)) (fun w4 hH5 => ?_)
    refine ops_y hH5 rfl rfl (yv_assign rfl) (ops_nil (thn_n (seq (region (ops_y hH5 rfl rfl (yv_move rfl) ?_)))))
    refine ops_y hH5 rfl rfl (yv_neq rfl rfl) ?_
    refine ops_nil (thn_n ?_)
    by_cases hc6 : (Q.ckT m) = 0
    · skip
      have hm : Q.ckT m = 0 := by omega
      obtain ⟨hml, -⟩ := Q.ck_tree hm
      refine cond_f rfl (not_decide_n hc6) ?_
      refine skip (thn_n (seq (seq (region (ops_y hH5 rfl rfl (yv_move rfl) ?_)))))
      refine ops_y hH5 rfl rfl (yv_len T.sl22 rfl (h1.now hH5 (n := 0) rfl).is) ?_
      refine ops_y hH5 rfl rfl (yv_move rfl) ?_
      refine ops_y hH5 rfl rfl (yv_len T.sl30 rfl (h0.now hH5 (n := 0) rfl).is) ?_
      refine ops_y hH5 rfl rfl (yv_neq rfl rfl) ?_
      refine ops_nil (thn_n ?_)
      by_cases hc7 : (m.length : Int) = (l.length : Int)
      · skip
        have he : m.length = l.length := by omega
        refine cond_f rfl (not_decide_n hc7) ?_
        refine skip (thn_n (seq (region (ops_y hH5 rfl rfl (yv_assign rfl) (ops_nil (thn_n (seq (seq (region ?_)))))))))
        refine ops_y hH5 rfl rfl (yv_move rfl) ?_
        refine ops_y hH5 rfl rfl (yv_len T.sl22 rfl (h1.now hH5 (n := 0) rfl).is) ?_
        refine ops_y hH5 rfl rfl (yv_move rfl) (ops_nil (thn_n (block ?_)))
        refine loop (S := Nat) (fun k => [(8, (.int .i64 (Q.costTo l m k))), (28, (.int .i64 (k : Int))), (0, v), (4, (.int .i64 0)), (5, (.int .i64 0)), (26, u), (27, (.int .i64 (m.length : Int)))]) (fun k w1 => Heap [base w] w1 ∧ k ≤ m.length) (fun k => m.length - k) (0) (Sub.cons rfl (Sub.cons rfl (Sub.cons rfl (Sub.cons rfl (Sub.cons rfl (Sub.cons rfl (Sub.cons rfl (Sub.nil _)))))))) ?_ ?_
        · exact ⟨hH5, by omega⟩
        · rintro k w8 ⟨hH9, hk⟩
          show Holds _ _ _ _ _ [(8, (.int .i64 (Q.costTo l m k))), (28, (.int .i64 (k : Int))), (0, v), (4, (.int .i64 0)), (5, (.int .i64 0)), (26, u), (27, (.int .i64 (m.length : Int)))] _ _
          refine seq (region ?_)
          refine ops_y hH9 rfl rfl (yv_lss rfl rfl) ?_
          refine ops_nil (thn_n (seq ?_))
          by_cases hc10 : (k : Int) < (m.length : Int)
          · skip
            refine cond_t rfl (decide_eq_true hc10) ?_
            refine skip (thn_n (seq (block (seq (region (ops_y hH9 rfl rfl (yv_move rfl) ?_))))))
            refine ops_y hH9 rfl rfl (yv_index T.sl22 rfl rfl (h1.now hH9 (n := 0) rfl).is (by omega)) ?_
            refine ops_y hH9 rfl rfl (yv_load T.one3 rfl (fun _ hw => Rd.at (h1.now hw (n := 0) rfl) (i := (k : Int)) (by omega) (j := 0) rfl)) ?_
            refine ops_y hH9 rfl rfl (yv_assign rfl) (ops_y hH9 rfl rfl (yv_assign rfl) (ops_nil (thn_n ?_)))
            have hcb := Q.costTo_bd hw hm he k (by omega)
            have hwa := Q.of_all hw (i := k) (by omega)
            have hta := Q.ck_bd hm (k := k) (by omega)
            have hmb := Q.mul_bd hwa.1 hwa.2 (b := nth m (k : Int) + 1) (by omega) (by omega)
            have hmc := Int.mul_comm (nth l (k : Int)) (nth m (k : Int) + 1)
            have hst : Q.costTo l m k + nth l (k : Int) * (nth m (k : Int) + 1) = Q.costTo l m (k + 1) := rfl
            have hst2 : Q.costTo l m k + (nth m (k : Int) + 1) * nth l (k : Int) = Q.costTo l m (k + 1) := by rw [← hmc]; rfl
            refine region (ops_y hH9 rfl rfl (yv_move rfl) (ops_y hH9 rfl rfl (yv_move rfl) ?_))
            refine ops_y hH9 rfl rfl (yv_add rfl rfl (by omega)) ?_
            refine ops_y hH9 rfl rfl (yv_move rfl) (ops_y hH9 rfl rfl (yv_move rfl) ?_)
            refine ops_y hH9 rfl rfl (yv_index T.sl30 rfl rfl (h0.now hH9 (n := 0) rfl).is (by omega)) ?_
            refine ops_y hH9 rfl rfl (yv_load T.one2 rfl (fun _ hw => Rd.at (h0.now hw (n := 0) rfl) (i := (k : Int)) (by omega) (j := 0) rfl)) ?_
            refine ops_y hH9 rfl rfl (yv_mul rfl rfl (by omega)) ?_
            refine ops_y hH9 rfl rfl (yv_add rfl rfl (by omega)) ?_
            refine ops_y hH9 rfl rfl (yv_assign rfl) (ops_nil (blk_n (thn_n (region ?_))))
            refine ops_y hH9 rfl rfl (yv_add rfl rfl (by omega)) ?_
            refine ops_y hH9 rfl rfl (yv_move rfl) (ops_nil ?_)
            refine lp_n (k + 1) (Sub.cons (congrArg (fun z : Int => some (Value.int .i64 z)) (by first | exact hst | exact hst2)) (Sub.cons rfl (Sub.cons rfl (Sub.cons rfl (Sub.cons rfl (Sub.cons rfl (Sub.cons rfl (Sub.nil _)))))))) ?_ ?_
            · exact ⟨hH9, by omega⟩
            · first | (dsimp only; omega) | (show _ < _; omega)
          · skip
            refine cond_f rfl (decide_eq_false hc10) ?_
            refine exit (thn_x (lp_x (blk_here (thn_n (seq (region (ops_y hH9 rfl rfl (yv_move rfl) (ops_y hH9 rfl rfl (yv_assign rfl) (ops_y hH9 rfl rfl (yv_assign rfl) ?_)))))))))
            refine ops_nil (thn_n (ret ?_))
            refine fin hH9 (fun w' hf => (res2 rfl (show RV _ _ _ (.tmp 4) _ from rfl) (show RV _ _ _ (.tmp 5) _ from rfl))) (fun w' hf => ?_)
            first | exact tup2 (Q.co1 (w := l) (t := m) hcw9) | exact tup2 (Q.co2 (w := l) (t := m) hcw hm9) | exact tup2 (Q.co3 (w := l) (t := m) hcw hm he9) | exact tup2 (Q.co4 (w := l) (t := m) hcw hm he) | ((have hke : k = m.length := (by omega)); exact tup2 ((Q.co4 (w := l) (t := m) hcw hm he).trans (by rw [hke])))
      · skip
        have he9 : ¬ m.length = l.length := by omega
        refine cond_t rfl (not_decide_t hc7) ?_
        refine seq (region (ops_y hH5 rfl rfl (yv_assign rfl) (ops_y hH5 rfl rfl (yv_assign rfl) (ops_nil (thn_n (ret (thn_r ?_)))))))
        refine fin hH5 (fun w' hf => (res2 rfl (show RV _ _ _ (.tmp 4) _ from rfl) (show RV _ _ _ (.tmp 5) _ from rfl))) (fun w' hf => ?_)
        first | exact tup2 (Q.co1 (w := l) (t := m) hcw9) | exact tup2 (Q.co2 (w := l) (t := m) hcw hm9) | exact tup2 (Q.co3 (w := l) (t := m) hcw hm he9) | exact tup2 (Q.co4 (w := l) (t := m) hcw hm he) | ((have hke : k = m.length := (by omega)); exact tup2 ((Q.co4 (w := l) (t := m) hcw hm he).trans (by rw [hke])))
    · skip
      have hm9 : ¬ Q.ckT m = 0 := by omega
      refine cond_t rfl (not_decide_t hc6) ?_
      refine seq (region (ops_y hH5 rfl rfl (yv_move rfl) (ops_y hH5 rfl rfl (yv_assign rfl) (ops_y hH5 rfl rfl (yv_assign rfl) (ops_nil (thn_n (ret (thn_r ?_))))))))
      refine fin hH5 (fun w' hf => (res2 rfl (show RV _ _ _ (.tmp 4) _ from rfl) (show RV _ _ _ (.tmp 5) _ from rfl))) (fun w' hf => ?_)
      first | exact tup2 (Q.co1 (w := l) (t := m) hcw9) | exact tup2 (Q.co2 (w := l) (t := m) hcw hm9) | exact tup2 (Q.co3 (w := l) (t := m) hcw hm he9) | exact tup2 (Q.co4 (w := l) (t := m) hcw hm he) | ((have hke : k = m.length := (by omega)); exact tup2 ((Q.co4 (w := l) (t := m) hcw hm he).trans (by rw [hke])))
  · skip
    have hcw9 : ¬ Q.ckW l = 0 := by omega
    refine cond_t rfl (not_decide_t hc3) ?_
    refine seq (region (ops_y hH2 rfl rfl (yv_move rfl) (ops_y hH2 rfl rfl (yv_assign rfl) (ops_y hH2 rfl rfl (yv_assign rfl) (ops_nil (thn_n (ret (thn_r ?_))))))))
    refine fin hH2 (fun w' hf => (res2 rfl (show RV _ _ _ (.tmp 4) _ from rfl) (show RV _ _ _ (.tmp 5) _ from rfl))) (fun w' hf => ?_)
    first | exact tup2 (Q.co1 (w := l) (t := m) hcw9) | exact tup2 (Q.co2 (w := l) (t := m) hcw hm9) | exact tup2 (Q.co3 (w := l) (t := m) hcw hm he9) | exact tup2 (Q.co4 (w := l) (t := m) hcw hm he) | ((have hke : k = m.length := (by omega)); exact tup2 ((Q.co4 (w := l) (t := m) hcw hm he).trans (by rw [hke])))

theorem c24 {v u : Value} {l m : List Int} {w : World} (h0 : Rd encI 1 v l w) (h1 : Rd encI 1 u m w) (hn : l.length ≤ 1000000) (hn2 : m.length ≤ 1000000) (hx : Q.Up m)  :
    Fn Try.prog 24 [v, u].toArray w (fun u _ => u = .tuple #[.int .i64 (Q.costR l m).1, .int .i64 (Q.costR l m).2]) := by
  refine fn_of' (args := [v, u]) Try.func24 rfl (ent Try.func24 (by kernel_rfl) rfl) rfl rfl (fun hH => ?_)
  refine seq (region (ops_y hH rfl rfl (yv_assign rfl) (ops_y hH rfl rfl (yv_assign rfl) (ops_nil (thn_n (seq (seq (region (ops_y hH rfl rfl (yv_move rfl) ?_)))))))))
  refine op_fnV rfl rfl rfl hH (c32 (h0.now hH (n := 0) rfl) (by omega)) (fun w1 hH2 => ?_)
  refine ops_y hH2 rfl rfl (yv_neq rfl rfl) ?_
  refine ops_nil (thn_n ?_)
  by_cases hc3 : (Q.ckW l) = 0
  · skip
    have hcw : Q.ckW l = 0 := by omega
    obtain ⟨hwl, hw⟩ := Q.ckW_w hcw
    refine cond_f rfl (not_decide_n hc3) ?_
    refine skip (thn_n (seq (seq (region (ops_y hH2 rfl rfl (yv_move rfl) ?_)))))
    refine op_fnV rfl rfl rfl hH2 (c20 (h1.now hH2 (n := 0) rfl) (by omega) (by first | assumption | decide)) (fun w4 hH5 => ?_)
    refine ops_y hH5 rfl rfl (yv_neq rfl rfl) ?_
    refine ops_nil (thn_n ?_)
    by_cases hc6 : (Q.ckT m) = 0
    · skip
      have hm : Q.ckT m = 0 := by omega
      obtain ⟨hml, -⟩ := Q.ck_tree hm
      refine cond_f rfl (not_decide_n hc6) ?_
      refine skip (thn_n (seq (seq (region (ops_y hH5 rfl rfl (yv_move rfl) ?_)))))
      refine ops_y hH5 rfl rfl (yv_len T.sl22 rfl (h1.now hH5 (n := 0) rfl).is) ?_
      refine ops_y hH5 rfl rfl (yv_move rfl) ?_
      refine ops_y hH5 rfl rfl (yv_len T.sl30 rfl (h0.now hH5 (n := 0) rfl).is) ?_
      refine ops_y hH5 rfl rfl (yv_neq rfl rfl) ?_
      refine ops_nil (thn_n ?_)
      by_cases hc7 : (m.length : Int) = (l.length : Int)
      · skip
        have he : m.length = l.length := by omega
        refine cond_f rfl (not_decide_n hc7) ?_
        refine skip (thn_n (seq (region (ops_y hH5 rfl rfl (yv_move rfl) (ops_y hH5 rfl rfl (yv_move rfl) ?_)))))
        refine op_fnV rfl rfl rfl hH5 (c63 (h0.now hH5 (n := 0) rfl) (h1.now hH5 (n := 0) rfl) hw hm (by omega) (by omega)) (fun w8 hH9 => ?_)
        refine ops_y hH9 rfl rfl (yv_assign rfl) (ops_y hH9 rfl rfl (yv_assign rfl) (ops_nil (thn_n (ret ?_))))
        refine fin hH9 (fun w' hf => (res2 rfl (show RV _ _ _ (.tmp 4) _ from rfl) (show RV _ _ _ (.tmp 5) _ from rfl))) (fun w' hf => ?_)
        first | exact tup2 (Q.co1 (w := l) (t := m) hcw9) | exact tup2 (Q.co2 (w := l) (t := m) hcw hm9) | exact tup2 (Q.co3 (w := l) (t := m) hcw hm he9) | exact tup2 (Q.co4 (w := l) (t := m) hcw hm he) | ((have hke : k = m.length := (by omega)); exact tup2 ((Q.co4 (w := l) (t := m) hcw hm he).trans (by rw [hke])))
      · skip
        have he9 : ¬ m.length = l.length := by omega
        refine cond_t rfl (not_decide_t hc7) ?_
        refine seq (region (ops_y hH5 rfl rfl (yv_assign rfl) (ops_y hH5 rfl rfl (yv_assign rfl) (ops_nil (thn_n (ret (thn_r ?_)))))))
        refine fin hH5 (fun w' hf => (res2 rfl (show RV _ _ _ (.tmp 4) _ from rfl) (show RV _ _ _ (.tmp 5) _ from rfl))) (fun w' hf => ?_)
        first | exact tup2 (Q.co1 (w := l) (t := m) hcw9) | exact tup2 (Q.co2 (w := l) (t := m) hcw hm9) | exact tup2 (Q.co3 (w := l) (t := m) hcw hm he9) | exact tup2 (Q.co4 (w := l) (t := m) hcw hm he) | ((have hke : k = m.length := (by omega)); exact tup2 ((Q.co4 (w := l) (t := m) hcw hm he).trans (by rw [hke])))
    · skip
      have hm9 : ¬ Q.ckT m = 0 := by omega
      refine cond_t rfl (not_decide_t hc6) ?_
      refine seq (region (ops_y hH5 rfl rfl (yv_move rfl) ?_))
      refine op_fnV rfl rfl rfl hH5 (c20 (h1.now hH5 (n := 0) rfl) (by omega) (by first | assumption | decide)) (fun w10 hH11 => ?_)
      refine ops_y hH11 rfl rfl (yv_assign rfl) (ops_y hH11 rfl rfl (yv_assign rfl) (ops_nil (thn_n (ret (thn_r ?_)))))
      refine fin hH11 (fun w' hf => (res2 rfl (show RV _ _ _ (.tmp 4) _ from rfl) (show RV _ _ _ (.tmp 5) _ from rfl))) (fun w' hf => ?_)
      first | exact tup2 (Q.co1 (w := l) (t := m) hcw9) | exact tup2 (Q.co2 (w := l) (t := m) hcw hm9) | exact tup2 (Q.co3 (w := l) (t := m) hcw hm he9) | exact tup2 (Q.co4 (w := l) (t := m) hcw hm he) | ((have hke : k = m.length := (by omega)); exact tup2 ((Q.co4 (w := l) (t := m) hcw hm he).trans (by rw [hke])))
  · skip
    have hcw9 : ¬ Q.ckW l = 0 := by omega
    refine cond_t rfl (not_decide_t hc3) ?_
    refine seq (region (ops_y hH2 rfl rfl (yv_move rfl) ?_))
    refine op_fnV rfl rfl rfl hH2 (c32 (h0.now hH2 (n := 0) rfl) (by omega)) (fun w12 hH13 => ?_)
    refine ops_y hH13 rfl rfl (yv_assign rfl) (ops_y hH13 rfl rfl (yv_assign rfl) (ops_nil (thn_n (ret (thn_r ?_)))))
    refine fin hH13 (fun w' hf => (res2 rfl (show RV _ _ _ (.tmp 4) _ from rfl) (show RV _ _ _ (.tmp 5) _ from rfl))) (fun w' hf => ?_)
    first | exact tup2 (Q.co1 (w := l) (t := m) hcw9) | exact tup2 (Q.co2 (w := l) (t := m) hcw hm9) | exact tup2 (Q.co3 (w := l) (t := m) hcw hm he9) | exact tup2 (Q.co4 (w := l) (t := m) hcw hm he) | ((have hke : k = m.length := (by omega)); exact tup2 ((Q.co4 (w := l) (t := m) hcw hm he).trans (by rw [hke])))

theorem c72 {n : Int} {w : World} (h0 : 1 ≤ n) (h1 : n ≤ 12)  :
    Fn Try.prog 72 [(.int .i64 n)].toArray w (fun u _ => u = .int .i64 (Q.cnt n.toNat : Int)) := by
  refine fn_of' (args := [(.int .i64 n)]) Try.func72 rfl (ent Try.func72 (by kernel_rfl) rfl) rfl rfl (fun hH => ?_)
  refine seq (region (ops_y hH rfl rfl (yv_assign rfl) (ops_nil (thn_n (seq (region (ops_y hH rfl rfl (yv_assign rfl) (ops_nil (thn_n ?_)))))))))
  refine seq (seq (region (ops_y hH rfl rfl (yv_move rfl) (ops_y hH rfl rfl (yv_move rfl) (ops_nil (thn_n (block ?_)))))))
  refine loop (S := Nat) (fun k => [(3, (.int .i64 (Q.cnt k : Int))), (6, (.int .i64 (k : Int))), (2, (.int .i64 0)), (5, (.int .i64 n))]) (fun k w1 => Heap [base w] w1 ∧ (k : Int) ≤ n) (fun k => n.toNat - k) (0) (Sub.cons rfl (Sub.cons rfl (Sub.cons rfl (Sub.cons rfl (Sub.nil _))))) ?_ ?_
  · exact ⟨hH, by omega⟩
  · rintro k w1 ⟨hH2, hk⟩
    show Holds _ _ _ _ _ [(3, (.int .i64 (Q.cnt k : Int))), (6, (.int .i64 (k : Int))), (2, (.int .i64 0)), (5, (.int .i64 n))] _ _
    refine seq (region ?_)
    refine ops_y hH2 rfl rfl (yv_lss rfl rfl) ?_
    refine ops_nil (thn_n (seq ?_))
    by_cases hc3 : (k : Int) < n
    · skip
      refine cond_t rfl (decide_eq_true hc3) ?_
      refine skip (thn_n (seq (block (seq (region (ops_y hH2 rfl rfl (yv_move rfl) (ops_y hH2 rfl rfl (yv_assign rfl) (ops_nil (thn_n ?_)))))))))
      have hcb := Q.cnt_bd k (by omega)
      have hm1 : 0 ≤ (Q.cnt k : Int) * 2 * (2 * (k : Int) + 1) ∧ (Q.cnt k : Int) * 2 * (2 * (k : Int) + 1) ≤ 416024 * 25 := ⟨Int.mul_nonneg (by omega) (by omega), Int.mul_le_mul (by omega) (by omega) (by omega) (by omega)⟩
      have hm2 : 0 ≤ (Q.cnt k : Int) * 2 * (2 * (k : Int) + 1) / ((k : Int) + 2) ∧ (Q.cnt k : Int) * 2 * (2 * (k : Int) + 1) / ((k : Int) + 2) ≤ 208012 := by rw [Q.cnt_step]; have := Q.cnt_bd (k + 1) (by omega); omega
      refine region (ops_y hH2 rfl rfl (yv_move rfl) ?_)
      refine ops_y hH2 rfl rfl (yv_mul rfl rfl (by omega)) ?_
      refine ops_y hH2 rfl rfl (yv_move rfl) ?_
      refine ops_y hH2 rfl rfl (yv_mul rfl rfl (by omega)) ?_
      refine ops_y hH2 rfl rfl (yv_add rfl rfl (by omega)) ?_
      refine ops_y hH2 rfl rfl (yv_mul rfl rfl (by omega)) ?_
      refine ops_y hH2 rfl rfl (yv_move rfl) ?_
      refine ops_y hH2 rfl rfl (yv_add rfl rfl (by omega)) ?_
      refine ops_y hH2 rfl rfl (yv_quo rfl rfl (by omega) (by omega) (by omega)) ?_
      refine ops_y hH2 rfl rfl (yv_assign rfl) (ops_nil (blk_n (thn_n (region ?_))))
      refine ops_y hH2 rfl rfl (yv_add rfl rfl (by omega)) ?_
      refine ops_y hH2 rfl rfl (yv_move rfl) (ops_nil ?_)
      refine lp_n (k + 1) (Sub.cons (congrArg (fun z : Int => some (Value.int .i64 z)) Q.cnt_step) (Sub.cons rfl (Sub.cons rfl (Sub.cons rfl (Sub.nil _))))) ?_ ?_
      · exact ⟨hH2, by omega⟩
      · first | (dsimp only; omega) | (show _ < _; omega)
    · skip
      refine cond_f rfl (decide_eq_false hc3) ?_
      refine exit (thn_x (lp_x (blk_here (thn_n (seq (region (ops_y hH2 rfl rfl (yv_move rfl) (ops_y hH2 rfl rfl (yv_assign rfl) (ops_nil ?_)))))))))
      refine thn_n (ret ?_)
      refine fin hH2 (fun w' hf => (res1 rfl (show RV _ _ _ (.tmp 2) _ from rfl))) (fun w' hf => ?_)
      have hke : n.toNat = k := by omega
      rw [hke]

end Go.Fip

set_option linter.unusedVariables false
set_option linter.unusedSimpArgs false
set_option linter.unusedSectionVars false
set_option linter.unnecessarySimpa false
namespace Go.Fip
open Go.Proofs Go.RowKit

theorem c50 {n : Int} {w : World} (h0 : 1 ≤ n) (h1 : n ≤ 12)  :
    Fn Try.prog 50 [(.int .i64 n)].toArray w (fun u _ => u = .int .i64 (Q.cnt n.toNat : Int)) := by
  refine fn_of' (args := [(.int .i64 n)]) Try.func50 rfl (ent Try.func50 (by kernel_rfl) rfl) rfl rfl (fun hH => ?_)
  refine seq (region (ops_y hH rfl rfl (yv_assign rfl) (ops_nil (thn_n (seq (region ?_))))))
  refine op_lit (us := [(0, (.int .i64 1))]) T.el30_encI [1] rfl (by decide) rfl (fun a ha => by simp [ha.ev (show ev _ (.const (.int .i64 1)) = some _ from rfl)]) (fun w => by kernel_rfl) hH (fun u1 lo3 hi4 w2 hH5 => ?_)
  refine ops_y hH5 rfl rfl (yv_assign rfl) (ops_nil (thn_n (seq (seq (region (ops_y hH5 rfl rfl (yv_assign rfl) (ops_nil (thn_n (block ?_)))))))))
  refine loop (S := Nat × Value × Nat × Nat) (fun (k, v_3, lo_3, hi_3) => [(4, (.int .i64 (k : Int))), (3, v_3), (0, (.int .i64 n)), (2, (.int .i64 0))]) (fun (k, v_3, lo_3, hi_3) w1 => Heap [ow lo_3 hi_3 2 1 encI v_3 (Q.cnts k), base w] w1 ∧ 1 ≤ k ∧ (k : Int) ≤ n + 1) (fun (k, v_3, lo_3, hi_3) => n.toNat + 1 - k) (1, u1, lo3, hi4) (Sub.cons rfl (Sub.cons rfl (Sub.cons rfl (Sub.cons rfl (Sub.nil _))))) ?_ ?_
  · exact ⟨(Heap.recast (n := 0) hH5 rfl (rfl)), by omega, by omega⟩
  · rintro ⟨k, v_3, lo_3, hi_3⟩ w6 ⟨hH7, hk1, hk⟩
    show Holds _ _ _ _ _ [(4, (.int .i64 (k : Int))), (3, v_3), (0, (.int .i64 n)), (2, (.int .i64 0))] _ _
    have hcl := Q.cnts_length (k := k)
    refine seq (seq (region (ops_y hH7 rfl rfl (yv_move rfl) (ops_y hH7 rfl rfl (yv_move rfl) ?_))))
    refine ops_y hH7 rfl rfl (yv_leq rfl rfl) ?_
    refine ops_nil (thn_n ?_)
    by_cases hc8 : (k : Int) ≤ n
    · skip
      refine cond_t rfl (decide_eq_true hc8) ?_
      refine skip (thn_n (seq (block (seq (region (ops_y hH7 rfl rfl (yv_assign rfl) (ops_nil (thn_n (seq ?_)))))))))
      refine seq (region (ops_y hH7 rfl rfl (yv_assign rfl) (ops_nil (thn_n (block ?_)))))
      refine loop (S := Nat) (fun r => [(5, (.int .i64 (Q.sumTo k r : Int))), (6, (.int .i64 (r : Int))), (0, (.int .i64 n)), (2, (.int .i64 0)), (3, v_3), (4, (.int .i64 (k : Int)))]) (fun r w1 => Heap [ow lo_3 hi_3 2 1 encI v_3 (Q.cnts k), base w] w1 ∧ r ≤ k) (fun r => k - r) (0) (Sub.cons rfl (Sub.cons rfl (Sub.cons rfl (Sub.cons rfl (Sub.cons rfl (Sub.cons rfl (Sub.nil _))))))) ?_ ?_
      · exact ⟨hH7, by omega⟩
      · rintro r w9 ⟨hH10, hr⟩
        show Holds _ _ _ _ _ [(5, (.int .i64 (Q.sumTo k r : Int))), (6, (.int .i64 (r : Int))), (0, (.int .i64 n)), (2, (.int .i64 0)), (3, v_3), (4, (.int .i64 (k : Int)))] _ _
        refine seq (seq (region (ops_y hH10 rfl rfl (yv_move rfl) (ops_y hH10 rfl rfl (yv_move rfl) ?_))))
        refine ops_y hH10 rfl rfl (yv_lss rfl rfl) ?_
        refine ops_nil (thn_n ?_)
        by_cases hc11 : (r : Int) < (k : Int)
        · skip
          refine cond_t rfl (decide_eq_true hc11) ?_
          refine skip (thn_n (seq (block ?_)))
          have hn1 := Q.nth_cnts (k := k) (j := r) (by omega)
          have hn2 : nth (Q.cnts k) ((k : Int) - 1 - (r : Int)) = (Q.cnt (k - 1 - r) : Int) := by rw [← Q.nth_cnts (k := k) (j := k - 1 - r) (by omega)]; congr 1; omega
          have hmm : nth (Q.cnts k) (r : Int) * nth (Q.cnts k) ((k : Int) - 1 - (r : Int)) = ((Q.cnt r * Q.cnt (k - 1 - r) : Nat) : Int) := by rw [hn1, hn2]; push_cast; rfl
          have hss := Q.sumTo_succ (k := k) (r := r)
          have hsb := Q.sumTo_bd k (by omega) r (by omega)
          have hsc := Q.sumTo_bd k (by omega) (r + 1) (by omega)
          refine region_draw (fun w' => Heap [ow lo_3 hi_3 2 1 encI v_3 (Q.cnts k), base w] w') T.mixed (fun w12 hr13 => ?_)
          have hH14 := hH10.redrawn hr13
          refine any_takes [0, 1, 2, 3, 4, 5, 6, 7, 8, 9, 10, 11, 12, 13, 14] (by kernel_rfl) hH14 _ _ _ (by kernel_rfl) ?_
          refine qs_y rfl rfl (yv_move rfl) (qs_y rfl rfl (yv_move rfl) (qs_y rfl rfl (yv_move rfl) ?_))
          refine qs_y rfl rfl (yv_index T.sl30 rfl rfl (Heap.rdw T.el30_encI hH14 (n := 0) rfl).is (by omega)) ?_
          refine qs_y rfl rfl (yv_load T.one2 rfl (fun _ hw => Rd.at (Heap.rdw T.el30_encI hw (n := 0) rfl) (i := (r : Int)) (by omega) (j := 0) rfl)) ?_
          refine qs_y rfl rfl (yv_move rfl) (qs_y rfl rfl (yv_move rfl) ?_)
          refine qs_y rfl rfl (yv_sub rfl rfl (by omega)) ?_
          refine qs_y rfl rfl (yv_move rfl) ?_
          refine qs_y rfl rfl (yv_sub rfl rfl (by omega)) ?_
          refine qs_y rfl rfl (yv_index T.sl30 rfl rfl (Heap.rdw T.el30_encI hH14 (n := 0) rfl).is (by omega)) ?_
          refine qs_y rfl rfl (yv_load T.one2 rfl (fun _ hw => Rd.at (Heap.rdw T.el30_encI hw (n := 0) rfl) (i := ((k : Int) - 1) - (r : Int)) (by omega) (j := 0) rfl)) ?_
          refine qs_y rfl rfl (yv_mul rfl rfl (by omega)) ?_
          refine qs_y rfl rfl (yv_add rfl rfl (by omega)) ?_
          refine qs_y rfl rfl (yv_assign rfl) (qs_nil ?_)
          refine any_done (by kernel_rfl) ?_
          refine blk_n (thn_n (region (ops_y hH14 rfl rfl (yv_move rfl) ?_)))
          refine ops_y hH14 rfl rfl (yv_add rfl rfl (by omega)) ?_
          refine ops_y hH14 rfl rfl (yv_assign rfl) (ops_nil ?_)
          refine lp_n (r + 1) (Sub.cons (congrArg (fun z : Int => some (Value.int .i64 z)) (by rw [hmm, hss]; push_cast; rfl)) (Sub.cons rfl (Sub.cons rfl (Sub.cons rfl (Sub.cons rfl (Sub.cons rfl (Sub.nil _))))))) ?_ ?_
          · exact ⟨hH14, by omega⟩
          · first | (dsimp only; omega) | (show _ < _; omega)
        · skip
          refine cond_f rfl (decide_eq_false hc11) ?_
          refine exit (thn_x (lp_x (blk_here (thn_n ?_))))
          have hre : r = k := by omega
          have hsa : (Q.sumTo k r : Int) = (Q.cnt k : Int) := by rw [hre, Q.sumTo_all hk1 (by omega)]
          refine region (ops_y hH10 rfl rfl (yv_move rfl) (ops_y hH10 rfl rfl (yv_move rfl) ?_))
          refine op_lit (us := [(0, (.int .i64 (Q.sumTo k r : Int)))]) T.el30_encI [(Q.sumTo k r : Int)] rfl (by decide) rfl (fun a ha => by simp [ha.ev (show ev _ (.tmp 33) = some _ from rfl)]) (fun w => by kernel_rfl) hH10 (fun u15 lo17 hi18 w16 hH19 => ?_)
          refine op_append (n := 1) T.el30_encI rfl rfl rfl hH19 rfl (Heap.rdw T.el30_encI hH19 (n := 0) rfl) (by first | omega | (simp only [List.length_append, List.length_cons, List.length_nil]; omega)) (fun u20 lo22 hi23 w21 hH24 => ?_)
          refine ops_y hH24 rfl rfl (yv_assign rfl) (ops_nil (blk_n (thn_n (region (ops_y hH24 rfl rfl (yv_move rfl) ?_)))))
          refine ops_y hH24 rfl rfl (yv_add rfl rfl (by omega)) ?_
          refine ops_y hH24 rfl rfl (yv_assign rfl) (ops_nil ?_)
          have hH25 := (hH24.sub (List.Sublist.cons _ (List.Sublist.refl _)))
          refine lp_n (k + 1, u20, lo22, hi23) (Sub.cons rfl (Sub.cons rfl (Sub.cons rfl (Sub.cons rfl (Sub.nil _))))) ?_ ?_
          · exact ⟨(Heap.recast (n := 0) hH25 rfl ((by rw [← Q.cnts_succ, ← hsa]))), by omega, by omega⟩
          · first | (dsimp only; omega) | (show _ < _; omega)
    · skip
      refine cond_f rfl (decide_eq_false hc8) ?_
      refine exit (thn_x (lp_x (blk_here (thn_n (seq ?_)))))
      have hke : k = n.toNat + 1 := by omega
      have hnn : nth (Q.cnts k) n = (Q.cnt n.toNat : Int) := by rw [← Q.nth_cnts (k := k) (j := n.toNat) (by omega)]; congr 1; omega
      refine region (ops_y hH7 rfl rfl (yv_move rfl) (ops_y hH7 rfl rfl (yv_move rfl) ?_))
      refine ops_y hH7 rfl rfl (yv_index T.sl30 rfl rfl (Heap.rdw T.el30_encI hH7 (n := 0) rfl).is (by omega)) ?_
      refine ops_y hH7 rfl rfl (yv_load T.one2 rfl (fun _ hw => Rd.at (Heap.rdw T.el30_encI hw (n := 0) rfl) (i := n) (by omega) (j := 0) rfl)) ?_
      refine ops_y hH7 rfl rfl (yv_assign rfl) (ops_nil (thn_n (ret ?_)))
      have hH26 := (hH7.sub (List.Sublist.cons _ (List.Sublist.refl _)))
      refine fin hH26 (fun w' hf => (res1 rfl (show RV _ _ _ (.tmp 2) _ from rfl))) (fun w' hf => ?_)
      exact congrArg (Value.int .i64) hnn

def Q.countR (n : Int) : Int × Int := if n < 1 ∨ 12 < n then (0, 6) else ((Q.cnt n.toNat : Int), 0)
theorem Q.cr1 {n : Int} (h : n < 1 ∨ 12 < n) : Q.countR n = (0, 6) := if_pos h
theorem Q.cr2 {n : Int} (h : ¬ (n < 1 ∨ 12 < n)) : Q.countR n = ((Q.cnt n.toNat : Int), 0) := if_neg h

theorem c35 {n : Int} {w : World}  :
    Fn Try.prog 35 [(.int .i64 n)].toArray w (fun u _ => u = .tuple #[.int .i64 (Q.countR n).1, .int .i64 (Q.countR n).2]) := by
  refine fn_of' (args := [(.int .i64 n)]) Try.func35 rfl (ent Try.func35 (by kernel_rfl) rfl) rfl rfl (fun hH => ?_)
  refine seq (region (ops_y hH rfl rfl (yv_assign rfl) (ops_y hH rfl rfl (yv_assign rfl) (ops_nil (thn_n (seq (seq (region (ops_y hH rfl rfl (yv_move rfl) ?_)))))))))
  refine op_lit (us := [(0, (.int .i64 n))]) T.el30_encI [n] rfl (by decide) rfl (fun a ha => by simp [ha.ev (show ev _ (.tmp 4) = some _ from rfl)]) (fun w => by kernel_rfl) hH (fun u1 lo3 hi4 w2 hH5 => ?_)
  refine op_fnV rfl rfl rfl hH5 (c58_1 (Heap.rdw T.el30_encI hH5 (n := 0) rfl)) (fun w6 hH7 => ?_)
  refine ops_y hH7 rfl rfl (yv_not rfl) ?_
  refine ops_nil (thn_n ?_)
  by_cases hc8 : 1 ≤ n ∧ n ≤ 12
  · skip
    refine cond_f rfl (not_decide_n hc8) ?_
    refine skip (thn_n (seq (region (ops_y hH7 rfl rfl (yv_move rfl) ?_))))
    refine op_fnV rfl rfl rfl hH7 (c72 (by omega) (by omega)) (fun w9 hH10 => ?_)
    refine ops_y hH10 rfl rfl (yv_assign rfl) (ops_y hH10 rfl rfl (yv_assign rfl) (ops_nil (thn_n (ret ?_))))
    have hH11 := (hH10.sub (List.Sublist.cons _ (List.Sublist.refl _)))
    refine fin hH11 (fun w' hf => (res2 rfl (show RV _ _ _ (.tmp 2) _ from rfl) (show RV _ _ _ (.tmp 3) _ from rfl))) (fun w' hf => ?_)
    first | exact tup2 (Q.cr1 (n := n) (by omega)) | exact tup2 (Q.cr2 (n := n) (by omega))
  · skip
    refine cond_t rfl (not_decide_t hc8) ?_
    refine seq (region (ops_y hH7 rfl rfl (yv_assign rfl) (ops_y hH7 rfl rfl (yv_assign rfl) (ops_nil (thn_n (ret (thn_r ?_)))))))
    have hH12 := (hH7.sub (List.Sublist.cons _ (List.Sublist.refl _)))
    refine fin hH12 (fun w' hf => (res2 rfl (show RV _ _ _ (.tmp 2) _ from rfl) (show RV _ _ _ (.tmp 3) _ from rfl))) (fun w' hf => ?_)
    first | exact tup2 (Q.cr1 (n := n) (by omega)) | exact tup2 (Q.cr2 (n := n) (by omega))

theorem c36 {n : Int} {w : World}  :
    Fn Try.prog 36 [(.int .i64 n)].toArray w (fun u _ => u = .tuple #[.int .i64 (Q.countR n).1, .int .i64 (Q.countR n).2]) := by
  refine fn_of' (args := [(.int .i64 n)]) Try.func36 rfl (ent Try.func36 (by kernel_rfl) rfl) rfl rfl (fun hH => ?_)
  refine seq (region (ops_y hH rfl rfl (yv_assign rfl) (ops_y hH rfl rfl (yv_assign rfl) (ops_nil (thn_n (seq (seq (region (ops_y hH rfl rfl (yv_move rfl) ?_)))))))))
  refine ops_y hH rfl rfl (yv_lss rfl rfl) ?_
  refine ops_y hH rfl rfl (yv_move rfl) ?_
  by_cases hc1 : n < 1
  · skip
    refine guard_no rfl rfl (decide_eq_true hc1) rfl ?_
    refine guard_no rfl rfl (decide_eq_true hc1) rfl ?_
    refine ops_y hH rfl rfl (yv_pick_t rfl (decide_eq_true hc1) rfl) ?_
    refine ops_nil (thn_n ?_)
    refine cond_t rfl rfl ?_
    refine seq (region (ops_y hH rfl rfl (yv_assign rfl) (ops_y hH rfl rfl (yv_assign rfl) (ops_nil (thn_n (ret (thn_r ?_)))))))
    refine fin hH (fun w' hf => (res2 rfl (show RV _ _ _ (.tmp 2) _ from rfl) (show RV _ _ _ (.tmp 3) _ from rfl))) (fun w' hf => ?_)
    first | exact tup2 (Q.cr1 (n := n) (by omega)) | exact tup2 (Q.cr2 (n := n) (by omega))
  · skip
    refine guard_yes rfl rfl (decide_eq_false hc1) ?_
    refine ops_y hH rfl rfl (yv_move rfl) ?_
    refine guard_yes rfl rfl (decide_eq_false hc1) ?_
    refine ops_y hH rfl rfl (yv_gtr rfl rfl) ?_
    refine ops_y hH rfl rfl (yv_pick_f rfl (decide_eq_false hc1) rfl) ?_
    refine ops_nil (thn_n ?_)
    by_cases hc2 : 12 < n
    · skip
      refine cond_t rfl (decide_eq_true hc2) ?_
      refine seq (region (ops_y hH rfl rfl (yv_assign rfl) (ops_y hH rfl rfl (yv_assign rfl) (ops_nil (thn_n (ret (thn_r ?_)))))))
      refine fin hH (fun w' hf => (res2 rfl (show RV _ _ _ (.tmp 2) _ from rfl) (show RV _ _ _ (.tmp 3) _ from rfl))) (fun w' hf => ?_)
      first | exact tup2 (Q.cr1 (n := n) (by omega)) | exact tup2 (Q.cr2 (n := n) (by omega))
    · skip
      refine cond_f rfl (decide_eq_false hc2) ?_
      refine skip (thn_n (seq (region (ops_y hH rfl rfl (yv_move rfl) ?_))))
      refine op_fnV rfl rfl rfl hH (c50 (by omega) (by omega)) (fun w3 hH4 => ?_)
      refine ops_y hH4 rfl rfl (yv_assign rfl) (ops_y hH4 rfl rfl (yv_assign rfl) (ops_nil (thn_n (ret ?_))))
      refine fin hH4 (fun w' hf => (res2 rfl (show RV _ _ _ (.tmp 2) _ from rfl) (show RV _ _ _ (.tmp 3) _ from rfl))) (fun w' hf => ?_)
      first | exact tup2 (Q.cr1 (n := n) (by omega)) | exact tup2 (Q.cr2 (n := n) (by omega))

theorem c53 {v : Value} {l : List Int} {w : World} (h0 : Rd encI 1 v l w) (hn : l.length ≤ 1000000)  :
    Fn Try.prog 53 [v].toArray w (fun u _ => u = .int .i64 (Q.maxTo l l.length)) := by
  refine fn_of' (args := [v]) Try.func53 rfl (ent Try.func53 (by kernel_rfl) rfl) rfl rfl (fun hH => ?_)
  refine seq (region (ops_y hH rfl rfl (yv_assign rfl) (ops_nil (thn_n (seq (region (ops_y hH rfl rfl (yv_assign rfl) (ops_nil (thn_n ?_)))))))))
  refine seq (seq (region (ops_y hH rfl rfl (yv_assign rfl) (ops_nil (thn_n (block ?_))))))
  refine loop (S := Nat) (fun k => [(3, (.int .i64 (Q.maxTo l k))), (4, (.int .i64 (k : Int))), (0, v), (2, (.int .i64 0))]) (fun k w1 => Heap [base w] w1 ∧ k ≤ l.length) (fun k => l.length - k) (0) (Sub.cons rfl (Sub.cons rfl (Sub.cons rfl (Sub.cons rfl (Sub.nil _))))) ?_ ?_
  · exact ⟨hH, by omega⟩
  · rintro k w1 ⟨hH2, hk⟩
    show Holds _ _ _ _ _ [(3, (.int .i64 (Q.maxTo l k))), (4, (.int .i64 (k : Int))), (0, v), (2, (.int .i64 0))] _ _
    refine seq (seq (region (ops_y hH2 rfl rfl (yv_move rfl) (ops_y hH2 rfl rfl (yv_move rfl) ?_))))
    refine ops_y hH2 rfl rfl (yv_len T.sl22 rfl (h0.now hH2 (n := 0) rfl).is) ?_
    refine ops_y hH2 rfl rfl (yv_lss rfl rfl) ?_
    refine ops_nil (thn_n ?_)
    by_cases hc3 : (k : Int) < (l.length : Int)
    · skip
      refine cond_t rfl (decide_eq_true hc3) ?_
      refine skip (thn_n (seq (block (region (ops_y hH2 rfl rfl (yv_move rfl) (ops_y hH2 rfl rfl (yv_move rfl) (ops_y hH2 rfl rfl (yv_move rfl) ?_)))))))
      refine ops_y hH2 rfl rfl (yv_index T.sl22 rfl rfl (h0.now hH2 (n := 0) rfl).is (by omega)) ?_
      refine ops_y hH2 rfl rfl (yv_load T.one3 rfl (fun _ hw => Rd.at (h0.now hw (n := 0) rfl) (i := (k : Int)) (by omega) (j := 0) rfl)) ?_
      refine ops_y hH2 rfl rfl (yv_max rfl rfl) ?_
      refine ops_y hH2 rfl rfl (yv_assign rfl) (ops_nil (blk_n (thn_n (region (ops_y hH2 rfl rfl (yv_move rfl) ?_)))))
      refine ops_y hH2 rfl rfl (yv_add rfl rfl (by omega)) ?_
      refine ops_y hH2 rfl rfl (yv_assign rfl) (ops_nil ?_)
      refine lp_n (k + 1) (Sub.cons rfl (Sub.cons rfl (Sub.cons rfl (Sub.cons rfl (Sub.nil _))))) ?_ ?_
      · exact ⟨hH2, by omega⟩
      · first | (dsimp only; omega) | (show _ < _; omega)
    · skip
      refine cond_f rfl (decide_eq_false hc3) ?_
      refine exit (thn_x (lp_x (blk_here (thn_n (seq (region (ops_y hH2 rfl rfl (yv_move rfl) (ops_y hH2 rfl rfl (yv_assign rfl) (ops_nil ?_)))))))))
      refine thn_n (ret ?_)
      refine fin hH2 (fun w' hf => (res1 rfl (show RV _ _ _ (.tmp 2) _ from rfl))) (fun w' hf => ?_)
      have hke : l.length = k := by omega
      rw [hke]

end Go.Fip

set_option linter.unusedVariables false
set_option linter.unusedSimpArgs false
set_option linter.unusedSectionVars false
set_option linter.unnecessarySimpa false
namespace Go.Fip
open Go.Proofs Go.RowKit

theorem c60 {v : Value} {l : List Int} {w : World} {t : Q.T} {x : Nat} (h0 : Rd encI 1 v l w) (ht : Q.T.dep 0 t = l) (hx : x < l.length) (hn : l.length ≤ 12)  :
    Fn Try.prog 60 [v, (.int .i64 (x : Int))].toArray w (fun u w => Own 3 1 encI u (Q.tri t 0 x) w) := by
  refine fn_of' (args := [v, (.int .i64 (x : Int))]) Try.func60 rfl (ent Try.func60 (by kernel_rfl) rfl) rfl rfl (fun hH => ?_)
  refine seq (region (ops_y hH rfl rfl (yv_assign rfl) (ops_nil (thn_n (seq (region (ops_y hH rfl rfl (yv_assign rfl) (ops_nil (thn_n ?_)))))))))
  refine seq (region (ops_y hH rfl rfl (yv_move rfl) ?_))
  refine ops_y hH rfl rfl (yv_len T.sl22 rfl (h0.now hH (n := 0) rfl).is) ?_
  refine ops_y hH rfl rfl (yv_assign rfl) (ops_y hH rfl rfl (yv_assign rfl) (ops_nil (thn_n (seq (region (ops_y hH rfl rfl (yv_assign rfl) (ops_nil (thn_n (block ?_)))))))))
  have hH1 := ow_nil (enc := encI) 3 1 hH
  refine loop (S := Q.T × Nat × Nat × Nat × List Int × Value × Nat × Nat) (fun (s, i, k, D, o, v_5, lo_5, hi_5) => [(6, (.int .i64 (i : Int))), (7, (.int .i64 (k : Int))), (8, (.int .i64 (D : Int))), (5, v_5), (0, v), (1, (.int .i64 (x : Int)))]) (fun (s, i, k, D, o, v_5, lo_5, hi_5) w1 => Heap [ow lo_5 hi_5 3 1 encI v_5 o, base w] w1 ∧ Q.TriI t x l s i k D o) (fun (s, i, k, D, o, v_5, lo_5, hi_5) => l.length - D) (t, 0, l.length, 0, [], (.slice none 0 0), w.heap.size, w.heap.size) (Sub.cons rfl (Sub.cons rfl (Sub.cons rfl (Sub.cons rfl (Sub.cons rfl (Sub.cons rfl (Sub.nil _))))))) ?_ ?_
  · exact ⟨hH1, Q.TriI.start ht hx⟩
  · rintro ⟨s, i, k, D, o, v_5, lo_5, hi_5⟩ w2 ⟨hH3, hT⟩
    show Holds _ _ _ _ _ [(6, (.int .i64 (i : Int))), (7, (.int .i64 (k : Int))), (8, (.int .i64 (D : Int))), (5, v_5), (0, v), (1, (.int .i64 (x : Int)))] _ _
    obtain ⟨⟨hT1, hT2, hT3⟩, -, -, hT4, hT5⟩ := id hT
    obtain ⟨sl, sr, hse, hs1, hs2, hs3⟩ := hT.root
    subst hse
    refine seq (block (seq (region (ops_y hH3 rfl rfl (yv_move rfl) (ops_y hH3 rfl rfl (yv_assign rfl) (ops_nil (thn_n (seq (block ?_)))))))))
    refine loop (S := Nat) (fun a => [(9, (.int .i64 (a : Int))), (0, v), (1, (.int .i64 (x : Int))), (5, v_5), (6, (.int .i64 (i : Int))), (7, (.int .i64 (k : Int))), (8, (.int .i64 (D : Int)))]) (fun a w1 => Heap [ow lo_5 hi_5 3 1 encI v_5 o, base w] w1 ∧ i ≤ a ∧ a ≤ i + sl.size) (fun a => i + sl.size - a) (i) (Sub.cons rfl (Sub.cons rfl (Sub.cons rfl (Sub.cons rfl (Sub.cons rfl (Sub.cons rfl (Sub.cons rfl (Sub.nil _)))))))) ?_ ?_
    · exact ⟨hH3, by omega, by omega⟩
    · rintro a w4 ⟨hH5, ha1, ha2⟩
      show Holds _ _ _ _ _ [(9, (.int .i64 (a : Int))), (0, v), (1, (.int .i64 (x : Int))), (5, v_5), (6, (.int .i64 (i : Int))), (7, (.int .i64 (k : Int))), (8, (.int .i64 (D : Int)))] _ _
      refine seq (seq (region (ops_y hH5 rfl rfl (yv_move rfl) (ops_y hH5 rfl rfl (yv_move rfl) ?_))))
      refine ops_y hH5 rfl rfl (yv_index T.sl22 rfl rfl (h0.now hH5 (n := 1) rfl).is (by omega)) ?_
      refine ops_y hH5 rfl rfl (yv_load T.one3 rfl (fun _ hw => Rd.at (h0.now hw (n := 1) rfl) (i := (a : Int)) (by omega) (j := 0) rfl)) ?_
      refine ops_y hH5 rfl rfl (yv_move rfl) ?_
      refine ops_y hH5 rfl rfl (yv_neq rfl rfl) ?_
      refine ops_nil (thn_n ?_)
      by_cases hc6 : (nth l (a : Int)) = (D : Int)
      · skip
        refine cond_f rfl (not_decide_n hc6) ?_
        refine exit (thn_x (lp_x (blk_here (thn_n (seq ?_)))))
        have hae : a = i + sl.size := by rcases Nat.lt_or_ge a (i + sl.size) with h9 | h9; (have h8 := hs3 a ha1 h9; omega); omega
        refine region (ops_y hH5 rfl rfl (yv_move rfl) (ops_y hH5 rfl rfl (yv_move rfl) ?_))
        refine op_lit (us := [(0, (.int .i64 (a : Int)))]) T.el22_encI [(a : Int)] rfl (by decide) rfl (fun a ha => by simp [ha.ev (show ev _ (.tmp 24) = some _ from rfl)]) (fun w => by kernel_rfl) hH5 (fun u7 lo9 hi10 w8 hH11 => ?_)
        refine op_append (n := 1) T.el22_encI rfl rfl rfl hH11 rfl (Heap.rdw T.el22_encI hH11 (n := 0) rfl) (by first | omega | (simp only [List.length_append, List.length_cons, List.length_nil]; omega)) (fun u12 lo14 hi15 w13 hH16 => ?_)
        refine ops_y hH16 rfl rfl (yv_assign rfl) (ops_nil (thn_n (seq (seq (region (ops_y hH16 rfl rfl (yv_move rfl) (ops_y hH16 rfl rfl (yv_move rfl) ?_)))))))
        refine ops_y hH16 rfl rfl (yv_eql rfl rfl) ?_
        refine ops_nil (thn_n ?_)
        by_cases hc17 : (a : Int) = (x : Int)
        · skip
          refine cond_t rfl (decide_eq_true hc17) ?_
          refine seq (region (ops_y hH16 rfl rfl (yv_move rfl) (ops_y hH16 rfl rfl (yv_assign rfl) (ops_nil (thn_n (ret (thn_r (blk_r (thn_r ?_)))))))))
          refine lp_r (blk_r ?_)
          have hH18 := (hH16.sub (List.Sublist.cons _ (List.Sublist.refl _)))
          refine fin (hH18.front (n := 1) rfl) (fun w' hf => (res1 rfl (show RV _ _ _ (.tmp 4) _ from rfl))) (fun w' hf => ?_)
          rw [← hT.hit (by omega), ← hae]; exact Heap.own hf (n := 0) rfl
        · skip
          refine cond_f rfl (decide_eq_false hc17) ?_
          refine skip (thn_n (seq (seq (region (ops_y hH16 rfl rfl (yv_move rfl) (ops_y hH16 rfl rfl (yv_move rfl) ?_))))))
          refine ops_y hH16 rfl rfl (yv_lss rfl rfl) ?_
          refine ops_nil (thn_n ?_)
          by_cases hc19 : (a : Int) < (x : Int)
          · skip
            refine cond_t rfl (decide_eq_true hc19) ?_
            have hlt : i + sl.size < x := by omega
            refine region (ops_y hH16 rfl rfl (yv_move rfl) ?_)
            refine ops_y hH16 rfl rfl (yv_add rfl rfl (by omega)) ?_
            refine ops_y hH16 rfl rfl (yv_assign rfl) (ops_nil (thn_n (seq (region (ops_y hH16 rfl rfl (yv_move rfl) (ops_y hH16 rfl rfl (yv_move rfl) ?_))))))
            refine ops_y hH16 rfl rfl (yv_geq rfl rfl) ?_
            refine ops_nil (thn_n ?_)
            by_cases hc20 : (k : Int) ≤ ((a : Int) + 1)
            · skip
              refine cond_t rfl (decide_eq_true hc20) ?_
              refine seq (region (ops_y hH16 rfl rfl (yv_move rfl) (ops_y hH16 rfl rfl (yv_assign rfl) (ops_nil (thn_n (ret (blk_r (thn_r (lp_r ?_)))))))))
              refine blk_r ?_
              have hH21 := (hH16.sub (List.Sublist.cons _ (List.Sublist.refl _)))
              refine fin (hH21.front (n := 1) rfl) (fun w' hf => (res1 rfl (show RV _ _ _ (.tmp 4) _ from rfl))) (fun w' hf => ?_)
              rw [← hT.hit (by omega), ← hae]; exact Heap.own hf (n := 0) rfl
            · skip
              refine cond_f rfl (decide_eq_false hc20) ?_
              refine skip (blk_n (thn_n (region (ops_y hH16 rfl rfl (yv_move rfl) ?_))))
              refine ops_y hH16 rfl rfl (yv_add rfl rfl (by omega)) ?_
              refine ops_y hH16 rfl rfl (yv_assign rfl) (ops_nil ?_)
              have hH22 := (hH16.sub (List.Sublist.cons _ (List.Sublist.refl _)))
              refine lp_n (sr, (a + 1), k, (D + 1), (o ++ [(a : Int)]), u12, lo14, hi15) (Sub.cons rfl (Sub.cons rfl (Sub.cons rfl (Sub.cons rfl (Sub.cons rfl (Sub.cons rfl (Sub.nil _))))))) ?_ ?_
              · exact ⟨(Heap.recast (n := 0) hH22 rfl (rfl)), (by rw [hae]; exact hT.right (by omega))⟩
              · (have h9 := hT.2.2.2.2; simp only [Q.T.size] at h9; first | omega | (dsimp only; omega))
          · skip
            refine cond_f rfl (decide_eq_false hc19) ?_
            refine region (ops_y hH16 rfl rfl (yv_move rfl) (ops_y hH16 rfl rfl (yv_assign rfl) (ops_nil (thn_n (seq (region (ops_y hH16 rfl rfl (yv_move rfl) (ops_y hH16 rfl rfl (yv_move rfl) ?_))))))))
            refine ops_y hH16 rfl rfl (yv_geq rfl rfl) ?_
            refine ops_nil (thn_n ?_)
            by_cases hc23 : (a : Int) ≤ (i : Int)
            · skip
              refine cond_t rfl (decide_eq_true hc23) ?_
              refine seq (region (ops_y hH16 rfl rfl (yv_move rfl) (ops_y hH16 rfl rfl (yv_assign rfl) (ops_nil (thn_n (ret (blk_r (thn_r (lp_r ?_)))))))))
              refine blk_r ?_
              have hH24 := (hH16.sub (List.Sublist.cons _ (List.Sublist.refl _)))
              refine fin (hH24.front (n := 1) rfl) (fun w' hf => (res1 rfl (show RV _ _ _ (.tmp 4) _ from rfl))) (fun w' hf => ?_)
              rw [← hT.hit (by omega), ← hae]; exact Heap.own hf (n := 0) rfl
            · skip
              refine cond_f rfl (decide_eq_false hc23) ?_
              refine skip (blk_n (thn_n (region (ops_y hH16 rfl rfl (yv_move rfl) ?_))))
              refine ops_y hH16 rfl rfl (yv_add rfl rfl (by omega)) ?_
              refine ops_y hH16 rfl rfl (yv_assign rfl) (ops_nil ?_)
              have hH25 := (hH16.sub (List.Sublist.cons _ (List.Sublist.refl _)))
              refine lp_n (sl, i, a, (D + 1), (o ++ [(a : Int)]), u12, lo14, hi15) (Sub.cons rfl (Sub.cons rfl (Sub.cons rfl (Sub.cons rfl (Sub.cons rfl (Sub.cons rfl (Sub.nil _))))))) ?_ ?_
              · exact ⟨(Heap.recast (n := 0) hH25 rfl (rfl)), (by rw [hae]; exact hT.left (by omega))⟩
              · (have h9 := hT.2.2.2.2; simp only [Q.T.size] at h9; first | omega | (dsimp only; omega))
      · skip
        have hne9 : ¬ nth l (a : Int) = (D : Int) := by assumption
        have halt : a < i + sl.size := Nat.lt_of_not_le fun h9 => by
          have h8 : a = i + sl.size := Nat.le_antisymm ha2 h9
          rw [h8] at hne9
          exact hne9 hs2
        refine cond_t rfl (not_decide_t hc6) ?_
        refine skip (thn_n (block (region (ops_y hH5 rfl rfl (yv_move rfl) ?_))))
        refine ops_y hH5 rfl rfl (yv_add rfl rfl (by omega)) ?_
        refine ops_y hH5 rfl rfl (yv_assign rfl) (ops_nil (blk_n ?_))
        refine lp_n (a + 1) (Sub.cons rfl (Sub.cons rfl (Sub.cons rfl (Sub.cons rfl (Sub.cons rfl (Sub.cons rfl (Sub.cons rfl (Sub.nil _)))))))) ?_ ?_
        · exact ⟨hH5, by omega, by omega⟩
        · first | (dsimp only; omega) | (show _ < _; omega)

end Go.Fip
