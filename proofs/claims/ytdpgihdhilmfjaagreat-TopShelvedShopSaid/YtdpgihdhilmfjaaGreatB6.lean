/- Joined texts: what the statement needs, walks by program (wip/tools). -/
import Derived.Test.YtdpgihdhilmfjaaGreatB5
import Derived.Test.YtdpgihdhilmfjaaGreatB2
import Derived.Test.YtdpgihdhilmfjaaGreatB4
import Derived.Test.YtdpgihdhilmfjaaGreatB1
import Derived.Test.YtdpgihdhilmfjaaGreatB3
set_option linter.unusedVariables false
set_option linter.unusedSimpArgs false
set_option linter.unusedSectionVars false
set_option linter.unnecessarySimpa false
namespace Go.Fip
open Go.Proofs Go.RowKit
theorem zC8 {bb mb : Nat} {room : Int} {v : Value} {C : List Int} {w : World} (kb : Bx bb 148 (seg [.int .i64 room, v] C [.map (some mb)]) w) (hC : C.length = 9) {l : List Int} (h0 : Rd encI 1 v l w) (hn : l.length ≤ 16) {i : Nat} (hi : i < l.length) (hw : ∀ x ∈ l, 1 ≤ x ∧ x ≤ 8) {m : Sf.Cm} {B : Nat} (hB : Sf.Cok B m) (hBb : B ≤ 100) {cb : Nat} (hm : Mp (kvA (n := 9)) Sf.vvI cb m w)  :
  Fn Tryz.prog 161 [(.pointer (some ⟨bb, 0, none⟩)), (.map (some cb)), (.int .i64 (i : Int))].toArray w (fun u w => MpEx (kvA (n := 9)) Sf.vvI (fun o => Sf.Eqv o (Sf.stepL room (nth l (i : Int)) m)) u w) := by
 refine fz Tryz.func161 Z kz Z Z (fun hH => ?_)
 obtain ⟨es, clock, hmap, hents⟩ := hm.ents
 have hx8 := hw (nth l (i : Int)) (by rw [yG (by omega)]; exact List.getElem_mem (by omega))
 refine zr (oA hH Z (zs (uA (kvA (n := 9)) Sf.vvI Z hH (fun b1 w2 hH3 => (yD (z := (.map none)) (fun _ => by kernel_rfl) Z Z hH3 (fun b4 w5 hH6 => (zS (n := 0) (j := 0) Z Z hH6 Z T.zB1 Z Z Z (by rfl) (fun w7 hH8 => (zs (oY hH8 (vF Z Z) (oA hH8 Z (zs (oM hH8 Z (oY hH8 (yQ Z) ?_))))))))))))))
 refine oY hH8 (zI T.vZ Z) (oY hH8 (zI T.vJ Z) (oY hH8 (xW T.xB Z (by rfl) Z (fun _ hw => (kb.now hw (n := 2) Z))) (oM hH8 Z (oY hH8 (zP T.yS Z Z (h0.now hH8 (n := 2) Z).is om) (oY hH8 (zE T.yU Z (fun _ hw => Rd.at (h0.now hw (n := 2) Z) (i := (i : Int)) om (j := 0) Z)) (oA hH8 Z (zt (seq (zr (oM hH8 Z (jG T.XI.und Z Z hH8 (WN hmap hH8 (n := 2) Z) (fun r9 w10 hH11 => (zt (block (loop (S := Array Nat × List Sf.Pl × Sf.Cm) (fun (seen, ks, o1) => [(0, (.pointer (some ⟨bb, 0, none⟩))), (6, (.map none)), (7, (.pointer (some ⟨b4, 0, none⟩))), (8, (.func (.func 187) #[] #[(.pointer (some ⟨b4, 0, none⟩))])), (9, (.int .i64 (nth l (i : Int)))), (26, (.pointer (some ⟨r9, 0, none⟩)))]) (fun (seen, ks, o1) w1 => Heap [raw r9 (.mapIter (some cb) clock seen clock), bx b4 213 [(.map (some b1))], mp (kvA (n := 9)) Sf.vvI b1 o1, base w] w1 ∧ Vis (kvA (n := 9)) es seen ks ∧ (∀ q ∈ ks, (find q m).isSome = true) ∧ Sf.Kp o1 (Sf.prs room (nth l (i : Int)) m ks)) (fun (seen, ks, o1) => unseen es seen) (#[], [], []) (uC Z (uC Z (uC Z (uC Z (uC Z (uC Z (Sub.nil _))))))) ?_ ?_)))))))))))))))
 ·exact ⟨hH11, Vis.start, (fun q hq => by cases hq), Sf.Kp.start⟩
 rintro ⟨seen, ks, o1⟩ w12 ⟨hH13, hV, hks, hKp⟩
 refine zr (kD Z Z hH13 (WN hmap hH13 (n := 3) Z) (k := 0) Z hents.born (fun hall14 w18 hH19 => ?_) (fun e15 he16 hns17 w18 hH19 => ?_))
 ·have hperm := hV.over hents uY hall14
  refine oY hH19 (zH Z Z) (zt (seq (zL Z Z (exit (yZ (xF (z7 (zu (oY hH19 (zE T.XZ Z (cw (n := 1) Z Z)) (oA hH19 Z (zt (ret (fin ((hH19.sub (sC (sC sR))).front (n := 1) Z) (fun w' hf => (yN Z (rt Z))) (fun w' hf => ?_))))))))))))))
  exact ⟨_, _, Z, Heap.kJ hf (n := 0) Z, Sf.step_of hKp hperm⟩
 obtain ⟨s, n, hkey, hval, hfind⟩ := hents.entry he16
 have hns := hns17
 have hen := he16
 have hs9 := s.2
 obtain ⟨hnb, hk01⟩ := hB s n hfind
 have hfn : Sf.fnd m s = n := by unfold Sf.fnd; rw [hfind]; rfl
 refine oY hH19 (zH Z Z) (zt (seq (zO Z Z (skip (zN (block (zr (oY hH19 (qK hkey hval Z he16 hents.bornNd (fun _ hw => (WN hmap hw (n := 3) Z)) (fun _ hw => Heap.jK hw (n := 0) Z)) (oY hH19 (zH Z Z) (oY hH19 (zH Z Z) (yD (z := (.agg #[(.int .i64 0), (.int .i64 0), (.int .i64 0), (.int .i64 0), (.int .i64 0), (.int .i64 0), (.int .i64 0), (.int .i64 0), (.int .i64 0)])) (fun _ => by kernel_rfl) Z Z hH19 (fun b21 w22 hH23 => (YY (n := 0) Z Z hH23 Z T.W8 om (by first | rfl | (rw [vG]; omega)) (fun w24 hH25 => (oA hH25 Z (zt (seq (zY (fun w' => Heap [bx b21 145 (ints s.1), raw r9 (.mapIter (some cb) clock (seen.push e15.born) clock), bx b4 213 [(.map (some b1))], mp (kvA (n := 9)) Sf.vvI b1 o1, base w] w') T.mixed (fun w26 hr27 => ?_)))))))))))))))))))
 have hH28 := hH25.redrawn hr27
 refine zK [0, 1, 2, 3, 4, 5] kz hH28 _ _ _ kz (qM Z Z Z (zJ Z Z (yQ Z) (zJ Z Z (zI T.vZ Z) (zJ Z Z (KN (us := [(.int .i64 room), v]) T.x3 Z Z Z (fun _ hw => (kb.now hw (n := 4) Z))) (zJ Z Z (uD T.vS om Z (fun _ hw => Heap.xV hw (n := 0) Z)) (zJ Z Z (XS (v := .agg ((seg [(.int .i64 room), v] s.1 [(.map none)])).toArray) (us := [(0, (.agg #[(.int .i64 room), v])), (1, (ag s.1))]) (fun a ha => by simp [ha.ev (show ev _ (.tmp 35) = some _ from rfl), ha.ev (show ev _ (.tmp 36) = some _ from rfl)]) (zA6 ((by first | exact s.2 | omega | (simp only [List.length_set]; exact s.2))))) (zQ (z1 6 kz Z (yY (us := (seg [(.int .i64 room), v] s.1 [(.map none)])) Z Z Z hH28 (fun b29 w30 hH31 => (zC (⟨(hH31.sub (sC sR)), (zK [7] kz (hH31.sub (sC sR)) _ _ _ kz (zJ Z Z (yK Z) (zQ (zX kz (zN (seq (block (zr ?_))))))))⟩))))))))))))
 refine oM hH31 Z (oM hH31 Z (zM Z Z Z hH31 (zCi (Heap.xV hH31 (n := 0) Z) (by first | exact s.2 | omega | (simp only [List.length_set]; exact s.2)) om) (fun w32 hH33 => (oA hH33 Z (zt ?_)))))
 by_cases hc34 : 0 < nth s.1 (nth l (i : Int))
 ·have hq1 : 0 < nth s.1 (nth l (i : Int)) := by have hq := (decide_eq_true hc34); simpa using hq
  have hnx : Sf.nx room (nth l (i : Int)) s n = [(s, n)] := if_pos hq1
  refine zO Z (dT hc34) (zr (oM hH33 Z (oY hH33 (uD T.vS om Z (fun _ hw => Heap.xV hw (n := 1) Z)) (oM hH33 Z (vB (g := b1) (n := 4) Z Z Z hH33 Z ⟨Nat.le_refl _, Nat.lt_succ_self _⟩ (zCb (s := s) (n := n) (Heap.kJ hH33 (n := 4) Z) (Heap.xV hH33 (n := 3) Z)) (fun u37 w35 hH36 hv38 => ?_))))))
  obtain ⟨rfl, -⟩ := hv38
  have hH39 := Heap.weaken hH36 (n := 4) Z (φ := Mp (kvA (n := 9)) Sf.vvI b1 (Sf.keep s n o1)) (fun w' h => h.2)
  refine zt (exit (YN Z (yZ (z7 ?_))))
  have hH40 := (hH39.sub (sC (sC sR)))
  refine y0 ((seen.push e15.born), ks ++ [s], (Sf.keep s n o1)) (uC Z (uC Z (uC Z (uC Z (uC Z (uC Z (Sub.nil _))))))) ?_ ?_
  ·exact ⟨hH40, hV.next hents uY hen hkey hns, (fun q hq => by rcases List.mem_append.1 hq with h9 | h9; exact hks q h9; rw [List.mem_singleton.1 h9, hfind]; rfl), by rw [Sf.prs_snoc, hfn, hnx]; exact hKp.keep _ _⟩
  ·show _ < _; exact vI hen hns
 have hq1 : ¬ 0 < nth s.1 (nth l (i : Int)) := by have hq := (decide_eq_false hc34); simpa using hq
 refine zL Z (dF hc34) (seq (zY (fun w' => Heap [bx b29 148 (seg [(.int .i64 room), v] s.1 [(.map none)]), bx b21 145 (ints s.1), raw r9 (.mapIter (some cb) clock (seen.push e15.born) clock), bx b4 213 [(.map (some b1))], mp (kvA (n := 9)) Sf.vvI b1 o1, base w] w') T.mixed (fun w41 hr42 => ?_)))
 have hH43 := hH33.redrawn hr42
 refine zK [0, 2, 3, 4, 5, 6] kz hH43 _ _ _ kz (qM Z Z Z (qM Z Z Z (zJ Z Z (yQ Z) (zJ Z Z (zI T.vZ Z) (zJ Z Z (zI T.YS Z) (zJ Z Z (xW T.yU Z (by rfl) Z (fun _ hw => (kb.now hw (n := 5) Z))) (zQ (z1 1 kz Z (zM Z Z Z hH43 (zDc (Heap.xV hH43 (n := 0) Z) (by first | exact s.2 | omega | (simp only [List.length_set]; exact s.2)) hk01.int) (fun w44 hH45 => (zC (⟨hH45, (zK [7, 8] kz hH45 _ _ _ kz (zJ Z Z (yL Z Z) (zJ Z Z (yK Z) (zQ (zX kz (zN ?_))))))⟩))))))))))))
 by_cases hc46 : (Sf.sumTo s.1 9) < room
 ·have hq2 : Sf.sumTo s.1 9 < room := by have hq := (decide_eq_true hc46); simpa using hq
  have hnx : Sf.nx room (nth l (i : Int)) s n = [((Sf.putP s (nth l (i : Int)).toNat 1), n + 1)] := by unfold Sf.nx; rw [if_neg hq1, if_pos hq2]
  refine zO Z (dT hc46) (zr (oM hH45 Z (oM hH45 Z (vB (g := b29) (n := 0) Z Z Z hH45 Z ⟨Nat.le_refl _, Nat.lt_succ_self _⟩ (J8 (Heap.xV hH45 (n := 0) Z) ((by first | exact s.2 | omega | (simp only [List.length_set]; exact s.2))) om) (fun u49 w47 hH48 hv50 => ?_)))))
  obtain ⟨rfl, -⟩ := hv50
  have hH51 := Heap.weaken hH48 (n := 0) Z (φ := Bx b29 148 (seg [(.int .i64 room), v] (s.1.set (nth l (i : Int)).toNat 1) [(.map none)])) (fun w' h => h.2)
  refine zs (oM hH51 Z (oM hH51 Z (oY hH51 (yQ Z) (oY hH51 (zI T.qB Z) (oY hH51 (YR (show ((ag (s.1.set (nth l (i : Int)).toNat 1)) : Value) = ag (Sf.putP s (nth l (i : Int)).toNat 1).1 from by first | rfl | (rw [Sf.toNat1]; rfl)) (uG T.vS Z ((by first | exact s.2 | omega | (simp only [List.length_set]; exact s.2))) (by rfl) (fun _ hw => (Heap.xV hw (n := 0) Z)))) ?_)))))
  refine oM hH51 Z (oY hH51 (zV Z Z om) (vB (g := b1) (n := 4) Z Z Z hH51 Z ⟨Nat.le_refl _, Nat.lt_succ_self _⟩ (zCb (s := (Sf.putP s (nth l (i : Int)).toNat 1)) (n := (n + 1)) (Heap.kJ hH51 (n := 4) Z) (Heap.xV hH51 (n := 3) Z)) (fun u54 w52 hH53 hv55 => ?_)))
  obtain ⟨rfl, -⟩ := hv55
  have hH56 := Heap.weaken hH53 (n := 4) Z (φ := Mp (kvA (n := 9)) Sf.vvI b1 (Sf.keep (Sf.putP s (nth l (i : Int)).toNat 1) (n + 1) o1)) (fun w' h => h.2)
  refine zt (exit (YN Z (yZ (z7 ?_))))
  have hH57 := (hH56.sub (sC (sC sR)))
  refine y0 ((seen.push e15.born), ks ++ [s], (Sf.keep (Sf.putP s (nth l (i : Int)).toNat 1) (n + 1) o1)) (uC Z (uC Z (uC Z (uC Z (uC Z (uC Z (Sub.nil _))))))) ?_ ?_
  ·exact ⟨hH57, hV.next hents uY hen hkey hns, (fun q hq => by rcases List.mem_append.1 hq with h9 | h9; exact hks q h9; rw [List.mem_singleton.1 h9, hfind]; rfl), by rw [Sf.prs_snoc, hfn, hnx]; exact hKp.keep _ _⟩
  ·show _ < _; exact vI hen hns
 have hq2 : ¬ Sf.sumTo s.1 9 < room := by have hq := (decide_eq_false hc46); simpa using hq
 have hnx : Sf.nx room (nth l (i : Int)) s n = Sf.awayTo (nth l (i : Int)) s n 8 := by unfold Sf.nx; rw [if_neg hq1, if_neg hq2]
 refine zL Z (dF hc46) (skip (yC (zu (oA hH45 Z (zt (block (loop (S := Nat × Sf.Cm) (fun (k, o2) => [(13, (.int .i64 ((k : Int) + 1))), (0, (.pointer (some ⟨bb, 0, none⟩))), (6, (.map none)), (7, (.pointer (some ⟨b4, 0, none⟩))), (8, (.func (.func 187) #[] #[(.pointer (some ⟨b4, 0, none⟩))])), (9, (.int .i64 (nth l (i : Int)))), (10, (.pointer (some ⟨b21, 0, none⟩))), (11, (.int .i64 n)), (26, (.pointer (some ⟨r9, 0, none⟩)))]) (fun (k, o2) w1 => Heap [bx b29 148 (seg [(.int .i64 room), v] s.1 [(.map none)]), bx b21 145 (ints s.1), raw r9 (.mapIter (some cb) clock (seen.push e15.born) clock), bx b4 213 [(.map (some b1))], mp (kvA (n := 9)) Sf.vvI b1 o2, base w] w1 ∧ k ≤ 8 ∧ Sf.Kp o2 (Sf.prs room (nth l (i : Int)) m ks ++ Sf.awayTo (nth l (i : Int)) s n k)) (fun (k, o2) => 8 - k) (0, o1) (uC Z (uC Z (uC Z (uC Z (uC Z (uC Z (uC Z (uC Z (uC Z (Sub.nil _)))))))))) ?_ ?_)))))))
 ·exact ⟨hH45, om, by rw [show Sf.awayTo (nth l (i : Int)) s n 0 = [] from rfl, List.append_nil]; exact hKp⟩
 rintro ⟨k, o2⟩ w58 ⟨hH59, hk, hK2⟩
 refine seq (zr (oM hH59 Z (oY hH59 (uS Z Z) (zt ?_))))
 by_cases hc60 : ((k : Int) + 1) ≤ 8
 ·refine zO Z (dT hc60) (skip (zN (seq (block (zr (oM hH59 Z (oY hH59 (yA T.j8 Z Z om) (oY hH59 (W6 T.yU Z om (fun _ hw => Heap.xV hw (n := 1) Z)) (oY hH59 (xJ Z Z) (zt ?_))))))))))
  by_cases hc61 : 0 < (nth s.1 ((k : Int) + 1))
  ·have hq3 : 0 < nth s.1 ((k : Int) + 1) := by have hq := (decide_eq_true hc61); simpa using hq
   refine zO Z (dT hc61) (zr (oY hH59 (uD T.vS om Z (fun _ hw => Heap.xV hw (n := 1) Z)) (oY hH59 (XS (v := .agg ((seg [(.int .i64 0), (.slice none 0 0)] s.1 [(.map none)])).toArray) (us := [(1, (ag s.1))]) (fun a ha => by simp [ha.ev (show ev _ (.tmp 75) = some _ from rfl)]) (J1 ((by first | exact s.2 | omega | (simp only [List.length_set]; exact s.2))))) (yY (us := (seg [(.int .i64 0), (.slice none 0 0)] s.1 [(.map none)])) Z Z Z hH59 (fun b62 w63 hH64 => (oA hH64 Z (zs (oM hH64 Z (oM hH64 Z (vB (g := b62) (n := 0) Z Z Z hH64 Z ⟨Nat.le_refl _, Nat.lt_succ_self _⟩ (zBt (Heap.xV hH64 (n := 0) Z) ((by first | exact s.2 | omega | (simp only [List.length_set]; exact s.2))) om) (fun u67 w65 hH66 hv68 => ?_)))))))))))
   obtain ⟨rfl, -⟩ := hv68
   have hH69 := Heap.weaken hH66 (n := 0) Z (φ := Bx b62 148 (seg [(.int .i64 0), (.slice none 0 0)] (s.1.set ((k : Int) + 1).toNat 0) [(.map none)])) (fun w' h => h.2)
   refine zs (oM hH69 Z (oM hH69 Z (vB (g := b62) (n := 0) Z Z Z hH69 Z ⟨Nat.le_refl _, Nat.lt_succ_self _⟩ (J8 (Heap.xV hH69 (n := 0) Z) ((by first | exact s.2 | omega | (simp only [List.length_set]; exact s.2))) om) (fun u72 w70 hH71 hv73 => ?_))))
   obtain ⟨rfl, -⟩ := hv73
   have hH74 := Heap.weaken hH71 (n := 0) Z (φ := Bx b62 148 (seg [(.int .i64 0), (.slice none 0 0)] ((s.1.set ((k : Int) + 1).toNat 0).set (nth l (i : Int)).toNat 1) [(.map none)])) (fun w' h => h.2)
   refine zq (oM hH74 Z (oM hH74 Z (oY hH74 (yQ Z) (oY hH74 (zI T.qB Z) (oY hH74 (YR (show ((ag ((s.1.set ((k : Int) + 1).toNat 0).set (nth l (i : Int)).toNat 1)) : Value) = ag (Sf.putP (Sf.putP s (k + 1) 0) (nth l (i : Int)).toNat 1).1 from by first | rfl | (rw [Sf.toNat1]; rfl)) (uG T.vS Z ((by first | exact s.2 | omega | (simp only [List.length_set]; exact s.2))) (by rfl) (fun _ hw => (Heap.xV hw (n := 0) Z)))) ?_)))))
   refine oM hH74 Z (oY hH74 (zV Z Z om) (vB (g := b1) (n := 5) Z Z Z hH74 Z ⟨Nat.le_refl _, Nat.lt_succ_self _⟩ (zCb (s := (Sf.putP (Sf.putP s (k + 1) 0) (nth l (i : Int)).toNat 1)) (n := (n + 1)) (Heap.kJ hH74 (n := 5) Z) (Heap.xV hH74 (n := 4) Z)) (fun u77 w75 hH76 hv78 => ?_)))
   obtain ⟨rfl, -⟩ := hv78
   have hH79 := Heap.weaken hH76 (n := 5) Z (φ := Mp (kvA (n := 9)) Sf.vvI b1 (Sf.keep (Sf.putP (Sf.putP s (k + 1) 0) (nth l (i : Int)).toNat 1) (n + 1) o2)) (fun w' h => h.2)
   refine zC (yC (zN (region (oM hH79 Z (oY hH79 (zV Z Z om) (oA hH79 Z (zC (y0 (k + 1, (Sf.keep (Sf.putP (Sf.putP s (k + 1) 0) (nth l (i : Int)).toNat 1) (n + 1) o2)) (uC Z (uC Z (uC Z (uC Z (uC Z (uC Z (uC Z (uC Z (uC Z (Sub.nil _)))))))))) (⟨(hH79.sub (sC sR)), om, by rw [Sf.away_t hq3, ← List.append_assoc]; exact hK2.keep _ _⟩) om3))))))))
  have hq4 : ¬ 0 < nth s.1 ((k : Int) + 1) := by have hq := (decide_eq_false hc61); simpa using hq
  refine zL Z (dF hc61) (skip (yC (zN (region (oM hH59 Z (oY hH59 (zV Z Z om) (oA hH59 Z (zC (y0 (k + 1, o2) (uC Z (uC Z (uC Z (uC Z (uC Z (uC Z (uC Z (uC Z (uC Z (Sub.nil _)))))))))) (⟨hH59, om, by rw [Sf.away_f hq4]; exact hK2⟩) om3)))))))))
 have hk8 : k = 8 := by omega
 refine zL Z (dF hc60) (exit (yZ (xF (z7 (yC ?_)))))
 have hH81 := (hH59.sub (sC (sC sR)))
 refine y0 ((seen.push e15.born), ks ++ [s], o2) (uC Z (uC Z (uC Z (uC Z (uC Z (uC Z (Sub.nil _))))))) ?_ ?_
 ·exact ⟨hH81, hV.next hents uY hen hkey hns, (fun q hq => by rcases List.mem_append.1 hq with h9 | h9; exact hks q h9; rw [List.mem_singleton.1 h9, hfind]; rfl), by rw [Sf.prs_snoc, hfn, hnx, ← hk8]; exact hK2⟩
 ·show _ < _; exact vI hen hns
end Go.Fip
namespace Go.Fip
open Go.Proofs Go.RowKit
theorem zDb {bb mb : Nat} {room : Int} {v : Value} {C : List Int} {w : World} (kb : Bx bb 148 (seg [.int .i64 room, v] C [.map (some mb)]) w) (hC : C.length = 9) {l : List Int} (h0 : Rd encI 1 v l w) (hn : l.length ≤ 16) {i : Nat} (hi : i < l.length)  :
  Fn Tryz.prog 161 [(.pointer (some ⟨bb, 0, none⟩)), (.map none), (.int .i64 (i : Int))].toArray w (fun u w => MpEx (kvA (n := 9)) Sf.vvI (fun o => Sf.Eqv o (Sf.stepL room (nth l (i : Int)) [])) u w) := by
 refine fz Tryz.func161 Z kz Z Z (fun hH => (zr (oA hH Z (zs (uA (kvA (n := 9)) Sf.vvI Z hH (fun b1 w2 hH3 => (yD (z := (.map none)) (fun _ => by kernel_rfl) Z Z hH3 (fun b4 w5 hH6 => (zS (n := 0) (j := 0) Z Z hH6 Z T.zB1 Z Z Z (by rfl) (fun w7 hH8 => (zs (oY hH8 (vF Z Z) (oA hH8 Z (zs (oM hH8 Z ?_)))))))))))))))
 refine oY hH8 (yQ Z) (oY hH8 (zI T.vZ Z) (oY hH8 (zI T.vJ Z) (oY hH8 (xW T.xB Z (by rfl) Z (fun _ hw => (kb.now hw (n := 2) Z))) (oM hH8 Z (oY hH8 (zP T.yS Z Z (h0.now hH8 (n := 2) Z).is om) (oY hH8 (zE T.yU Z (fun _ hw => Rd.at (h0.now hw (n := 2) Z) (i := (i : Int)) om (j := 0) Z)) (oA hH8 Z (zt (seq (zr (oM hH8 Z (G3 T.XI.und Z Z hH8 (fun r9 w10 hH11 => (zt (block (loop (S := Unit) (fun _u => [(0, (.pointer (some ⟨bb, 0, none⟩))), (6, (.map none)), (7, (.pointer (some ⟨b4, 0, none⟩))), (8, (.func (.func 187) #[] #[(.pointer (some ⟨b4, 0, none⟩))])), (9, (.int .i64 (nth l (i : Int)))), (26, (.pointer (some ⟨r9, 0, none⟩)))]) (fun _u w1 => Heap [raw r9 (.mapIter none 0 #[] 0), bx b4 213 [(.map (some b1))], mp (kvA (n := 9)) Sf.vvI b1 ([] : List (Sf.Pl × Int)), base w] w1) (fun _u => 0) () (uC Z (uC Z (uC Z (uC Z (uC Z (uC Z (Sub.nil _))))))) ?_ ?_))))))))))))))))
 ·exact hH11
 rintro _u w12 hH13
 refine zr (K1 Z Z hH13 (k := 0) Z (oY hH13 (zH Z Z) (zt (seq (zL Z Z (exit (yZ (xF (z7 (zu (oY hH13 (zE T.XZ Z (cw (n := 1) Z Z)) (oA hH13 Z (zt (ret (fin ((hH13.sub (sC (sC sR))).front (n := 1) Z) (fun w' hf => (yN Z (rt Z))) (fun w' hf => ?_))))))))))))))))
 exact ⟨_, _, Z, Heap.kJ hf (n := 0) Z, fun _ => Z⟩
theorem zBh {bb mb : Nat} {room : Int} {v : Value} {C : List Int} {w : World} (kb : Bx bb 148 (seg [.int .i64 room, v] C [.map (some mb)]) w) (hC : C.length = 9) {l : List Int} (h0 : Rd encI 1 v l w) (hn : l.length ≤ 16) {i : Nat} (hi : i < l.length) (hw : ∀ x ∈ l, 1 ≤ x ∧ x ≤ 8) {m : Sf.Cm} {B : Nat} (hB : Sf.Cok B m) (hBb : B ≤ 100) {mv : Value} (hm : MpO (kvA (n := 9)) Sf.vvI mv m w) :
  Fn Tryz.prog 161 #[.pointer (some ⟨bb, 0, none⟩), mv, .int .i64 (i : Int)] w (fun u w => MpEx (kvA (n := 9)) Sf.vvI (fun o => Sf.Eqv o (Sf.stepL room (nth l (i : Int)) m)) u w) := by
 rcases hm with ⟨rfl, rfl⟩ | ⟨cb, rfl, hm⟩
 ·exact zDb kb hC h0 hn hi
 ·exact zC8 kb hC h0 hn hi hw hB hBb hm
theorem zFv {bb mb : Nat} {room : Int} {v : Value} {w : World} (kb : Bx bb 148 (seg [.int .i64 room, v] (List.replicate 9 0) [.map (some mb)]) w) {l : List Int} (h0 : Rd encI 1 v l w) (hn : l.length ≤ 16) (hw : ∀ x ∈ l, 1 ≤ x ∧ x ≤ 8) {want : Int} (hwt : 0 ≤ want ∧ want < l.length)  :
  Fn Tryz.prog 123 [(.pointer (some ⟨bb, 0, none⟩)), (.int .i64 want)].toArray w (fun u _ => u = .int .i64 (Sf.kindV room l want)) := by
 refine fz Tryz.func123 Z kz Z Z (fun hH => (zr (oA hH Z (zs (oY hH (yR (v := (.agg #[(.int .i64 1000), (.int .i64 1000)])) Z (fun w => by kernel_rfl)) (yD (z := (.agg #[(.int .i64 0), (.int .i64 0)])) (fun _ => by kernel_rfl) Z Z hH (fun b1 w2 hH3 => (zS (n := 0) (j := 0) Z Z hH3 Z T.zD8 Z Z Z (by rfl) (fun w4 hH5 => (zs (uA (kvA (n := 9)) Sf.vvI Z hH5 (fun b6 w7 hH8 => (oM hH8 Z (oY hH8 (yQ Z) (oY hH8 (zI T.qB Z) (oY hH8 (YR (show (ag (List.replicate 9 (0 : Int)) : Value) = ag Sf.zeroP.1 from Z) (uG T.vS Z ((by first | rfl | omega | simp)) (by rfl) (fun _ hw => (kb.now hw (n := 2) Z)))) (J6 (n := 0) (k := Sf.zeroP) (v := 0) T.XI Z Z Z hH8 Z (fun w9 hH10 => (oM hH10 Z ?_)))))))))))))))))))
 refine oA hH10 Z (zs (oA hH10 Z (zt (seq (zr (oM hH10 Z (oY hH10 (yQ Z) (oY hH10 (zI T.vZ Z) (oY hH10 (zI T.vJ Z) (oY hH10 (xW T.xB Z (by rfl) Z (fun _ hw => (kb.now hw (n := 2) Z))) (oY hH10 (z8 T.yS Z (h0.now hH10 (n := 2) Z).is) (oM hH10 Z (zt (block ?_))))))))))))))
 have hH11 := Heap.zDq (kvA (n := 9)) Sf.vvI hH10
 refine loop (S := Nat × Nat × Sf.Cm × Value × Sf.Cm × Nat × Nat) (fun (i, b6, m6, v7, m7, lo7, hi7) => [(30, (.int .i64 (i : Int))), (6, (.map (some b6))), (7, v7), (0, (.pointer (some ⟨bb, 0, none⟩))), (1, (.int .i64 want)), (4, (.int .i64 0)), (5, (.pointer (some ⟨b1, 0, none⟩))), (29, (.int .i64 (l.length : Int)))]) (fun (i, b6, m6, v7, m7, lo7, hi7) w1 => Heap [⟨lo7, hi7, MpO (kvA (n := 9)) Sf.vvI v7 m7⟩, mp (kvA (n := 9)) Sf.vvI b6 m6, bx b1 181 [(.int .i64 1000), (.int .i64 1000)], base w] w1 ∧ i ≤ l.length ∧ Sf.Eqv m6 (Sf.kdS room l want i).1 ∧ Sf.Eqv m7 (Sf.kdS room l want i).2 ∧ (1 ≤ i → ∃ b, v7 = .map (some b))) (fun (i, b6, m6, v7, m7, lo7, hi7) => l.length - i) (0, b6, [(Sf.zeroP, 0)], (.map none), [], w9.heap.size, w9.heap.size) (uC Z (uC Z (uC Z (uC Z (uC Z (uC Z (uC Z (uC Z (Sub.nil _))))))))) ?_ ?_
 ·exact ⟨hH11, om, fun _ => Z, fun _ => Z, fun h => absurd h om⟩
 rintro ⟨i, b6, m6, v7, m7, lo7, hi7⟩ w12 ⟨hH13, hi, hE6, hE7, hv7⟩
 have hx8 := hw
 refine zr (oY hH13 (yL Z Z) (zt (seq ?_)))
 by_cases hc14 : (i : Int) < (l.length : Int)
 ·refine zO Z (dT hc14) (skip (zN (seq (block (seq ?_)))))
  have hx8 := fun h => hw (nth l (i : Int)) (by rw [yG (show i < l.length from h)]; exact List.getElem_mem _)
  have hk := Sf.kdS_ok (room := room) (l := l) (want := want) i
  have hx9 := hx8 (by omega)
  refine region (oM hH13 Z (oA hH13 Z (zt (seq (zr (oM hH13 Z (oM hH13 Z (oY hH13 (y5 Z Z) (zt ?_)))))))))
  by_cases hc15 : (i : Int) = want
  ·have hiw : (i : Int) = want := by have hq := (decide_eq_true hc15); simpa using hq
   refine zO Z (dT hc15) (zr (uA (kvA (n := 9)) Sf.vvI Z hH13 (fun b16 w17 hH18 => (oA hH18 Z (zs (uA (kvA (n := 9)) Sf.vvI Z hH18 (fun b19 w20 hH21 => (oA hH21 Z (zt (seq (zr (oM hH21 Z ?_))))))))))))
   obtain ⟨eso23, clocko23, hH22, hv1, hv2, hv3, hv4⟩ := Heap.Y3 hH21 (n := 3) rfl
   have hentso23 : Ents (kvA (n := 9)) Sf.vvI eso23 clocko23 m6 := ⟨hv1, hv2, hv3, hv4⟩
   refine jG T.XI.und Z Z hH22 (Heap.jK hH22 (n := 3) Z) (fun r24 w25 hH26 => (zt (block (loop (S := Array Nat × List Sf.Pl × Sf.Cm × Sf.Cm) (fun (seen, ks, hh, gg) => [(0, (.pointer (some ⟨bb, 0, none⟩))), (1, (.int .i64 want)), (4, (.int .i64 0)), (5, (.pointer (some ⟨b1, 0, none⟩))), (6, (.map (some b6))), (7, v7), (8, (.int .i64 (i : Int))), (9, (.map (some b16))), (10, (.map (some b19))), (29, (.int .i64 (l.length : Int))), (30, (.int .i64 (i : Int))), (39, (.pointer (some ⟨r24, 0, none⟩)))]) (fun (seen, ks, hh, gg) w1 => Heap [raw r24 (.mapIter (some b6) clocko23 seen clocko23), mp (kvA (n := 9)) Sf.vvI b19 gg, mp (kvA (n := 9)) Sf.vvI b16 hh, ⟨lo7, hi7, MpO (kvA (n := 9)) Sf.vvI v7 m7⟩, raw b6 (.map eso23 clocko23), bx b1 181 [(.int .i64 1000), (.int .i64 1000)], base w] w1 ∧ Vis (kvA (n := 9)) eso23 seen ks ∧ Sf.Part2 true (nth l (i : Int)) m6 ks hh ∧ Sf.Part2 false (nth l (i : Int)) m6 ks gg) (fun (seen, ks, hh, gg) => unseen eso23 seen) (#[], [], [], []) (uC Z (uC Z (uC Z (uC Z (uC Z (uC Z (uC Z (uC Z (uC Z (uC Z (uC Z (uC Z (Sub.nil _))))))))))))) ?_ ?_))))
   ·exact ⟨hH26, Vis.start, Sf.Part2.start, Sf.Part2.start⟩
   rintro ⟨seen, ks, hh, gg⟩ w27 ⟨hH28, hV, hP1, hP2⟩
   refine zr (kD Z Z hH28 (Heap.jK hH28 (n := 4) Z) (k := 0) Z hentso23.born (fun hall29 w33 hH34 => ?_) (fun e30 he31 hns32 w33 hH34 => ?_))
   ·have hE9 : Sf.Eqv hh (Sf.filt true (nth l (i : Int)) (Sf.kdS room l want i).1) := (fun q => (hP1.done (hV.over hentso23 uY hall29) q).trans (hE6.filt (c := true) (x := (nth l (i : Int))) q))
    have hE10 : Sf.Eqv gg (Sf.filt false (nth l (i : Int)) (Sf.kdS room l want i).1) := (fun q => (hP2.done (hV.over hentso23 uY hall29) q).trans (hE6.filt (c := false) (x := (nth l (i : Int))) q))
    refine oY hH34 (zH Z Z) (zt (seq (zL Z Z (exit (yZ (xF (z7 (zu (oM hH34 Z (oM hH34 Z (oM hH34 Z (yV Z Z Z hH34 (zBh (kb.now hH34 (n := 6) Z) (by rfl) (h0.now hH34 (n := 6) Z) om om hw (B := i) (m := hh) (hk.1.filt.eqv hE9) om (.inr ⟨_, Z, Heap.kJ hH34 (n := 2) Z⟩)) (fun u37 w35 lo38 hi39 hH36 hv40 => ?_)))))))))))))
    obtain ⟨sb41, sm42, hu44, hsE43, hH45⟩ := Heap.toMp hH36 (n := 0) rfl (fun _ h => h)
    subst hu44
    refine oM hH45 Z (oM hH45 Z (oM hH45 Z (yV Z Z Z hH45 (zBh (kb.now hH45 (n := 7) Z) (by rfl) (h0.now hH45 (n := 7) Z) om om hw (B := i) (m := gg) (hk.1.filt.eqv hE10) om (.inr ⟨_, Z, Heap.kJ hH45 (n := 2) Z⟩)) (fun u48 w46 lo49 hi50 hH47 hv51 => ?_))))
    obtain ⟨sb52, sm53, hu55, hsE54, hH56⟩ := Heap.toMp hH47 (n := 0) rfl (fun _ h => h)
    subst hu55
    have hH57 := Heap.zB2 hH56 (n := 0) Z
    refine oA hH57 Z (oA hH57 Z (zt (exit (yZ (z7 (zN (region (oY hH57 (zV Z Z om) (oM hH57 Z (zC (y0 (i + 1, sb41, sm42, (.map (some sb52)), sm53, sb52, sb52 + 1) (uC Z (uC Z (uC Z (uC Z (uC Z (uC Z (uC Z (uC Z (Sub.nil _))))))))) (⟨(hH57.sub (sK (sK (sC (sC (sC (sC (sC sR)))))))), om, by rw [Sf.kdS_t hiw]; exact (hE9.step hsE43), by rw [Sf.kdS_t hiw]; exact (hE10.step hsE54), fun _ => ⟨_, Z⟩⟩) om3)))))))))))
   obtain ⟨s, n, hkey, hval, hfind⟩ := hentso23.entry he31
   have hns := hns32
   have hen := he31
   have hs9 := s.2
   have hfn : Sf.fnd m6 s = n := by unfold Sf.fnd; rw [hfind]; rfl
   refine oY hH34 (zH Z Z) (zt (seq (zO Z Z (skip (zN (block (zr (oY hH34 (qK hkey hval Z he31 hentso23.bornNd (fun _ hw => (Heap.jK hw (n := 4) Z)) (fun _ hw => Heap.jK hw (n := 0) Z)) (oY hH34 (zH Z Z) (oY hH34 (zH Z Z) (yD (z := (.agg #[(.int .i64 0), (.int .i64 0), (.int .i64 0), (.int .i64 0), (.int .i64 0), (.int .i64 0), (.int .i64 0), (.int .i64 0), (.int .i64 0)])) (fun _ => by kernel_rfl) Z Z hH34 (fun b59 w60 hH61 => (YY (n := 0) Z Z hH61 Z T.W8 om (by first | rfl | (rw [vG]; omega)) (fun w62 hH63 => (oA hH63 Z (zs (oM hH63 Z (oY hH63 (yQ Z) ?_))))))))))))))))))
   refine oY hH63 (zI T.vZ Z) (oY hH63 (zI T.vJ Z) (oY hH63 (xW T.xB Z (by rfl) Z (fun _ hw => (kb.now hw (n := 7) Z))) (oM hH63 Z (oY hH63 (zP T.yS Z Z (h0.now hH63 (n := 7) Z).is om) (oY hH63 (zE T.yU Z (fun _ hw => Rd.at (h0.now hw (n := 7) Z) (i := (i : Int)) om (j := 0) Z)) (oY hH63 (yA T.j8 Z Z om) (oY hH63 (W6 T.yU Z om (fun _ hw => Heap.xV hw (n := 0) Z)) (oY hH63 (xJ Z Z) (zt ?_)))))))))
   by_cases hc64 : 0 < (nth s.1 (nth l (i : Int)))
   ·have hq1 : 0 < nth s.1 (nth l (i : Int)) := by have hq := (decide_eq_true hc64); simpa using hq
    refine zO Z (dT hc64) (region (oM hH63 Z (oY hH63 (uD T.vS om Z (fun _ hw => Heap.xV hw (n := 0) Z)) (oM hH63 Z (uO (n := 3) (k := s) (v := n) T.XI Z Z Z hH63 Z (fun w65 hH66 => (zC (yC ?_))))))))
    have hH67 := (hH66.sub (sC sR))
    refine y0 ((seen.push e30.born), ks ++ [s], (upd s n hh), gg) (uC Z (uC Z (uC Z (uC Z (uC Z (uC Z (uC Z (uC Z (uC Z (uC Z (uC Z (uC Z (Sub.nil _))))))))))))) ?_ ?_
    ·exact ⟨hH67, hV.next hentso23 uY hen hkey hns, hP1.yes hfind (by simp [hq1]), hP2.no (by simp [hq1])⟩
    ·show _ < _; exact vI hen hns
   have hq2 : ¬ 0 < nth s.1 (nth l (i : Int)) := by have hq := (decide_eq_false hc64); simpa using hq
   refine zL Z (dF hc64) (region (oM hH63 Z (oY hH63 (uD T.vS om Z (fun _ hw => Heap.xV hw (n := 0) Z)) (oM hH63 Z (uO (n := 2) (k := s) (v := n) T.XI Z Z Z hH63 Z (fun w68 hH69 => (zC (yC ?_))))))))
   have hH70 := (hH69.sub (sC sR))
   refine y0 ((seen.push e30.born), ks ++ [s], hh, (upd s n gg)) (uC Z (uC Z (uC Z (uC Z (uC Z (uC Z (uC Z (uC Z (uC Z (uC Z (uC Z (uC Z (Sub.nil _))))))))))))) ?_ ?_
   ·exact ⟨hH70, hV.next hentso23 uY hen hkey hns, hP1.no (by simp [hq2]), hP2.yes hfind (by simp [hq2])⟩
   ·show _ < _; exact vI hen hns
  have hin : ¬ (i : Int) = want := by have hq := (decide_eq_false hc15); simpa using hq
  refine zL Z (dF hc15) (skip (zN (region (oM hH13 Z (oM hH13 Z (oM hH13 Z (yV Z Z Z hH13 (zBh (kb.now hH13 (n := 3) Z) (by rfl) (h0.now hH13 (n := 3) Z) om om hw (B := i) (m := m6) (hk.1.eqv hE6) om (.inr ⟨_, Z, Heap.kJ hH13 (n := 1) Z⟩)) (fun u73 w71 lo74 hi75 hH72 hv76 => ?_))))))))
  obtain ⟨sb77, sm78, hu80, hsE79, hH81⟩ := Heap.toMp hH72 (n := 0) rfl (fun _ h => h)
  subst hu80
  refine oM hH81 Z (oM hH81 Z (oM hH81 Z (yV Z Z Z hH81 (zBh (kb.now hH81 (n := 4) Z) (by rfl) (h0.now hH81 (n := 4) Z) om om hw (B := i) (m := m7) (hk.2.eqv hE7) om (hH81.get (n := 1) Z)) (fun u84 w82 lo85 hi86 hH83 hv87 => ?_))))
  obtain ⟨sb88, sm89, hu91, hsE90, hH92⟩ := Heap.toMp hH83 (n := 0) rfl (fun _ h => h)
  subst hu91
  have hH93 := Heap.zB2 hH92 (n := 0) Z
  refine oA hH93 Z (oA hH93 Z (zC (yC (zN (region (oY hH93 (zV Z Z om) (oM hH93 Z (zC (y0 (i + 1, sb77, sm78, (.map (some sb88)), sm89, sb88, sb88 + 1) (uC Z (uC Z (uC Z (uC Z (uC Z (uC Z (uC Z (uC Z (Sub.nil _))))))))) (⟨(hH93.sub (sK (sK (sC (sC sR))))), om, by rw [Sf.kdS_f hin]; exact (hE6.step hsE79), by rw [Sf.kdS_f hin]; exact (hE7.step hsE90), fun _ => ⟨_, Z⟩⟩) om3)))))))))
 refine zL Z (dF hc14) (exit (yZ (xF (z7 (zN (seq (seq ?_)))))))
 have hil : i = l.length := by omega
 refine region (oM hH13 Z ?_)
 obtain ⟨eso96, clocko96, hH95, hv1, hv2, hv3, hv4⟩ := Heap.Y3 hH13 (n := 1) rfl
 have hentso96 : Ents (kvA (n := 9)) Sf.vvI eso96 clocko96 m6 := ⟨hv1, hv2, hv3, hv4⟩
 refine jG T.XI.und Z Z hH95 (Heap.jK hH95 (n := 1) Z) (fun r97 w98 hH99 => (zt (block (loop (S := Array Nat × List Sf.Pl) (fun (seen6, ks6) => [(4, (.int .i64 0)), (5, (.pointer (some ⟨b1, 0, none⟩))), (7, v7), (80, (.pointer (some ⟨r97, 0, none⟩)))]) (fun (seen6, ks6) w1 => Heap [raw r97 (.mapIter (some b6) clocko96 seen6 clocko96), ⟨lo7, hi7, MpO (kvA (n := 9)) Sf.vvI v7 m7⟩, raw b6 (.map eso96 clocko96), bx b1 181 [(.int .i64 (Sf.lv m6 ks6)), (.int .i64 1000)], base w] w1 ∧ Vis (kvA (n := 9)) eso96 seen6 ks6) (fun (seen6, ks6) => unseen eso96 seen6) (#[], []) (uC Z (uC Z (uC Z (uC Z (Sub.nil _))))) ?_ ?_))))
 ·exact ⟨(Heap.y9 (n := 3) hH99 Z (Z)), Vis.start⟩
 rintro ⟨seen6, ks6⟩ w100 ⟨hH101, hV⟩
 refine zr (kD Z Z hH101 (Heap.jK hH101 (n := 2) Z) (k := 0) Z hentso96.born (fun hall102 w106 hH107 => ?_) (fun e103 he104 hns105 w106 hH107 => ?_))
 ·have hl6 := hE6.least (hV.over hentso96 uY hall102)
  refine oY hH107 (zH Z Z) (zt (seq (zL Z Z (exit (yZ (xF (z7 (zN (seq (seq ?_))))))))))
  obtain ⟨b7, hb7⟩ := hv7 (by omega)
  have hH108 := Heap.zFg hH107 (n := 1) Z hb7
  subst hb7
  refine region (oM hH108 Z ?_)
  obtain ⟨eso110, clocko110, hH109, hv1, hv2, hv3, hv4⟩ := Heap.Y3 hH108 (n := 1) rfl
  have hentso110 : Ents (kvA (n := 9)) Sf.vvI eso110 clocko110 m7 := ⟨hv1, hv2, hv3, hv4⟩
  refine jG T.XI.und Z Z hH109 (Heap.jK hH109 (n := 1) Z) (fun r111 w112 hH113 => (zt (block (loop (S := Array Nat × List Sf.Pl) (fun (seen7, ks7) => [(4, (.int .i64 0)), (5, (.pointer (some ⟨b1, 0, none⟩))), (91, (.pointer (some ⟨r111, 0, none⟩)))]) (fun (seen7, ks7) w1 => Heap [raw r111 (.mapIter (some b7) clocko110 seen7 clocko110), raw r97 (.mapIter (some b6) clocko96 seen6 clocko96), raw b7 (.map eso110 clocko110), raw b6 (.map eso96 clocko96), bx b1 181 [(.int .i64 (Sf.lv m6 ks6)), (.int .i64 (Sf.lv m7 ks7))], base w] w1 ∧ Vis (kvA (n := 9)) eso110 seen7 ks7) (fun (seen7, ks7) => unseen eso110 seen7) (#[], []) (uC Z (uC Z (uC Z (Sub.nil _)))) ?_ ?_))))
  ·exact ⟨(Heap.y9 (n := 4) hH113 Z (Z)), Vis.start⟩
  rintro ⟨seen7, ks7⟩ w114 ⟨hH115, hV⟩
  refine zr (kD Z Z hH115 (Heap.jK hH115 (n := 2) Z) (k := 0) Z hentso110.born (fun hall116 w120 hH121 => ?_) (fun e117 he118 hns119 w120 hH121 => ?_))
  ·have hl7 := hE7.least (hV.over hentso110 uY hall116)
   refine oY hH121 (zH Z Z) (zt (seq (zL Z Z (exit (yZ (xF (z7 (zN (seq (block (zr (oY hH121 (yA T.jV Z Z om) (oY hH121 (zE T.yU Z (cw (n := 4) Z Z)) (oY hH121 (yA T.jV Z Z om) (oY hH121 (zE T.yU Z (cw (n := 4) Z Z)) (oY hH121 (yL Z Z) (oA hH121 Z (zt ?_))))))))))))))))))
   by_cases hc122 : (Sf.lv m6 ks6) < (Sf.lv m7 ks7)
   ·have hk1 : Sf.lv m6 ks6 < Sf.lv m7 ks7 := by have hq := (decide_eq_true hc122); simpa using hq
    refine zO Z (dT hc122) (zr (oA hH121 Z (zt (ret (yE (z6 (fin (hH121.sub (sC (sC (sC (sC (sC sR)))))) (fun w' hf => (yN Z (rt Z))) (fun w' hf => ?_))))))))
    rw [hl6, hl7] at *
    subst hil
    first | exact congrArg (Value.int .i64) (Sf.kind_0 hk1) | exact congrArg (Value.int .i64) (Sf.kind_2 hk3) | exact congrArg (Value.int .i64) (Sf.kind_1 hk2 hk4)
   have hk2 : ¬ Sf.lv m6 ks6 < Sf.lv m7 ks7 := by have hq := (decide_eq_false hc122); simpa using hq
   refine zL Z (dF hc122) (zr (oY hH121 (yA T.jV Z Z om) (oY hH121 (zE T.yU Z (cw (n := 4) Z Z)) (oY hH121 (yA T.jV Z Z om) (oY hH121 (zE T.yU Z (cw (n := 4) Z Z)) (oY hH121 (xJ Z Z) (oA hH121 Z (zt ?_))))))))
   by_cases hc124 : (Sf.lv m7 ks7) < (Sf.lv m6 ks6)
   ·have hk3 : Sf.lv m7 ks7 < Sf.lv m6 ks6 := by have hq := (decide_eq_true hc124); simpa using hq
    refine zO Z (dT hc124) (zr (oA hH121 Z (zt (ret (yE (z6 (fin (hH121.sub (sC (sC (sC (sC (sC sR)))))) (fun w' hf => (yN Z (rt Z))) (fun w' hf => ?_))))))))
    rw [hl6, hl7] at *
    subst hil
    first | exact congrArg (Value.int .i64) (Sf.kind_0 hk1) | exact congrArg (Value.int .i64) (Sf.kind_2 hk3) | exact congrArg (Value.int .i64) (Sf.kind_1 hk2 hk4)
   have hk4 : ¬ Sf.lv m7 ks7 < Sf.lv m6 ks6 := by have hq := (decide_eq_false hc124); simpa using hq
   refine zL Z (dF hc124) (skip (yC (zu (oA hH121 Z (zt (ret (fin (hH121.sub (sC (sC (sC (sC (sC sR)))))) (fun w' hf => (yN Z (rt Z))) (fun w' hf => ?_))))))))
   rw [hl6, hl7] at *
   subst hil
   first | exact congrArg (Value.int .i64) (Sf.kind_0 hk1) | exact congrArg (Value.int .i64) (Sf.kind_2 hk3) | exact congrArg (Value.int .i64) (Sf.kind_1 hk2 hk4)
  obtain ⟨s, n, hkey, hval, hfind⟩ := hentso110.entry he118
  have hns := hns119
  have hen := he118
  have hs9 := s.2
  have hfn : Sf.fnd m7 s = n := by unfold Sf.fnd; rw [hfind]; rfl
  refine oY hH121 (zH Z Z) (zt (seq (zO Z Z (skip (zN (block (zr (oY hH121 (qK hkey hval Z he118 hentso110.bornNd (fun _ hw => (Heap.jK hw (n := 2) Z)) (fun _ hw => Heap.jK hw (n := 0) Z)) (oY hH121 (zH Z Z) (oA hH121 Z (zq (oY hH121 (yA T.jV Z Z om) (oY hH121 (zE T.yU Z (cw (n := 4) Z Z)) (oM hH121 Z (oY hH121 (j5 Z Z) (oY hH121 (yA T.jV Z Z om) (zS (n := 4) (j := 1) Z Z hH121 Z T.sz3 Z Z Z (by rfl) (fun w127 hH128 => ?_))))))))))))))))))
  refine zC (yC (y0 ((seen7.push e117.born), ks7 ++ [s]) (uC Z (uC Z (uC Z (Sub.nil _)))) ?_ ?_))
  ·exact ⟨(Heap.y9 (n := 4) hH128 Z (by first | rfl | (rw [Sf.lv_snoc, hfn]; rfl))), hV.next hentso110 uY hen hkey hns⟩
  ·show _ < _; exact vI hen hns
 obtain ⟨s, n, hkey, hval, hfind⟩ := hentso96.entry he104
 have hns := hns105
 have hen := he104
 have hs9 := s.2
 have hfn : Sf.fnd m6 s = n := by unfold Sf.fnd; rw [hfind]; rfl
 refine oY hH107 (zH Z Z) (zt (seq (zO Z Z (skip (zN (block (zr (oY hH107 (qK hkey hval Z he104 hentso96.bornNd (fun _ hw => (Heap.jK hw (n := 2) Z)) (fun _ hw => Heap.jK hw (n := 0) Z)) (oY hH107 (zH Z Z) (oA hH107 Z (zq (oY hH107 (yA T.jV Z Z om) (oY hH107 (zE T.yU Z (cw (n := 3) Z Z)) (oM hH107 Z (oY hH107 (j5 Z Z) (oY hH107 (yA T.jV Z Z om) (zS (n := 3) (j := 0) Z Z hH107 Z T.sz3 Z Z Z (by rfl) (fun w129 hH130 => ?_))))))))))))))))))
 refine zC (yC (y0 ((seen6.push e103.born), ks6 ++ [s]) (uC Z (uC Z (uC Z (uC Z (Sub.nil _))))) ?_ ?_))
 ·exact ⟨(Heap.y9 (n := 3) hH130 Z (by first | rfl | (rw [Sf.lv_snoc, hfn]; rfl))), hV.next hentso96 uY hen hkey hns⟩
 ·show _ < _; exact vI hen hns
end Go.Fip
namespace Go.Fip
open Go.Proofs Go.RowKit
theorem zFp {v : Value} {l : List Int} {room : Int} {w : World} (h0 : Rd encI 1 v l w) (hn : l.length ≤ 1000000) (hc : Sf.ck room l = 0)  :
  Fn Tryz.prog 56 [(.agg #[(.int .i64 room), v])].toArray w (fun u w => ∃ q, u = .tuple #[q, .int .i64 0] ∧ Rd encI 1 q (Sf.tm room l.length (Sf.gl l l.length)) w) := by
 refine fz Tryz.func56 Z kz Z Z (fun hH => ?_)
 have hc0 : Sf.ck room l = 0 := hc
 have hday := Sf.ck_iff.1 hc0
 have hd1 := hday.r1
 have hd2 := hday.r2
 have hd3 := hday.n
 refine zr (yY Z Z Z hH (fun b1 w2 hH3 => (oA hH3 Z (oA hH3 Z (zs (oY hH3 (zW (cs := [(.int .i64 room), v]) T.x3 Z Z (fun _ hw => Heap.yH hw (n := 0) Z (k := 0) Z)) (yV Z Z Z hH3 (KD (h0.now hH3 (n := 1) Z) om hc0) (fun u6 w4 lo7 hi8 hH5 hv9 => ?_))))))))
 obtain ⟨bbD11, hu, hrowD11⟩ := hv9
 subst hu
 obtain ⟨mbD11, mmD11, hfullD11, hH10⟩ := Heap.VK hH5 (n := 0) rfl (fun w' h => by obtain ⟨rb', e, h⟩ := h; cases e; exact h)
 refine oM hH10 Z (oY hH10 (zH Z Z) (oY hH10 (zH Z Z) (oA hH10 Z (oA hH10 Z (zt (seq (zr (oM hH10 Z (oY hH10 (yF Z Z) (zt (zL Z Z (skip (zu (oM hH10 Z (yV Z Z Z hH10 (zEt (Heap.xV hH10 (n := 1) Z) (by simp) (h0.now hH10 (n := 3) Z) om (Heap.kJ hH10 (n := 0) Z) ⟨om, om⟩) (fun u14 w12 lo15 hi16 hH13 hv17 => ?_))))))))))))))))
 have hH18 := Heap.weaken hH13 (n := 0) Z (φ := Rd encI 1 u14 (Sf.tm room l.length (Sf.gl l l.length))) (fun w' h => by rw [← hfullD11.lst hday _ (Nat.le_refl _)]; exact h)
 refine oA hH18 Z (oA hH18 Z (zt (ret (fin ((hH18.sub (sK (sC (sC (sC sR))))).front (n := 1) Z) (fun w' hf => (xI Z (rt Z) (rt Z))) (fun w' hf => ?_)))))
 exact ⟨_, Z, hf.get (n := 0) Z⟩
theorem c57 {v : Value} {l : List Int} {room : Int} {w : World} (h0 : Rd encI 1 v l w) (hn : l.length ≤ 1000000) {want : Int}  :
  Fn Tryz.prog 57 [(.agg #[(.int .i64 room), v]), (.int .i64 want)].toArray w (fun u _ => u = .tuple #[.int .i64 (Sf.kindR room l want).1, .int .i64 (Sf.kindR room l want).2]) := by
 refine fz Tryz.func57 Z kz Z Z (fun hH => (zr (yY Z Z Z hH (fun b1 w2 hH3 => (oA hH3 Z (oA hH3 Z (zt (seq ?_))))))))
 by_cases hc4 : Sf.ck room l = 0
 ·have hc0 : Sf.ck room l = 0 := ‹_›
  have hday := Sf.ck_iff.1 hc0
  have hd1 := hday.r1
  have hd2 := hday.r2
  have hd3 := hday.n
  refine region (oY hH3 (zW (cs := [(.int .i64 room), v]) T.x3 Z Z (fun _ hw => Heap.yH hw (n := 0) Z (k := 0) Z)) (yV Z Z Z hH3 (KD (h0.now hH3 (n := 1) Z) om hc0) (fun u7 w5 lo8 hi9 hH6 hv10 => ?_)))
  obtain ⟨bbD12, hu, hrowD12⟩ := hv10
  subst hu
  obtain ⟨mbD12, mmD12, hfullD12, hH11⟩ := Heap.VK hH6 (n := 0) rfl (fun w' h => by obtain ⟨rb', e, h⟩ := h; cases e; exact h)
  refine oM hH11 Z (oY hH11 (zH Z Z) (oY hH11 (zH Z Z) (oA hH11 Z (oA hH11 Z (zt (seq (block (zr (oM hH11 Z (oY hH11 (yF Z Z) (oA hH11 Z (zt (zL Z Z (zr (oY hH11 (zI T.vJ Z) (oY hH11 (zE T.xB Z (cw (n := 2) Z Z)) (oY hH11 (z8 T.yS Z (h0.now hH11 (n := 3) Z).is) ?_)))))))))))))))))
  refine oY hH11 (y8 Z Z om) (oM hH11 Z (z2 T.zA [want] Z (fun w => by kernel_rfl) hH11 (fun u13 lo15 hi16 w14 hH17 => (zM Z Z Z hH17 (G7 (Heap.yI T.zA hH17 (n := 0) Z)) (fun w18 hH19 => (oY hH19 (y6 Z) (oA hH19 Z (zt ?_))))))))
  by_cases hc20 : 0 ≤ want ∧ want ≤ (l.length : Int) - 1
  ·have hwy : 0 ≤ want ∧ want ≤ (l.length : Int) - 1 := by have hq := (zG hc20); simpa using hq
   refine zL Z (zG hc20) (skip (yC (zu (oM hH19 Z (oM hH19 Z (zM Z Z Z hH19 (zFv (Heap.xV hH19 (n := 2) Z) (h0.now hH19 (n := 4) Z) om hday.w ⟨om, om⟩) (fun w21 hH22 => (oA hH22 Z (oA hH22 Z (zt (ret (fin (hH22.sub (sC (sC (sC (sC sR))))) (fun w' hf => (xI Z (rt Z) (rt Z))) (fun w' hf => ?_)))))))))))))
   first | (rw [Sf.kindR_1 hcn] <;> rfl) | (rw [Sf.kindR_2 hc0 hwn] <;> rfl) | (rw [Sf.kindR_3 hc0 hwy] <;> rfl)
  have hwn : ¬ (0 ≤ want ∧ want ≤ (l.length : Int) - 1) := by have hq := (zF hc20); simp at hq; omega
  refine zO Z (zF hc20) (zr (oA hH19 Z (oA hH19 Z (zt (ret (yE (z6 (fin (hH19.sub (sC (sC (sC (sC sR))))) (fun w' hf => (xI Z (rt Z) (rt Z))) (fun w' hf => ?_)))))))))
  first | (rw [Sf.kindR_1 hcn] <;> rfl) | (rw [Sf.kindR_2 hc0 hwn] <;> rfl) | (rw [Sf.kindR_3 hc0 hwy] <;> rfl)
 have hcn : ¬ Sf.ck room l = 0 := ‹_›
 refine region (oY hH3 (zW (cs := [(.int .i64 room), v]) T.x3 Z Z (fun _ hw => Heap.yH hw (n := 0) Z (k := 0) Z)) (zM Z Z Z hH3 (zBz (h0.now hH3 (n := 1) Z) om hcn) (fun w25 hH26 => (oM hH26 Z (oY hH26 (zH Z Z) (oY hH26 (zH Z Z) (oA hH26 Z (oA hH26 Z (zt (seq (block (zr (oM hH26 Z (oY hH26 (yF Z Z) (oA hH26 Z (zt ?_))))))))))))))))
 have hc27 : ¬ ((Sf.ck room l) = 0) := hcn
 refine zO Z (zF hc27) (zr (oM hH26 Z (oA hH26 Z (oA hH26 Z (zt (ret (yE (z6 (fin (hH26.sub (sC sR)) (fun w' hf => (xI Z (rt Z) (rt Z))) (fun w' hf => ?_))))))))))
 first | (rw [Sf.kindR_1 hcn] <;> rfl) | (rw [Sf.kindR_2 hc0 hwn] <;> rfl) | (rw [Sf.kindR_3 hc0 hwy] <;> rfl)
theorem zFx {v : Value} {l : List Int} {room : Int} {w : World} (h0 : Rd encI 1 v l w) (hn : l.length ≤ 1000000) (hc : Sf.ck room l = 0)  :
  Fn Tryz.prog 58 [(.agg #[(.int .i64 room), v])].toArray w (fun u w => ∃ q, u = .tuple #[q, .int .i64 0] ∧ Own 3 1 encI q (Sf.dps l (Sf.gl l l.length) l.length) w) := by
 refine fz Tryz.func58 Z kz Z Z (fun hH => ?_)
 have hc0 : Sf.ck room l = 0 := hc
 have hday := Sf.ck_iff.1 hc0
 have hd1 := hday.r1
 have hd2 := hday.r2
 have hd3 := hday.n
 refine zr (yY Z Z Z hH (fun b1 w2 hH3 => (oA hH3 Z (oA hH3 Z (zs (oY hH3 (zW (cs := [(.int .i64 room), v]) T.x3 Z Z (fun _ hw => Heap.yH hw (n := 0) Z (k := 0) Z)) (yV Z Z Z hH3 (KD (h0.now hH3 (n := 1) Z) om hc0) (fun u6 w4 lo7 hi8 hH5 hv9 => ?_))))))))
 obtain ⟨bbD11, hu, hrowD11⟩ := hv9
 subst hu
 obtain ⟨mbD11, mmD11, hfullD11, hH10⟩ := Heap.VK hH5 (n := 0) rfl (fun w' h => by obtain ⟨rb', e, h⟩ := h; cases e; exact h)
 refine oM hH10 Z (oY hH10 (zH Z Z) (oY hH10 (zH Z Z) (oA hH10 Z (oA hH10 Z (zt (seq (zr (oM hH10 Z (oY hH10 (yF Z Z) (zt (zL Z Z (skip (zu (oA hH10 Z (zt ?_)))))))))))))))
 refine seq (zr (oY hH10 (zI T.vJ Z) (oY hH10 (zE T.xB Z (cw (n := 2) Z Z)) (oY hH10 (z8 T.yS Z (h0.now hH10 (n := 3) Z).is) (oM hH10 Z (zt (block ?_)))))))
 have hH12 := v8 (enc := encI) 3 1 hH10
 refine loop (S := Nat × Value × Nat × Nat) (fun (k, v_6, lo_6, hi_6) => [(19, (.int .i64 (k : Int))), (6, v_6), (2, (.slice none 0 0)), (3, (.int .i64 0)), (4, (.pointer (some ⟨bbD11, 0, none⟩))), (18, (.int .i64 (l.length : Int)))]) (fun (k, v_6, lo_6, hi_6) w1 => Heap [ow lo_6 hi_6 3 1 encI v_6 (Sf.dps l (Sf.gl l l.length) k), mp Sf.kvS Sf.vvI mbD11 mmD11, bx bbD11 148 (seg [(.int .i64 room), v] (List.replicate 9 0) [(.map (some mbD11))]), bx b1 51 [(.int .i64 room), v], base w] w1 ∧ k ≤ l.length) (fun (k, v_6, lo_6, hi_6) => l.length - k) (0, (.slice none 0 0), w4.heap.size, w4.heap.size) (uC Z (uC Z (uC Z (uC Z (uC Z (uC Z (Sub.nil _))))))) ?_ ?_
 ·exact ⟨(Heap.y1 (n := 0) hH12 Z (Z)), om⟩
 rintro ⟨k, v_6, lo_6, hi_6⟩ w13 ⟨hH14, hk⟩
 have hdl := Sf.dps_len l (Sf.gl l l.length) k
 refine zr (oY hH14 (yL Z Z) (zt (seq ?_)))
 by_cases hc15 : (k : Int) < (l.length : Int)
 ·refine zO Z (dT hc15) (skip (zN (seq (block (zr (oM hH14 Z (oA hH14 Z (zt ?_))))))))
  obtain ⟨ac, hce⟩ := kC (sz := 1) (Heap.yI T.zA hH14 (n := 0) rfl).is
  refine zY (fun w' => True) T.mixed (fun w16 hr17 => ?_)
  have hH18 := hH14.redrawn hr17
  refine zK [0, 1, 2, 3, 4, 5, 6, 7] kz trivial _ _ _ kz (qM Z Z Z (qM Z Z Z (zJ Z Z (z8 T.yS Z (Heap.yI T.zA hH18 (n := 0) Z).is) (qM Z Z Z (zJ Z Z (z8 T.yS Z (Heap.yI T.zA hH18 (n := 0) Z).is) (zJ Z Z (XF T.yS Z Z Z (Heap.yI T.zA hH18 (n := 0) Z).is om) (qM Z Z Z (qM Z Z Z (zQ (z1 8 kz Z (zM Z Z Z hH18 ((show Fn _ _ _ _ (fun u _ => u = .int .i64 (Sf.dp l (Sf.gl l l.length) (k : Int))) from by rw [← hfullD11.lst hday _ (Nat.le_refl _)]; exact zE4 (Heap.xV hH18 (n := 2) rfl) (by simp) (h0.now hH18 (n := 4) rfl) om (Heap.kJ hH18 (n := 1) rfl) hday.w)) (fun w19 hH20 => ?_))))))))))))
  refine zC (⟨trivial, (z1 9 kz Z (z2 T.zA [(Sf.dp l (Sf.gl l l.length) (k : Int))] Z (fun w => by kernel_rfl) hH20 (fun u21 lo23 hi24 w22 hH25 => (zC (⟨trivial, (z1 10 kz Z (qX T.zA Z hce Z Z hH25 (Rd.K7 (Heap.yI T.zA hH25 (n := 1) Z) ) (Heap.yI T.zA hH25 (n := 0) Z) (by simp) om2 (fun u26 lo28 hi29 w27 hH30 => (zC (⟨trivial, (zK [11] kz trivial _ _ _ kz (zJ Z Z (yK Z) (zQ (zX kz (yC (zN (region (oY hH30 (zV Z Z om) (oM hH30 Z (zC ?_))))))))))⟩)))))⟩)))))⟩)
  refine y0 (k + 1, u26, lo28, hi29) (uC Z (uC Z (uC Z (uC Z (uC Z (uC Z (Sub.nil _))))))) (⟨(Heap.y1 (n := 0) (hH30.sub (sK (sC (sC sR)))) Z (Z)), om⟩) om3
 refine zL Z (dF hc15) (exit (yZ (xF (z7 (zu (oM hH14 Z (oA hH14 Z (oA hH14 Z (zt (ret (fin ((hH14.sub (sK (sC (sC (sC sR))))).front (n := 1) Z) (fun w' hf => (xI Z (rt Z) (rt Z))) (fun w' hf => ?_))))))))))))
 have hke : k = l.length := by omega
 have h8 : Own 3 1 encI v_6 (Sf.dps l (Sf.gl l l.length) k) w' := Heap.own hf (n := 0) rfl
 rw [show (Sf.dps l (Sf.gl l l.length) k) = (Sf.dps l (Sf.gl l l.length) l.length) from by rw [hke]] at h8
 exact ⟨_, Z, h8⟩
end Go.Fip
namespace Go.Fip
open Go.Proofs Go.RowKit
def Sf.wants : List Int := [1, 2, 3, 4, 1, 2, 5, 1, 2, 3, 4, 5]
theorem c51 {room : Int} {w : World}  :
  Fn Tryz.prog 51 [(.int .i64 room)].toArray w (fun u w => ∃ v, u = .agg #[.int .i64 room, v] ∧ Own 3 1 encI v Sf.wants w) := by
 refine fz Tryz.func51 Z kz Z Z (fun hH => (zr (yD (z := (.agg #[(.int .i64 0), (.slice none 0 0)])) (fun _ => by kernel_rfl) Z Z hH (fun b1 w2 hH3 => (zs (oM hH3 Z (z2 T.zA [1, 2, 3, 4, 1, 2, 5, 1, 2, 3, 4, 5] Z (fun w => by kernel_rfl) hH3 (fun u4 lo6 hi7 w5 hH8 => (zM Z Z Z hH8 (zFn (Heap.yI T.zA hH8 (n := 0) Z)) (fun w9 hH10 => (zS (n := 1) (j := 0) Z Z hH10 Z T.zAs Z Z Z (xK Z (xK (SliceIs.uT (Heap.yI T.zA hH10 (n := 0) Z).is) Z)) (fun w11 hH12 => (zt (ret (fin (hH12.front (n := 2) Z) (fun w' hf => (yN Z (rvA (cs := [(.int .i64 room), u4]) Z T.x3 Z (y3 (Heap.xV hf (n := 2) Z) (k := 0) Z)))) (fun w' hf => ?_))))))))))))))))
 exact ⟨_, Z, Heap.own hf (n := 0) Z⟩
end Go.Fip
namespace Go.Fip
open Go.Proofs Go.RowKit
namespace KQ
theorem ck3 : Sf.ck 3 Sf.wants = 0 := by kernel_rfl
theorem ck4 : Sf.ck 4 Sf.wants = 0 := by kernel_rfl
theorem a : (Sf.runTo 3 1 Sf.wants Sf.wants.length).mis = [0, 1, 2, 3, 4, 5, 6, 9, 10] := by kernel_rfl
theorem b : (Sf.runTo 3 2 Sf.wants Sf.wants.length).mis = [0, 1, 2, 3, 4, 5, 6, 9, 10, 11] := by kernel_rfl
theorem c : (Sf.runTo 3 3 Sf.wants Sf.wants.length).out = [0, 0, 0, 3, 0, 0, 4, 0, 0, 1, 2, 0] := by kernel_rfl
theorem f : (Sf.runTo 4 1 Sf.wants Sf.wants.length).mis = [0, 1, 2, 3, 6, 7, 8, 9, 10, 11] := by kernel_rfl
theorem m : Sf.fewest 3 Sf.wants = (7, 0) := by kernel_rfl
theorem n : Sf.fewest 4 Sf.wants = (6, 0) := by kernel_rfl
theorem t : Sf.tm 3 Sf.wants.length (Sf.gl Sf.wants Sf.wants.length) = [6] := by kernel_rfl
theorem l : Sf.dps Sf.wants (Sf.gl Sf.wants Sf.wants.length) Sf.wants.length = [0, 0, 0, 0, 4, 4, 0, 3, 3, 5, 5, 5] := by kernel_rfl
theorem x : Sf.kindR 3 Sf.wants 4 = (0, 0) := by kernel_rfl
theorem k9 : Sf.cp 3 Sf.wants [0, 0, 0, 3, 0, 0, 4, 0, 0, 2, 1, 0] = (7, 0) := by kernel_rfl
theorem k10 : Sf.cp 3 Sf.wants [0, 0, 0, 5, 0, 0, 4, 0, 0, 1, 2, 0] = (0, 18) := by kernel_rfl
theorem k11 : Sf.cp 3 Sf.wants [0, 0, 0, 3, 1, 0, 4, 0, 0, 1, 2, 0] = (0, 16) := by kernel_rfl
theorem i12 : Sf.ct 3 Sf.wants [6] = (7, 0) := by kernel_rfl
theorem i13 : Sf.ct 3 Sf.wants [6, 6] = (0, 3) := by kernel_rfl
theorem j : Sf.rt 3 Sf.wants [6] = (7, 0) := by kernel_rfl
end KQ
theorem c19 {w : World}  :
  Fn Tryz.prog 19 [].toArray w (fun u _ => u = .bool true) := by
 refine fz Tryz.func19 Z kz Z Z (fun hH => (zr (oA hH Z (zs (yV Z Z Z hH (c51) (fun u3 w1 lo4 hi5 hH2 hv6 => ?_))))))
 obtain ⟨vD7, hu, -⟩ := hv6
 subst hu
 refine yV Z Z Z (Heap.xZ (Heap.weaken hH2 (n := 0) Z (φ := Own 3 1 encI vD7 Sf.wants) (fun w' h => by obtain ⟨p', e, h1⟩ := h; cases e; exact h1)) (n := 0) (by rfl)) (c51) (fun u12 w10 lo13 hi14 hH11 hv15 => ?_)
 obtain ⟨vD16, hu, -⟩ := hv15
 subst hu
 refine yD (z := (.agg #[(.int .i64 0), (.slice none 0 0)])) (fun _ => by kernel_rfl) Z Z (Heap.xZ (Heap.weaken hH11 (n := 0) Z (φ := Own 3 1 encI vD16 Sf.wants) (fun w' h => by obtain ⟨p', e, h1⟩ := h; cases e; exact h1)) (n := 0) (by rfl)) (fun b19 w20 hH21 => (yD (z := (.agg #[(.int .i64 0), (.slice none 0 0)])) (fun _ => by kernel_rfl) Z Z hH21 (fun b22 w23 hH24 => (zS (n := 1) (j := 0) Z Z hH24 Z T.zAs Z Z Z (xK Z (xK (SliceIs.uT (Heap.yI T.zA hH24 (n := 3) Z).is) Z)) (fun w25 hH26 => (zS (n := 0) (j := 0) Z Z hH26 Z T.zAs Z Z Z (xK Z (xK (SliceIs.uT (Heap.yI T.zA hH26 (n := 2) Z).is) Z)) (fun w27 hH28 => (zs (oY hH28 (zW (cs := [(.int .i64 3), vD7]) T.x3 Z Z (fun _ hw => Heap.yH hw (n := 1) Z (k := 0) Z)) (yV Z Z Z hH28 ((by have h := J9 (room := 3) (rule := 1) (Heap.yI T.zA hH28 (n := 3) rfl) (by decide) KQ.ck3 ⟨by decide, by decide⟩; simp only [KQ.a] at h; exact h)) (fun u31 w29 lo32 hi33 hH30 hv34 => ?_)))))))))))
 obtain ⟨p36, hu, -⟩ := hv34
 subst hu
 have hH35 := Heap.tup2 hH30 (n := 0) Z
 refine oM hH35 Z (oY hH35 (zH Z Z) (oY hH35 (zH Z Z) (oA hH35 Z (oA hH35 Z (zs (oY hH35 (zW (cs := [(.int .i64 3), vD7]) T.x3 Z Z (fun _ hw => Heap.yH hw (n := 2) Z (k := 0) Z)) (yV Z Z Z hH35 ((by have h := J9 (room := 3) (rule := 2) (Heap.yI T.zA hH35 (n := 4) rfl) (by decide) KQ.ck3 ⟨by decide, by decide⟩; simp only [KQ.b] at h; exact h)) (fun u39 w37 lo40 hi41 hH38 hv42 => ?_))))))))
 obtain ⟨p44, hu, -⟩ := hv42
 subst hu
 have hH43 := Heap.tup2 hH38 (n := 0) Z
 refine oM hH43 Z (oY hH43 (zH Z Z) (oY hH43 (zH Z Z) (oA hH43 Z (oA hH43 Z (zs (oY hH43 (zW (cs := [(.int .i64 3), vD7]) T.x3 Z Z (fun _ hw => Heap.yH hw (n := 3) Z (k := 0) Z)) (yV Z Z Z hH43 ((by have h := zEn (room := 3) (rule := 3) (Heap.yI T.zA hH43 (n := 5) rfl) (by decide) KQ.ck3 ⟨by decide, by decide⟩; simp only [KQ.c] at h; exact h)) (fun u47 w45 lo48 hi49 hH46 hv50 => ?_))))))))
 obtain ⟨p52, hu, -⟩ := hv50
 subst hu
 have hH51 := Heap.tup2 hH46 (n := 0) Z
 refine oM hH51 Z (oY hH51 (zH Z Z) (oY hH51 (zH Z Z) (oA hH51 Z (oA hH51 Z (zs (oY hH51 (zW (cs := [(.int .i64 3), vD7]) T.x3 Z Z (fun _ hw => Heap.yH hw (n := 4) Z (k := 0) Z)) (zM Z Z Z hH51 (zE2 (rule := 4) (Heap.yI T.zA hH51 (n := 6) Z) (by decide) KQ.ck3 (by decide)) (fun w53 hH54 => (oM hH54 Z (oY hH54 (zH Z Z) (oY hH54 (zH Z Z) (oA hH54 Z (oA hH54 Z (zs (oY hH54 (zW (cs := [(.int .i64 4), vD16]) T.x3 Z Z (fun _ hw => Heap.yH hw (n := 3) Z (k := 0) Z)) (yV Z Z Z hH54 ((by have h := J9 (room := 4) (rule := 1) (Heap.yI T.zA hH54 (n := 5) rfl) (by decide) KQ.ck4 ⟨by decide, by decide⟩; simp only [KQ.f] at h; exact h)) (fun u57 w55 lo58 hi59 hH56 hv60 => ?_)))))))))))))))))
 obtain ⟨p62, hu, -⟩ := hv60
 subst hu
 have hH61 := Heap.tup2 hH56 (n := 0) Z
 refine oM hH61 Z (oY hH61 (zH Z Z) (oY hH61 (zH Z Z) (oA hH61 Z (oA hH61 Z (zs (oY hH61 (zW (cs := [(.int .i64 3), vD7]) T.x3 Z Z (fun _ hw => Heap.yH hw (n := 5) Z (k := 0) Z)) (zM Z Z Z hH61 ((by have h := c15 (room := 3) (Heap.yI T.zA hH61 (n := 7) rfl) (by decide); simp only [KQ.m] at h; exact h)) (fun w63 hH64 => (oM hH64 Z (oY hH64 (zH Z Z) (oY hH64 (zH Z Z) (oA hH64 Z (oA hH64 Z (zs (oY hH64 (zW (cs := [(.int .i64 4), vD16]) T.x3 Z Z (fun _ hw => Heap.yH hw (n := 4) Z (k := 0) Z)) (zM Z Z Z hH64 ((by have h := c15 (room := 4) (Heap.yI T.zA hH64 (n := 6) rfl) (by decide); simp only [KQ.n] at h; exact h)) (fun w65 hH66 => ?_)))))))))))))))))
 refine oM hH66 Z (oY hH66 (zH Z Z) (oY hH66 (zH Z Z) (oA hH66 Z (oA hH66 Z (zt (seq (zY (fun w' => Heap [ow lo58 hi59 3 1 encI p62 [0, 1, 2, 3, 6, 7, 8, 9, 10, 11], ow lo48 hi49 3 1 encI p52 [0, 0, 0, 3, 0, 0, 4, 0, 0, 1, 2, 0], ow lo40 hi41 3 1 encI p44 [0, 1, 2, 3, 4, 5, 6, 9, 10, 11], ow lo32 hi33 3 1 encI p36 [0, 1, 2, 3, 4, 5, 6, 9, 10], bx b22 51 [(.int .i64 4), vD16], bx b19 51 [(.int .i64 3), vD7], ow lo13 hi14 3 1 encI vD16 Sf.wants, ow lo4 hi5 3 1 encI vD7 Sf.wants, base w] w') T.mixed (fun w67 hr68 => ?_))))))))
 have hH69 := hH66.redrawn hr68
 refine zK [0] kz hH69 _ _ _ kz (zJ Z Z (zW (cs := [(.int .i64 3), vD7]) T.x3 Z Z (fun _ hw => Heap.yH hw (n := 5) Z (k := 0) Z)) (zQ (z1 1 kz Z (z2 T.zA [0, 0, 0, 3, 0, 0, 4, 0, 0, 2, 1, 0] Z (fun w => by kernel_rfl) hH69 (fun u70 lo72 hi73 w71 hH74 => (zC (⟨(hH74.sub (sC sR)), (z1 2 kz Z (zM Z Z Z hH74 (c54) (fun w75 hH76 => (zC (⟨(hH76.sub (sC sR)), (z1 3 kz Z (zM Z Z Z hH76 ((by have h := c53 (room := 3) (Heap.yI T.zA hH76 (n := 8) rfl) (by decide) (Heap.yI T.zA hH76 (n := 0) rfl) (by decide); simp only [KQ.k9] at h; exact h)) (fun w77 hH78 => (zC (⟨(hH78.sub (sC sR)), (zK [4, 5, 6, 7, 8] kz (hH78.sub (sC sR)) _ _ _ kz (qM Z Z Z (zJ Z Z (zH Z Z) (zJ Z Z (zH Z Z) ?_))))⟩)))))⟩)))))⟩)))))))
 refine zJ Z Z (yK Z) (zJ Z Z (yK Z) (zQ (zX kz (zN (seq (zY (fun w' => Heap [ow lo72 hi73 3 1 encI u70 [0, 0, 0, 3, 0, 0, 4, 0, 0, 2, 1, 0], ow lo58 hi59 3 1 encI p62 [0, 1, 2, 3, 6, 7, 8, 9, 10, 11], ow lo48 hi49 3 1 encI p52 [0, 0, 0, 3, 0, 0, 4, 0, 0, 1, 2, 0], ow lo40 hi41 3 1 encI p44 [0, 1, 2, 3, 4, 5, 6, 9, 10, 11], ow lo32 hi33 3 1 encI p36 [0, 1, 2, 3, 4, 5, 6, 9, 10], bx b22 51 [(.int .i64 4), vD16], bx b19 51 [(.int .i64 3), vD7], ow lo13 hi14 3 1 encI vD16 Sf.wants, ow lo4 hi5 3 1 encI vD7 Sf.wants, base w] w') T.mixed (fun w79 hr80 => ?_)))))))
 have hH81 := hH78.redrawn hr80
 refine zK [0] kz hH81 _ _ _ kz (zJ Z Z (zW (cs := [(.int .i64 3), vD7]) T.x3 Z Z (fun _ hw => Heap.yH hw (n := 6) Z (k := 0) Z)) (zQ (z1 1 kz Z (z2 T.zA [0, 0, 0, 5, 0, 0, 4, 0, 0, 1, 2, 0] Z (fun w => by kernel_rfl) hH81 (fun u82 lo84 hi85 w83 hH86 => (zC (⟨(hH86.sub (sC sR)), (z1 2 kz Z (zM Z Z Z hH86 (c54) (fun w87 hH88 => (zC (⟨(hH88.sub (sC sR)), (z1 3 kz Z (zM Z Z Z hH88 ((by have h := c53 (room := 3) (Heap.yI T.zA hH88 (n := 9) rfl) (by decide) (Heap.yI T.zA hH88 (n := 0) rfl) (by decide); simp only [KQ.k10] at h; exact h)) (fun w89 hH90 => (zC (⟨(hH90.sub (sC sR)), (zK [4, 5, 6, 7, 8] kz (hH90.sub (sC sR)) _ _ _ kz (qM Z Z Z (zJ Z Z (zH Z Z) (zJ Z Z (zH Z Z) ?_))))⟩)))))⟩)))))⟩)))))))
 refine zJ Z Z (yK Z) (zJ Z Z (yK Z) (zQ (zX kz (zN (seq (zY (fun w' => Heap [ow lo84 hi85 3 1 encI u82 [0, 0, 0, 5, 0, 0, 4, 0, 0, 1, 2, 0], ow lo72 hi73 3 1 encI u70 [0, 0, 0, 3, 0, 0, 4, 0, 0, 2, 1, 0], ow lo58 hi59 3 1 encI p62 [0, 1, 2, 3, 6, 7, 8, 9, 10, 11], ow lo48 hi49 3 1 encI p52 [0, 0, 0, 3, 0, 0, 4, 0, 0, 1, 2, 0], ow lo40 hi41 3 1 encI p44 [0, 1, 2, 3, 4, 5, 6, 9, 10, 11], ow lo32 hi33 3 1 encI p36 [0, 1, 2, 3, 4, 5, 6, 9, 10], bx b22 51 [(.int .i64 4), vD16], bx b19 51 [(.int .i64 3), vD7], ow lo13 hi14 3 1 encI vD16 Sf.wants, ow lo4 hi5 3 1 encI vD7 Sf.wants, base w] w') T.mixed (fun w91 hr92 => ?_)))))))
 have hH93 := hH90.redrawn hr92
 refine zK [0] kz hH93 _ _ _ kz (zJ Z Z (zW (cs := [(.int .i64 3), vD7]) T.x3 Z Z (fun _ hw => Heap.yH hw (n := 7) Z (k := 0) Z)) (zQ (z1 1 kz Z (z2 T.zA [0, 0, 0, 3, 1, 0, 4, 0, 0, 1, 2, 0] Z (fun w => by kernel_rfl) hH93 (fun u94 lo96 hi97 w95 hH98 => (zC (⟨(hH98.sub (sC sR)), (z1 2 kz Z (zM Z Z Z hH98 (c54) (fun w99 hH100 => (zC (⟨(hH100.sub (sC sR)), (z1 3 kz Z (zM Z Z Z hH100 ((by have h := c53 (room := 3) (Heap.yI T.zA hH100 (n := 10) rfl) (by decide) (Heap.yI T.zA hH100 (n := 0) rfl) (by decide); simp only [KQ.k11] at h; exact h)) (fun w101 hH102 => (zC (⟨(hH102.sub (sC sR)), (zK [4, 5, 6, 7, 8] kz (hH102.sub (sC sR)) _ _ _ kz (qM Z Z Z (zJ Z Z (zH Z Z) (zJ Z Z (zH Z Z) ?_))))⟩)))))⟩)))))⟩)))))))
 refine zJ Z Z (yK Z) (zJ Z Z (yK Z) (zQ (zX kz (zN (seq (zY (fun w' => Heap [ow lo96 hi97 3 1 encI u94 [0, 0, 0, 3, 1, 0, 4, 0, 0, 1, 2, 0], ow lo84 hi85 3 1 encI u82 [0, 0, 0, 5, 0, 0, 4, 0, 0, 1, 2, 0], ow lo72 hi73 3 1 encI u70 [0, 0, 0, 3, 0, 0, 4, 0, 0, 2, 1, 0], ow lo58 hi59 3 1 encI p62 [0, 1, 2, 3, 6, 7, 8, 9, 10, 11], ow lo48 hi49 3 1 encI p52 [0, 0, 0, 3, 0, 0, 4, 0, 0, 1, 2, 0], ow lo40 hi41 3 1 encI p44 [0, 1, 2, 3, 4, 5, 6, 9, 10, 11], ow lo32 hi33 3 1 encI p36 [0, 1, 2, 3, 4, 5, 6, 9, 10], bx b22 51 [(.int .i64 4), vD16], bx b19 51 [(.int .i64 3), vD7], ow lo13 hi14 3 1 encI vD16 Sf.wants, ow lo4 hi5 3 1 encI vD7 Sf.wants, base w] w') T.mixed (fun w103 hr104 => ?_)))))))
 have hH105 := hH102.redrawn hr104
 refine zK [0] kz hH105 _ _ _ kz (zJ Z Z (zW (cs := [(.int .i64 3), vD7]) T.x3 Z Z (fun _ hw => Heap.yH hw (n := 8) Z (k := 0) Z)) (zQ (z1 1 kz Z (z2 T.zA [6] Z (fun w => by kernel_rfl) hH105 (fun u106 lo108 hi109 w107 hH110 => (zC (⟨(hH110.sub (sC sR)), (z1 2 kz Z (zM Z Z Z hH110 (c54) (fun w111 hH112 => (zC (⟨(hH112.sub (sC sR)), (z1 3 kz Z (zM Z Z Z hH112 ((by have h := c55 (room := 3) (Heap.yI T.zA hH112 (n := 11) rfl) (by decide) (Heap.yI T.zA hH112 (n := 0) rfl) (by decide); simp only [KQ.i12] at h; exact h)) (fun w113 hH114 => (zC (⟨(hH114.sub (sC sR)), (zK [4, 5, 6, 7, 8] kz (hH114.sub (sC sR)) _ _ _ kz (qM Z Z Z (zJ Z Z (zH Z Z) (zJ Z Z (zH Z Z) ?_))))⟩)))))⟩)))))⟩)))))))
 refine zJ Z Z (yK Z) (zJ Z Z (yK Z) (zQ (zX kz (zN (seq (zY (fun w' => Heap [ow lo108 hi109 3 1 encI u106 [6], ow lo96 hi97 3 1 encI u94 [0, 0, 0, 3, 1, 0, 4, 0, 0, 1, 2, 0], ow lo84 hi85 3 1 encI u82 [0, 0, 0, 5, 0, 0, 4, 0, 0, 1, 2, 0], ow lo72 hi73 3 1 encI u70 [0, 0, 0, 3, 0, 0, 4, 0, 0, 2, 1, 0], ow lo58 hi59 3 1 encI p62 [0, 1, 2, 3, 6, 7, 8, 9, 10, 11], ow lo48 hi49 3 1 encI p52 [0, 0, 0, 3, 0, 0, 4, 0, 0, 1, 2, 0], ow lo40 hi41 3 1 encI p44 [0, 1, 2, 3, 4, 5, 6, 9, 10, 11], ow lo32 hi33 3 1 encI p36 [0, 1, 2, 3, 4, 5, 6, 9, 10], bx b22 51 [(.int .i64 4), vD16], bx b19 51 [(.int .i64 3), vD7], ow lo13 hi14 3 1 encI vD16 Sf.wants, ow lo4 hi5 3 1 encI vD7 Sf.wants, base w] w') T.mixed (fun w115 hr116 => ?_)))))))
 have hH117 := hH114.redrawn hr116
 refine zK [0] kz hH117 _ _ _ kz (zJ Z Z (zW (cs := [(.int .i64 3), vD7]) T.x3 Z Z (fun _ hw => Heap.yH hw (n := 9) Z (k := 0) Z)) (zQ (z1 1 kz Z (z2 T.zA [6, 6] Z (fun w => by kernel_rfl) hH117 (fun u118 lo120 hi121 w119 hH122 => (zC (⟨(hH122.sub (sC sR)), (z1 2 kz Z (zM Z Z Z hH122 (c54) (fun w123 hH124 => (zC (⟨(hH124.sub (sC sR)), (z1 3 kz Z (zM Z Z Z hH124 ((by have h := c55 (room := 3) (Heap.yI T.zA hH124 (n := 12) rfl) (by decide) (Heap.yI T.zA hH124 (n := 0) rfl) (by decide); simp only [KQ.i13] at h; exact h)) (fun w125 hH126 => (zC (⟨(hH126.sub (sC sR)), (zK [4, 5, 6, 7, 8] kz (hH126.sub (sC sR)) _ _ _ kz (qM Z Z Z (zJ Z Z (zH Z Z) (zJ Z Z (zH Z Z) ?_))))⟩)))))⟩)))))⟩)))))))
 refine zJ Z Z (yK Z) (zJ Z Z (yK Z) (zQ (zX kz (zu (oY hH126 (zW (cs := [(.int .i64 3), vD7]) T.x3 Z Z (fun _ hw => Heap.yH hw (n := 10) Z (k := 0) Z)) (yV Z Z Z hH126 ((by have h := zFp (w := w125) (Heap.yI T.zA hH126 (n := 12) rfl) (by decide) KQ.ck3; simp only [KQ.t] at h; exact h)) (fun u129 w127 lo130 hi131 hH128 hv132 => ?_)))))))
 obtain ⟨q133, hu, -⟩ := hv132
 subst hu
 have hH134 := Heap.weaken hH128 (n := 0) Z (φ := Rd encI 1 q133 [6]) (fun w' h => by obtain ⟨p', e, h1⟩ := h; cases e; exact h1)
 refine oM hH134 Z (oY hH134 (zH Z Z) (oY hH134 (zH Z Z) (oA hH134 Z (oA hH134 Z (zs (oY hH134 (zW (cs := [(.int .i64 3), vD7]) T.x3 Z Z (fun _ hw => Heap.yH hw (n := 11) Z (k := 0) Z)) (zM Z Z Z hH134 ((by have h := c57 (room := 3) (want := 4) (Heap.yI T.zA hH134 (n := 13) rfl) (by decide); simp only [KQ.x] at h; exact h)) (fun w135 hH136 => (oM hH136 Z (oY hH136 (zH Z Z) (oY hH136 (zH Z Z) (oA hH136 Z (oA hH136 Z (zs (oY hH136 (zW (cs := [(.int .i64 3), vD7]) T.x3 Z Z (fun _ hw => Heap.yH hw (n := 11) Z (k := 0) Z)) (yV Z Z Z hH136 ((by have h := zFx (room := 3) (Heap.yI T.zA hH136 (n := 13) rfl) (by decide) KQ.ck3; simp only [KQ.l] at h; exact h)) (fun u139 w137 lo140 hi141 hH138 hv142 => ?_)))))))))))))))))
 obtain ⟨p144, hu, -⟩ := hv142
 subst hu
 have hH143 := Heap.tup2 hH138 (n := 0) Z
 refine oM hH143 Z (oY hH143 (zH Z Z) (oY hH143 (zH Z Z) (oA hH143 Z (oA hH143 Z (zt (seq (zr (oM hH143 Z (oY hH143 (yJ Z (yF Z Z)) (oM hH143 Z (zB Z Z Z (oM hH143 Z (zB Z Z Z (oY hH143 (yJ Z (yF Z Z)) (oY hH143 (zT Z Z Z) (oM hH143 Z (zB Z Z Z (oM hH143 Z (zB Z Z Z ?_)))))))))))))))))))
 refine oY hH143 (yJ Z (yF Z Z)) (oY hH143 (zT Z Z Z) (oM hH143 Z (zB Z Z Z (oM hH143 Z (zB Z Z Z (oY hH143 (yJ Z (yF Z Z)) (oY hH143 (zT Z Z Z) (oM hH143 Z (zB Z Z Z (oM hH143 Z (zB Z Z Z (oY hH143 (yJ Z (yF Z Z)) (oY hH143 (zT Z Z Z) (oM hH143 Z (zB Z Z Z (oM hH143 Z (zB Z Z Z (oY hH143 (yJ Z (yF Z Z)) (oY hH143 (zT Z Z Z) (oM hH143 Z (zB Z Z Z ?_)))))))))))))))))))))
 refine oM hH143 Z (zB Z Z Z (oY hH143 (yJ Z (yF Z Z)) (oY hH143 (zT Z Z Z) (oM hH143 Z (zB Z Z Z (oM hH143 Z (zB Z Z Z (oY hH143 (yJ Z (yF Z Z)) (oY hH143 (zT Z Z Z) (oM hH143 Z (zB Z Z Z (oM hH143 Z (zB Z Z Z (oY hH143 (yJ Z (yF Z Z)) (oY hH143 (zT Z Z Z) (oM hH143 Z (zB Z Z Z (oM hH143 Z (zB Z Z Z (oY hH143 (yJ Z (yF Z Z)) (oY hH143 (zT Z Z Z) ?_)))))))))))))))))))))
 refine oM hH143 Z (zB Z Z Z (oM hH143 Z (zB Z Z Z (oY hH143 (yJ Z (yF Z Z)) (oY hH143 (zT Z Z Z) (oM hH143 Z (zB Z Z Z (oM hH143 Z (zB Z Z Z (oY hH143 (yJ Z (yF Z Z)) (oY hH143 (zT Z Z Z) (oM hH143 Z (zB Z Z Z (oM hH143 Z (zB Z Z Z (oY hH143 (yJ Z (yF Z Z)) (oY hH143 (zT Z Z Z) (oM hH143 Z (zB Z Z Z (oM hH143 Z (zB Z Z Z ?_)))))))))))))))))))))
 refine oY hH143 (yJ Z (yF Z Z)) (oY hH143 (zT Z Z Z) (oM hH143 Z (zB Z Z Z (oM hH143 Z (zB Z Z Z (oY hH143 (yJ Z (yF Z Z)) (oY hH143 (zT Z Z Z) (zt (zL Z Z (skip (zu (oY hH143 (zW (cs := [(.int .i64 3), vD7]) T.x3 Z Z (fun _ hw => Heap.yH hw (n := 12) Z (k := 0) Z)) (oM hH143 Z (zM Z Z Z hH143 ((by have h := c59 (room := 3) (Heap.yI T.zA hH143 (n := 14) rfl) (by decide) ((show Rd encI 1 q133 [6] _ from hH143.get (n := 1) rfl)) (by decide); simp only [KQ.j] at h; exact h)) (fun w145 hH146 => (oM hH146 Z (oY hH146 (zH Z Z) (oY hH146 (zH Z Z) (oA hH146 Z ?_)))))))))))))))))))
 refine oA hH146 Z (zs (oM hH146 Z (z2 T.zA [0, 1, 2, 3, 4, 5, 6, 9, 10] Z (fun w => by kernel_rfl) hH146 (fun u147 lo149 hi150 w148 hH151 => (zM Z Z Z hH151 (c54) (fun w152 hH153 => (zM Z Z Z hH153 ((by have h := c60 (Heap.yI T.zA hH153 (n := 11) rfl) (Heap.yI T.zA hH153 (n := 0) rfl) (by decide) (by decide); simp only [show (decide (([0, 1, 2, 3, 4, 5, 6, 9, 10] : List Int) = [0, 1, 2, 3, 4, 5, 6, 9, 10])) = true from rfl] at h; exact h)) (fun w154 hH155 => (oM hH155 Z (zB Z Z Z (oM hH155 Z (zB Z Z Z (z2 T.zA [0, 1, 2, 3, 4, 5, 6, 9, 10, 11] Z (fun w => by kernel_rfl) hH155 (fun u156 lo158 hi159 w157 hH160 => (zB Z Z Z (zM Z Z Z hH160 (c54) (fun w161 hH162 => (zB Z Z Z (zM Z Z Z hH162 ((by have h := c60 (Heap.yI T.zA hH162 (n := 11) rfl) (Heap.yI T.zA hH162 (n := 0) rfl) (by decide) (by decide); simp only [show (decide (([0, 1, 2, 3, 4, 5, 6, 9, 10, 11] : List Int) = [0, 1, 2, 3, 4, 5, 6, 9, 10, 11])) = true from rfl] at h; exact h)) (fun w163 hH164 => (oY hH164 (zU Z Z Z) (oM hH164 Z (zB Z Z Z (oM hH164 Z ?_))))))))))))))))))))))))
 refine zB Z Z Z (z2 T.zA [0, 0, 0, 3, 0, 0, 4, 0, 0, 1, 2, 0] Z (fun w => by kernel_rfl) hH164 (fun u165 lo167 hi168 w166 hH169 => (zB Z Z Z (zM Z Z Z hH169 (c54) (fun w170 hH171 => (zB Z Z Z (zM Z Z Z hH171 ((by have h := c60 (Heap.yI T.zA hH171 (n := 11) rfl) (Heap.yI T.zA hH171 (n := 0) rfl) (by decide) (by decide); simp only [show (decide (([0, 0, 0, 3, 0, 0, 4, 0, 0, 1, 2, 0] : List Int) = [0, 0, 0, 3, 0, 0, 4, 0, 0, 1, 2, 0])) = true from rfl] at h; exact h)) (fun w172 hH173 => (oY hH173 (zU Z Z Z) (oM hH173 Z (zB Z Z Z (oM hH173 Z (zB Z Z Z (oY hH173 (vN (show ([0, 1, 2, 3, 6, 7, 8, 9, 10, 11].length : Int) = (10 : Int) from Z) (z8 T.yS Z (Heap.yI T.zA hH173 (n := 10) Z).is)) (zB Z Z Z (oY hH173 (yJ Z (y5 Z Z)) (oY hH173 (zU Z Z Z) (oM hH173 Z (zB Z Z Z (oM hH173 Z (zB Z Z Z (oY hH173 (yJ Z (y5 Z Z)) (oY hH173 (zU Z Z Z) (oM hH173 Z ?_))))))))))))))))))))))))
 refine zB Z Z Z (oM hH173 Z (zB Z Z Z (oY hH173 (yJ Z (y5 Z Z)) (oY hH173 (zU Z Z Z) (oM hH173 Z (zB Z Z Z (oM hH173 Z (zB Z Z Z (oY hH173 (yJ Z (y5 Z Z)) (oY hH173 (zU Z Z Z) (oM hH173 Z (zB Z Z Z (oM hH173 Z (zB Z Z Z (oY hH173 (yJ Z (y5 Z Z)) (oY hH173 (zU Z Z Z) (oM hH173 Z (zB Z Z Z (oM hH173 Z (zB Z Z Z (oY hH173 (yJ Z (y5 Z Z)) ?_)))))))))))))))))))))
 refine oY hH173 (zU Z Z Z) (oM hH173 Z (zB Z Z Z (oM hH173 Z (zB Z Z Z (oY hH173 (yJ Z (y5 Z Z)) (oY hH173 (zU Z Z Z) (oM hH173 Z (zB Z Z Z (oM hH173 Z (zB Z Z Z (oY hH173 (yJ Z (y5 Z Z)) (oY hH173 (zU Z Z Z) (oM hH173 Z (zB Z Z Z (oM hH173 Z (zB Z Z Z (z2 T.zA [0, 0, 0, 0, 4, 4, 0, 3, 3, 5, 5, 5] Z (fun w => by kernel_rfl) hH173 (fun u174 lo176 hi177 w175 hH178 => (zB Z Z Z (zM Z Z Z hH178 (c54) (fun w179 hH180 => (zB Z Z Z (zM Z Z Z hH180 ((by have h := c60 (Heap.yI T.zA hH180 (n := 4) rfl) (Heap.yI T.zA hH180 (n := 0) rfl) (by decide) (by decide); simp only [show (decide (([0, 0, 0, 0, 4, 4, 0, 3, 3, 5, 5, 5] : List Int) = [0, 0, 0, 0, 4, 4, 0, 3, 3, 5, 5, 5])) = true from rfl] at h; exact h)) (fun w181 hH182 => ?_))))))))))))))))))))))))
 refine oY hH182 (zU Z Z Z) (oA hH182 Z (zt (ret (fin (hH182.sub (sC (sC (sC (sC (sC (sC (sC (sC (sC (sC (sC (sC (sC (sC (sC (sC (sC (sC (sC sR)))))))))))))))))))) (fun w' hf => (yN Z (rt Z))) (fun w' hf => Z)))))
end Go.Fip
namespace Go.Fip
open Go.Proofs Go.RowKit
namespace S
def CircOK (l : List Pr) (B U F c : List Int) : Prop := (circleError l B U F ≠ 0 → c = []) ∧ (circleError l B U F = 0 → checkCircle l B U F c = 0) ∧ c.length ≤ 2 * l.length
theorem ok_err {l : List Pr} {B U F : List Int} (h : ¬ checkOrder l B U F = 0) : CircOK l B U F [] := ⟨fun _ => rfl, fun h2 => by rw [ce1 h] at h2; exact absurd h2 h, by simp⟩
theorem ok_play {l : List Pr} {B U F : List Int} {E : Mm} (hj : Jobs l) (hO : Ord l.length B U F) (hOK : DayOK l B U F E) (hf : E.length = 2 * l.length) : circleError l B U F = 5 ∧ CircOK l B U F [] := by
 have hc := checkOrder_iff.2 ⟨hj, hO⟩
 have hs : SolP l B U F (pairsTo ((List.range (2 * l.length)).map fun w : Nat => (find (w : Int) E).getD 0 - at2 l (w : Int)) l.length) := hOK.sol hO (by omega) (pairsTo_length _ _) (fun w hw => by
  rw [ZP _ hw, yG (by simpa using hw)]; simp)
 have e : circleError l B U F = 5 := ce2 hc (by rw [playOf_some hj hs]; rfl)
 exact ⟨e, fun _ => Z, fun h2 => by omega, by simp⟩
theorem ok_circ {l : List Pr} {B U F c : List Int} (hj : Jobs l) (hO : Ord l.length B U F) (h : 2 ≤ c.length ∧ c.length ≤ 2 * l.length ∧ InC l.length c ∧ Circ B U F c) : circleError l B U F = 0 ∧ CircOK l B U F c := by
 have hc := checkOrder_iff.2 ⟨hj, hO⟩
 have e : circleError l B U F = 0 := ce3 hc (by rw [playOf_none (circ_none hj (by omega) h.2.2.1 h.2.2.2)]; simp)
 exact ⟨e, fun h2 => absurd e h2, fun _ => cc5 hc om h.2.2.1 h.2.2.2, h.2.1⟩
end S
theorem Heap.zDk {n lo hi : Nat} {u : Value} {c : List Int} {p : List Int → Prop} {H : List Item} {w : World} (hH : Heap H w) (hn : H[n]? = some ⟨lo, hi, fun w => ∃ c : List Int, Rd encI 1 u c w ∧ p c⟩) (hu : Rd encI 1 u c w) (hc : 0 < c.length) : Heap (H.set n ⟨lo, hi, Rd encI 1 u c⟩) w := by
 have hok := hH.okAt hn
 have hlt : eb u < w.heap.size := hu.lt (i := 0) (x := c[0]) (by simp [hc]) (j := 0) (u := .int .i64 c[0]) rfl
 have hin := Item.within hok (b := eb u) (o := w.heap[eb u]) (Array.getElem?_eq_getElem hlt) (fun w' h _ hx => by
  obtain ⟨c', hc', _⟩ := h
  have hl : c'.length = c.length := by
   obtain ⟨a, cp, e, _⟩ := hc'.is
   obtain ⟨a2, cp2, e2, _⟩ := hu.is
   rw [e] at e2
   simp only [Value.slice.injEq] at e2
   exact e2.2.1
  have h2 := hc'.2 0 (c'[0]'(by omega)) (by simp) 0 (.int .i64 (c'[0]'(by omega))) rfl
  simp only [World.cell?] at h2
  rw [hx] at h2
  cases h2)
 refine hH.set hn ⟨Z, Z, Z, Nat.le_refl _, fun _ _ _ => Z⟩ (.inl ⟨Nat.le_refl _, Nat.le_refl _⟩) ⟨hok.1, hok.2.1, fun w' ha => ⟨hu.1, fun i x hi j v hj => ?_⟩⟩
 exact (ha.cell (p := ⟨eb u, eo u + i * 1 + j, none⟩) hin.1 hin.2).trans (hu.2 i x hi j v hj)
theorem Heap.zB6 {n lo hi : Nat} {u : Value} {c : List Int} {H : List Item} {w : World} (hH : Heap H w) (hn : H[n]? = some ⟨lo, hi, Rd encI 1 u c⟩) : Rd encI 1 u c w := hH.get hn
theorem c68 {v : Value} {js : List S.Pr} {vb vt vf : Value} {B U F : List Int} {w : World} (h0 : Rd encP 2 v js w) (hB : Rd encI 1 vb B w) (hT : Rd encI 1 vt U w) (hF : Rd encI 1 vf F w) (hn : js.length ≤ 1000000) (hBl : B.length ≤ 1000000) (hTl : U.length ≤ 1000000) (hFl : F.length ≤ 1000000)  :
  Fn Tryz.prog 68 [v, (.agg #[vb, vt, vf])].toArray w (fun u w => ∃ q c, u = .tuple #[q, .int .i64 (S.circleError js B U F)] ∧ Own 3 1 encI q c w ∧ S.CircOK js B U F c) := by
 refine fz Tryz.func68 Z kz Z Z (fun hH => (zr (yY Z Z Z hH (fun b1 w2 hH3 => (oA hH3 Z (oA hH3 Z (zt (seq ?_))))))))
 by_cases hc4 : S.checkOrder js B U F = 0
 ·have hco : S.checkOrder js B U F = 0 := ‹_›
  obtain ⟨hj, hO⟩ := S.checkOrder_iff.1 hco
  have hO8 := hO
  obtain ⟨hlB, hlU, hlF, hOk⟩ := hO8
  have hl1 := hj.1
  have hl8 := hj.2.1
  refine region (oM hH3 Z (oY hH3 (zW (cs := [vb, vt, vf]) T.uF Z Z (fun _ hw => Heap.yH hw (n := 0) Z (k := 0) Z)) (yV Z Z Z hH3 (c36 (h0.now hH3 (n := 1) Z) (hB.now hH3 (n := 1) Z) (hT.now hH3 (n := 1) Z) (hF.now hH3 (n := 1) Z) om om om om hco) (fun u7 w5 lo8 hi9 hH6 hv10 => ?_))))
  obtain ⟨d, m, E, hu, hday, hOK⟩ := hv10
  subst hu
  obtain ⟨es, clock, hents, hH11⟩ := Heap.JL hH6 (n := 0) rfl (fun w' h => by obtain ⟨d', m', E', e, h, _⟩ := h; cases e; exact ⟨_, _, h⟩) hday
  refine oM hH11 Z (oY hH11 (zH Z Z) (oY hH11 (zH Z Z) (oA hH11 Z (oA hH11 Z (zt (seq (block (zr (oM hH11 Z (oY hH11 (yF Z Z) (oA hH11 Z (zt ?_))))))))))))
  have hc12 : ¬ (¬ ((0 : Int) = 0)) := fun h => h rfl
  refine zL Z (vC hc12) (zr (oM hH11 Z (oY hH11 (yQ Z) (oY hH11 (zI T.VZ Z) (oY hH11 (zE T.XW Z (fun _ hw => yM ((Heap.dr hw (n := 0) Z).1) Z)) (oY hH11 (VN T.m84 Z (fun _ hw => ((DayR.day (Heap.dr hw (n := 0) Z) hents).2))) (oM hH11 Z (oY hH11 (z8 T.xX Z (h0.now hH11 (n := 2) Z).is) (oY hH11 (xA Z Z om) (oY hH11 (y5 Z Z) (oA hH11 Z (zt ?_))))))))))))
  by_cases hc13 : (E.length : Int) = (2 * (js.length : Int))
  ·obtain ⟨hce, hcok⟩ := S.ok_play hj hO hOK (by omega)
   refine zO Z (dT hc13) (zr (oA hH11 Z (oA hH11 Z (zt (ret (yE (z6 (fin (hH11.sub (sC (sC sR))) (fun w' hf => (xI Z (rt Z) (rt Z))) (fun w' hf => ?_)))))))))
   first | (rw [S.ce1 hcn]; exact ⟨_, _, rfl, vT, S.ok_err hcn⟩) | (rw [hce]; exact ⟨_, _, rfl, vT, hcok⟩) | (rw [hce]; exact ⟨_, _, rfl, Heap.own hf (n := 0) rfl, by simpa using hcok⟩)
  have hEl := hOK.len
  refine zL Z (dF hc13) (skip (yC (zu (oM hH11 Z (yV Z Z Z hH11 (zEf (DayR.day (Heap.dr hH11 (n := 0) Z) hents) (hB.now hH11 (n := 2) Z) (hT.now hH11 (n := 2) Z) (hF.now hH11 (n := 2) Z) hj hO hOK om) (fun u17 w15 lo18 hi19 hH16 hv20 => ?_))))))
  obtain ⟨c21, hcr, hcp⟩ := hv20
  have hH22 := Heap.zDk hH16 (n := 0) Z hcr om
  obtain ⟨hce, hcok⟩ := S.ok_circ hj hO hcp
  have hcl := hcp.2.1
  refine oA hH22 Z (zs (oM hH22 Z (oY hH22 (z8 T.yS Z (Heap.zB6 hH22 (n := 0) Z).is) (jA T.zA (0 : Int) T.uU Z Z Z hH22 om om (fun u23 lo25 hi26 w24 hH27 => (oA hH27 Z (zs (oM hH27 Z (oM hH27 Z (WT (n := 0) T.zA Z Z Z hH27 Z (Heap.zB6 hH27 (n := 1) Z) (by simp) (fun w28 hH29 => (zs (oM hH29 Z (oA hH29 Z ?_))))))))))))))
  refine oA hH29 Z (zt (ret (fin ((hH29.sub (sK (sC (sC (sC sR))))).front (n := 1) Z) (fun w' hf => (xI Z (rt Z) (rt Z))) (fun w' hf => ?_))))
  first | (rw [S.ce1 hcn]; exact ⟨_, _, rfl, vT, S.ok_err hcn⟩) | (rw [hce]; exact ⟨_, _, rfl, vT, hcok⟩) | (rw [hce]; exact ⟨_, _, rfl, Heap.own hf (n := 0) rfl, by simpa using hcok⟩)
 have hcn : ¬ S.checkOrder js B U F = 0 := ‹_›
 refine region (oM hH3 Z (oY hH3 (zW (cs := [vb, vt, vf]) T.uF Z Z (fun _ hw => Heap.yH hw (n := 0) Z (k := 0) Z)) (zM Z Z Z hH3 (zB8 (h0.now hH3 (n := 1) Z) (hB.now hH3 (n := 1) Z) (hT.now hH3 (n := 1) Z) (hF.now hH3 (n := 1) Z) om om om om hcn) (fun w31 hH32 => (oM hH32 Z (oY hH32 (zH Z Z) (oY hH32 (zH Z Z) (oA hH32 Z (oA hH32 Z (zt (seq (block (zr (oM hH32 Z (oY hH32 (yF Z Z) (oA hH32 Z (zt ?_)))))))))))))))))
 have hc33 : ¬ ((S.checkOrder js B U F) = 0) := hcn
 refine zO Z (zF hc33) (zr (oM hH32 Z (oA hH32 Z (oA hH32 Z (zt (ret (yE (z6 (fin (hH32.sub (sC sR)) (fun w' hf => (xI Z (rt Z) (rt Z))) (fun w' hf => ?_))))))))))
 first | (rw [S.ce1 hcn]; exact ⟨_, _, rfl, vT, S.ok_err hcn⟩) | (rw [hce]; exact ⟨_, _, rfl, vT, hcok⟩) | (rw [hce]; exact ⟨_, _, rfl, Heap.own hf (n := 0) rfl, by simpa using hcok⟩)
theorem Heap.JK {α : Type} {E sz n lo hi : Nat} {enc : α → List Value} {v : Value} {xs : List α} {φ : World → Prop} {H : List Item} {w : World} (hH : Heap H w) (hn : H[n]? = some ⟨lo, hi, φ⟩)
  (hφ : ∀ w', φ w' → ∃ ys : List α, Own E sz enc v ys w') (hown : Own E sz enc v xs w) : Heap (H.set n (ow lo hi E sz enc v xs)) w := by
 have hok := hH.okAt hn
 refine hH.set hn ⟨Z, Z, Z, Nat.le_refl _, fun _ _ _ => Z⟩ (.inl ⟨Nat.le_refl _, Nat.le_refl _⟩) (jL ⟨hown, fun g hg => ?_⟩ hok.1 hok.2.1)
 by_cases hin : lo ≤ g ∧ g < hi
 ·exact hin
 ·exfalso
  have hlt := (hown.lt g hg).2
  obtain ⟨ys, h1⟩ := hφ _ (hok.2.2 (w.putObj g (.deferred none)) ⟨rfl, rfl, rfl, by simp, fun k a b => World.putObj_heap_other (by simp only at a b; omega)⟩)
  rcases h1.2 with ⟨hv, _⟩ | ⟨g', cap, cur, hv, _, hg', _⟩
  ·rw [hv] at hg; cases hg
  ·rw [hv] at hg
   simp [Value.ownBlock] at hg
   subst hg
   rw [World.putObj_heap_same hlt] at hg'
   cases hg'
end Go.Fip
namespace Go.Fip
open Go.Proofs Go.RowKit
namespace K
theorem l : S.pairsTo [3, 4, 5, 2, 4, 6] (([3, 4, 5, 2, 4, 6] : List Int).length / 2) = [(3, 4), (5, 2), (4, 6)] := by decide
theorem m : S.pairsTo [3, 4] (([3, 4] : List Int).length / 2) = [(3, 4)] := by decide
theorem n : S.pairsTo [1, 1, 1, 1] (([1, 1, 1, 1] : List Int).length / 2) = [(1, 1), (1, 1)] := by decide
theorem p : S.pairsTo [0, 6, 3, 10, 8, 0] (([0, 6, 3, 10, 8, 0] : List Int).length / 2) = [(0, 6), (3, 10), (8, 0)] := by decide
theorem p7 : S.pairsTo [0, 6, 3, 10, 7, 0] (([0, 6, 3, 10, 7, 0] : List Int).length / 2) = [(0, 6), (3, 10), (7, 0)] := by decide
theorem t : S.pairsTo [0, 5] (([0, 5] : List Int).length / 2) = [(0, 5)] := by decide
theorem sl : S.shortest [(3, 4), (5, 2), (4, 6)] = (12, 0) := by decide
theorem sm : S.shortest [(3, 4)] = (7, 0) := by decide
theorem tm : S.tight [(3, 4)] = (2, 0, 0) := by decide
theorem bl : S.bound [(3, 4), (5, 2), (4, 6)] 2 2 = (10, 0) := by decide
theorem bl3 : S.bound [(3, 4), (5, 2), (4, 6)] 3 0 = (0, 2) := by decide
theorem cp : S.checkPlan [(3, 4), (5, 2), (4, 6)] [(0, 6), (3, 10), (8, 0)] = (12, 0) := by decide
theorem cp7 : S.checkPlan [(3, 4), (5, 2), (4, 6)] [(0, 6), (3, 10), (7, 0)] = (0, 16) := by decide
theorem idm : S.idle [(3, 4)] [(0, 5)] 1 = (5, 0) := by decide
theorem jl : S.Jobs [(3, 4), (5, 2), (4, 6)] := by decide
theorem jn : S.Jobs [(1, 1), (1, 1)] := by decide
theorem col : S.checkOrder [(3, 4), (5, 2), (4, 6)] [0, 1, 2] [2, 0, 1] [0, 0, 1] = 0 := by decide
theorem con : S.checkOrder [(1, 1), (1, 1)] [0, 1] [1, 0] [1, 0] = 0 := by decide
theorem spl : S.SolP [(3, 4), (5, 2), (4, 6)] [0, 1, 2] [2, 0, 1] [0, 0, 1] [(0, 6), (3, 10), (8, 0)] := by decide
theorem nsn : ¬ ∃ s, S.SolF [(1, 1), (1, 1)] [0, 1] [1, 0] [1, 0] s := S.circ_none (c := [0, 2, 3, 1]) jn (by decide) (by decide) (by decide)
theorem pyl : S.play [(3, 4), (5, 2), (4, 6)] [0, 1, 2] [2, 0, 1] [0, 0, 1] = ([(0, 6), (3, 10), (8, 0)], 0) := S.pl_some col jl spl
theorem pyn : S.play [(1, 1), (1, 1)] [0, 1] [1, 0] [1, 0] = ([], 13) := S.pl_none con nsn
theorem cc4 : S.checkCircle [(1, 1), (1, 1)] [0, 1] [1, 0] [1, 0] [0, 2, 3, 1] = 0 := by decide
theorem cc2 : S.checkCircle [(1, 1), (1, 1)] [0, 1] [1, 0] [1, 0] [0, 2] = 14 := by decide
theorem cel : S.circleError [(3, 4), (5, 2), (4, 6)] [0, 1, 2] [2, 0, 1] [0, 0, 1] = 5 := S.ce2 col (by rw [S.playOf_some jl spl]; rfl)
theorem cen : S.circleError [(1, 1), (1, 1)] [0, 1] [1, 0] [1, 0] = 0 := S.ce3 con (by rw [S.playOf_none nsn]; simp)
end K
theorem c20 {w : World}  :
  Fn Tryz.prog 20 [].toArray w (fun u _ => u = .bool true) := by
 refine fz Tryz.func20 Z kz Z Z (fun hH => ?_)
 obtain ⟨p, hpl, hps, hpc⟩ := S.plan_ok K.jl
 rw [show S.shortestOf [(3, 4), (5, 2), (4, 6)] = 12 from by decide] at hpc
 have hpn : p.length = 3 := hps.1
 refine zr (oA hH Z (zs (z2 T.zR [3, 4, 5, 2, 4, 6] Z (fun w => by kernel_rfl) hH (fun u1 lo3 hi4 w2 hH5 => ?_))))
 have hev8 : Fn Tryz.prog 61 [u1].toArray _ _ := c61 (Heap.yI T.zR hH5 (n := 0) rfl) (by simp)
 simp only [K.l] at hev8
 refine yV Z Z Z hH5 (hev8) (fun u9 w6 lo10 hi11 hH7 hv12 => (z2 T.zR [3, 4] Z (fun w => by kernel_rfl) (Heap.xZ hH7 (n := 0) Z) (fun u14 lo16 hi17 w15 hH18 => ?_)))
 have hev21 : Fn Tryz.prog 61 [u14].toArray _ _ := c61 (Heap.yI T.zR hH18 (n := 0) rfl) (by simp)
 simp only [K.m] at hev21
 refine yV Z Z Z hH18 (hev21) (fun u22 w19 lo23 hi24 hH20 hv25 => (z2 T.zR [1, 1, 1, 1] Z (fun w => by kernel_rfl) (Heap.xZ hH20 (n := 0) Z) (fun u27 lo29 hi30 w28 hH31 => ?_)))
 have hev34 : Fn Tryz.prog 61 [u27].toArray _ _ := c61 (Heap.yI T.zR hH31 (n := 0) rfl) (by simp)
 simp only [K.n] at hev34
 refine yV Z Z Z hH31 (hev34) (fun u35 w32 lo36 hi37 hH33 hv38 => ?_)
 have hH39 := Heap.xZ hH33 (n := 0) Z
 refine oA hH39 Z (oA hH39 Z (oA hH39 Z (zs (z2 T.zR [0, 6, 3, 10, 8, 0] Z (fun w => by kernel_rfl) hH39 (fun u40 lo42 hi43 w41 hH44 => ?_)))))
 have hev47 : Fn Tryz.prog 62 [u40].toArray _ _ := c62 (Heap.yI T.zR hH44 (n := 0) rfl) (by simp)
 simp only [K.p] at hev47
 refine yV Z Z Z hH44 (hev47) (fun u48 w45 lo49 hi50 hH46 hv51 => ?_)
 have hH52 := Heap.xZ hH46 (n := 0) Z
 refine oA hH52 Z (zs (oM hH52 Z ?_))
 have hev55 : Fn Tryz.prog 9 [u9].toArray _ _ := c9 (Heap.yI T.yW hH52 (n := 6) rfl) (by first | omega | simp)
 simp only [K.sl] at hev55
 refine zM Z Z Z hH52 (hev55) (fun w53 hH54 => (oM hH54 Z (oY hH54 (zH Z Z) (oY hH54 (zH Z Z) (oA hH54 Z (oA hH54 Z (zs (oM hH54 Z ?_))))))))
 have hev58 : Fn Tryz.prog 9 [u22].toArray _ _ := c9 (Heap.yI T.yW hH54 (n := 4) rfl) (by first | omega | simp)
 simp only [K.sm] at hev58
 refine zM Z Z Z hH54 (hev58) (fun w56 hH57 => (oM hH57 Z (oY hH57 (zH Z Z) (oY hH57 (zH Z Z) (oA hH57 Z (oA hH57 Z (zs (oM hH57 Z ?_))))))))
 have hev61 : Fn Tryz.prog 24 [u22].toArray _ _ := c24 (Heap.yI T.yW hH57 (n := 4) rfl) (by first | omega | simp)
 simp only [K.tm] at hev61
 refine zM Z Z Z hH57 (hev61) (fun w59 hH60 => (oM hH60 Z (oY hH60 (zH Z Z) (oY hH60 (zH Z Z) (oY hH60 (zH Z Z) (oA hH60 Z (oA hH60 Z (oA hH60 Z (zs (oM hH60 Z ?_))))))))))
 have hev64 : Fn Tryz.prog 16 [u9, (.int .i64 2), (.int .i64 2)].toArray _ _ := c16 (Heap.yI T.yW hH60 (n := 6) rfl) (by first | omega | simp)
 simp only [K.bl] at hev64
 refine zM Z Z Z hH60 (hev64) (fun w62 hH63 => (oM hH63 Z (oY hH63 (zH Z Z) (oY hH63 (zH Z Z) (oA hH63 Z (oA hH63 Z (zs (oM hH63 Z (oM hH63 Z ?_)))))))))
 have hev67 : Fn Tryz.prog 11 [u9, u48].toArray _ _ := c11 (Heap.yI T.yW hH63 (n := 6) rfl) (Heap.yI T.xT hH63 (n := 0) rfl) (by first | omega | simp) (by first | omega | simp)
 simp only [K.cp] at hev67
 refine zM Z Z Z hH63 (hev67) (fun w65 hH66 => (oM hH66 Z (oY hH66 (zH Z Z) (oY hH66 (zH Z Z) (oA hH66 Z (oA hH66 Z (zs (oM hH66 Z (z2 T.zR [0, 6, 3, 10, 7, 0] Z (fun w => by kernel_rfl) hH66 (fun u68 lo70 hi71 w69 hH72 => ?_))))))))))
 have hev75 : Fn Tryz.prog 62 [u68].toArray _ _ := c62 (Heap.yI T.zR hH72 (n := 0) rfl) (by simp)
 simp only [K.p7] at hev75
 refine yV Z Z Z hH72 (hev75) (fun u76 w73 lo77 hi78 hH74 hv79 => ?_)
 have hH80 := Heap.xZ hH74 (n := 0) Z
 have hev83 : Fn Tryz.prog 11 [u9, u76].toArray _ _ := c11 (Heap.yI T.yW hH80 (n := 8) rfl) (Heap.yI T.xT hH80 (n := 0) rfl) (by first | omega | simp) (by first | omega | simp)
 simp only [K.cp7] at hev83
 refine zM Z Z Z hH80 (hev83) (fun w81 hH82 => (oM hH82 Z (oY hH82 (zH Z Z) (oY hH82 (zH Z Z) (oA hH82 Z (oA hH82 Z (zs (oM hH82 Z (z2 T.zR [0, 5] Z (fun w => by kernel_rfl) hH82 (fun u84 lo86 hi87 w85 hH88 => ?_))))))))))
 have hev91 : Fn Tryz.prog 62 [u84].toArray _ _ := c62 (Heap.yI T.zR hH88 (n := 0) rfl) (by simp)
 simp only [K.t] at hev91
 refine yV Z Z Z hH88 (hev91) (fun u92 w89 lo93 hi94 hH90 hv95 => ?_)
 have hH96 := Heap.xZ hH90 (n := 0) Z
 have hev99 : Fn Tryz.prog 63 [u22, u92, (.int .i64 1)].toArray _ _ := c63 (Heap.yI T.yW hH96 (n := 8) rfl) (Heap.yI T.xT hH96 (n := 0) rfl) (by first | omega | simp) (by first | omega | simp)
 simp only [K.idm] at hev99
 refine zM Z Z Z hH96 (hev99) (fun w97 hH98 => (oM hH98 Z (oY hH98 (zH Z Z) (oY hH98 (zH Z Z) (oA hH98 Z (oA hH98 Z (zs (oM hH98 Z ?_))))))))
 have hev102 : Fn Tryz.prog 10 [u9].toArray _ _ := c10 (Heap.yI T.yW hH98 (n := 10) rfl) (by first | omega | simp)
 simp only [hpl] at hev102
 refine yV Z Z Z hH98 (hev102) (fun u103 w100 lo104 hi105 hH101 hv106 => ?_)
 obtain ⟨p108, hu, -⟩ := hv106
 subst hu
 have hH107 := Heap.tup2 hH101 (n := 0) Z
 refine oM hH107 Z (oY hH107 (zH Z Z) (oY hH107 (zH Z Z) (oA hH107 Z (oA hH107 Z (zs (oM hH107 Z (yV Z Z Z hH107 (c64) (fun u111 w109 lo112 hi113 hH110 hv114 => ?_))))))))
 obtain ⟨ob115, ot116, of117, hu, -⟩ := hv114
 subst hu
 have hH118 := Heap.rd3 hH110 (n := 0) Z
 have hev121 : Fn Tryz.prog 17 [u9, (.agg #[ob115, ot116, of117])].toArray _ _ := c17 (Heap.yI T.yW hH118 (n := 12) rfl) ((Heap.xM hH118 (n := 0) rfl).1) ((Heap.xM hH118 (n := 0) rfl).2.1) ((Heap.xM hH118 (n := 0) rfl).2.2) (by first | omega | simp) (by first | omega | simp) (by first | omega | simp) (by first | omega | simp)
 simp only [K.pyl] at hev121
 refine yV Z Z Z hH118 (hev121) (fun u122 w119 lo123 hi124 hH120 hv125 => ?_)
 obtain ⟨p127, hu, -⟩ := hv125
 subst hu
 have hH126 := Heap.tup2 hH120 (n := 0) Z
 refine oM hH126 Z (oY hH126 (zH Z Z) (oY hH126 (zH Z Z) (oA hH126 Z (oA hH126 Z (zs (oM hH126 Z (yV Z Z Z hH126 (c65) (fun u130 w128 lo131 hi132 hH129 hv133 => ?_))))))))
 obtain ⟨ob134, ot135, of136, hu, -⟩ := hv133
 subst hu
 have hH137 := Heap.rd3 hH129 (n := 0) Z
 have hev140 : Fn Tryz.prog 17 [u35, (.agg #[ob134, ot135, of136])].toArray _ _ := c17 (Heap.yI T.yW hH137 (n := 10) rfl) ((Heap.xM hH137 (n := 0) rfl).1) ((Heap.xM hH137 (n := 0) rfl).2.1) ((Heap.xM hH137 (n := 0) rfl).2.2) (by first | omega | simp) (by first | omega | simp) (by first | omega | simp) (by first | omega | simp)
 simp only [K.pyn] at hev140
 refine yV Z Z Z hH137 (hev140) (fun u141 w138 lo142 hi143 hH139 hv144 => ?_)
 obtain ⟨p146, hu, -⟩ := hv144
 subst hu
 have hH145 := Heap.tup2 hH139 (n := 0) Z
 refine oM hH145 Z (oY hH145 (zH Z Z) (oY hH145 (zH Z Z) (oA hH145 Z (oA hH145 Z (zs (oM hH145 Z (yV Z Z Z hH145 (c65) (fun u149 w147 lo150 hi151 hH148 hv152 => ?_))))))))
 obtain ⟨ob153, ot154, of155, hu, -⟩ := hv152
 subst hu
 refine z2 T.zA [0, 2, 3, 1] Z (fun w => by kernel_rfl) (Heap.rd3 hH148 (n := 0) Z) (fun u157 lo159 hi160 w158 hH161 => (zM Z Z Z hH161 (c67) (fun w162 hH163 => ?_)))
 have hev166 : Fn Tryz.prog 66 [u35, (.agg #[ob153, ot154, of155]), u157].toArray _ _ := c66 (Heap.yI T.yW hH163 (n := 13) rfl) ((Heap.xM hH163 (n := 1) rfl).1) ((Heap.xM hH163 (n := 1) rfl).2.1) ((Heap.xM hH163 (n := 1) rfl).2.2) (Heap.yI T.zA hH163 (n := 0) rfl) (by first | omega | simp) (by first | omega | simp) (by first | omega | simp) (by first | omega | simp) (by first | omega | simp)
 simp only [K.cc4] at hev166
 refine zM Z Z Z hH163 (hev166) (fun w164 hH165 => (oM hH165 Z (yV Z Z Z hH165 (c65) (fun u169 w167 lo170 hi171 hH168 hv172 => ?_))))
 obtain ⟨ob173, ot174, of175, hu, -⟩ := hv172
 subst hu
 refine z2 T.zA [0, 2] Z (fun w => by kernel_rfl) (Heap.rd3 hH168 (n := 0) Z) (fun u177 lo179 hi180 w178 hH181 => (zM Z Z Z hH181 (c67) (fun w182 hH183 => ?_)))
 have hev186 : Fn Tryz.prog 66 [u35, (.agg #[ob173, ot174, of175]), u177].toArray _ _ := c66 (Heap.yI T.yW hH183 (n := 15) rfl) ((Heap.xM hH183 (n := 1) rfl).1) ((Heap.xM hH183 (n := 1) rfl).2.1) ((Heap.xM hH183 (n := 1) rfl).2.2) (Heap.yI T.zA hH183 (n := 0) rfl) (by first | omega | simp) (by first | omega | simp) (by first | omega | simp) (by first | omega | simp) (by first | omega | simp)
 simp only [K.cc2] at hev186
 refine zM Z Z Z hH183 (hev186) (fun w184 hH185 => (oA hH185 Z (oA hH185 Z (zs (oM hH185 Z (yV Z Z Z hH185 (c65) (fun u189 w187 lo190 hi191 hH188 hv192 => ?_)))))))
 obtain ⟨ob193, ot194, of195, hu, -⟩ := hv192
 subst hu
 have hH196 := Heap.rd3 hH188 (n := 0) Z
 have hev199 : Fn Tryz.prog 68 [u35, (.agg #[ob193, ot194, of195])].toArray _ _ := c68 (Heap.yI T.yW hH196 (n := 16) rfl) ((Heap.xM hH196 (n := 0) rfl).1) ((Heap.xM hH196 (n := 0) rfl).2.1) ((Heap.xM hH196 (n := 0) rfl).2.2) (by first | omega | simp | (simp only [List.length_map]; omega)) (by first | omega | simp | (simp only [List.length_map]; omega)) (by first | omega | simp | (simp only [List.length_map]; omega)) (by first | omega | simp | (simp only [List.length_map]; omega))
 simp only [K.cen] at hev199
 refine yV Z Z Z hH196 (hev199) (fun u200 w197 lo201 hi202 hH198 hv203 => ?_)
 obtain ⟨q204, c205, hu, ho208, hcok206⟩ := hv203
 subst hu
 have hH207 := Heap.JK hH198 (n := 0) Z (fun w' h => by obtain ⟨_, ys, e, h, _⟩ := h; cases e; exact ⟨ys, h⟩) ho208
 refine oM hH207 Z (oY hH207 (zH Z Z) (oY hH207 (zH Z Z) (oA hH207 Z (oA hH207 Z (zt (seq ?_))))))
 have hcc0 := hcok206.2.1 K.cen
 have hcl : c205.length ≤ 4 := hcok206.2.2
 refine region (oM hH207 Z (yV Z Z Z hH207 (c64) (fun u211 w209 lo212 hi213 hH210 hv214 => ?_)))
 obtain ⟨ob215, ot216, of217, hu, -⟩ := hv214
 subst hu
 have hH218 := Heap.rd3 hH210 (n := 0) Z
 have hev221 : Fn Tryz.prog 68 [u9, (.agg #[ob215, ot216, of217])].toArray _ _ := c68 (Heap.yI T.yW hH218 (n := 22) rfl) ((Heap.xM hH218 (n := 0) rfl).1) ((Heap.xM hH218 (n := 0) rfl).2.1) ((Heap.xM hH218 (n := 0) rfl).2.2) (by first | omega | simp | (simp only [List.length_map]; omega)) (by first | omega | simp | (simp only [List.length_map]; omega)) (by first | omega | simp | (simp only [List.length_map]; omega)) (by first | omega | simp | (simp only [List.length_map]; omega))
 simp only [K.cel] at hev221
 refine yV Z Z Z hH218 (hev221) (fun u222 w219 lo223 hi224 hH220 hv225 => ?_)
 obtain ⟨q226, c227, hu, ho230, hcok228⟩ := hv225
 subst hu
 have hH229 := Heap.JK hH220 (n := 0) Z (fun w' h => by obtain ⟨_, ys, e, h, _⟩ := h; cases e; exact ⟨ys, h⟩) ho230
 refine oM hH229 Z (oY hH229 (zH Z Z) (oY hH229 (zH Z Z) (oA hH229 Z (oA hH229 Z (zs (oM hH229 Z ?_))))))
 have hev233 : Fn Tryz.prog 16 [u9, (.int .i64 3), (.int .i64 0)].toArray _ _ := c16 (Heap.yI T.yW hH229 (n := 23) rfl) (by first | omega | simp)
 simp only [K.bl3] at hev233
 refine zM Z Z Z hH229 (hev233) (fun w231 hH232 => (oM hH232 Z (oY hH232 (zH Z Z) (oY hH232 (zH Z Z) (oA hH232 Z (oA hH232 Z (zt (seq (zr (oM hH232 Z (oY hH232 (yJ Z (yF Z Z)) (oM hH232 Z (zB Z Z Z (oM hH232 Z (zB Z Z Z (oY hH232 (yJ Z (yF Z Z)) (oY hH232 (zT Z Z Z) (oM hH232 Z (zB Z Z Z (oM hH232 Z ?_))))))))))))))))))))
 refine zB Z Z Z (oY hH232 (yJ Z (yF Z Z)) (oY hH232 (zT Z Z Z) (oM hH232 Z (zB Z Z Z (oM hH232 Z (zB Z Z Z (oY hH232 (yJ Z (yF Z Z)) (oY hH232 (zT Z Z Z) (oM hH232 Z (zB Z Z Z (oM hH232 Z (zB Z Z Z (oY hH232 (yJ Z (yF Z Z)) (oY hH232 (zT Z Z Z) (oM hH232 Z (zB Z Z Z (oM hH232 Z (zB Z Z Z (oY hH232 (yJ Z (yF Z Z)) (oY hH232 (zT Z Z Z) (oM hH232 Z ?_)))))))))))))))))))))
 refine zB Z Z Z (oM hH232 Z (zB Z Z Z (oY hH232 (yJ Z (yF Z Z)) (oY hH232 (zT Z Z Z) (oM hH232 Z (zB Z Z Z (oM hH232 Z (zB Z Z Z (oY hH232 (yJ Z (yF Z Z)) (oY hH232 (zT Z Z Z) (oM hH232 Z (zB Z Z Z (oM hH232 Z (zB Z Z Z (oY hH232 (yJ Z (yF Z Z)) (oY hH232 (zT Z Z Z) (oM hH232 Z (zB Z Z Z (oM hH232 Z (zB Z Z Z (oY hH232 (yJ Z (yF Z Z)) ?_)))))))))))))))))))))
 refine oY hH232 (zT Z Z Z) (oM hH232 Z (zB Z Z Z (oM hH232 Z (zB Z Z Z (oY hH232 (yJ Z (yF Z Z)) (oY hH232 (zT Z Z Z) (oM hH232 Z (zB Z Z Z (oM hH232 Z (zB Z Z Z (oY hH232 (yJ Z (yF Z Z)) (oY hH232 (zT Z Z Z) (oM hH232 Z (zB Z Z Z (oM hH232 Z (zB Z Z Z (oY hH232 (yJ Z (yF Z Z)) (oY hH232 (zT Z Z Z) (oM hH232 Z (zB Z Z Z (oM hH232 Z ?_)))))))))))))))))))))
 refine zB Z Z Z (oY hH232 (yJ Z (yF Z Z)) (oY hH232 (zT Z Z Z) (oM hH232 Z (zB Z Z Z (oM hH232 Z (zB Z Z Z (oY hH232 (yJ Z (yF Z Z)) (oY hH232 (zT Z Z Z) (zt (zL Z Z (skip (zu (oM hH232 Z (oM hH232 Z ?_))))))))))))))
 have hev236 : Fn Tryz.prog 69 [u9, p108].toArray _ _ := c69 (Heap.yI T.yW hH232 (n := 23) rfl) (Heap.yI T.xT hH232 (n := 12) rfl) (by first | omega | simp) (by first | omega | simp)
 simp only [hpc] at hev236
 refine zM Z Z Z hH232 (hev236) (fun w234 hH235 => (oM hH235 Z (oY hH235 (zH Z Z) (oY hH235 (zH Z Z) (oA hH235 Z (oA hH235 Z (zs (oM hH235 Z (oY hH235 (yJ Z (y5 Z Z)) (oM hH235 Z (zB Z Z Z (oM hH235 Z (zB Z Z Z (oY hH235 (yJ Z (y5 Z Z)) (oY hH235 (zU Z Z Z) (oM hH235 Z (zB Z Z Z (oM hH235 Z (zB Z Z Z ?_)))))))))))))))))))
 refine oY hH235 (yJ Z (y5 Z Z)) (oY hH235 (zU Z Z Z) (oM hH235 Z (zB Z Z Z (oM hH235 Z (zB Z Z Z (oY hH235 (yJ Z (y5 Z Z)) (oY hH235 (zU Z Z Z) (oM hH235 Z (zB Z Z Z (oM hH235 Z (zB Z Z Z (oY hH235 (yJ Z (y5 Z Z)) (oY hH235 (zU Z Z Z) (oM hH235 Z (zB Z Z Z (oM hH235 Z (zB Z Z Z (oY hH235 (yJ Z (y5 Z Z)) (oY hH235 (zU Z Z Z) (oM hH235 Z (zB Z Z Z ?_)))))))))))))))))))))
 refine oM hH235 Z (zB Z Z Z (oY hH235 (yJ Z (y5 Z Z)) (oY hH235 (zU Z Z Z) (oM hH235 Z (zB Z Z Z (oM hH235 Z (zB Z Z Z (oY hH235 (yJ Z (y5 Z Z)) (oY hH235 (zU Z Z Z) (oM hH235 Z (zB Z Z Z (oM hH235 Z (zB Z Z Z (oY hH235 (yJ Z (y5 Z Z)) (oY hH235 (zU Z Z Z) (oM hH235 Z (zB Z Z Z (oM hH235 Z (zB Z Z Z (oM hH235 Z (zB Z Z Z ?_)))))))))))))))))))))
 refine zM Z Z Z hH235 (c70 (Heap.yI T.xT hH235 (n := 10) Z) (Heap.yI T.xT hH235 (n := 17) Z) (by first | omega | simp) (by first | omega | simp)) (fun w237 hH238 => (oY hH238 (zU Z Z Z) (oM hH238 Z (zB Z Z (dT Z) (oM hH238 Z (zB Z Z (dT Z) (yV Z Z Z hH238 (c65) (fun u241 w239 lo242 hi243 hH240 hv244 => ?_))))))))
 obtain ⟨ob245, ot246, of247, hu, -⟩ := hv244
 subst hu
 have hH248 := Heap.rd3 hH240 (n := 0) Z
 refine zB Z Z (dT Z) (oM hH248 Z (zB Z Z (dT Z) ?_))
 have hev251 : Fn Tryz.prog 71 [u35, (.agg #[ob245, ot246, of247]), q204].toArray _ _ := c71 (Heap.yI T.yW hH248 (n := 20) rfl) ((Heap.xM hH248 (n := 0) rfl).1) ((Heap.xM hH248 (n := 0) rfl).2.1) ((Heap.xM hH248 (n := 0) rfl).2.2) (Heap.yI T.zA hH248 (n := 3) rfl) (by simp) (by simp) (by simp) (by simp) (by omega)
 simp only [hcc0] at hev251
 refine zM Z Z Z hH248 (hev251) (fun w249 hH250 => (zB Z Z (dT Z) (oY hH250 (yJ Z (y5 Z Z)) (oY hH250 (zU Z (dT Z) Z) (oA hH250 Z (zt (ret (fin (hH250.sub (sC (sC (sC (sC (sC (sC (sC (sC (sC (sC (sC (sC (sC (sC (sC (sC (sC (sC (sC (sC (sC (sC (sC (sC (sC (sC sR))))))))))))))))))))))))))) (fun w' hf => (yN Z (rt Z))) (fun w' hf => Z)))))))))
end Go.Fip
namespace Go.Fip
open Go.Proofs Go.RowKit
theorem c5 {w : World}  :
  Fn Tryz.prog 5 [].toArray w (fun u _ => u = .bool true) := by
 refine fz Tryz.func5 Z kz Z Z (fun hH => (zr (oA hH Z (zs (zM Z Z Z hH (c18) (fun w1 hH2 => (oM hH2 Z (zB Z Z Z (zM Z Z Z hH2 (c19) (fun w3 hH4 => (oY hH4 (zU Z Z Z) (oM hH4 Z (zB Z Z Z (zM Z Z Z hH4 (c20) (fun w5 hH6 => (oY hH6 (zU Z Z Z) (oA hH6 Z (zt (ret (fin hH6 (fun w' hf => (yN Z (rt Z))) (fun w' hf => Z)))))))))))))))))))))
end Go.Fip
namespace Go.Fip.S
theorem Z5 {l : List Pr} {c : Int} : shortestOf l ≤ c ↔ sumOf l 0 ≤ c ∧ sumOf l 1 ≤ c ∧ ∀ i, i < l.length → alone l i ≤ c := by
 have hge := qO l l.length
 have e : shortTo l l.length = shortestOf l := rfl
 rw [e] at hge
 constructor
 ·intro h
  exact ⟨by omega, by omega, fun i hi => by have := hge.2.2 i hi; omega⟩
 ·rintro ⟨h1, h2, h3⟩
  rcases YM l l.length with h | h | ⟨i, hi, h⟩
  ·rw [e] at h; omega
  ·rw [e] at h; omega
  ·rw [e] at h; have := h3 i hi; omega
theorem shortest_ge {l : List Pr} : sumOf l 0 ≤ shortestOf l ∧ sumOf l 1 ≤ shortestOf l ∧ ∀ i, i < l.length → alone l i ≤ shortestOf l := Z5.1 (Int.le_refl _)
section
variable {l : List Pr} {i : Nat} {z : Pr}
theorem sum0_set (h : i < l.length) : ∀ k, sumTo (l.set i z) 0 k = sumTo l 0 k + (if i < k then z.1 - (nth l (i : Int)).1 else 0)
 | 0 => by simp [sumTo]
 | k + 1 => by
  rw [sum0, sum0, sum0_set h k]
  by_cases e : i = k
  ·subst e; rw [qE h, if_neg (by omega), if_pos (by omega)]; omega
  ·rw [jH e]
   by_cases e2 : i < k
   ·rw [if_pos e2, if_pos (by omega)]; omega
   ·rw [if_neg e2, if_neg (by omega)]; omega
end
end Go.Fip.S
namespace Go.Fip.S
def ins (l : List Int) (a x : Int) : List Int := l.take a.toNat ++ [x] ++ l.drop a.toNat
theorem VF {l : List Int} {a x : Int} (h : a ≤ (l.length : Int)) : (ins l a x).length = l.length + 1 := by
 unfold ins
 simp only [List.length_append, List.length_take, List.length_drop, List.length_singleton]
 omega
theorem JQ {l : List Int} {a x y : Int} : y ∈ ins l a x ↔ y ∈ l ∨ y = x := by
 unfold ins
 rw [List.mem_append, List.mem_append, List.mem_singleton]
 constructor
 ·rintro ((h | h) | h)
  ·exact .inl (List.mem_of_mem_take h)
  ·exact .inr h
  ·exact .inl (List.mem_of_mem_drop h)
 ·rintro (h | h)
  ·rw [← List.take_append_drop a.toNat l, List.mem_append] at h
   rcases h with h | h
   ·exact .inl (.inl h)
   ·exact .inr h
  ·exact .inl (.inr h)
section
variable (by_ : List Int)
def pick (c : Int) (k : Nat) : Int := nth by_ ((3 * (k : Int) + c) % (by_.length : Int))
def ordB : Nat → List Int
 | 0 => []
 | k + 1 => ins (ordB k) (if 0 < by_.length then pick by_ 0 k % ((k : Int) + 1) else (k : Int)) (k : Int)
def ordU : Nat → List Int
 | 0 => []
 | k + 1 => ins (ordU k) (if 0 < by_.length then pick by_ 1 k % ((k : Int) + 1) else (k : Int)) (k : Int)
def ordF : Nat → List Int
 | 0 => []
 | k + 1 => ordF k ++ [if 0 < by_.length then pick by_ 2 k % 2 else 0]
variable {by_}
theorem pick_bd (h : 0 < by_.length) (hb : ∀ n ∈ by_, 0 ≤ n ∧ n ≤ 255) (c : Int) (k : Nat) : 0 ≤ (3 * (k : Int) + c) % (by_.length : Int) ∧ (3 * (k : Int) + c) % (by_.length : Int) < (by_.length : Int) ∧ 0 ≤ pick by_ c k ∧ pick by_ c k ≤ 255 := by
 have h0 := Int.emod_nonneg (3 * (k : Int) + c) (show (by_.length : Int) ≠ 0 by omega)
 have h1 := Int.emod_lt_of_pos (3 * (k : Int) + c) (show 0 < (by_.length : Int) by omega)
 refine ⟨h0, h1, ?_⟩
 unfold pick
 have e : ((((3 * (k : Int) + c) % (by_.length : Int)).toNat : Nat) : Int) = (3 * (k : Int) + c) % (by_.length : Int) := by omega
 rw [← e]
 exact hb _ (nth_mem (by omega))
theorem emod_bd {x : Int} {k : Nat} : 0 ≤ x % ((k : Int) + 1) ∧ x % ((k : Int) + 1) ≤ (k : Int) := by
 have h0 := Int.emod_nonneg x (show (k : Int) + 1 ≠ 0 by omega)
 have h1 := Int.emod_lt_of_pos x (show 0 < (k : Int) + 1 by omega)
 omega
theorem ordB_ok : ∀ k, (ordB by_ k).length = k ∧ ∀ i, i < k → ((i : Nat) : Int) ∈ ordB by_ k
 | 0 => ⟨rfl, fun i hi => absurd hi (Nat.not_lt_zero _)⟩
 | k + 1 => by
  obtain ⟨h1, h2⟩ := ordB_ok k
  refine ⟨?_, fun i hi => ?_⟩
  ·rw [ordB, VF, h1]
   have := emod_bd (x := pick by_ 0 k) (k := k)
   rw [h1]; split <;> omega
  ·rw [ordB, JQ]
   rcases Nat.lt_or_eq_of_le (Nat.le_of_lt_succ hi) with h | rfl
   ·exact .inl (h2 i h)
   ·exact .inr rfl
theorem ordU_ok : ∀ k, (ordU by_ k).length = k ∧ ∀ i, i < k → ((i : Nat) : Int) ∈ ordU by_ k
 | 0 => ⟨rfl, fun i hi => absurd hi (Nat.not_lt_zero _)⟩
 | k + 1 => by
  obtain ⟨h1, h2⟩ := ordU_ok k
  refine ⟨?_, fun i hi => ?_⟩
  ·rw [ordU, VF, h1]
   have := emod_bd (x := pick by_ 1 k) (k := k)
   rw [h1]; split <;> omega
  ·rw [ordU, JQ]
   rcases Nat.lt_or_eq_of_le (Nat.le_of_lt_succ hi) with h | rfl
   ·exact .inl (h2 i h)
   ·exact .inr rfl
theorem ordF_len : ∀ k, (ordF by_ k).length = k
 | 0 => rfl
 | k + 1 => by rw [ordF, List.length_append, ordF_len k]; rfl
theorem JI : ∀ k i, i < k → 0 ≤ nth (ordF by_ k) ((i : Nat) : Int) ∧ nth (ordF by_ k) (i : Int) ≤ 1
 | k + 1, i, h => by
  rw [ordF]
  rcases Nat.lt_or_eq_of_le (Nat.le_of_lt_succ h) with h1 | rfl
  ·rw [xS (by omega) (by rw [ordF_len]; omega)]; exact JI k i h1
  ·rw [q7 (by rw [ordF_len])]; split <;> omega
theorem ordered_ok (n : Nat) : Ord n (ordB by_ n) (ordU by_ n) (ordF by_ n) :=
 XN (ordB_ok n).1 (ordU_ok n).1 (ordF_len n) (ordB_ok n).2 (ordU_ok n).2 (fun i hi => JI n i hi)
theorem ordB_t {k : Nat} {a : Int} (h : 0 < by_.length) (ha : a = pick by_ 0 k % ((k : Int) + 1)) : ins (ordB by_ k) a (k : Int) = ordB by_ (k + 1) := by rw [ordB, if_pos h, ha]
theorem ordB_f {k : Nat} (h : ¬ 0 < by_.length) : ins (ordB by_ k) (k : Int) (k : Int) = ordB by_ (k + 1) := by rw [ordB, if_neg h]
theorem ordU_t {k : Nat} {a : Int} (h : 0 < by_.length) (ha : a = pick by_ 1 k % ((k : Int) + 1)) : ins (ordU by_ k) a (k : Int) = ordU by_ (k + 1) := by rw [ordU, if_pos h, ha]
theorem ordU_f {k : Nat} (h : ¬ 0 < by_.length) : ins (ordU by_ k) (k : Int) (k : Int) = ordU by_ (k + 1) := by rw [ordU, if_neg h]
theorem ordF_t {k : Nat} {a : Int} (h : 0 < by_.length) (ha : a = pick by_ 2 k % 2) : ordF by_ k ++ [a] = ordF by_ (k + 1) := by rw [ordF, if_pos h, ha]
theorem ordF_f {k : Nat} (h : ¬ 0 < by_.length) : ordF by_ k ++ [0] = ordF by_ (k + 1) := by rw [ordF, if_neg h]
end
end Go.Fip.S
namespace Go.Fip
open Go.Proofs Go.RowKit
theorem WA {r : Option Nat} {P : Program} {N : Nat} {S : World → Prop} {X : List Nat} {ops : Array Oper} {f0 : Nat} {l0 : Array Bool} {ds : List Deferred} {env0 : Env} {w0 : World} {Q : Post} {Z : Type} (E : Z → Env) (R : Z → World → Prop) (fuel : Nat) (listed : Array Bool) (hM : ∀ s w, R s w → AnyEY r P N S X ops fuel listed ds (E s) w Q)
  (h : (∀ s env w, Sub (E s) env → R s w → AnyEY r P N S X ops fuel listed ds env w Q) → AnyEY r P N S X ops f0 l0 ds env0 w0 Q) : AnyEY r P N S X ops f0 l0 ds env0 w0 Q :=
 h (fun s env w hs hr a ha => hM s w hr a (ha.sub hs))
theorem c33 {v : Value} {l : List Int} {a x : Int} {w : World} (h0 : Rd encI 1 v l w) (hn : l.length ≤ 100000) (ha : 0 ≤ a ∧ a ≤ (l.length : Int))  :
  Fn Tryz.prog 33 [v, (.int .i64 a), (.int .i64 x)].toArray w (fun u w => Own 3 1 encI u (S.ins l a x) w) := by
 refine fz Tryz.func33 Z kz Z Z (fun hH => ?_)
 have htl : (l.take a.toNat).length = a.toNat := by rw [List.length_take]; omega
 have hdl : (l.drop a.toNat).length = l.length - a.toNat := List.length_drop
 refine zr (oA hH Z (zt (seq (zY (fun w' => True) T.mixed (fun w1 hr2 => ?_)))))
 have hH3 := hH.redrawn hr2
 refine zK [1, 2, 3, 5, 8, 9, 10] kz trivial _ _ _ kz (qM Z Z Z (qM Z Z Z (zJ Z Z (qT T.yS Z Z (h0.now hH3 (n := 0) Z).is om) (qM Z Z Z (qM Z Z Z (qM Z Z Z (zJ Z Z (x6 T.yS Z Z (h0.now hH3 (n := 0) Z).is om) (zQ (xH [0, 6] kz Z (⟨⟨_, Z, ?_⟩, ⟨_, Z, ?_⟩, trivial⟩))))))))))
 ·refine z2 T.zA ([] : List Int) Z (fun w => by kernel_rfl) hH3 (fun u4 lo6 hi7 w5 hH8 => (zC (⟨trivial, (xH [4, 6] kz Z (⟨⟨_, Z, ?_⟩, ⟨_, Z, ?_⟩, trivial⟩))⟩)))
  ·refine yB (n := 0) T.zA Z Z Z hH8 Z (Rd.upto (h0.now hH8 (n := 1) Z) (hi := a.toNat) om) om2 (fun u9 lo11 hi12 w10 hH13 => (zC (⟨trivial, (z1 6 kz Z (z2 T.zA [x] Z (fun w => by kernel_rfl) hH13 (fun u14 lo16 hi17 w15 hH18 => (zC (⟨trivial, (z1 7 kz Z (yB (n := 1) T.zA Z Z Z hH18 Z (Heap.yI T.zA hH18 (n := 0) Z) om2 (fun u19 lo21 hi22 w20 hH23 => (zC (⟨trivial, (z1 11 kz Z (yB (n := 1) T.zA Z Z Z hH23 Z (Rd.from (h0.now hH23 (n := 2) Z) (lo := a.toNat) om) om2 (fun u24 lo26 hi27 w25 hH28 => (zC (⟨trivial, (zK [12] kz trivial _ _ _ kz (zJ Z Z (yK Z) (zQ (zX kz ?_))))⟩)))))⟩)))))⟩)))))⟩)))
   refine zN (ret (fin ((hH28.sub (sC sR)).front (n := 1) Z) (fun w' hf => (yN Z (rt Z))) (fun w' hf => ?_)))
   exact (by have h := Heap.own hf (n := 0) rfl; rw [List.nil_append] at h; exact h)
  refine z2 T.zA [x] Z (fun w => by kernel_rfl) hH8 (fun u30 lo32 hi33 w31 hH34 => (zC (⟨trivial, (z1 4 kz Z (yB (n := 1) T.zA Z Z Z hH34 Z (Rd.upto (h0.now hH34 (n := 2) Z) (hi := a.toNat) om) om2 (fun u35 lo37 hi38 w36 hH39 => (zC (⟨trivial, (z1 7 kz Z (yB (n := 1) T.zA Z Z Z hH39 Z (Heap.yI T.zA hH39 (n := 0) Z) om2 (fun u40 lo42 hi43 w41 hH44 => (zC (⟨trivial, (z1 11 kz Z (yB (n := 1) T.zA Z Z Z hH44 Z (Rd.from (h0.now hH44 (n := 2) Z) (lo := a.toNat) om) om2 (fun u45 lo47 hi48 w46 hH49 => (zC (⟨trivial, (zK [12] kz trivial _ _ _ kz (zJ Z Z (yK Z) (zQ (zX kz ?_))))⟩)))))⟩)))))⟩)))))⟩)))
  refine zN (ret (fin ((hH49.sub (sC sR)).front (n := 1) Z) (fun w' hf => (yN Z (rt Z))) (fun w' hf => ?_)))
  exact (by have h := Heap.own hf (n := 0) rfl; rw [List.nil_append] at h; exact h)
 refine z2 T.zA [x] Z (fun w => by kernel_rfl) hH3 (fun u51 lo53 hi54 w52 hH55 => (zC (⟨trivial, (z1 0 kz Z (z2 T.zA ([] : List Int) Z (fun w => by kernel_rfl) hH55 (fun u56 lo58 hi59 w57 hH60 => (zC (⟨trivial, (z1 4 kz Z (yB (n := 0) T.zA Z Z Z hH60 Z (Rd.upto (h0.now hH60 (n := 2) Z) (hi := a.toNat) om) om2 (fun u61 lo63 hi64 w62 hH65 => (zC (⟨trivial, (z1 7 kz Z (yB (n := 0) T.zA Z Z Z hH65 Z (Heap.yI T.zA hH65 (n := 1) Z) om2 (fun u66 lo68 hi69 w67 hH70 => (zC (⟨trivial, (z1 11 kz Z (yB (n := 0) T.zA Z Z Z hH70 Z (Rd.from (h0.now hH70 (n := 2) Z) (lo := a.toNat) om) om2 (fun u71 lo73 hi74 w72 hH75 => (zC ?_))))⟩)))))⟩)))))⟩)))))⟩)))
 refine ⟨trivial, (zK [12] kz trivial _ _ _ kz (zJ Z Z (yK Z) (zQ (zX kz (zN (ret (fin ((hH75.sub (sK (sC sR))).front (n := 1) Z) (fun w' hf => (yN Z (rt Z))) (fun w' hf => ?_))))))))⟩
 exact (by have h := Heap.own hf (n := 0) rfl; rw [List.nil_append] at h; exact h)
theorem c13 {vby : Value} {bs : List Int} {n : Nat} {w : World} (hby : Rd encB 1 vby bs w) (hbl : bs.length ≤ 60) (hbb : ∀ n ∈ bs, 0 ≤ n ∧ n ≤ 255) (hn : n ≤ 8)  :
  Fn Tryz.prog 13 [(.int .i64 (n : Int)), vby].toArray w (fun u w => ∃ b t f, u = .agg #[b, t, f] ∧ Rd3 b t f (S.ordB bs n) (S.ordU bs n) (S.ordF bs n) w) := by
 refine fz Tryz.func13 Z kz Z Z (fun hH => (zr (yD (z := (.agg #[(.slice none 0 0), (.slice none 0 0), (.slice none 0 0)])) (fun _ => by kernel_rfl) Z Z hH (fun b1 w2 hH3 => (zs (yD (z := (.agg #[(.slice none 0 0), (.slice none 0 0), (.slice none 0 0)])) (fun _ => by kernel_rfl) Z Z hH3 (fun b4 w5 hH6 => (zt (seq (zr (oA hH6 Z (zt (block ?_)))))))))))))
 have hH9 := v8 (enc := encI) 3 1 (v8 (enc := encI) 3 1 (v8 (enc := encI) 3 1 hH6))
 refine loop (S := Nat × Value × Nat × Nat × Value × Nat × Nat × Value × Nat × Nat) (fun (k, v_b5_0, lo_b5_0, hi_b5_0, v_b5_1, lo_b5_1, hi_b5_1, v_b5_2, lo_b5_2, hi_b5_2) => [(6, (.int .i64 (k : Int))), (0, (.int .i64 (n : Int))), (1, vby), (4, (.pointer (some ⟨b1, 0, none⟩))), (5, (.pointer (some ⟨b4, 0, none⟩)))]) (fun (k, v_b5_0, lo_b5_0, hi_b5_0, v_b5_1, lo_b5_1, hi_b5_1, v_b5_2, lo_b5_2, hi_b5_2) w1 => Heap [ow lo_b5_2 hi_b5_2 3 1 encI v_b5_2 (S.ordF bs k), ow lo_b5_1 hi_b5_1 3 1 encI v_b5_1 (S.ordU bs k), ow lo_b5_0 hi_b5_0 3 1 encI v_b5_0 (S.ordB bs k), bx b4 48 [v_b5_0, v_b5_1, v_b5_2], bx b1 48 [(.slice none 0 0), (.slice none 0 0), (.slice none 0 0)], base w] w1 ∧ k ≤ n) (fun (k, v_b5_0, lo_b5_0, hi_b5_0, v_b5_1, lo_b5_1, hi_b5_1, v_b5_2, lo_b5_2, hi_b5_2) => n - k) (0, (.slice none 0 0), w5.heap.size, w5.heap.size, (.slice none 0 0), w5.heap.size, w5.heap.size, (.slice none 0 0), w5.heap.size, w5.heap.size) (uC Z (uC Z (uC Z (uC Z (uC Z (Sub.nil _)))))) ?_ ?_
 ·exact ⟨hH9, om⟩
 rintro ⟨k, v_b5_0, lo_b5_0, hi_b5_0, v_b5_1, lo_b5_1, hi_b5_1, v_b5_2, lo_b5_2, hi_b5_2⟩ w10 ⟨hH11, hk⟩
 have hB := (S.ordB_ok (by_ := bs) k).1
 have hU := (S.ordU_ok (by_ := bs) k).1
 have hF := S.ordF_len (by_ := bs) k
 refine seq (zr (oM hH11 Z (oM hH11 Z (oY hH11 (yL Z Z) (zt ?_)))))
 by_cases hc12 : (k : Int) < (n : Int)
 ·refine zO Z (dT hc12) (skip (zN (seq (block (zr (oM hH11 Z (oM hH11 Z (oA hH11 Z (oA hH11 Z (oA hH11 Z (zt (seq (zr (oM hH11 Z (oY hH11 (z8 T.Z4 Z (hby.now hH11 (n := 5) Z).is) (oY hH11 (xJ Z Z) (zt ?_)))))))))))))))))
  by_cases hc13 : 0 < (bs.length : Int)
  ·have hpos : 0 < bs.length := by omega
   obtain ⟨q0, q1, q2, q3⟩ := S.pick_bd hpos hbb 0 k
   obtain ⟨r0, r1, r2, r3⟩ := S.pick_bd hpos hbb 1 k
   obtain ⟨s0, s1, s2, s3⟩ := S.pick_bd hpos hbb 2 k
   unfold S.pick at q2 q3 r2 r3 s2 s3
   rw [Int.add_zero] at q0 q1 q2 q3
   have t0 := S.emod_bd (x := nth bs (3 * (k : Int) % (bs.length : Int))) (k := k)
   have t1 := S.emod_bd (x := nth bs ((3 * (k : Int) + 1) % (bs.length : Int))) (k := k)
   refine zO Z (dT hc13) (zY (fun w' => Heap [ow lo_b5_2 hi_b5_2 3 1 encI v_b5_2 (S.ordF bs k), ow lo_b5_1 hi_b5_1 3 1 encI v_b5_1 (S.ordU bs k), ow lo_b5_0 hi_b5_0 3 1 encI v_b5_0 (S.ordB bs k), bx b4 48 [v_b5_0, v_b5_1, v_b5_2], bx b1 48 [(.slice none 0 0), (.slice none 0 0), (.slice none 0 0)], base w] w') T.mixed (fun w14 hr15 => ?_))
   have hH16 := hH11.redrawn hr15
   refine zK [0, 1, 2, 3, 4, 5, 6, 7, 8, 9, 10, 11, 12, 13, 14, 15, 16, 17, 18, 19, 20, 21, 22, 23, 24, 25, 26, 27, 28, 29, 30, 31, 32, 33, 34, 35, 36, 37, 38] kz hH16 _ _ _ kz (qM Z Z Z (qM Z Z Z (zJ Z Z (xA Z Z om) (qM Z Z Z (zJ Z Z (z8 T.Z4 Z (hby.now hH16 (n := 5) Z).is) (zJ Z Z (xO Z Z om om) (zJ Z Z (zP T.Z4 Z Z (hby.now hH16 (n := 5) Z).is om) (zJ Z Z (zE T.zBr Z (fun _ hw => Rd.at (hby.now hw (n := 5) Z) (i := (3 * (k : Int)) % (bs.length : Int)) om (j := 0) Z)) (zJ Z Z (jP Tryz.underlying5 Tryz.underlying3 Z (jI om)) (qM Z Z Z (zJ Z Z (zV Z Z om) (zJ Z Z (xO Z Z om om) (qM Z Z Z (qM Z Z Z (zJ Z Z (xA Z Z om) (zJ Z Z (zV Z Z om) (qM Z Z Z (zJ Z Z (z8 T.Z4 Z (hby.now hH16 (n := 5) Z).is) (zJ Z Z (xO Z Z om om) (zJ Z Z (zP T.Z4 Z Z (hby.now hH16 (n := 5) Z).is om) (zJ Z Z (zE T.zBr Z (fun _ hw => Rd.at (hby.now hw (n := 5) Z) (i := ((3 * (k : Int)) + 1) % (bs.length : Int)) om (j := 0) Z)) ?_)))))))))))))))))))))
   refine zJ Z Z (jP Tryz.underlying5 Tryz.underlying3 Z (jI om)) (qM Z Z Z (zJ Z Z (zV Z Z om) (zJ Z Z (xO Z Z om om) (qM Z Z Z (qM Z Z Z (zJ Z Z (xA Z Z om) (zJ Z Z (zV Z Z om) (qM Z Z Z (zJ Z Z (z8 T.Z4 Z (hby.now hH16 (n := 5) Z).is) (zJ Z Z (xO Z Z om om) (zJ Z Z (zP T.Z4 Z Z (hby.now hH16 (n := 5) Z).is om) (zJ Z Z (zE T.zBr Z (fun _ hw => Rd.at (hby.now hw (n := 5) Z) (i := ((3 * (k : Int)) + 2) % (bs.length : Int)) om (j := 0) Z)) (zJ Z Z (jP Tryz.underlying5 Tryz.underlying3 Z (jI om)) (zJ Z Z (xO Z Z om om) (zJ Z Z (yK Z) (zJ Z Z (yK Z) (zJ Z Z (yK Z) (zQ (zX kz (zN (vD (fun w' => Heap [bx b4 48 [v_b5_0, v_b5_1, v_b5_2], bx b1 48 [(.slice none 0 0), (.slice none 0 0), (.slice none 0 0)], base w] w') [16, 18, 20] T.mixed (fun w17 hr18 => ?_))))))))))))))))))))))
   have hH19 := hH16.redrawn hr18
   refine y2 [0, 2, 3, 5, 7, 8, 10, 12] kz  _ _ _ kz (zJ Z Z (zI T.q9 Z) (qM Z Z Z (qM Z Z Z (zJ Z Z (zI T.kX Z) (qM Z Z Z (qM Z Z Z (zJ Z Z (zI T.qI Z) (qM Z Z Z (zQ (xQ [1, 6, 11] kz (hH19.sub (sC (sC (sC sR)))) _ _ _ kz (zJ Z Z (zE T.xB Z (cw (n := 0) Z Z)) (zJ Z Z (zE T.xB Z (cw (n := 0) Z Z)) (zJ Z Z (zE T.xB Z (cw (n := 0) Z Z)) (zQ (WA (Z := Value × Nat × Nat × Value × Nat × Nat × Value × Nat × Nat) (fun (v_c60, lo_c60, hi_c60, v_c65, lo_c65, hi_c65, v_c70, lo_c70, hi_c70) => [(71, (.pointer (some ⟨b4, 0 + 0, none⟩))), (60, v_c60), (65, v_c65), (70, v_c70), (0, (.int .i64 (n : Int))), (1, vby), (4, (.pointer (some ⟨b1, 0, none⟩))), (5, (.pointer (some ⟨b4, 0, none⟩))), (6, (.int .i64 (k : Int)))]) (fun (v_c60, lo_c60, hi_c60, v_c65, lo_c65, hi_c65, v_c70, lo_c70, hi_c70) w1 => Heap [ow lo_c60 hi_c60 3 1 encI v_c60 (S.ins (S.ordB bs k) ((nth bs ((3 * (k : Int)) % (bs.length : Int))) % ((k : Int) + 1)) (k : Int)), ow lo_c65 hi_c65 3 1 encI v_c65 (S.ins (S.ordU bs k) ((nth bs (((3 * (k : Int)) + 1) % (bs.length : Int))) % ((k : Int) + 1)) (k : Int)), ow lo_c70 hi_c70 3 1 encI v_c70 ((S.ordF bs k) ++ [(nth bs (((3 * (k : Int)) + 2) % (bs.length : Int))) % 2]), ow lo_b5_1 hi_b5_1 3 1 encI v_b5_1 (S.ordU bs k), ow lo_b5_0 hi_b5_0 3 1 encI v_b5_0 (S.ordB bs k), bx b4 48 [v_b5_0, v_b5_1, v_b5_2], bx b1 48 [(.slice none 0 0), (.slice none 0 0), (.slice none 0 0)], base w] w1) 5 #[true, true, true, true, true, true, true, true, true, true, true, true, true, true, true, true, false, false, false, false, false] ?_ (fun hM => ?_))))))))))))))))
   ·rintro ⟨v_c60, lo_c60, hi_c60, v_c65, lo_c65, hi_c65, v_c70, lo_c70, hi_c70⟩ w20 hH21
    refine xE [16] kz Z (⟨⟨_, Z, (zS (n := 5) (j := 0) Z Z hH21 Z T.ZK (SliceIs.cells (Heap.yI T.zA hH21 (n := 0) Z).is) Z Z (SliceIs.one (Heap.yI T.zA hH21 (n := 0) Z).is) (fun w22 hH23 => (zC (⟨(fun h => by cases h), (y2 [17] kz  _ _ _ kz (zJ Z Z (zI T.kX Z) (zQ (xE [18] kz Z (⟨⟨_, Z, (zS (n := 5) (j := 1) Z Z hH23 Z T.ZK (SliceIs.cells (Heap.yI T.zA hH23 (n := 1) Z).is) Z Z (SliceIs.one (Heap.yI T.zA hH23 (n := 1) Z).is) (fun w24 hH25 => (zC (⟨(fun h => by cases h), (y2 [19] kz  _ _ _ kz (zJ Z Z (zI T.qI Z) (zQ (xE [20] kz Z (⟨⟨_, Z, (zS (n := 5) (j := 2) Z Z hH25 Z T.ZK (SliceIs.cells (Heap.yI T.zA hH25 (n := 2) Z).is) Z Z (SliceIs.one (Heap.yI T.zA hH25 (n := 2) Z).is) (fun w26 hH27 => (zC (⟨(fun h => by cases h), (vY kz ?_)⟩))))⟩, trivial⟩)))))⟩))))⟩, trivial⟩)))))⟩))))⟩, trivial⟩)
    refine yC (zN (region (oM hH27 Z (oY hH27 (zV Z Z om) (oA hH27 Z (zC (y0 (k + 1, v_c60, lo_c60, hi_c60, v_c65, lo_c65, hi_c65, v_c70, lo_c70, hi_c70) (uC Z (uC Z (uC Z (uC Z (uC Z (Sub.nil _)))))) (⟨(Heap.y1 (n := 0) (Heap.y1 (n := 1) (Heap.y1 (n := 2) (((hH27.front (n := 1) Z).front (n := 2) Z).sub (sK (sK (sK (sC (sC sR)))))) Z (by first | exact S.ordB_t hpos (by first | rfl | (unfold S.pick; rw [Int.add_zero])) | exact S.ordB_f om)) Z (by first | exact S.ordU_t hpos (by first | rfl | (unfold S.pick; rw [Int.add_zero])) | exact S.ordU_f om)) Z (by first | exact S.ordF_t hpos (by first | rfl | (unfold S.pick; rw [Int.add_zero])) | exact S.ordF_f om)), om⟩) om3)))))))
   refine xE [4, 13] kz Z (⟨⟨_, Z, ?_⟩, ⟨_, Z, ?_⟩, trivial⟩)
   ·refine yV Z Z Z hH19 (c33 (Heap.yI T.zA hH19 (n := 2) Z) om om) (fun u33 w31 lo34 hi35 hH32 hv36 => ?_)
    have hH37 := Heap.xZ hH32 (n := 0) Z
    refine zC (⟨fun _ _ => (hH37.sub (sC (sC (sC (sC sR))))), (y2 [15] kz  _ _ _ kz (zJ Z Z (zI T.q9 Z) (zQ (xE [9, 13] kz Z (⟨⟨_, Z, ?_⟩, ⟨_, Z, ?_⟩, trivial⟩)))))⟩)
    ·refine yV Z Z Z hH37 (c33 (Heap.yI T.zA hH37 (n := 2) Z) om om) (fun u40 w38 lo41 hi42 hH39 hv43 => ?_)
     have hH44 := Heap.xZ hH39 (n := 0) Z
     refine zC (⟨fun _ _ => (hH44.sub (sC (sC (sC (sC (sC sR)))))), (xE [13] kz Z (⟨⟨_, Z, (z2 T.zA [(nth bs (((3 * (k : Int)) + 2) % (bs.length : Int))) % 2] Z (fun w => by kernel_rfl) hH44 (fun u45 lo47 hi48 w46 hH49 => (zC (⟨fun _ _ => (hH49.sub (sC (sC (sC (sC (sC (sC sR))))))), (xE [14] kz Z (⟨⟨_, Z, (yB (n := 3) T.zA Z Z Z hH49 Z (Heap.yI T.zA hH49 (n := 0) Z) om2 (fun u50 lo52 hi53 w51 hH54 => (zC (⟨fun _ _ => (hH54.sub (sC (sC (sC (sC (sC (sC sR))))))), ?_⟩))))⟩, trivial⟩))⟩))))⟩, trivial⟩))⟩)
     exact hM (u33, lo34, hi35, u40, lo41, hi42, u50, lo52, hi53) _ _ (uC Z (uC Z (uC Z (uC Z (uC Z (uC Z (uC Z (uC Z (uC Z (Sub.nil _)))))))))) ((hH54.front (n := 2) Z).sub (sK (sC sR)))
    refine z2 T.zA [(nth bs (((3 * (k : Int)) + 2) % (bs.length : Int))) % 2] Z (fun w => by kernel_rfl) hH37 (fun u57 lo59 hi60 w58 hH61 => (zC (⟨fun _ _ => (hH61.sub (sC (sC (sC (sC (sC sR)))))), (xE [9] kz Z (⟨⟨_, Z, (yV Z Z Z hH61 (c33 (Heap.yI T.zA hH61 (n := 3) Z) om om) (fun u64 w62 lo65 hi66 hH63 hv67 => ?_))⟩, trivial⟩))⟩)))
    have hH68 := Heap.xZ hH63 (n := 0) Z
    refine zC (⟨fun _ _ => (hH68.sub (sC (sC (sC (sC (sC (sC sR))))))), (xE [14] kz Z (⟨⟨_, Z, (yB (n := 3) T.zA Z Z Z hH68 Z (Heap.yI T.zA hH68 (n := 1) Z) om2 (fun u69 lo71 hi72 w70 hH73 => (zC (⟨fun _ _ => (hH73.sub (sC (sC (sC (sC (sC (sC sR))))))), ?_⟩))))⟩, trivial⟩))⟩)
    exact hM (u33, lo34, hi35, u64, lo65, hi66, u69, lo71, hi72) _ _ (uC Z (uC Z (uC Z (uC Z (uC Z (uC Z (uC Z (uC Z (uC Z (Sub.nil _)))))))))) ((hH73.front (n := 2) Z).sub (sK (sK (sC sR))))
   refine z2 T.zA [(nth bs (((3 * (k : Int)) + 2) % (bs.length : Int))) % 2] Z (fun w => by kernel_rfl) hH19 (fun u76 lo78 hi79 w77 hH80 => (zC (⟨fun _ _ => (hH80.sub (sC (sC (sC (sC sR))))), (xE [4] kz Z (⟨⟨_, Z, (yV Z Z Z hH80 (c33 (Heap.yI T.zA hH80 (n := 3) Z) om om) (fun u83 w81 lo84 hi85 hH82 hv86 => ?_))⟩, trivial⟩))⟩)))
   have hH87 := Heap.xZ hH82 (n := 0) Z
   refine zC (⟨fun _ _ => (hH87.sub (sC (sC (sC (sC (sC sR)))))), (y2 [15] kz  _ _ _ kz (zJ Z Z (zI T.q9 Z) (zQ (xE [9] kz Z (⟨⟨_, Z, (yV Z Z Z hH87 (c33 (Heap.yI T.zA hH87 (n := 3) Z) om om) (fun u90 w88 lo91 hi92 hH89 hv93 => ?_))⟩, trivial⟩)))))⟩)
   have hH94 := Heap.xZ hH89 (n := 0) Z
   refine zC (⟨fun _ _ => (hH94.sub (sC (sC (sC (sC (sC (sC sR))))))), (xE [14] kz Z (⟨⟨_, Z, (yB (n := 3) T.zA Z Z Z hH94 Z (Heap.yI T.zA hH94 (n := 2) Z) om2 (fun u95 lo97 hi98 w96 hH99 => (zC (⟨fun _ _ => (hH99.sub (sC (sC (sC (sC (sC (sC sR))))))), ?_⟩))))⟩, trivial⟩))⟩)
   exact hM (u83, lo84, hi85, u90, lo91, hi92, u95, lo97, hi98) _ _ (uC Z (uC Z (uC Z (uC Z (uC Z (uC Z (uC Z (uC Z (uC Z (Sub.nil _)))))))))) ((hH99.front (n := 1) Z).sub (sK (sK (sC sR))))
  refine zL Z (dF hc13) (skip (zN (vD (fun w' => Heap [bx b4 48 [v_b5_0, v_b5_1, v_b5_2], bx b1 48 [(.slice none 0 0), (.slice none 0 0), (.slice none 0 0)], base w] w') [16, 18, 20] T.mixed (fun w102 hr103 => ?_))))
  have hH104 := hH11.redrawn hr103
  refine y2 [0, 2, 3, 5, 7, 8, 10, 12] kz  _ _ _ kz (zJ Z Z (zI T.q9 Z) (qM Z Z Z (qM Z Z Z (zJ Z Z (zI T.kX Z) (qM Z Z Z (qM Z Z Z (zJ Z Z (zI T.qI Z) (qM Z Z Z (zQ (xQ [1, 6, 11] kz (hH104.sub (sC (sC (sC sR)))) _ _ _ kz (zJ Z Z (zE T.xB Z (cw (n := 0) Z Z)) (zJ Z Z (zE T.xB Z (cw (n := 0) Z Z)) (zJ Z Z (zE T.xB Z (cw (n := 0) Z Z)) (zQ (WA (Z := Value × Nat × Nat × Value × Nat × Nat × Value × Nat × Nat) (fun (v_c60, lo_c60, hi_c60, v_c65, lo_c65, hi_c65, v_c70, lo_c70, hi_c70) => [(71, (.pointer (some ⟨b4, 0 + 0, none⟩))), (60, v_c60), (65, v_c65), (70, v_c70), (0, (.int .i64 (n : Int))), (1, vby), (4, (.pointer (some ⟨b1, 0, none⟩))), (5, (.pointer (some ⟨b4, 0, none⟩))), (6, (.int .i64 (k : Int)))]) (fun (v_c60, lo_c60, hi_c60, v_c65, lo_c65, hi_c65, v_c70, lo_c70, hi_c70) w1 => Heap [ow lo_c60 hi_c60 3 1 encI v_c60 (S.ins (S.ordB bs k) (k : Int) (k : Int)), ow lo_c65 hi_c65 3 1 encI v_c65 (S.ins (S.ordU bs k) (k : Int) (k : Int)), ow lo_c70 hi_c70 3 1 encI v_c70 ((S.ordF bs k) ++ [0]), ow lo_b5_1 hi_b5_1 3 1 encI v_b5_1 (S.ordU bs k), ow lo_b5_0 hi_b5_0 3 1 encI v_b5_0 (S.ordB bs k), bx b4 48 [v_b5_0, v_b5_1, v_b5_2], bx b1 48 [(.slice none 0 0), (.slice none 0 0), (.slice none 0 0)], base w] w1) 5 #[true, true, true, true, true, true, true, true, true, true, true, true, true, true, true, true, false, false, false, false, false] ?_ (fun hM => ?_))))))))))))))))
  ·rintro ⟨v_c60, lo_c60, hi_c60, v_c65, lo_c65, hi_c65, v_c70, lo_c70, hi_c70⟩ w105 hH106
   refine xE [16] kz Z (⟨⟨_, Z, (zS (n := 5) (j := 0) Z Z hH106 Z T.ZK (SliceIs.cells (Heap.yI T.zA hH106 (n := 0) Z).is) Z Z (SliceIs.one (Heap.yI T.zA hH106 (n := 0) Z).is) (fun w107 hH108 => (zC (⟨(fun h => by cases h), (y2 [17] kz  _ _ _ kz (zJ Z Z (zI T.kX Z) (zQ (xE [18] kz Z (⟨⟨_, Z, (zS (n := 5) (j := 1) Z Z hH108 Z T.ZK (SliceIs.cells (Heap.yI T.zA hH108 (n := 1) Z).is) Z Z (SliceIs.one (Heap.yI T.zA hH108 (n := 1) Z).is) (fun w109 hH110 => (zC (⟨(fun h => by cases h), (y2 [19] kz  _ _ _ kz (zJ Z Z (zI T.qI Z) (zQ (xE [20] kz Z (⟨⟨_, Z, (zS (n := 5) (j := 2) Z Z hH110 Z T.ZK (SliceIs.cells (Heap.yI T.zA hH110 (n := 2) Z).is) Z Z (SliceIs.one (Heap.yI T.zA hH110 (n := 2) Z).is) (fun w111 hH112 => (zC (⟨(fun h => by cases h), (vY kz ?_)⟩))))⟩, trivial⟩)))))⟩))))⟩, trivial⟩)))))⟩))))⟩, trivial⟩)
   refine yC (zN (region (oM hH112 Z (oY hH112 (zV Z Z om) (oA hH112 Z (zC (y0 (k + 1, v_c60, lo_c60, hi_c60, v_c65, lo_c65, hi_c65, v_c70, lo_c70, hi_c70) (uC Z (uC Z (uC Z (uC Z (uC Z (Sub.nil _)))))) (⟨(Heap.y1 (n := 0) (Heap.y1 (n := 1) (Heap.y1 (n := 2) (((hH112.front (n := 1) Z).front (n := 2) Z).sub (sK (sK (sK (sC (sC sR)))))) Z (by first | exact S.ordB_t hpos (by first | rfl | (unfold S.pick; rw [Int.add_zero])) | exact S.ordB_f om)) Z (by first | exact S.ordU_t hpos (by first | rfl | (unfold S.pick; rw [Int.add_zero])) | exact S.ordU_f om)) Z (by first | exact S.ordF_t hpos (by first | rfl | (unfold S.pick; rw [Int.add_zero])) | exact S.ordF_f om)), om⟩) om3)))))))
  refine xE [4, 13] kz Z (⟨⟨_, Z, ?_⟩, ⟨_, Z, ?_⟩, trivial⟩)
  ·refine yV Z Z Z hH104 (c33 (Heap.yI T.zA hH104 (n := 2) Z) om om) (fun u118 w116 lo119 hi120 hH117 hv121 => ?_)
   have hH122 := Heap.xZ hH117 (n := 0) Z
   refine zC (⟨fun _ _ => (hH122.sub (sC (sC (sC (sC sR))))), (y2 [15] kz  _ _ _ kz (zJ Z Z (zI T.q9 Z) (zQ (xE [9, 13] kz Z (⟨⟨_, Z, ?_⟩, ⟨_, Z, ?_⟩, trivial⟩)))))⟩)
   ·refine yV Z Z Z hH122 (c33 (Heap.yI T.zA hH122 (n := 2) Z) om om) (fun u125 w123 lo126 hi127 hH124 hv128 => ?_)
    have hH129 := Heap.xZ hH124 (n := 0) Z
    refine zC (⟨fun _ _ => (hH129.sub (sC (sC (sC (sC (sC sR)))))), (xE [13] kz Z (⟨⟨_, Z, (z2 T.zA [0] Z (fun w => by kernel_rfl) hH129 (fun u130 lo132 hi133 w131 hH134 => (zC (⟨fun _ _ => (hH134.sub (sC (sC (sC (sC (sC (sC sR))))))), (xE [14] kz Z (⟨⟨_, Z, (yB (n := 3) T.zA Z Z Z hH134 Z (Heap.yI T.zA hH134 (n := 0) Z) om2 (fun u135 lo137 hi138 w136 hH139 => (zC (⟨fun _ _ => (hH139.sub (sC (sC (sC (sC (sC (sC sR))))))), ?_⟩))))⟩, trivial⟩))⟩))))⟩, trivial⟩))⟩)
    exact hM (u118, lo119, hi120, u125, lo126, hi127, u135, lo137, hi138) _ _ (uC Z (uC Z (uC Z (uC Z (uC Z (uC Z (uC Z (uC Z (uC Z (Sub.nil _)))))))))) ((hH139.front (n := 2) Z).sub (sK (sC sR)))
   refine z2 T.zA [0] Z (fun w => by kernel_rfl) hH122 (fun u142 lo144 hi145 w143 hH146 => (zC (⟨fun _ _ => (hH146.sub (sC (sC (sC (sC (sC sR)))))), (xE [9] kz Z (⟨⟨_, Z, (yV Z Z Z hH146 (c33 (Heap.yI T.zA hH146 (n := 3) Z) om om) (fun u149 w147 lo150 hi151 hH148 hv152 => ?_))⟩, trivial⟩))⟩)))
   have hH153 := Heap.xZ hH148 (n := 0) Z
   refine zC (⟨fun _ _ => (hH153.sub (sC (sC (sC (sC (sC (sC sR))))))), (xE [14] kz Z (⟨⟨_, Z, (yB (n := 3) T.zA Z Z Z hH153 Z (Heap.yI T.zA hH153 (n := 1) Z) om2 (fun u154 lo156 hi157 w155 hH158 => (zC (⟨fun _ _ => (hH158.sub (sC (sC (sC (sC (sC (sC sR))))))), ?_⟩))))⟩, trivial⟩))⟩)
   exact hM (u118, lo119, hi120, u149, lo150, hi151, u154, lo156, hi157) _ _ (uC Z (uC Z (uC Z (uC Z (uC Z (uC Z (uC Z (uC Z (uC Z (Sub.nil _)))))))))) ((hH158.front (n := 2) Z).sub (sK (sK (sC sR))))
  refine z2 T.zA [0] Z (fun w => by kernel_rfl) hH104 (fun u161 lo163 hi164 w162 hH165 => (zC (⟨fun _ _ => (hH165.sub (sC (sC (sC (sC sR))))), (xE [4] kz Z (⟨⟨_, Z, (yV Z Z Z hH165 (c33 (Heap.yI T.zA hH165 (n := 3) Z) om om) (fun u168 w166 lo169 hi170 hH167 hv171 => ?_))⟩, trivial⟩))⟩)))
  have hH172 := Heap.xZ hH167 (n := 0) Z
  refine zC (⟨fun _ _ => (hH172.sub (sC (sC (sC (sC (sC sR)))))), (y2 [15] kz  _ _ _ kz (zJ Z Z (zI T.q9 Z) (zQ (xE [9] kz Z (⟨⟨_, Z, (yV Z Z Z hH172 (c33 (Heap.yI T.zA hH172 (n := 3) Z) om om) (fun u175 w173 lo176 hi177 hH174 hv178 => ?_))⟩, trivial⟩)))))⟩)
  have hH179 := Heap.xZ hH174 (n := 0) Z
  refine zC (⟨fun _ _ => (hH179.sub (sC (sC (sC (sC (sC (sC sR))))))), (xE [14] kz Z (⟨⟨_, Z, (yB (n := 3) T.zA Z Z Z hH179 Z (Heap.yI T.zA hH179 (n := 2) Z) om2 (fun u180 lo182 hi183 w181 hH184 => (zC (⟨fun _ _ => (hH184.sub (sC (sC (sC (sC (sC (sC sR))))))), ?_⟩))))⟩, trivial⟩))⟩)
  exact hM (u168, lo169, hi170, u175, lo176, hi177, u180, lo182, hi183) _ _ (uC Z (uC Z (uC Z (uC Z (uC Z (uC Z (uC Z (uC Z (uC Z (Sub.nil _)))))))))) ((hH184.front (n := 1) Z).sub (sK (sK (sC sR))))
 refine zL Z (dF hc12) (exit (yZ (xF (z7 (zu (oY hH11 (zW (cs := [v_b5_0, v_b5_1, v_b5_2]) T.uF Z Z (fun _ hw => Heap.yH hw (n := 3) Z (k := 0) Z)) (zS (n := 4) (j := 0) Z Z hH11 Z T.VL Z Z Z (xK (SliceIs.uT (Heap.yI T.zA hH11 (n := 2) Z).is) (xK (SliceIs.uT (Heap.yI T.zA hH11 (n := 1) Z).is) (xK (SliceIs.uT (Heap.yI T.zA hH11 (n := 0) Z).is) Z))) (fun w187 hH188 => (zt (ret (fin ((hH188.sub (sK (sK (sK (sC sR))))).front (n := 4) Z) (fun w' hf => (yN Z (rvA (cs := [v_b5_0, v_b5_1, v_b5_2]) Z T.uF Z (y3 (Heap.xV hf (n := 4) Z) (k := 0) Z)))) (fun w' hf => ?_))))))))))))
 have hk2 : k = n := by omega
 subst hk2
 exact ⟨_, _, _, Z, Heap.yI T.zA hf (n := 2) Z, Heap.yI T.zA hf (n := 1) Z, Heap.yI T.zA hf (n := 0) Z⟩
end Go.Fip
namespace Go.Fip
namespace Sf
open S (place vX)
def Can (room : Nat) : List Int → List Int → Nat → Prop
 | [], _, _ => True
 | w :: ws, S, n => (w ∈ S ∧ Can room ws S n) ∨ (w ∉ S ∧ ∃ m, n = m + 1 ∧ ((S.length < room ∧ Can room ws (w :: S) m) ∨ (S.length = room ∧ ∃ d ∈ S, Can room ws (w :: S.erase d) m)))
theorem Can.perm {room : Nat} : ∀ {ws S S' : List Int} {n : Nat}, S.Perm S' → Can room ws S n → Can room ws S' n
 | [], _, _, _, _, _ => trivial
 | w :: ws, S, S', n, hp, h => by
  rcases h with ⟨h1, h2⟩ | ⟨h1, m, rfl, h2⟩
  ·exact .inl ⟨hp.mem_iff.1 h1, h2.perm hp⟩
  ·refine .inr ⟨fun h => h1 (hp.mem_iff.2 h), m, rfl, ?_⟩
   rcases h2 with ⟨h3, h4⟩ | ⟨h3, d, hd, h4⟩
   ·exact .inl ⟨by rw [← hp.length_eq]; exact h3, h4.perm (hp.cons w)⟩
   ·exact .inr ⟨by rw [← hp.length_eq]; exact h3, d, hp.mem_iff.1 hd, h4.perm ((hp.erase d).cons w)⟩
theorem Can.succ {room : Nat} : ∀ {ws S : List Int} {n : Nat}, Can room ws S n → Can room ws S (n + 1)
 | [], _, _, _ => trivial
 | w :: ws, S, n, h => by
  rcases h with ⟨h1, h2⟩ | ⟨h1, m, rfl, h2⟩
  ·exact .inl ⟨h1, h2.succ⟩
  ·refine .inr ⟨h1, m + 1, rfl, ?_⟩
   rcases h2 with ⟨h3, h4⟩ | ⟨h3, d, hd, h4⟩
   ·exact .inl ⟨h3, h4.succ⟩
   ·exact .inr ⟨h3, d, hd, h4.succ⟩
theorem j4 (a b : Int) (S : List Int) : (a :: b :: S).Perm (b :: a :: S) := List.Perm.swap b a S
theorem qZ {a d : Int} {S : List Int} (h : ¬ a = d) : (a :: S).erase d = a :: S.erase d := by
 rw [List.erase_cons]
 have : (a == d) = false := by simpa using h
 rw [this]; rfl
theorem uE {a : Int} {S : List Int} : (a :: S).erase a = S := by rw [List.erase_cons]; simp
theorem VY {room : Nat} : ∀ (ws : List Int), (∀ (S : List Int) (x : Int) (n : Nat), S.Nodup → x ∉ S → S.length < room → Can room ws S n → Can room ws (x :: S) n) ∧ (∀ (S : List Int) (x : Int) (n : Nat), S.Nodup → x ∉ S → S.length < room → Can room ws (x :: S) n → Can room ws S (n + 1))
  | [] => ⟨fun _ _ _ _ _ _ _ => trivial, fun _ _ _ _ _ _ _ => trivial⟩
  | w :: ws => by
    obtain ⟨M, L⟩ := VY (room := room) ws
    constructor
    · intro S x n hnd hx hl h
      rcases h with ⟨h1, h2⟩ | ⟨h1, m, rfl, h2⟩
      · exact .inl ⟨List.mem_cons_of_mem _ h1, M S x n hnd hx hl h2⟩
      · have h4 : Can room ws (w :: S) m := by
          rcases h2 with ⟨_, h4⟩ | ⟨h3, _⟩
          · exact h4
          · omega
        by_cases e : w = x
        · subst e; exact .inl ⟨List.mem_cons_self .., h4.succ⟩
        · refine .inr ⟨fun hh => (List.mem_cons.1 hh).elim e h1, m, rfl, ?_⟩
          have hwS : (w :: S).Nodup := List.nodup_cons.2 ⟨h1, hnd⟩
          have hxw : x ∉ w :: S := fun hh => (List.mem_cons.1 hh).elim (fun q => e q.symm) hx
          by_cases hf : S.length + 1 < room
          · exact .inl ⟨by simpa using hf, (M (w :: S) x m hwS hxw (by simpa using hf) h4).perm (j4 x w S)⟩
          · refine .inr ⟨by simp only [List.length_cons]; omega, x, List.mem_cons_self .., ?_⟩
            rw [uE]; exact h4
    · intro S x n hnd hx hl h
      by_cases hw : w ∈ S
      · refine .inl ⟨hw, ?_⟩
        rcases h with ⟨_, h2⟩ | ⟨h1, _⟩
        · exact L S x n hnd hx hl h2
        · exact absurd (List.mem_cons_of_mem _ hw) h1
      · refine .inr ⟨hw, n, rfl, .inl ⟨hl, ?_⟩⟩
        have hwS : (w :: S).Nodup := List.nodup_cons.2 ⟨hw, hnd⟩
        by_cases e : w = x
        · subst e
          rcases h with ⟨_, h2⟩ | ⟨h1, _⟩
          · exact h2
          · exact absurd (List.mem_cons_self ..) h1
        · have hxw : x ∉ w :: S := fun hh => (List.mem_cons.1 hh).elim (fun q => e q.symm) hx
          rcases h with ⟨h1, _⟩ | ⟨h1, m, rfl, h2⟩
          · exact absurd h1 (fun hh => (List.mem_cons.1 hh).elim e hw)
          · rcases h2 with ⟨h3, h4⟩ | ⟨h3, d, hd, h4⟩
            · exact L (w :: S) x m hwS hxw (by simpa using h3) (h4.perm (j4 w x S))
            · by_cases ed : d = x
              · subst ed
                rw [uE] at h4; exact h4.succ
              · have hdS : d ∈ S := (List.mem_cons.1 hd).resolve_left ed
                rw [qZ (fun q => ed q.symm)] at h4
                have hnT : (S.erase d).Nodup := hnd.erase d
                have hT : (w :: S.erase d).Nodup := List.nodup_cons.2 ⟨fun hh => hw (List.mem_of_mem_erase hh), hnT⟩
                have hlen : (S.erase d).length + 1 = S.length := by rw [List.length_erase_of_mem hdS]; have := List.length_pos_of_mem hdS; omega
                have hx2 : x ∉ w :: S.erase d := fun hh => (List.mem_cons.1 hh).elim (fun q => e q.symm) (fun q => hx (List.mem_of_mem_erase q))
                have hd2 : d ∉ w :: S.erase d := fun hh => (List.mem_cons.1 hh).elim (fun q => hw (q ▸ hdS)) (fun q => (List.Nodup.mem_erase_iff hnd).1 q |>.1 rfl)
                have h5 := L (w :: S.erase d) x m hT hx2 (by simp only [List.length_cons] at h3 ⊢; omega) (h4.perm (j4 w x _))
                have h6 := M (w :: S.erase d) d (m + 1) hT hd2 (by simp only [List.length_cons] at h3 ⊢; omega) h5
                refine h6.perm ((j4 d w _).trans (List.Perm.cons w ?_))
                exact (List.perm_cons_erase hdS).symm
def bef (x y : Int) : List Int → Prop
 | [] => True
 | w :: ws => w = x ∨ (¬ w = y ∧ bef x y ws)
theorem exch {room : Nat} : ∀ (ws : List Int) (S : List Int) (x y : Int) (n : Nat), S.Nodup → x ∉ S → y ∉ S → ¬ x = y → S.length < room → bef x y ws → Can room ws (y :: S) n → Can room ws (x :: S) n
 | [], _, _, _, _, _, _, _, _, _, _, _ => trivial
 | w :: ws, S, x, y, n, hnd, hx, hy, hxy, hl, hb, h => by
  obtain ⟨M, L⟩ := VY (room := room) ws
  by_cases e : w = x
  ·subst e
   refine .inl ⟨List.mem_cons_self .., ?_⟩
   rcases h with ⟨h1, _⟩ | ⟨h1, m, rfl, h2⟩
   ·exact absurd h1 (fun hh => (List.mem_cons.1 hh).elim hxy hx)
   ·rcases h2 with ⟨h3, h4⟩ | ⟨h3, d, hd, h4⟩
    ·exact L (w :: S) y m (List.nodup_cons.2 ⟨hx, hnd⟩) (fun hh => (List.mem_cons.1 hh).elim (fun q => hxy q.symm) hy) (by simpa using h3) (h4.perm (j4 w y S))
    ·by_cases ed : d = y
     ·subst ed; rw [uE] at h4; exact h4.succ
     ·have hdS : d ∈ S := (List.mem_cons.1 hd).resolve_left ed
      rw [qZ (fun q => ed q.symm)] at h4
      have hnT : (S.erase d).Nodup := hnd.erase d
      have hT : (w :: S.erase d).Nodup := List.nodup_cons.2 ⟨fun hh => hx (List.mem_of_mem_erase hh), hnT⟩
      have hlen : (S.erase d).length + 1 = S.length := by rw [List.length_erase_of_mem hdS]; have := List.length_pos_of_mem hdS; omega
      have hy2 : y ∉ w :: S.erase d := fun hh => (List.mem_cons.1 hh).elim (fun q => hxy q.symm) (fun q => hy (List.mem_of_mem_erase q))
      have hd2 : d ∉ w :: S.erase d := fun hh => (List.mem_cons.1 hh).elim (fun q => hx (q ▸ hdS)) (fun q => (List.Nodup.mem_erase_iff hnd).1 q |>.1 rfl)
      have h5 := L (w :: S.erase d) y m hT hy2 (by simp only [List.length_cons] at h3 ⊢; omega) (h4.perm (j4 w y _))
      have h6 := M (w :: S.erase d) d (m + 1) hT hd2 (by simp only [List.length_cons] at h3 ⊢; omega) h5
      exact h6.perm ((j4 d w _).trans (List.Perm.cons w (List.perm_cons_erase hdS).symm))
  ·obtain ⟨hwy, hb2⟩ := hb.resolve_left e
   by_cases hw : w ∈ S
   ·refine .inl ⟨List.mem_cons_of_mem _ hw, ?_⟩
    rcases h with ⟨_, h2⟩ | ⟨h1, _⟩
    ·exact exch ws S x y n hnd hx hy hxy hl hb2 h2
    ·exact absurd (List.mem_cons_of_mem _ hw) h1
   ·have hwS : (w :: S).Nodup := List.nodup_cons.2 ⟨hw, hnd⟩
    have hxw : x ∉ w :: S := fun hh => (List.mem_cons.1 hh).elim (fun q => e q.symm) hx
    have hyw : y ∉ w :: S := fun hh => (List.mem_cons.1 hh).elim (fun q => hwy q.symm) hy
    rcases h with ⟨h1, _⟩ | ⟨h1, m, rfl, h2⟩
    ·exact absurd h1 (fun hh => (List.mem_cons.1 hh).elim hwy hw)
    ·refine .inr ⟨fun hh => (List.mem_cons.1 hh).elim e hw, m, rfl, ?_⟩
     rcases h2 with ⟨h3, h4⟩ | ⟨h3, d, hd, h4⟩
     ·exact .inl ⟨by simpa using h3, (exch ws (w :: S) x y m hwS hxw hyw hxy (by simpa using h3) hb2 (h4.perm (j4 w y S))).perm (j4 x w S)⟩
     ·by_cases ed : d = y
      ·subst ed
       rw [uE] at h4
       refine .inr ⟨by simpa using h3, x, List.mem_cons_self .., ?_⟩
       rw [uE]; exact h4
      ·have hdS : d ∈ S := (List.mem_cons.1 hd).resolve_left ed
       rw [qZ (fun q => ed q.symm)] at h4
       have hlen : (S.erase d).length + 1 = S.length := by rw [List.length_erase_of_mem hdS]; have := List.length_pos_of_mem hdS; omega
       have hdx : ¬ x = d := fun q => hx (q ▸ hdS)
       refine .inr ⟨by simpa using h3, d, List.mem_cons_of_mem _ hdS, ?_⟩
       rw [qZ hdx]
       refine (exch ws (w :: S.erase d) x y m (List.nodup_cons.2 ⟨fun hh => hw (List.mem_of_mem_erase hh), hnd.erase d⟩) ?_ ?_ hxy (by simp only [List.length_cons] at h3 ⊢; omega) hb2 (h4.perm (j4 w y _))).perm (j4 x w _)
       ·exact fun hh => (List.mem_cons.1 hh).elim (fun q => e q.symm) (fun q => hx (List.mem_of_mem_erase q))
       ·exact fun hh => (List.mem_cons.1 hh).elim (fun q => hwy q.symm) (fun q => hy (List.mem_of_mem_erase q))
def fi : List Int → Int → Nat
 | [], _ => 0
 | w :: ws, x => if w = x then 0 else fi ws x + 1
theorem WK : ∀ (ws : List Int) (x : Int), fi ws x ≤ ws.length ∧ (∀ i, i < fi ws x → ¬ nth ws (i : Int) = x) ∧ (fi ws x < ws.length → nth ws ((fi ws x : Nat) : Int) = x)
 | [], x => ⟨Nat.le_refl _, fun i hi => absurd hi (Nat.not_lt_zero _), fun h => absurd h (Nat.lt_irrefl _)⟩
 | w :: ws, x => by
  obtain ⟨h1, h2, h3⟩ := WK ws x
  unfold fi
  by_cases e : w = x
  ·rw [if_pos e]
   exact ⟨Nat.zero_le _, fun i hi => absurd hi (Nat.not_lt_zero _), fun _ => e⟩
  ·rw [if_neg e]
   have hs : ∀ i : Nat, nth (w :: ws) ((i + 1 : Nat) : Int) = nth ws (i : Int) := fun i => by unfold nth; simp
   refine ⟨by simpa using h1, fun i hi => ?_, fun h => ?_⟩
   ·cases i with
    | zero => exact e
    | succ i => rw [hs]; exact h2 i (by omega)
   ·rw [hs]; exact h3 (by simpa using h)
theorem G5 (ws : List Int) (x : Int) : (0 ≤ place ws x ∧ place ws x = (fi ws x : Int)) ∨ (place ws x < 0 ∧ fi ws x = ws.length) := by
  obtain ⟨h1, h2, h3⟩ := WK ws x
  rcases Nat.lt_or_ge (fi ws x) ws.length with h | h
  · have : place ws x = (fi ws x : Int) := x5 h (fun i hi => decide_eq_false (h2 i hi)) (decide_eq_true (h3 h))
    exact .inl ⟨by omega, this⟩
  · have : place ws x = -1 := xP (fun i hi => decide_eq_false (h2 i (by omega)))
    exact .inr ⟨by omega, by omega⟩
theorem K6 {l : List Int} {x : Int} {i : Nat} (hi : i < l.length) : next l x (i : Int) = (i : Int) + 1 + (fi (l.drop (i + 1)) x : Int) := by
 have e : ((i : Int) + 1).toNat = i + 1 := by omega
 unfold next
 rw [e]
 rcases G5 (l.drop (i + 1)) x with ⟨h1, h2⟩ | ⟨h1, h2⟩
 ·rw [if_pos h1, h2]
 ·rw [if_neg (by omega), h2, List.length_drop]; omega
theorem zAg : ∀ {ws : List Int} {x y : Int}, ¬ x = y → fi ws x ≤ fi ws y → bef x y ws
 | [], _, _, _, _ => trivial
 | w :: ws, x, y, hxy, h => by
  unfold fi at h
  by_cases e : w = x
  ·exact .inl e
  ·rw [if_neg e] at h
   by_cases e2 : w = y
   ·rw [if_pos e2] at h; omega
   ·rw [if_neg e2] at h; exact .inr ⟨e2, zAg hxy (by omega)⟩
theorem VS {l : List Int} {i : Int} {xs : List Int} : ∀ {k : Nat}, k < xs.length → ∀ j : Nat, j ≤ k → next l (nth xs (j : Int)) i ≤ next l (bestTo (late l i) xs k) i
 | 0, h, j, hj => by rw [show j = 0 by omega]; exact Int.le_refl _
 | k + 1, h, j, hj => by
  have ih := VS (l := l) (i := i) (xs := xs) (k := k) (by omega)
  have e : bestTo (late l i) xs (k + 1) = if late l i (nth xs ((k + 1 : Nat) : Int)) (bestTo (late l i) xs k) = true then nth xs ((k + 1 : Nat) : Int) else bestTo (late l i) xs k := rfl
  rw [e]
  by_cases hb : late l i (nth xs ((k + 1 : Nat) : Int)) (bestTo (late l i) xs k) = true
  ·rw [if_pos hb]
   have hb2 := of_decide_eq_true hb
   rcases Nat.lt_or_ge j (k + 1) with h1 | h1
   ·have := ih j (by omega); omega
   ·rw [show j = k + 1 by omega]; exact Int.le_refl _
  ·rw [if_neg hb]
   have hb2 : ¬ next l (bestTo (late l i) xs k) i < next l (nth xs ((k + 1 : Nat) : Int)) i := fun h => hb (decide_eq_true h)
   rcases Nat.lt_or_ge j (k + 1) with h1 | h1
   ·exact ih j (by omega)
   ·rw [show j = k + 1 by omega]; omega
theorem zAb {l on : List Int} {i : Int} {d : Int} (hd : d ∈ on) : next l d i ≤ next l (off 3 l on i) i := by
 have hp : (Ps.sorted lti on).Perm on := Ps.sorted_perm
 have hd2 := hp.mem_iff.2 hd
 obtain ⟨j, hj, rfl⟩ := List.getElem_of_mem hd2
 rw [Ps.sorted_len] at hj
 have := VS (l := l) (i := i) (xs := Ps.sorted lti on) (k := on.length - 1) (by rw [Ps.sorted_len]; omega) j (by omega)
 rw [yG (by rw [Ps.sorted_len]; exact hj)] at this
 rw [off_3 rfl]; exact this
theorem YV {d : Int} : ∀ {xs : List Int}, xs.Nodup → d ∈ xs → (xs.filter fun y => !decide (y = d)).Perm (xs.erase d) := fun {xs} hn hd => by
 refine (List.perm_ext_iff_of_nodup (hn.filter _) (hn.erase d)).2 (fun a => ?_)
 rw [List.mem_filter, List.Nodup.mem_erase_iff hn]
 simp only [Bool.not_eq_true', decide_eq_false_iff_not]
 exact ⟨fun h => ⟨h.2, h.1⟩, fun h => ⟨h.2, h.1⟩⟩
theorem ZO {rule : Int} {l on : List Int} {i : Int} (hn : on.Nodup) (h : 1 ≤ on.length) : (rest rule l on i).Perm (on.erase (off rule l on i)) := by
 have hm := XG (rule := rule) (l := l) (i := i) h
 by_cases hr : rule = 3
 ·rw [rest_3 hr]
  have hp : (Ps.sorted lti on).Perm on := Ps.sorted_perm
  exact (hp.filter _).trans (YV hn hm)
 ·rw [rest_n hr]; exact YV hn hm
theorem WC {on : List Int} {w : Int} (h : 0 ≤ place on w) : (on.take (place on w).toNat ++ on.drop ((place on w).toNat + 1) ++ [w]).Perm on := by
 have hlt := S.place_lt on w
 obtain ⟨k, hk, e, hlt2⟩ : ∃ k : Nat, nth on (k : Int) = w ∧ (place on w).toNat = k ∧ k < on.length := by
  rcases G5 on w with ⟨h1, h2⟩ | ⟨h1, _⟩
  ·exact ⟨fi on w, (WK on w).2.2 (by omega), by omega, by omega⟩
  ·omega
 rw [e]
 have hw : on[k]'(by omega) = w := by rw [← yG (by omega)]; exact hk
 have h1 : on = on.take k ++ (w :: on.drop (k + 1)) := by
  conv => lhs; rw [← List.take_append_drop k on, List.drop_eq_getElem_cons (by omega), hw]
 have h2 : (on.take k ++ on.drop (k + 1) ++ [w]).Perm (on.take k ++ (w :: on.drop (k + 1))) := by
  rw [List.append_assoc]
  exact List.Perm.append_left _ (List.perm_append_singleton w _)
 exact h2.trans (by rw [← h1])
theorem KL {room rule : Int} {l : List Int} (hr : 1 ≤ room) : ∀ k, (runTo room rule l k).on.Nodup
 | 0 => List.nodup_nil
 | k + 1 => by
  have ih := KL (rule := rule) (l := l) hr k
  have hl := run_len (rule := rule) (l := l) hr k
  by_cases h : 0 ≤ place (runTo room rule l k).on (nth l (k : Int))
  ·by_cases hu : rule = 2
   ·rw [run_hit2 h hu]; exact (WC h).nodup_iff.2 ih
   ·rw [run_hit h hu]; exact ih
  ·have hn : nth l (k : Int) ∉ (runTo room rule l k).on := fun hh => h (vX.2 hh)
   have key : ∀ xs : List Int, xs.Nodup → nth l (k : Int) ∉ xs → (xs ++ [nth l (k : Int)]).Nodup := fun xs h1 h2 => (List.perm_append_singleton _ xs).nodup_iff.2 (List.nodup_cons.2 ⟨h2, h1⟩)
   by_cases hf : ((runTo room rule l k).on.length : Int) = room
   ·rw [run_full h hf]
    have hp := ZO (rule := rule) (l := l) (i := (k : Int)) ih (show 1 ≤ (runTo room rule l k).on.length by omega)
    exact key _ (hp.nodup_iff.2 (ih.erase _)) (fun hh => hn (List.mem_of_mem_erase (hp.mem_iff.1 hh)))
   ·rw [run_room h hf]; exact key _ ih hn
theorem WD {l : List Int} {k : Nat} (h : k < l.length) : l.drop k = nth l (k : Int) :: l.drop (k + 1) := by rw [List.drop_eq_getElem_cons h, yG h]
theorem VH {room rule : Int} {l : List Int} : ∀ {k j : Nat}, (runTo room rule l k).mis.length ≤ (runTo room rule l (k + j)).mis.length
 | k, 0 => Nat.le_refl _
 | k, j + 1 => by
  refine Nat.le_trans (VH (k := k) (j := j)) ?_
  show _ ≤ (step room rule l (runTo room rule l (k + j)) (k + j)).mis.length
  unfold step
  split
  ·exact Nat.le_refl _
  ·split
   ·simp
   ·simp
theorem JM {room : Nat} {rule : Int} {l : List Int} (hr : 1 ≤ room) : ∀ j k, k + j = l.length → Can room (l.drop k) (runTo (room : Int) rule l k).on ((runTo (room : Int) rule l l.length).mis.length - (runTo (room : Int) rule l k).mis.length)
  | 0, k, h => by rw [List.drop_of_length_le (by omega)]; exact trivial
  | j + 1, k, hk => by
    have ih := JM (rule := rule) (l := l) hr j (k + 1) (by omega)
    have hl := run_len (room := (room : Int)) (rule := rule) (l := l) (by omega) k
    have hnd := KL (room := (room : Int)) (rule := rule) (l := l) (by omega) k
    have hm := VH (room := (room : Int)) (rule := rule) (l := l) (k := k + 1) (j := j)
    rw [show k + 1 + j = l.length by omega] at hm
    rw [WD (by omega)]
    by_cases h : 0 ≤ place (runTo (room : Int) rule l k).on (nth l (k : Int))
    · refine .inl ⟨vX.1 h, ?_⟩
      by_cases hu : rule = 2
      · rw [run_hit2 h hu] at ih; exact ih.perm (WC h)
      · rw [run_hit h hu] at ih; exact ih
    · have hn : nth l (k : Int) ∉ (runTo (room : Int) rule l k).on := fun hh => h (vX.2 hh)
      refine .inr ⟨hn, (runTo (room : Int) rule l l.length).mis.length - (runTo (room : Int) rule l (k + 1)).mis.length, ?_, ?_⟩
      · by_cases hf : ((runTo (room : Int) rule l k).on.length : Int) = room
        · rw [run_full h hf] at hm ⊢; simp only [List.length_append, List.length_singleton] at hm ⊢; omega
        · rw [run_room h hf] at hm ⊢; simp only [List.length_append, List.length_singleton] at hm ⊢; omega
      · by_cases hf : ((runTo (room : Int) rule l k).on.length : Int) = room
        · refine .inr ⟨by omega, off rule l (runTo (room : Int) rule l k).on (k : Int), XG (by omega), ?_⟩
          have hp := ZO (rule := rule) (l := l) (i := (k : Int)) hnd (show 1 ≤ (runTo (room : Int) rule l k).on.length by omega)
          rw [run_full h hf] at ih ⊢
          exact ih.perm ((List.perm_append_singleton _ _).trans (hp.cons _))
        · refine .inl ⟨by omega, ?_⟩
          rw [run_room h hf] at ih ⊢
          exact ih.perm (List.perm_append_singleton _ _)
theorem belady {room : Nat} {l : List Int} (hr : 1 ≤ room) : ∀ j k n, k + j = l.length → Can room (l.drop k) (runTo (room : Int) 3 l k).on n → (runTo (room : Int) 3 l l.length).mis.length ≤ (runTo (room : Int) 3 l k).mis.length + n
  | 0, k, n, h, _ => by rw [show l.length = k by omega]; omega
  | j + 1, k, n, hk, hc => by
    have hl := run_len (room := (room : Int)) (rule := 3) (l := l) (by omega) k
    have hnd := KL (room := (room : Int)) (rule := 3) (l := l) (by omega) k
    have ih := belady (l := l) hr j (k + 1)
    rw [WD (by omega)] at hc
    by_cases h : 0 ≤ place (runTo (room : Int) 3 l k).on (nth l (k : Int))
    · rw [run_hit h (by omega)] at ih
      rcases hc with ⟨_, h2⟩ | ⟨h1, _⟩
      · exact ih n (by omega) h2
      · exact absurd (vX.1 h) h1
    · have hn : nth l (k : Int) ∉ (runTo (room : Int) 3 l k).on := fun hh => h (vX.2 hh)
      rcases hc with ⟨h1, _⟩ | ⟨_, m, rfl, h2⟩
      · exact absurd h1 hn
      · by_cases hf : ((runTo (room : Int) 3 l k).on.length : Int) = room
        · rw [run_full h hf] at ih
          simp only [List.length_append, List.length_singleton] at ih
          rcases h2 with ⟨h3, _⟩ | ⟨_, d, hd, h4⟩
          · omega
          · have hS1 : 1 ≤ (runTo (room : Int) 3 l k).on.length := by omega
            have hfm := XG (rule := 3) (l := l) (on := (runTo (room : Int) 3 l k).on) (i := (k : Int)) hS1
            have hp := ZO (rule := 3) (l := l) (i := (k : Int)) hnd hS1
            have hlate := zAb (l := l) (i := (k : Int)) hd
            generalize hoff : off 3 l (runTo (room : Int) 3 l k).on (k : Int) = f at *
            generalize hS : (runTo (room : Int) 3 l k).on = S at *
            have h5 : Can room (l.drop (k + 1)) (nth l (k : Int) :: S.erase f) m := by
              by_cases e : d = f
              · rw [← e]; exact h4
              · have hb : bef d f (l.drop (k + 1)) := zAg e (by rw [K6 (by omega), K6 (by omega)] at hlate; omega)
                have hfd : f ∈ S.erase d := (List.Nodup.mem_erase_iff hnd).2 ⟨fun q => e q.symm, hfm⟩
                have hdf : d ∈ S.erase f := (List.Nodup.mem_erase_iff hnd).2 ⟨e, hd⟩
                have hT : ((S.erase d).erase f).Nodup := (hnd.erase d).erase f
                have hwT : nth l (k : Int) ∉ (S.erase d).erase f := fun hh => hn (List.mem_of_mem_erase (List.mem_of_mem_erase hh))
                have hTd : d ∉ (S.erase d).erase f := fun hh => ((List.Nodup.mem_erase_iff hnd).1 (List.mem_of_mem_erase hh)).1 rfl
                have hTf : f ∉ (S.erase d).erase f := fun hh => ((List.Nodup.mem_erase_iff (hnd.erase d)).1 hh).1 rfl
                have hlen : ((S.erase d).erase f).length + 2 = S.length := by
                  have h7 := List.length_erase_of_mem hfd
                  have h8 := List.length_erase_of_mem hd
                  have h9 := List.length_pos_of_mem hfd
                  have h10 := List.length_pos_of_mem hd
                  omega
                have h6 : Can room (l.drop (k + 1)) (f :: nth l (k : Int) :: (S.erase d).erase f) m := h4.perm (((List.perm_cons_erase hfd).cons _).trans (j4 _ _ _))
                have h7 := exch (l.drop (k + 1)) (nth l (k : Int) :: (S.erase d).erase f) d f m (List.nodup_cons.2 ⟨hwT, hT⟩) (fun hh => (List.mem_cons.1 hh).elim (fun q => hn (q ▸ hd)) hTd) (fun hh => (List.mem_cons.1 hh).elim (fun q => hn (q ▸ hfm)) hTf) e (by simp only [List.length_cons]; omega) hb h6
                refine h7.perm ((j4 _ _ _).trans (List.Perm.cons _ ?_))
                refine (List.perm_ext_iff_of_nodup (List.nodup_cons.2 ⟨hTd, hT⟩) (hnd.erase f)).2 (fun a => ?_)
                rw [List.mem_cons, List.Nodup.mem_erase_iff (hnd.erase d), List.Nodup.mem_erase_iff hnd, List.Nodup.mem_erase_iff hnd]
                constructor
                · rintro (rfl | ⟨h8, h9, h10⟩)
                  · exact ⟨e, hd⟩
                  · exact ⟨h8, h10⟩
                · rintro ⟨h8, h9⟩
                  by_cases e3 : a = d
                  · exact .inl e3
                  · exact .inr ⟨h8, e3, h9⟩
            have h8 := ih m (by omega) (h5.perm (((hp.symm.cons _)).trans (List.perm_append_singleton _ _).symm))
            omega
        · rw [run_room h hf] at ih
          simp only [List.length_append, List.length_singleton] at ih
          rcases h2 with ⟨_, h4⟩ | ⟨h3, _⟩
          · have h8 := ih m (by omega) (h4.perm (List.perm_append_singleton _ _).symm)
            omega
          · exact absurd (by omega) hf
theorem fewest_le {room rule : Int} {l : List Int} (hr : 1 ≤ room) : (runTo room 3 l l.length).mis.length ≤ (runTo room rule l l.length).mis.length := by
 obtain ⟨r, rfl⟩ : ∃ r : Nat, room = (r : Int) := ⟨room.toNat, by omega⟩
 have h1 := JM (room := r) (rule := rule) (l := l) (by omega) l.length 0 (by omega)
 have h2 := belady (room := r) (l := l) (by omega) l.length 0 _ (by omega) h1
 have e1 : (runTo (r : Int) rule l 0).mis.length = 0 := rfl
 have e2 : (runTo (r : Int) 3 l 0).mis.length = 0 := rfl
 omega
theorem run_mis {room rule : Int} {l : List Int} : ∀ k, (∀ i : Nat, i < (runTo room rule l k).mis.length → 0 ≤ nth (runTo room rule l k).mis (i : Int) ∧ nth (runTo room rule l k).mis (i : Int) < (k : Int)) ∧ (∀ i : Nat, i + 1 < (runTo room rule l k).mis.length → nth (runTo room rule l k).mis (i : Int) < nth (runTo room rule l k).mis ((i : Int) + 1))
  | 0 => ⟨fun i hi => absurd hi (Nat.not_lt_zero _), fun i hi => absurd hi (Nat.not_lt_zero _)⟩
  | k + 1 => by
    obtain ⟨h1, h2⟩ := run_mis (room := room) (rule := rule) (l := l) k
    have key : ∀ xs : List Int, (∀ i : Nat, i < xs.length → 0 ≤ nth xs (i : Int) ∧ nth xs (i : Int) < (k : Int)) → (∀ i : Nat, i + 1 < xs.length → nth xs (i : Int) < nth xs ((i : Int) + 1)) →
        (∀ i : Nat, i < (xs ++ [(k : Int)]).length → 0 ≤ nth (xs ++ [(k : Int)]) (i : Int) ∧ nth (xs ++ [(k : Int)]) (i : Int) < ((k + 1 : Nat) : Int)) ∧ (∀ i : Nat, i + 1 < (xs ++ [(k : Int)]).length → nth (xs ++ [(k : Int)]) (i : Int) < nth (xs ++ [(k : Int)]) ((i : Int) + 1)) := fun xs a b => by
      have ea : ∀ i : Nat, i < xs.length → nth (xs ++ [(k : Int)]) (i : Int) = nth xs (i : Int) := fun i hi => by rw [yG (by simp; omega), yG hi, List.getElem_append_left hi]
      have eb : nth (xs ++ [(k : Int)]) ((xs.length : Nat) : Int) = (k : Int) := by rw [yG (by simp)]; simp
      constructor
      · intro i hi
        rw [List.length_append, List.length_singleton] at hi
        rcases Nat.lt_or_ge i xs.length with h | h
        · rw [ea i h]; have := a i h; omega
        · rw [show i = xs.length by omega, eb]; omega
      · intro i hi
        rw [List.length_append, List.length_singleton] at hi
        have e1 : (i : Int) + 1 = ((i + 1 : Nat) : Int) := by omega
        rw [e1]
        rcases Nat.lt_or_ge (i + 1) xs.length with h | h
        · rw [ea i (by omega), ea (i + 1) h]; have := b i h; rwa [e1] at this
        · rw [ea i (by omega), show i + 1 = xs.length by omega, eb]; exact (a i (by omega)).2
    have keep : (∀ i : Nat, i < (runTo room rule l k).mis.length → 0 ≤ nth (runTo room rule l k).mis (i : Int) ∧ nth (runTo room rule l k).mis (i : Int) < ((k + 1 : Nat) : Int)) := fun i hi => by have := h1 i hi; omega
    by_cases h : 0 ≤ place (runTo room rule l k).on (nth l (k : Int))
    · by_cases hu : rule = 2
      · rw [run_hit2 h hu]; exact ⟨keep, h2⟩
      · rw [run_hit h hu]; exact ⟨keep, h2⟩
    · by_cases hf : ((runTo room rule l k).on.length : Int) = room
      · rw [run_full h hf]; exact key _ h1 h2
      · rw [run_room h hf]; exact key _ h1 h2
theorem run_one {room rule : Int} {l : List Int} (hr : 1 ≤ room) (hl : 1 ≤ l.length) : 1 ≤ (runTo room rule l l.length).mis.length := by
 have h1 : (runTo room rule l 1).mis = [((0 : Nat) : Int)] := by
  have hn : ¬ 0 ≤ place (runTo room rule l 0).on (nth l ((0 : Nat) : Int)) := fun h => by have := vX.1 h; cases this
  rw [run_room hn (show ¬ (([] : List Int).length : Int) = room by simp; omega)]; rfl
 have := VH (room := room) (rule := rule) (l := l) (k := 1) (j := l.length - 1)
 rw [show 1 + (l.length - 1) = l.length by omega, h1] at this
 exact this
end Sf
end Go.Fip
namespace Go.Fip.S
section
variable {l p : List Pr} {B U F c : List Int}
theorem WH (hs : ∃ s, SolF l B U F s) : ∃ p, SolP l B U F p := by
 obtain ⟨s, hs⟩ := hs
 have hn : ∀ w, w < 2 * l.length → nth ((List.range (2 * l.length)).map s) (w : Int) = s w := fun w hw => by
  rw [yG (by simpa using hw)]; simp
 exact ⟨_, XP (A := (List.range (2 * l.length)).map s) (YB (fun w hw => (hn w hw).symm) hs)⟩
theorem play_no (hc : checkOrder l B U F = 0) (h : ¬ ∃ p, SolP l B U F p) : play l B U F = ([], 13) ∧ circleError l B U F = 0 := by
 have hn : playOf l B U F = none := playOf_none (fun hs => h (WH hs))
 exact ⟨pl2 hc (by rw [hn]; rfl), ce3 hc (by rw [hn]; simp)⟩
theorem play_yes (hj : Jobs l) (hc : checkOrder l B U F = 0) (hs : SolP l B U F p) : play l B U F = (p, 0) ∧ circleError l B U F = 5 :=
 ⟨by rw [pl3 hc (by rw [playOf_some hj hs]; simp), playOf_some hj hs]; rfl, ce2 hc (by rw [playOf_some hj hs]; rfl)⟩
theorem play_err (hj : Jobs l) (hc : checkOrder l B U F = 0) : (play l B U F).2 = 0 ∨ (play l B U F).2 = 13 := by
 by_cases h : ∃ p, SolP l B U F p
 ·obtain ⟨p, hs⟩ := h; rw [(play_yes hj hc hs).1]; exact .inl rfl
 ·rw [(play_no hc h).1]; exact .inr rfl
theorem play_len2 : (play l B U F).1.length ≤ l.length := by
 by_cases h : checkOrder l B U F = 0
 ·cases h2 : playOf l B U F with
  | none => rw [pl2 h (by rw [h2]; rfl)]; simp
  | some p => rw [pl3 h (by rw [h2]; simp), h2]; exact Nat.le_of_eq (J3 h2).1
 ·rw [pl1 h]; simp
def flipF (F : List Int) : List Int := F.map fun x => 1 - x
theorem ZB : (flipF F).length = F.length := by simp [flipF]
theorem JX {i : Int} (h0 : 0 ≤ i) (h1 : i < (F.length : Int)) : nth (flipF F) i = 1 - nth F i := by
 have e : ((i.toNat : Nat) : Int) = i := by omega
 rw [← e, yG (by rw [ZB]; omega), yG (by omega)]
 simp [flipF]
theorem Ord.sw {n : Nat} (h : Ord n B U F) : Ord n U B (flipF F) := by
 obtain ⟨h1, h2, h3, h4⟩ := h
 refine ⟨h2, h1, by rw [ZB]; exact h3, fun i hi => ?_⟩
 have := h4 i hi
 unfold okFor at *
 rw [JX (by omega) (by omega)]
 exact ⟨this.2.1, this.1, by omega, by omega⟩
def back (l p : List Pr) (n : Int) : List Pr := (List.range l.length).map fun i : Nat => (n - (nth p (i : Int)).1 - (nth l (i : Int)).1, n - (nth p (i : Int)).2 - (nth l (i : Int)).2)
end
end Go.Fip.S
namespace Go.Fip
namespace Ts
open S (Pr Jobs Ord sumOf sumTo)
def rwant (B rm : List Int) (i : Nat) : Int := if 0 < rm.length then 1 + nth rm (nth B (i : Int) % (rm.length : Int)) % 8 else 1
def wants (B rm : List Int) : Nat → List Int
 | 0 => []
 | k + 1 => wants B rm k ++ [rwant B rm k]
theorem wants_len (B rm : List Int) : ∀ k, (wants B rm k).length = k
 | 0 => rfl
 | k + 1 => by rw [wants, List.length_append, wants_len B rm k]; rfl
theorem zAc {B rm : List Int} {i : Nat} : 1 ≤ rwant B rm i ∧ rwant B rm i ≤ 8 := by
 unfold rwant
 split
 ·omega
 ·omega
theorem GC (B rm : List Int) : ∀ k, ∀ x ∈ wants B rm k, 1 ≤ x ∧ x ≤ 8
 | 0, x, h => by cases h
 | k + 1, x, h => by
  rcases List.mem_append.1 h with h1 | h1
  ·exact GC B rm k x h1
  ·rw [List.mem_singleton.1 h1]; exact zAc
theorem day_of {B rm : List Int} {n : Nat} {room : Int} (hn : n ≤ 8) (hr : 1 ≤ room ∧ room ≤ 6) : Sf.ck room (wants B rm n) = 0 :=
 Sf.ck_iff.2 ⟨hr.1, hr.2, by rw [wants_len]; omega, GC B rm n⟩
def inc (js : List Pr) (B f : List Int) : Nat → List Pr
 | 0 => js
 | k + 1 => (inc js B f k).set (nth B (nth f (k : Int))).toNat ((nth (inc js B f k) (nth B (nth f (k : Int)))).1 + 1, (nth (inc js B f k) (nth B (nth f (k : Int)))).2)
theorem inc_len (js : List Pr) (B f : List Int) : ∀ k, (inc js B f k).length = js.length
 | 0 => rfl
 | k + 1 => by rw [inc, List.length_set, inc_len js B f k]
theorem zAu {l : List Pr} {i j : Nat} {x : Pr} (hj : j < l.length) : nth (l.set i x) (j : Int) = if j = i then x else nth l (j : Int) := by
 rw [yG (by rw [List.length_set]; exact hj), List.getElem_set]
 by_cases h : i = j
 ·rw [if_pos h, if_pos h.symm]
 ·rw [if_neg h, if_neg (fun e => h e.symm), yG hj]
structure Fetch (n : Nat) (f : List Int) : Prop where
 bd : ∀ i : Nat, i < f.length → 0 ≤ nth f (i : Int) ∧ nth f (i : Int) < (n : Int)
 up : ∀ i : Nat, i + 1 < f.length → nth f (i : Int) < nth f ((i : Int) + 1)
theorem Fetch.lt {n : Nat} {f : List Int} (h : Fetch n f) : ∀ {d i : Nat}, i + d + 1 < f.length → nth f (i : Int) < nth f ((i + d + 1 : Nat) : Int)
 | 0, i, hi => by have := h.up i (by omega); rw [show ((i + 0 + 1 : Nat) : Int) = (i : Int) + 1 by omega]; exact this
 | d + 1, i, hi => by
  have h1 := Fetch.lt h (d := d) (i := i) (by omega)
  have h2 := h.up (i + d + 1) (by omega)
  rw [show ((i + (d + 1) + 1 : Nat) : Int) = ((i + d + 1 : Nat) : Int) + 1 by omega]
  omega
theorem Fetch.ne {n : Nat} {f : List Int} (h : Fetch n f) {i j : Nat} (hij : i < j) (hj : j < f.length) : nth f (i : Int) < nth f (j : Int) := by
 have := h.lt (d := j - i - 1) (i := i) (by omega)
 rwa [show i + (j - i - 1) + 1 = j by omega] at this
theorem row_of {n : Nat} {B U F : List Int} (hO : Ord n B U F) : (∀ i, 0 ≤ i → i < (n : Int) → 0 ≤ nth B i ∧ nth B i < (n : Int)) ∧ ∀ i, 0 ≤ i → i < (n : Int) → S.place B (nth B i) = i :=
 S.row_ok hO.1 (fun i hi => (hO.2.2.2 i hi).1)
theorem inc_ok {js : List Pr} {B U F f : List Int} (hO : Ord js.length B U F) (hf : Fetch js.length f) : ∀ k, k ≤ f.length →
    (∀ j : Nat, j < js.length → (nth (inc js B f k) (j : Int)).2 = (nth js (j : Int)).2 ∧ (nth js (j : Int)).1 ≤ (nth (inc js B f k) (j : Int)).1 ∧ (nth (inc js B f k) (j : Int)).1 ≤ (nth js (j : Int)).1 + 1 ∧ ((∀ t : Nat, t < k → ¬ nth B (nth f (t : Int)) = (j : Int)) → (nth (inc js B f k) (j : Int)).1 = (nth js (j : Int)).1)) ∧
    sumOf (inc js B f k) 0 = sumOf js 0 + (k : Int)
  | 0, _ => ⟨fun j hj => ⟨rfl, Int.le_refl _, by show (nth js (j : Int)).1 ≤ _; omega, fun _ => rfl⟩, by show sumOf js 0 = _; omega⟩
  | k + 1, hk => by
    obtain ⟨h1, h2⟩ := inc_ok hO hf k (by omega)
    obtain ⟨r1, r2⟩ := row_of hO
    have hb := hf.bd k (by omega)
    have hB := r1 _ hb.1 hb.2
    have hlen := inc_len js B f k
    obtain ⟨m, hm⟩ : ∃ m : Nat, nth B (nth f (k : Int)) = (m : Int) := ⟨(nth B (nth f (k : Int))).toNat, by omega⟩
    have hfresh : ∀ t : Nat, t < k → ¬ nth B (nth f (t : Int)) = (m : Int) := fun t ht e => by
      have hbt := hf.bd t (by omega)
      have p1 := r2 _ hbt.1 hbt.2
      have p2 := r2 _ hb.1 hb.2
      rw [e] at p1
      rw [hm] at p2
      have := hf.ne ht (show k < f.length by omega)
      omega
    have hm1 := h1 m (by omega)
    have e0 := hm1.2.2.2 hfresh
    have hinc : inc js B f (k + 1) = (inc js B f k).set m ((nth (inc js B f k) (m : Int)).1 + 1, (nth (inc js B f k) (m : Int)).2) := by
      show (inc js B f k).set _ _ = _
      rw [hm, Int.toNat_natCast]
    rw [hinc]
    constructor
    · intro j hj
      obtain ⟨a1, a2, a3, a4⟩ := h1 j hj
      rw [zAu (by omega)]
      by_cases e : j = m
      · subst e
        rw [if_pos rfl]
        refine ⟨a1, by show _ ≤ (nth (inc js B f k) (j : Int)).1 + 1; omega, by show (nth (inc js B f k) (j : Int)).1 + 1 ≤ _; omega, fun hall => absurd hm (hall k (by omega))⟩
      · rw [if_neg e]
        exact ⟨a1, a2, a3, fun hall => a4 (fun t ht => hall t (by omega))⟩
    · have hs := S.sum0_set (l := inc js B f k) (i := m) (z := ((nth (inc js B f k) (m : Int)).1 + 1, (nth (inc js B f k) (m : Int)).2)) (by omega) (inc js B f k).length
      rw [if_pos (by omega)] at hs
      have hs2 : sumOf ((inc js B f k).set m ((nth (inc js B f k) (m : Int)).1 + 1, (nth (inc js B f k) (m : Int)).2)) 0 = sumOf (inc js B f k) 0 + ((nth (inc js B f k) (m : Int)).1 + 1 - (nth (inc js B f k) (m : Int)).1) := by
        unfold sumOf
        rw [List.length_set]; exact hs
      rw [hs2, h2]; omega
theorem inc_jobs {js : List Pr} {B U F f : List Int} (hj : Jobs js) (hO : Ord js.length B U F) (hf : Fetch js.length f) (hb : ∀ i : Nat, i < js.length → (nth js (i : Int)).1 ≤ 499) {k : Nat} (hk : k ≤ f.length) : Jobs (inc js B f k) := by
 obtain ⟨h1, h2, h3⟩ := hj
 obtain ⟨k1, _⟩ := inc_ok hO hf k hk
 refine ⟨by rw [inc_len]; exact h1, by rw [inc_len]; exact h2, fun i hi => ?_⟩
 rw [inc_len] at hi
 obtain ⟨a1, a2, a3, _⟩ := k1 i hi
 have h4 := h3 i hi
 have h5 := hb i hi
 unfold S.okJob at h4 ⊢
 omega
theorem inc_at {js : List Pr} {B U F f : List Int} (hO : Ord js.length B U F) (hf : Fetch js.length f) {k : Nat} (hk : k < f.length) : 0 ≤ nth B (nth f (k : Int)) ∧ nth B (nth f (k : Int)) < ((inc js B f k).length : Int) := by
 have hb := hf.bd k hk
 have := (row_of hO).1 _ hb.1 hb.2
 rw [inc_len]; exact this
structure Fin (js x : List Pr) (B U F : List Int) (n k : Nat) (room rule : Int) (l : List Int) : Prop where
 bl : S.bound js 0 0 = (sumOf js 0, 0)
 bx : S.bound x 0 0 = (sumOf x 0, 0)
 eq : sumOf x 0 = sumOf js 0 + (k : Int)
theorem zAp {room rule : Int} {l : List Int} : Fetch l.length (Sf.runTo room rule l l.length).mis := ⟨(Sf.run_mis l.length).1, (Sf.run_mis l.length).2⟩
theorem fetch_at {room rule : Int} {l : List Int} {n : Nat} (h : l.length = n) : Fetch n (Sf.runTo room rule l l.length).mis := by subst h; exact zAp
theorem memI {l : List Int} {i : Int} (h0 : 0 ≤ i) (h1 : i < (l.length : Int)) : nth l i ∈ l := by
 have e : ((i.toNat : Nat) : Int) = i := by omega
 rw [← e, yG (by omega)]; exact List.getElem_mem _
theorem bound_of {js : List Pr} (hj : Jobs js) : S.bound js 0 0 = (sumOf js 0, 0) := by
 rw [S.bd3 (S.checkJobs_iff.2 hj) (by have := hj.1; omega)]; rfl
theorem play_check {x : List Pr} {B U F : List Int} (hj : Jobs x) (hO : Ord x.length B U F) (h0 : (S.play x B U F).2 = 0) : S.checkPlan x (S.play x B U F).1 = (S.endOf x (S.play x B U F).1, 0) := by
 have hc := S.checkOrder_iff.2 ⟨hj, hO⟩
 by_cases h : ∃ p, S.SolP x B U F p
 ·obtain ⟨p, hs⟩ := h
  rw [(S.play_yes hj hc hs).1]; exact hs.check hj hO
 ·rw [(S.play_no hc h).1] at h0; exact absurd h0 (by decide)
theorem sum_le_end {x p : List Pr} (hj : Jobs x) (hc : S.checkPlan x p = (S.endOf x p, 0)) : sumOf x 0 ≤ S.endOf x p := by
 obtain ⟨_, h2, h3, h4⟩ := S.checkPlan_iff.1 (by rw [hc])
 have h5 := S.shortest_le_end hj h3 h2 h4
 have h6 := (S.shortest_ge (l := x)).1
 omega
end Ts
end Go.Fip
namespace Go.Fip
open Go.Proofs Go.RowKit
theorem c4 {v vby vrm : Value} {js : List S.Pr} {bs rm : List Int} {rb ub : Int} {w : World} (h0 : Rd encP 2 v js w) (hby : Rd encB 1 vby bs w) (hrm : Rd encB 1 vrm rm w) (hbb : ∀ n ∈ bs, 0 ≤ n ∧ n ≤ 255) (hrr : ∀ n ∈ rm, 0 ≤ n ∧ n ≤ 255) (hr : 0 ≤ rb ∧ rb ≤ 255) (hu : 0 ≤ ub ∧ ub ≤ 255)  :
  Fn Tryz.prog 4 [v, vby, vrm, (.int .u8 rb), (.int .u8 ub)].toArray w (fun u _ => u = .bool true) := by
 refine fz Tryz.func4 Z kz Z Z (fun hH => (zr (oA hH Z (zt (seq (zr (oM hH Z (oY hH (z8 T.xX Z (h0.now hH (n := 0) Z).is) (oY hH (xJ Z Z) (oM hH Z ?_))))))))))
 by_cases hc1 : 12 < (js.length : Int)
 ·refine zD Z Z (dT hc1) Z (zD Z Z (dT hc1) Z (zD Z Z (dT hc1) Z (oY hH (zU Z (dT hc1) Z) (oM hH Z (zD Z Z Z Z (zD Z Z Z Z (zD Z Z Z Z (oY hH (zU Z Z Z) (oM hH Z (zD Z Z Z Z (zD Z Z Z Z (zD Z Z Z Z (oY hH (zU Z Z Z) (zt (zO Z Z (zr (zM Z Z Z hH (c5) (fun w2 hH3 => (oA hH3 Z (zC ?_))))))))))))))))))))
  refine zN (ret (z6 (fin hH3 (fun w' hf => (yN Z (rt Z))) (fun w' hf => Z))))
 refine zB Z Z (dF hc1) (oM hH Z (zB Z Z (dF hc1) (zM Z Z Z hH (c12 (h0.now hH (n := 0) Z) om) (fun w4 hH5 => (zB Z Z (dF hc1) (oY hH5 (yF Z Z) (oY hH5 (zT Z (dF hc1) Z) (oM hH5 Z ?_))))))))
 by_cases hc6 : (S.checkJobs js) = 0
 ·refine zB Z Z (zG hc6) (oM hH5 Z (zB Z Z (zG hc6) (oY hH5 (z8 T.Z4 Z (hby.now hH5 (n := 0) Z).is) (zB Z Z (zG hc6) (oY hH5 (xJ Z Z) (oY hH5 (zT Z (zG hc6) Z) (oM hH5 Z ?_)))))))
  by_cases hc7 : 60 < (bs.length : Int)
  ·refine zD Z Z (dT hc7) Z (zD Z Z (dT hc7) Z (zD Z Z (dT hc7) Z (oY hH5 (zU Z (dT hc7) Z) (zt (zO Z Z (zr (zM Z Z Z hH5 (c5) (fun w8 hH9 => (oA hH9 Z (zt (ret (z6 (fin hH9 (fun w' hf => (yN Z (rt Z))) (fun w' hf => Z))))))))))))))
  refine zB Z Z (dF hc7) (oM hH5 Z (zB Z Z (dF hc7) (oY hH5 (z8 T.Z4 Z (hrm.now hH5 (n := 0) Z).is) (zB Z Z (dF hc7) (oY hH5 (xJ Z Z) (oY hH5 (zT Z (dF hc7) Z) (zt ?_)))))))
  by_cases hc10 : 20 < (rm.length : Int)
  ·refine zO Z (dT hc10) (zr (zM Z Z Z hH5 (c5) (fun w11 hH12 => (oA hH12 Z (zt (ret (z6 (fin hH12 (fun w' hf => (yN Z (rt Z))) (fun w' hf => Z)))))))))
  have hcj : S.checkJobs js = 0 := by have hq := (decide_eq_false hc10); simp at hq; omega
  have hj := S.checkJobs_iff.1 hcj
  have hl1 := hj.1
  have hl8 := hj.2.1
  have hbl : bs.length ≤ 60 := by omega
  have hrl : rm.length ≤ 20 := by omega
  obtain ⟨BB, hB9⟩ : ∃ B, S.ordB bs js.length = B := ⟨_, rfl⟩
  obtain ⟨UU, hU9⟩ : ∃ B, S.ordU bs js.length = B := ⟨_, rfl⟩
  obtain ⟨FF, hF9⟩ : ∃ B, S.ordF bs js.length = B := ⟨_, rfl⟩
  have hOrd : S.Ord js.length BB UU FF := by rw [← hB9, ← hU9, ← hF9]; exact S.ordered_ok js.length
  have hBl := hOrd.1
  have hUl := hOrd.2.1
  have hFl := hOrd.2.2.1
  refine zL Z (dF hc10) (skip (zu (oM hH5 Z (oY hH5 (z8 T.xX Z (h0.now hH5 (n := 0) Z).is) (oM hH5 Z (yV Z Z Z hH5 ((by have h := c13 (n := js.length) (hby.now hH5 (n := 0) rfl) om hbb (by have := hj.2.1; omega); simp only [hB9, hU9, hF9] at h; exact h)) (fun u15 w13 lo16 hi17 hH14 hv18 => ?_)))))))
  obtain ⟨ob19, ot20, of21, hu, -⟩ := hv18
  subst hu
  refine yD (z := (.agg #[(.slice none 0 0), (.slice none 0 0), (.slice none 0 0)])) (fun _ => by kernel_rfl) Z Z (Heap.rd3 hH14 (n := 0) Z) (fun b23 w24 hH25 => (zS (n := 0) (j := 0) Z Z hH25 Z T.VL Z Z Z (xK (SliceIs.uT ((Heap.xM hH25 (n := 1) Z).1).is) (xK (SliceIs.uT ((Heap.xM hH25 (n := 1) Z).2.1).is) (xK (SliceIs.uT ((Heap.xM hH25 (n := 1) Z).2.2).is) Z))) (fun w26 hH27 => (zt (seq ?_)))))
  obtain ⟨room, hroom⟩ : ∃ m : Int, 1 + rb % 6 = m := ⟨_, rfl⟩
  have hm1 : 1 ≤ room := by omega
  have hm2 : room ≤ 6 := by omega
  refine region (oM hH27 Z (oY hH27 (jP Tryz.underlying5 Tryz.underlying3 Z (jI om)) (oY hH27 (xO Z Z om om) (oY hH27 (vN hroom (zV Z Z om)) (oY hH27 (yR (v := (.agg #[(.int .i64 room), (.slice none 0 0)])) Z (fun w => by kernel_rfl)) (yD (z := (.agg #[(.int .i64 0), (.slice none 0 0)])) (fun _ => by kernel_rfl) Z Z hH27 (fun b28 w29 hH30 => (zS (n := 0) (j := 0) Z Z hH30 Z T.zAs Z Z Z (by rfl) (fun w31 hH32 => (zt (seq (zr (oA hH32 Z (zt (block ?_)))))))))))))))
  have hH33 := v8 (enc := encI) 3 1 hH32
  refine loop (S := Nat × Value × Nat × Nat) (fun (i, v_b12, lo_b12, hi_b12) => [(13, (.int .i64 (i : Int))), (0, v), (2, vrm), (4, (.int .u8 ub)), (11, (.pointer (some ⟨b23, 0, none⟩))), (12, (.pointer (some ⟨b28, 0, none⟩)))]) (fun (i, v_b12, lo_b12, hi_b12) w1 => Heap [ow lo_b12 hi_b12 3 1 encI v_b12 (Ts.wants BB rm i), bx b28 51 [(.int .i64 room), v_b12], bx b23 48 [ob19, ot20, of21], ⟨lo16, hi17, Rd3 ob19 ot20 of21 BB UU FF⟩, base w] w1 ∧ i ≤ js.length ∧ ∀ j : Nat, j < i → (nth js (j : Int)).1 ≤ 499) (fun (i, v_b12, lo_b12, hi_b12) => js.length - i) (0, (.slice none 0 0), w31.heap.size, w31.heap.size) (uC Z (uC Z (uC Z (uC Z (uC Z (uC Z (Sub.nil _))))))) ?_ ?_
  ·exact ⟨(Heap.y1 (n := 0) hH33 Z (Z)), om, (fun j h => absurd h (Nat.not_lt_zero _))⟩
  rintro ⟨i, v_b12, lo_b12, hi_b12⟩ w34 ⟨hH35, hi, hall⟩
  have hwl := Ts.wants_len BB rm i
  refine seq (zr (oM hH35 Z (oM hH35 Z (oY hH35 (z8 T.xX Z (h0.now hH35 (n := 4) Z).is) (oY hH35 (yL Z Z) (zt ?_))))))
  by_cases hc36 : (i : Int) < (js.length : Int)
  ·refine zO Z (dT hc36) (skip (zN (seq (block (zr (oA hH35 Z (zt (seq (zr (oM hH35 Z (oY hH35 (z8 T.Z4 Z (hrm.now hH35 (n := 4) Z).is) (oY hH35 (xJ Z Z) (zt ?_)))))))))))))
   by_cases hc37 : 0 < (rm.length : Int)
   ·have hrw : Ts.wants BB rm (i + 1) = (Ts.wants BB rm i) ++ [1 + nth rm (nth BB (i : Int) % (rm.length : Int)) % 8] := by show _ ++ [Ts.rwant _ _ _] = _; unfold Ts.rwant; rw [if_pos (by omega)]
    refine zO Z (dT hc37) ?_
    have hBi := (Ts.row_of hOrd).1 (i : Int) (by omega) (by omega)
    have hmo := Int.emod_nonneg (nth BB (i : Int)) (show (rm.length : Int) ≠ 0 by omega)
    have hml := Int.emod_lt_of_pos (nth BB (i : Int)) (show 0 < (rm.length : Int) by omega)
    have hre := hrr (nth rm (nth BB (i : Int) % (rm.length : Int))) (Ts.memI hmo hml)
    refine region (oM hH35 Z (oM hH35 Z (oY hH35 (zI T.q9 Z) (oY hH35 (zE T.xB Z (cw (n := 2) Z Z)) (oM hH35 Z (oY hH35 (zP T.yS Z Z ((Heap.xM hH35 (n := 3) Z).1).is om) (oY hH35 (zE T.yU Z (fun _ hw => Rd.at ((Heap.xM hw (n := 3) Z).1) (i := (i : Int)) om (j := 0) Z)) (oM hH35 Z (oY hH35 (z8 T.Z4 Z (hrm.now hH35 (n := 4) Z).is) (oY hH35 (xO Z Z om om) (oY hH35 (zP T.Z4 Z Z (hrm.now hH35 (n := 4) Z).is om) (oY hH35 (zE T.zBr Z (fun _ hw => Rd.at (hrm.now hw (n := 4) Z) (i := (nth BB (i : Int)) % (rm.length : Int)) om (j := 0) Z)) (oY hH35 (jP Tryz.underlying5 Tryz.underlying3 Z (jI om)) (oY hH35 (xO Z Z om om) (oY hH35 (zV Z Z om) (oA hH35 Z (zs (oY hH35 (zI T.vJ Z) ?_))))))))))))))))))
    refine oY hH35 (zE T.xB Z (cw (n := 1) Z Z)) (oM hH35 Z (z2 T.zA [1 + ((nth rm ((nth BB (i : Int)) % (rm.length : Int))) % 8)] Z (fun w => by kernel_rfl) hH35 (fun u38 lo40 hi41 w39 hH42 => (yB (n := 1) T.zA Z Z Z hH42 Z (Heap.yI T.zA hH42 (n := 0) Z) om2 (fun u43 lo45 hi46 w44 hH47 => (oY hH47 (zI T.vJ Z) (zS (n := 2) (j := 1) Z Z hH47 Z T.ZK (SliceIs.cells (Heap.yI T.zA hH47 (n := 1) Z).is) Z Z (SliceIs.one (Heap.yI T.zA hH47 (n := 1) Z).is) (fun w48 hH49 => (zs (oM hH49 Z (oM hH49 Z (oY hH49 (zP T.xX Z Z (h0.now hH49 (n := 5) Z).is om) (oY hH49 (zI T.uW Z) (oY hH49 (zE T.yT Z (fun _ hw => Rd.at (h0.now hw (n := 5) Z) (i := (i : Int)) om (j := 0) Z)) (oY hH49 (vH Z Z) (zt ?_))))))))))))))))
    by_cases hc50 : 500 ≤ ((nth js (i : Int)).1)
    ·refine zO Z (dT hc50) (zr (zM Z Z Z hH49 (c5) (fun w51 hH52 => (oA hH52 Z (zt (ret (yE (z6 (xY (yE (z6 (fin (hH52.sub (sC (sC (sC (sC (sC sR)))))) (fun w' hf => (yN Z (rt Z))) (fun w' hf => Z)))))))))))))
    refine zL Z (dF hc50) (skip (yC (zN (region (oM hH49 Z (oY hH49 (zV Z Z om) (oA hH49 Z (zC (y0 (i + 1, u43, lo45, hi46) (uC Z (uC Z (uC Z (uC Z (uC Z (uC Z (Sub.nil _))))))) (⟨(Heap.y1 (n := 0) (hH49.sub (sC sR)) Z (by rw [hrw])), om, (fun j hj9 => by rcases Nat.lt_or_ge j i with h | h; exact hall j h; rw [show j = i by omega]; omega)⟩) om3)))))))))
   have hrw : Ts.wants BB rm (i + 1) = (Ts.wants BB rm i) ++ [1] := by show _ ++ [Ts.rwant _ _ _] = _; unfold Ts.rwant; rw [if_neg (by omega)]
   refine zL Z (dF hc37) (skip (zu (oY hH35 (zI T.vJ Z) (oY hH35 (zE T.xB Z (cw (n := 1) Z Z)) (oM hH35 Z (z2 T.zA [1] Z (fun w => by kernel_rfl) hH35 (fun u55 lo57 hi58 w56 hH59 => (yB (n := 1) T.zA Z Z Z hH59 Z (Heap.yI T.zA hH59 (n := 0) Z) om2 (fun u60 lo62 hi63 w61 hH64 => (oY hH64 (zI T.vJ Z) (zS (n := 2) (j := 1) Z Z hH64 Z T.ZK (SliceIs.cells (Heap.yI T.zA hH64 (n := 1) Z).is) Z Z (SliceIs.one (Heap.yI T.zA hH64 (n := 1) Z).is) (fun w65 hH66 => (zs (oM hH66 Z (oM hH66 Z (oY hH66 (zP T.xX Z Z (h0.now hH66 (n := 5) Z).is om) (oY hH66 (zI T.uW Z) (oY hH66 (zE T.yT Z (fun _ hw => Rd.at (h0.now hw (n := 5) Z) (i := (i : Int)) om (j := 0) Z)) (oY hH66 (vH Z Z) ?_)))))))))))))))))))
   refine zt ?_
   by_cases hc67 : 500 ≤ ((nth js (i : Int)).1)
   ·refine zO Z (dT hc67) (zr (zM Z Z Z hH66 (c5) (fun w68 hH69 => (oA hH69 Z (zt (ret (yE (z6 (xY (yE (z6 (fin (hH69.sub (sC (sC (sC (sC (sC sR)))))) (fun w' hf => (yN Z (rt Z))) (fun w' hf => Z)))))))))))))
   refine zL Z (dF hc67) (skip (yC (zN (region (oM hH66 Z (oY hH66 (zV Z Z om) (oA hH66 Z (zC (y0 (i + 1, u60, lo62, hi63) (uC Z (uC Z (uC Z (uC Z (uC Z (uC Z (Sub.nil _))))))) (⟨(Heap.y1 (n := 0) (hH66.sub (sC sR)) Z (by rw [hrw])), om, (fun j hj9 => by rcases Nat.lt_or_ge j i with h | h; exact hall j h; rw [show j = i by omega]; omega)⟩) om3)))))))))
  refine zL Z (dF hc36) (exit (yZ (xF (z7 (zN (seq ?_))))))
  obtain ⟨rule, hrule⟩ : ∃ m : Int, 1 + ub % 3 = m := ⟨_, rfl⟩
  have hu1 : 1 ≤ rule := by omega
  have hu2 : rule ≤ 3 := by omega
  refine region (oM hH35 Z (oY hH35 (xO Z Z om om) (oY hH35 (jP Tryz.underlying5 Tryz.underlying3 Z (jI om)) (oY hH35 (vN hrule (zV Z Z om)) (oA hH35 Z (zt (seq ?_)))))))
  have hie : i = js.length := by omega
  have hck : Sf.ck room (Ts.wants BB rm i) = 0 := Ts.day_of (by omega) ⟨by omega, by omega⟩
  obtain ⟨W, hW⟩ : ∃ W, (Ts.wants BB rm i) = W := ⟨_, rfl⟩
  rw [hW] at hck hwl
  obtain ⟨fe, hfe0⟩ : ∃ f, (Sf.runTo room rule W W.length).mis = f := ⟨_, rfl⟩
  obtain ⟨f3, hf30⟩ : ∃ f, (Sf.runTo room 3 W W.length).mis = f := ⟨_, rfl⟩
  have hfw : Sf.fewest room W = ((f3.length : Int), 0) := by rw [← hf30]; exact Sf.fewest_t hck
  have hq1 : 1 ≤ f3.length := by rw [← hf30]; exact Sf.run_one (by omega) (by omega)
  have hq2 : f3.length ≤ fe.length := by rw [← hf30, ← hfe0]; exact Sf.fewest_le (by omega)
  have hq3 : fe.length ≤ W.length := by rw [← hfe0]; exact (Sf.run_len (by omega) _).2.2
  have hfe : Ts.Fetch js.length fe := by rw [← hfe0]; exact Ts.fetch_at (hwl.trans hie)
  have hH72 := Heap.y1 hH35 (n := 0) Z hW
  refine region (oY hH72 (zW (cs := [(.int .i64 room), v_b12]) T.x3 Z Z (fun _ hw => Heap.yH hw (n := 1) Z (k := 0) Z)) (oM hH72 Z (yV Z Z Z hH72 ((by have h := J9 (room := room) (rule := rule) (Heap.yI T.zA hH72 (n := 0) rfl) om hck ⟨om, om⟩; simp only [hfe0] at h; exact h)) (fun u75 w73 lo76 hi77 hH74 hv78 => ?_))))
  obtain ⟨p80, hu, -⟩ := hv78
  subst hu
  have hH79 := Heap.tup2 hH74 (n := 0) Z
  refine oM hH79 Z (oY hH79 (zH Z Z) (oY hH79 (zH Z Z) (oA hH79 Z (oA hH79 Z (zs (oY hH79 (zW (cs := [(.int .i64 room), v_b12]) T.x3 Z Z (fun _ hw => Heap.yH hw (n := 2) Z (k := 0) Z)) (zM Z Z Z hH79 ((by have h := c15 (room := room) (Heap.yI T.zA hH79 (n := 1) rfl) om; simp only [hfw] at h; exact h)) (fun w81 hH82 => (oM hH82 Z (oY hH82 (zH Z Z) (oY hH82 (zH Z Z) (oA hH82 Z (oA hH82 Z (zt (seq (zr (oM hH82 Z ?_)))))))))))))))))
  refine oY hH82 (yJ Z (yF Z Z)) (oM hH82 Z (zB Z Z Z (oM hH82 Z (zB Z Z Z (oY hH82 (yJ Z (yF Z Z)) (oY hH82 (zT Z Z Z) (oM hH82 Z (zB Z Z Z (oM hH82 Z (zB Z Z Z (oY hH82 (yL Z Z) (oY hH82 (zT Z Z Z) (oM hH82 Z ?_)))))))))))))
  have hc83 : ¬ ((f3.length : Int) < 1) := by omega
  refine zB Z Z (dF hc83) (oM hH82 Z (zB Z Z (dF hc83) (oY hH82 (z8 T.yS Z (Heap.yI T.zA hH82 (n := 0) Z).is) (zB Z Z (dF hc83) (oM hH82 Z (zB Z Z (dF hc83) (oY hH82 (yL Z Z) (oY hH82 (zT Z (dF hc83) Z) (oM hH82 Z ?_)))))))))
  have hc84 : ¬ ((fe.length : Int) < (f3.length : Int)) := by omega
  refine zB Z Z (dF hc84) (oM hH82 Z (zB Z Z (dF hc84) (oY hH82 (z8 T.yS Z (Heap.yI T.zA hH82 (n := 0) Z).is) (zB Z Z (dF hc84) (oM hH82 Z (zB Z Z (dF hc84) (oY hH82 (z8 T.xX Z (h0.now hH82 (n := 5) Z).is) (zB Z Z (dF hc84) (oY hH82 (xJ Z Z) (oY hH82 (zT Z (dF hc84) Z) (oM hH82 Z ?_)))))))))))
  have hc85 : ¬ ((js.length : Int) < (fe.length : Int)) := by omega
  refine zB Z Z (dF hc85) (oM hH82 Z (zB Z Z (dF hc85) (oY hH82 (y5 Z Z) (zB Z Z (dF hc85) (oM hH82 Z ?_)))))
  by_cases hc86 : rule = 3
  ·have hr3 : rule = 3 := by have hq := (decide_eq_true hc86); simpa using hq
   have hre : (fe.length : Int) = (f3.length : Int) := by rw [← hfe0, ← hf30, hr3]
   refine zB Z Z (dT hc86) (oM hH82 Z (zB Z Z (dT hc86) (oY hH82 (z8 T.yS Z (Heap.yI T.zA hH82 (n := 0) Z).is) (zB Z Z (dT hc86) (oM hH82 Z (zB Z Z (dT hc86) (oY hH82 (yF Z Z) (zB Z Z (dF hc85) (oY hH82 (zU Z (dT hc86) Z) (oY hH82 (zT Z (dF hc85) Z) (zt ?_)))))))))))
   have hc87 : ¬ (¬ ((fe.length : Int) = (f3.length : Int))) := fun h => h hre
   refine zL Z (vC hc87) (skip (zN (seq ?_)))
   have hb9 : ∀ j : Nat, j < js.length → (nth js (j : Int)).1 ≤ 499 := fun j hj9 => hall j (by omega)
   refine region (z2 T.yW ([] : List (Int × Int)) Z (fun w => by kernel_rfl) hH82 (fun u88 lo90 hi91 w89 hH92 => (oM hH92 Z (yB (n := 0) T.yW Z Z Z hH92 Z (h0.now hH92 (n := 6) Z) om2 (fun u93 lo95 hi96 w94 hH97 => (oA hH97 Z (zt (seq (zr (oA hH97 Z (zt (block (loop (S := Nat × Value × Nat × Nat) (fun (k, v_20, lo_20, hi_20) => [(21, (.int .i64 (k : Int))), (20, v_20), (0, v), (11, (.pointer (some ⟨b23, 0, none⟩))), (16, p80), (17, (.int .i64 0)), (18, (.int .i64 (f3.length : Int))), (19, (.int .i64 0))]) (fun (k, v_20, lo_20, hi_20) w1 => Heap [ow lo_20 hi_20 36 2 encP v_20 (Ts.inc js BB fe k), ow lo76 hi77 3 1 encI p80 fe, ow lo_b12 hi_b12 3 1 encI v_b12 W, bx b28 51 [(.int .i64 room), v_b12], bx b23 48 [ob19, ot20, of21], ⟨lo16, hi17, Rd3 ob19 ot20 of21 BB UU FF⟩, base w] w1 ∧ k ≤ fe.length) (fun (k, v_20, lo_20, hi_20) => fe.length - k) (0, u93, lo95, hi96) (uC Z (uC Z (uC Z (uC Z (uC Z (uC Z (uC Z (uC Z (Sub.nil _))))))))) ?_ ?_)))))))))))))
   ·exact ⟨(Heap.y1 (n := 0) hH97 Z (Z)), om⟩
   rintro ⟨k, v_20, lo_20, hi_20⟩ w98 ⟨hH99, hk⟩
   have hXl := Ts.inc_len js BB fe k
   refine seq (zr (oM hH99 Z (oM hH99 Z (oY hH99 (z8 T.yS Z (Heap.yI T.zA hH99 (n := 1) Z).is) (oY hH99 (yL Z Z) (zt ?_))))))
   by_cases hc100 : (k : Int) < (fe.length : Int)
   ·refine zO Z (dT hc100) (skip (zN (seq (block (seq (seq ?_))))))
    have hfb := hfe.bd k (by omega)
    refine zY (fun w' => Heap [ow lo_20 hi_20 36 2 encP v_20 (Ts.inc js BB fe k), ow lo76 hi77 3 1 encI p80 fe, ow lo_b12 hi_b12 3 1 encI v_b12 W, bx b28 51 [(.int .i64 room), v_b12], bx b23 48 [ob19, ot20, of21], ⟨lo16, hi17, Rd3 ob19 ot20 of21 BB UU FF⟩, base w] w') T.mixed (fun w101 hr102 => ?_)
    have hH103 := hH99.redrawn hr102
    refine zK [0, 1, 2, 3, 4, 5, 6, 7, 8, 9, 10, 11, 12, 13, 14, 15, 16, 17] kz hH103 _ _ _ kz (qM Z Z Z (qM Z Z Z (zJ Z Z (zP T.yS Z Z (Heap.yI T.zA hH103 (n := 1) Z).is om) (zJ Z Z (zE T.yU Z (fun _ hw => Rd.at (Heap.yI T.zA hw (n := 1) Z) (i := (k : Int)) om (j := 0) Z)) (zJ Z Z (yJ (dF om) (yL Z Z)) (qM Z Z Z (zZ Z Z Z Z Z (yX Z) (zZ Z Z Z Z Z (yX Z) (zZ Z Z Z Z Z (zP T.yS Z Z (Heap.yI T.zA hH103 (n := 1) Z).is om) (zZ Z Z Z Z Z (zE T.yU Z (fun _ hw => Rd.at (Heap.yI T.zA hw (n := 1) Z) (i := (k : Int)) om (j := 0) Z)) (zZ Z Z Z Z Z (yX Z) (zZ Z Z Z Z Z (z8 T.xX Z (h0.now hH103 (n := 6) Z).is) (zZ Z Z Z Z Z (yJ (dF om) (vH Z Z)) (zJ Z Z (zT Z Z Z) (qM Z Z Z (zZ Z Z Z Z Z (yX Z) (zZ Z Z Z Z Z (xJ Z Z) (zZ Z Z Z Z Z (yX Z) (zQ ?_)))))))))))))))))))
    by_cases hc104 : 0 < (k : Int)
    ·refine zK [18, 19, 20, 21, 22, 23, 24, 25, 26, 27, 28, 29] kz hH103 _ _ _ kz (zZ Z Z Z (dT hc104) Z (yX Z) (zZ Z Z Z (dT hc104) Z (yX Z) (zZ Z Z Z (dT hc104) Z (zP T.yS Z Z (Heap.yI T.zA hH103 (n := 1) Z).is om) (zZ Z Z Z (dT hc104) Z (zE T.yU Z (fun _ hw => Rd.at (Heap.yI T.zA hw (n := 1) Z) (i := (k : Int)) om (j := 0) Z)) (zZ Z Z Z (dT hc104) Z (yX Z) (zZ Z Z Z (dT hc104) Z (yX Z) (zZ Z Z Z (dT hc104) Z (y8 Z Z om) (zZ Z Z Z (dT hc104) Z (zP T.yS Z Z (Heap.yI T.zA hH103 (n := 1) Z).is om) (zZ Z Z Z (dT hc104) Z (zE T.yU Z (fun _ hw => Rd.at (Heap.yI T.zA hw (n := 1) Z) (i := (k : Int) - 1) om (j := 0) Z)) (zZ Z Z Z (dT hc104) Z (yJ (dF (by have h9 := hfe.ne (i := k - 1) (j := k) om om; rw [show ((k - 1 : Nat) : Int) = (k : Int) - 1 by omega] at h9; omega)) (uS Z Z)) (zZ Z Z Z Z Z (zU Z (dT hc104) Z) (zJ Z Z (zT Z Z Z) (zQ (zX kz (zN (zL Z Z (skip (zN ?_))))))))))))))))))
     have hfb2 := hfe.bd k (by omega)
     have hBk := Ts.inc_at hOrd hfe (k := k) (by omega)
     obtain ⟨o1, o2, o3, o4⟩ := (Ts.inc_jobs hj hOrd hfe hb9 (k := k) (by omega)).nth hBk.1 hBk.2
     refine vD (fun w' => Heap [ow lo_20 hi_20 36 2 encP v_20 (Ts.inc js BB fe k), ow lo76 hi77 3 1 encI p80 fe, ow lo_b12 hi_b12 3 1 encI v_b12 W, bx b28 51 [(.int .i64 room), v_b12], bx b23 48 [ob19, ot20, of21], ⟨lo16, hi17, Rd3 ob19 ot20 of21 BB UU FF⟩, base w] w') [15] T.mixed (fun w105 hr106 => ?_)
     have hH107 := hH103.redrawn hr106
     refine y2 [0, 1, 3, 4, 5] kz  _ _ _ kz (qM Z Z Z (zJ Z Z (zI T.q9 Z) (qM Z Z Z (qM Z Z Z (zJ Z Z (zP T.yS Z Z (Heap.yI T.zA hH107 (n := 1) Z).is om) (zQ (xQ [2, 6] kz hH107 _ _ _ kz (zJ Z Z (zE T.xB Z (cw (n := 4) Z Z)) (zJ Z Z (zE T.yU Z (fun _ hw => Rd.at (Heap.yI T.zA hw (n := 1) Z) (i := (k : Int)) om (j := 0) Z)) (zQ (y2 [7] kz  _ _ _ kz (zJ Z Z (zP T.yS Z Z ((Heap.xM hH107 (n := 5) Z).1).is om) (zQ (xQ [8] kz hH107 _ _ _ kz (zJ Z Z (zE T.yU Z (fun _ hw => Rd.at ((Heap.xM hw (n := 5) Z).1) (i := nth fe (k : Int)) om (j := 0) Z)) (zQ (y2 [9, 10] kz  _ _ _ kz (zJ Z Z (zP T.xX Z Z (Heap.yI T.yW hH107 (n := 0) Z).is om) (zJ Z Z (zI T.uW Z) (zQ (xQ [11] kz hH107 _ _ _ kz ?_)))))))))))))))))))))
     refine zJ Z Z (zE T.yT Z (fun _ hw => Rd.at (Heap.yI T.yW hw (n := 0) Z) (i := nth BB (nth fe (k : Int))) om (j := 0) Z)) (zQ (y2 [12, 13, 14] kz  _ _ _ kz (zJ Z Z (zV Z Z om) (zJ Z Z (zP T.xX Z Z (Heap.yI T.yW hH107 (n := 0) Z).is om) (zJ Z Z (zI T.uW Z) (zQ (xE [15] kz Z (⟨⟨_, Z, (x4 (n := 0) (i := nth BB (nth fe (k : Int))) (k := 0) (us := [(.int .i64 (((nth (Ts.inc js BB fe k) (nth BB (nth fe (k : Int)))).1) + 1))]) (z := (((nth (Ts.inc js BB fe k) (nth BB (nth fe (k : Int)))).1) + 1, (nth (Ts.inc js BB fe k) (nth BB (nth fe (k : Int)))).2)) T.yW Z Z hH107 Z om T.sz2 Z Z Z (Nat.le_of_ble_eq_true Z) (fun w108 hH109 => (zC (⟨(fun h => by cases h), (vY kz (yC (zN (region (oM hH109 Z (oY hH109 (zV Z Z om) (oA hH109 Z (zC (y0 (k + 1, v_20, lo_20, hi_20) (uC Z (uC Z (uC Z (uC Z (uC Z (uC Z (uC Z (uC Z (Sub.nil _))))))))) (⟨(Heap.y1 (n := 0) hH109 Z (Z)), om⟩) om3)))))))))⟩))))⟩, trivial⟩))))))))
    refine zK [18, 19, 20, 21, 22, 23, 24, 25, 26, 27, 28, 29] kz hH103 _ _ _ kz (yO Z Z Z (dF hc104) Z (yO Z Z Z (dF hc104) Z (yO Z Z Z (dF hc104) Z (yO Z Z Z (dF hc104) Z (yO Z Z Z (dF hc104) Z (yO Z Z Z (dF hc104) Z (yO Z Z Z (dF hc104) Z (yO Z Z Z (dF hc104) Z (yO Z Z Z (dF hc104) Z (yO Z Z Z (dF hc104) Z (zZ Z Z Z Z Z (zT Z (dF hc104) Z) (zJ Z Z (zT Z Z Z) (zQ (zX kz (zN (zL Z Z (skip (zN ?_))))))))))))))))))
    have hfb2 := hfe.bd k (by omega)
    have hBk := Ts.inc_at hOrd hfe (k := k) (by omega)
    obtain ⟨o1, o2, o3, o4⟩ := (Ts.inc_jobs hj hOrd hfe hb9 (k := k) (by omega)).nth hBk.1 hBk.2
    refine vD (fun w' => Heap [ow lo_20 hi_20 36 2 encP v_20 (Ts.inc js BB fe k), ow lo76 hi77 3 1 encI p80 fe, ow lo_b12 hi_b12 3 1 encI v_b12 W, bx b28 51 [(.int .i64 room), v_b12], bx b23 48 [ob19, ot20, of21], ⟨lo16, hi17, Rd3 ob19 ot20 of21 BB UU FF⟩, base w] w') [15] T.mixed (fun w110 hr111 => ?_)
    have hH112 := hH103.redrawn hr111
    refine y2 [0, 1, 3, 4, 5] kz  _ _ _ kz (qM Z Z Z (zJ Z Z (zI T.q9 Z) (qM Z Z Z (qM Z Z Z (zJ Z Z (zP T.yS Z Z (Heap.yI T.zA hH112 (n := 1) Z).is om) (zQ (xQ [2, 6] kz hH112 _ _ _ kz (zJ Z Z (zE T.xB Z (cw (n := 4) Z Z)) (zJ Z Z (zE T.yU Z (fun _ hw => Rd.at (Heap.yI T.zA hw (n := 1) Z) (i := (k : Int)) om (j := 0) Z)) (zQ (y2 [7] kz  _ _ _ kz (zJ Z Z (zP T.yS Z Z ((Heap.xM hH112 (n := 5) Z).1).is om) (zQ (xQ [8] kz hH112 _ _ _ kz (zJ Z Z (zE T.yU Z (fun _ hw => Rd.at ((Heap.xM hw (n := 5) Z).1) (i := nth fe (k : Int)) om (j := 0) Z)) (zQ (y2 [9, 10] kz  _ _ _ kz (zJ Z Z (zP T.xX Z Z (Heap.yI T.yW hH112 (n := 0) Z).is om) (zJ Z Z (zI T.uW Z) (zQ (xQ [11] kz hH112 _ _ _ kz ?_)))))))))))))))))))))
    refine zJ Z Z (zE T.yT Z (fun _ hw => Rd.at (Heap.yI T.yW hw (n := 0) Z) (i := nth BB (nth fe (k : Int))) om (j := 0) Z)) (zQ (y2 [12, 13, 14] kz  _ _ _ kz (zJ Z Z (zV Z Z om) (zJ Z Z (zP T.xX Z Z (Heap.yI T.yW hH112 (n := 0) Z).is om) (zJ Z Z (zI T.uW Z) (zQ (xE [15] kz Z (⟨⟨_, Z, (x4 (n := 0) (i := nth BB (nth fe (k : Int))) (k := 0) (us := [(.int .i64 (((nth (Ts.inc js BB fe k) (nth BB (nth fe (k : Int)))).1) + 1))]) (z := (((nth (Ts.inc js BB fe k) (nth BB (nth fe (k : Int)))).1) + 1, (nth (Ts.inc js BB fe k) (nth BB (nth fe (k : Int)))).2)) T.yW Z Z hH112 Z om T.sz2 Z Z Z (Nat.le_of_ble_eq_true Z) (fun w113 hH114 => (zC (⟨(fun h => by cases h), (vY kz (yC (zN (region (oM hH114 Z (oY hH114 (zV Z Z om) (oA hH114 Z (zC (y0 (k + 1, v_20, lo_20, hi_20) (uC Z (uC Z (uC Z (uC Z (uC Z (uC Z (uC Z (uC Z (Sub.nil _))))))))) (⟨(Heap.y1 (n := 0) hH114 Z (Z)), om⟩) om3)))))))))⟩))))⟩, trivial⟩))))))))
   refine zL Z (dF hc100) (exit (yZ (xF (z7 (zN (seq ?_))))))
   have hke : k = fe.length := by omega
   have hXj := Ts.inc_jobs hj hOrd hfe hb9 (k := k) (by omega)
   have hb1 := Ts.bound_of hj
   have hb2 := Ts.bound_of hXj
   have hsum := (Ts.inc_ok hOrd hfe k (by omega)).2
   have hO2 : S.Ord (Ts.inc js BB fe k).length BB UU FF := by rw [hXl]; exact hOrd
   have hco := S.checkOrder_iff.2 ⟨hXj, hO2⟩
   have hpe := S.play_err hXj hco
   have hsb := S.sumOf_bd hj (b := 0) (by omega) (by omega)
   have hpl := S.play_len2 (l := (Ts.inc js BB fe k)) (B := BB) (U := UU) (F := FF)
   refine region (oM hH99 Z ?_)
   have hev117 : Fn Tryz.prog 16 [v, (.int .i64 0), (.int .i64 0)].toArray _ _ := c16 (h0.now hH99 (n := 6) rfl) (by omega)
   simp only [hb1] at hev117
   refine zM Z Z Z hH99 (hev117) (fun w115 hH116 => (oM hH116 Z (oY hH116 (zH Z Z) (oY hH116 (zH Z Z) (oA hH116 Z (oA hH116 Z (zs (oM hH116 Z ?_))))))))
   have hev120 : Fn Tryz.prog 16 [v_20, (.int .i64 0), (.int .i64 0)].toArray _ _ := c16 (Heap.yI T.yW hH116 (n := 0) rfl) (by omega)
   simp only [hb2] at hev120
   refine zM Z Z Z hH116 (hev120) (fun w118 hH119 => (oM hH119 Z (oY hH119 (zH Z Z) (oY hH119 (zH Z Z) (oA hH119 Z (oA hH119 Z (zt (seq (zr (oM hH119 Z (oY hH119 (yJ Z (yF Z Z)) (oM hH119 Z (zB Z Z Z (oM hH119 Z (zB Z Z Z (oY hH119 (yJ Z (yF Z Z)) (oY hH119 (zT Z Z Z) (oM hH119 Z (zB Z Z Z (oM hH119 Z ?_))))))))))))))))))))
   refine zB Z Z Z (oM hH119 Z (zB Z Z Z (oM hH119 Z (zB Z Z Z (oY hH119 (z8 T.yS Z (Heap.yI T.zA hH119 (n := 1) Z).is) (zB Z Z Z (oY hH119 (zV Z Z om) (zB Z Z Z (oY hH119 (yF Z Z) (oY hH119 (zT Z Z Z) (zt ?_)))))))))))
   have hc121 : ¬ (¬ ((S.sumOf (Ts.inc js BB fe k) 0) = ((S.sumOf js 0) + (fe.length : Int)))) := fun h => h (by omega)
   refine zL Z (vC hc121) (skip (zu (oM hH119 Z (oY hH119 (zW (cs := [ob19, ot20, of21]) T.uF Z Z (fun _ hw => Heap.yH hw (n := 4) Z (k := 0) Z)) (yV Z Z Z hH119 (c17 (Heap.yI T.yW hH119 (n := 0) Z) ((Heap.xM hH119 (n := 5) Z).1) ((Heap.xM hH119 (n := 5) Z).2.1) ((Heap.xM hH119 (n := 5) Z).2.2) om om om om) (fun u124 w122 lo125 hi126 hH123 hv127 => ?_))))))
   obtain ⟨p129, hu, -⟩ := hv127
   subst hu
   have hH128 := Heap.tup2 hH123 (n := 0) Z
   refine oM hH128 Z (oY hH128 (zH Z Z) (oY hH128 (zH Z Z) (oA hH128 Z (oA hH128 Z (zt (seq (zr (oM hH128 Z (oY hH128 (yF Z Z) (zt ?_))))))))))
   by_cases hc130 : ((S.play (Ts.inc js BB fe k) BB UU FF).2) = 0
   ·have hp0 : (S.play (Ts.inc js BB fe k) BB UU FF).2 = 0 := by have hq := (zG hc130); simpa using hq
    have hcp := Ts.play_check hXj hO2 hp0
    have hle := Ts.sum_le_end hXj hcp
    refine zL Z (zG hc130) (skip (zu (oM hH128 Z (oM hH128 Z ?_))))
    have hev133 : Fn Tryz.prog 11 [v_20, p129].toArray _ _ := c11 (Heap.yI T.yW hH128 (n := 1) rfl) (Heap.yI T.xT hH128 (n := 0) rfl) (by omega) (by omega)
    simp only [hcp] at hev133
    refine zM Z Z Z hH128 (hev133) (fun w131 hH132 => (oM hH132 Z (oY hH132 (zH Z Z) (oY hH132 (zH Z Z) (oA hH132 Z (oA hH132 Z (zs (oM hH132 Z (oY hH132 (yJ Z (y5 Z Z)) (oM hH132 Z (zB Z Z Z (oM hH132 Z (zB Z Z Z (oM hH132 Z (zB Z Z Z (oM hH132 Z (zB Z Z Z (oY hH132 (zV Z Z om) (zB Z Z Z ?_)))))))))))))))))))
    refine oY hH132 (vH Z Z) (oY hH132 (zU Z Z Z) (oM hH132 Z ?_))
    have hc134 : ((S.sumOf js 0) + (f3.length : Int)) ≤ (S.endOf (Ts.inc js BB fe k) (S.play (Ts.inc js BB fe k) BB UU FF).1) := by omega
    refine zB Z Z (dT hc134) (zM Z Z Z hH132 (c5) (fun w135 hH136 => (oY hH136 (zU Z (dT hc134) Z) (oA hH136 Z (zt (ret (fin (hH136.sub (sC (sC (sC (sC (sC (sC (sC sR)))))))) (fun w' hf => (yN Z (rt Z))) (fun w' hf => Z))))))))
   refine zO Z (zF hc130) (zr (oM hH128 Z (oY hH128 (y5 Z Z) (oM hH128 Z ?_))))
   have hc138 : ((S.play (Ts.inc js BB fe k) BB UU FF).2) = 13 := by omega
   refine zB Z Z (dT hc138) (zM Z Z Z hH128 (c5) (fun w139 hH140 => (oY hH140 (zU Z (dT hc138) Z) (oA hH140 Z (zt (ret (z6 (fin (hH140.sub (sC (sC (sC (sC (sC (sC (sC sR)))))))) (fun w' hf => (yN Z (rt Z))) (fun w' hf => Z)))))))))
  refine zD Z Z (dF hc86) Z (zD Z Z (dF hc86) Z (zD Z Z (dF hc86) Z (zD Z Z (dF hc86) Z (zB Z Z (dF hc85) (oY hH82 (zT Z (dF hc86) Z) (oY hH82 (zT Z (dF hc85) Z) (zt (zL Z Z (skip (zN (seq ?_)))))))))))
  have hb9 : ∀ j : Nat, j < js.length → (nth js (j : Int)).1 ≤ 499 := fun j hj9 => hall j (by omega)
  refine region (z2 T.yW ([] : List (Int × Int)) Z (fun w => by kernel_rfl) hH82 (fun u142 lo144 hi145 w143 hH146 => (oM hH146 Z (yB (n := 0) T.yW Z Z Z hH146 Z (h0.now hH146 (n := 6) Z) om2 (fun u147 lo149 hi150 w148 hH151 => (oA hH151 Z (zt (seq (zr (oA hH151 Z (zt (block (loop (S := Nat × Value × Nat × Nat) (fun (k, v_20, lo_20, hi_20) => [(21, (.int .i64 (k : Int))), (20, v_20), (0, v), (11, (.pointer (some ⟨b23, 0, none⟩))), (16, p80), (17, (.int .i64 0)), (18, (.int .i64 (f3.length : Int))), (19, (.int .i64 0))]) (fun (k, v_20, lo_20, hi_20) w1 => Heap [ow lo_20 hi_20 36 2 encP v_20 (Ts.inc js BB fe k), ow lo76 hi77 3 1 encI p80 fe, ow lo_b12 hi_b12 3 1 encI v_b12 W, bx b28 51 [(.int .i64 room), v_b12], bx b23 48 [ob19, ot20, of21], ⟨lo16, hi17, Rd3 ob19 ot20 of21 BB UU FF⟩, base w] w1 ∧ k ≤ fe.length) (fun (k, v_20, lo_20, hi_20) => fe.length - k) (0, u147, lo149, hi150) (uC Z (uC Z (uC Z (uC Z (uC Z (uC Z (uC Z (uC Z (Sub.nil _))))))))) ?_ ?_)))))))))))))
  ·exact ⟨(Heap.y1 (n := 0) hH151 Z (Z)), om⟩
  rintro ⟨k, v_20, lo_20, hi_20⟩ w152 ⟨hH153, hk⟩
  have hXl := Ts.inc_len js BB fe k
  refine seq (zr (oM hH153 Z (oM hH153 Z (oY hH153 (z8 T.yS Z (Heap.yI T.zA hH153 (n := 1) Z).is) (oY hH153 (yL Z Z) (zt ?_))))))
  by_cases hc154 : (k : Int) < (fe.length : Int)
  ·refine zO Z (dT hc154) (skip (zN (seq (block (seq (seq ?_))))))
   have hfb := hfe.bd k (by omega)
   refine zY (fun w' => Heap [ow lo_20 hi_20 36 2 encP v_20 (Ts.inc js BB fe k), ow lo76 hi77 3 1 encI p80 fe, ow lo_b12 hi_b12 3 1 encI v_b12 W, bx b28 51 [(.int .i64 room), v_b12], bx b23 48 [ob19, ot20, of21], ⟨lo16, hi17, Rd3 ob19 ot20 of21 BB UU FF⟩, base w] w') T.mixed (fun w155 hr156 => ?_)
   have hH157 := hH153.redrawn hr156
   refine zK [0, 1, 2, 3, 4, 5, 6, 7, 8, 9, 10, 11, 12, 13, 14, 15, 16, 17] kz hH157 _ _ _ kz (qM Z Z Z (qM Z Z Z (zJ Z Z (zP T.yS Z Z (Heap.yI T.zA hH157 (n := 1) Z).is om) (zJ Z Z (zE T.yU Z (fun _ hw => Rd.at (Heap.yI T.zA hw (n := 1) Z) (i := (k : Int)) om (j := 0) Z)) (zJ Z Z (yJ (dF om) (yL Z Z)) (qM Z Z Z (zZ Z Z Z Z Z (yX Z) (zZ Z Z Z Z Z (yX Z) (zZ Z Z Z Z Z (zP T.yS Z Z (Heap.yI T.zA hH157 (n := 1) Z).is om) (zZ Z Z Z Z Z (zE T.yU Z (fun _ hw => Rd.at (Heap.yI T.zA hw (n := 1) Z) (i := (k : Int)) om (j := 0) Z)) (zZ Z Z Z Z Z (yX Z) (zZ Z Z Z Z Z (z8 T.xX Z (h0.now hH157 (n := 6) Z).is) (zZ Z Z Z Z Z (yJ (dF om) (vH Z Z)) (zJ Z Z (zT Z Z Z) (qM Z Z Z (zZ Z Z Z Z Z (yX Z) (zZ Z Z Z Z Z (xJ Z Z) (zZ Z Z Z Z Z (yX Z) (zQ ?_)))))))))))))))))))
   by_cases hc158 : 0 < (k : Int)
   ·refine zK [18, 19, 20, 21, 22, 23, 24, 25, 26, 27, 28, 29] kz hH157 _ _ _ kz (zZ Z Z Z (dT hc158) Z (yX Z) (zZ Z Z Z (dT hc158) Z (yX Z) (zZ Z Z Z (dT hc158) Z (zP T.yS Z Z (Heap.yI T.zA hH157 (n := 1) Z).is om) (zZ Z Z Z (dT hc158) Z (zE T.yU Z (fun _ hw => Rd.at (Heap.yI T.zA hw (n := 1) Z) (i := (k : Int)) om (j := 0) Z)) (zZ Z Z Z (dT hc158) Z (yX Z) (zZ Z Z Z (dT hc158) Z (yX Z) (zZ Z Z Z (dT hc158) Z (y8 Z Z om) (zZ Z Z Z (dT hc158) Z (zP T.yS Z Z (Heap.yI T.zA hH157 (n := 1) Z).is om) (zZ Z Z Z (dT hc158) Z (zE T.yU Z (fun _ hw => Rd.at (Heap.yI T.zA hw (n := 1) Z) (i := (k : Int) - 1) om (j := 0) Z)) (zZ Z Z Z (dT hc158) Z (yJ (dF (by have h9 := hfe.ne (i := k - 1) (j := k) om om; rw [show ((k - 1 : Nat) : Int) = (k : Int) - 1 by omega] at h9; omega)) (uS Z Z)) (zZ Z Z Z Z Z (zU Z (dT hc158) Z) (zJ Z Z (zT Z Z Z) (zQ (zX kz (zN (zL Z Z (skip (zN ?_))))))))))))))))))
    have hfb2 := hfe.bd k (by omega)
    have hBk := Ts.inc_at hOrd hfe (k := k) (by omega)
    obtain ⟨o1, o2, o3, o4⟩ := (Ts.inc_jobs hj hOrd hfe hb9 (k := k) (by omega)).nth hBk.1 hBk.2
    refine vD (fun w' => Heap [ow lo_20 hi_20 36 2 encP v_20 (Ts.inc js BB fe k), ow lo76 hi77 3 1 encI p80 fe, ow lo_b12 hi_b12 3 1 encI v_b12 W, bx b28 51 [(.int .i64 room), v_b12], bx b23 48 [ob19, ot20, of21], ⟨lo16, hi17, Rd3 ob19 ot20 of21 BB UU FF⟩, base w] w') [15] T.mixed (fun w159 hr160 => ?_)
    have hH161 := hH157.redrawn hr160
    refine y2 [0, 1, 3, 4, 5] kz  _ _ _ kz (qM Z Z Z (zJ Z Z (zI T.q9 Z) (qM Z Z Z (qM Z Z Z (zJ Z Z (zP T.yS Z Z (Heap.yI T.zA hH161 (n := 1) Z).is om) (zQ (xQ [2, 6] kz hH161 _ _ _ kz (zJ Z Z (zE T.xB Z (cw (n := 4) Z Z)) (zJ Z Z (zE T.yU Z (fun _ hw => Rd.at (Heap.yI T.zA hw (n := 1) Z) (i := (k : Int)) om (j := 0) Z)) (zQ (y2 [7] kz  _ _ _ kz (zJ Z Z (zP T.yS Z Z ((Heap.xM hH161 (n := 5) Z).1).is om) (zQ (xQ [8] kz hH161 _ _ _ kz (zJ Z Z (zE T.yU Z (fun _ hw => Rd.at ((Heap.xM hw (n := 5) Z).1) (i := nth fe (k : Int)) om (j := 0) Z)) (zQ (y2 [9, 10] kz  _ _ _ kz (zJ Z Z (zP T.xX Z Z (Heap.yI T.yW hH161 (n := 0) Z).is om) (zJ Z Z (zI T.uW Z) (zQ (xQ [11] kz hH161 _ _ _ kz ?_)))))))))))))))))))))
    refine zJ Z Z (zE T.yT Z (fun _ hw => Rd.at (Heap.yI T.yW hw (n := 0) Z) (i := nth BB (nth fe (k : Int))) om (j := 0) Z)) (zQ (y2 [12, 13, 14] kz  _ _ _ kz (zJ Z Z (zV Z Z om) (zJ Z Z (zP T.xX Z Z (Heap.yI T.yW hH161 (n := 0) Z).is om) (zJ Z Z (zI T.uW Z) (zQ (xE [15] kz Z (⟨⟨_, Z, (x4 (n := 0) (i := nth BB (nth fe (k : Int))) (k := 0) (us := [(.int .i64 (((nth (Ts.inc js BB fe k) (nth BB (nth fe (k : Int)))).1) + 1))]) (z := (((nth (Ts.inc js BB fe k) (nth BB (nth fe (k : Int)))).1) + 1, (nth (Ts.inc js BB fe k) (nth BB (nth fe (k : Int)))).2)) T.yW Z Z hH161 Z om T.sz2 Z Z Z (Nat.le_of_ble_eq_true Z) (fun w162 hH163 => (zC (⟨(fun h => by cases h), (vY kz (yC (zN (region (oM hH163 Z (oY hH163 (zV Z Z om) (oA hH163 Z (zC (y0 (k + 1, v_20, lo_20, hi_20) (uC Z (uC Z (uC Z (uC Z (uC Z (uC Z (uC Z (uC Z (Sub.nil _))))))))) (⟨(Heap.y1 (n := 0) hH163 Z (Z)), om⟩) om3)))))))))⟩))))⟩, trivial⟩))))))))
   refine zK [18, 19, 20, 21, 22, 23, 24, 25, 26, 27, 28, 29] kz hH157 _ _ _ kz (yO Z Z Z (dF hc158) Z (yO Z Z Z (dF hc158) Z (yO Z Z Z (dF hc158) Z (yO Z Z Z (dF hc158) Z (yO Z Z Z (dF hc158) Z (yO Z Z Z (dF hc158) Z (yO Z Z Z (dF hc158) Z (yO Z Z Z (dF hc158) Z (yO Z Z Z (dF hc158) Z (yO Z Z Z (dF hc158) Z (zZ Z Z Z Z Z (zT Z (dF hc158) Z) (zJ Z Z (zT Z Z Z) (zQ (zX kz (zN (zL Z Z (skip (zN ?_))))))))))))))))))
   have hfb2 := hfe.bd k (by omega)
   have hBk := Ts.inc_at hOrd hfe (k := k) (by omega)
   obtain ⟨o1, o2, o3, o4⟩ := (Ts.inc_jobs hj hOrd hfe hb9 (k := k) (by omega)).nth hBk.1 hBk.2
   refine vD (fun w' => Heap [ow lo_20 hi_20 36 2 encP v_20 (Ts.inc js BB fe k), ow lo76 hi77 3 1 encI p80 fe, ow lo_b12 hi_b12 3 1 encI v_b12 W, bx b28 51 [(.int .i64 room), v_b12], bx b23 48 [ob19, ot20, of21], ⟨lo16, hi17, Rd3 ob19 ot20 of21 BB UU FF⟩, base w] w') [15] T.mixed (fun w164 hr165 => ?_)
   have hH166 := hH157.redrawn hr165
   refine y2 [0, 1, 3, 4, 5] kz  _ _ _ kz (qM Z Z Z (zJ Z Z (zI T.q9 Z) (qM Z Z Z (qM Z Z Z (zJ Z Z (zP T.yS Z Z (Heap.yI T.zA hH166 (n := 1) Z).is om) (zQ (xQ [2, 6] kz hH166 _ _ _ kz (zJ Z Z (zE T.xB Z (cw (n := 4) Z Z)) (zJ Z Z (zE T.yU Z (fun _ hw => Rd.at (Heap.yI T.zA hw (n := 1) Z) (i := (k : Int)) om (j := 0) Z)) (zQ (y2 [7] kz  _ _ _ kz (zJ Z Z (zP T.yS Z Z ((Heap.xM hH166 (n := 5) Z).1).is om) (zQ (xQ [8] kz hH166 _ _ _ kz (zJ Z Z (zE T.yU Z (fun _ hw => Rd.at ((Heap.xM hw (n := 5) Z).1) (i := nth fe (k : Int)) om (j := 0) Z)) (zQ (y2 [9, 10] kz  _ _ _ kz (zJ Z Z (zP T.xX Z Z (Heap.yI T.yW hH166 (n := 0) Z).is om) (zJ Z Z (zI T.uW Z) (zQ (xQ [11] kz hH166 _ _ _ kz ?_)))))))))))))))))))))
   refine zJ Z Z (zE T.yT Z (fun _ hw => Rd.at (Heap.yI T.yW hw (n := 0) Z) (i := nth BB (nth fe (k : Int))) om (j := 0) Z)) (zQ (y2 [12, 13, 14] kz  _ _ _ kz (zJ Z Z (zV Z Z om) (zJ Z Z (zP T.xX Z Z (Heap.yI T.yW hH166 (n := 0) Z).is om) (zJ Z Z (zI T.uW Z) (zQ (xE [15] kz Z (⟨⟨_, Z, (x4 (n := 0) (i := nth BB (nth fe (k : Int))) (k := 0) (us := [(.int .i64 (((nth (Ts.inc js BB fe k) (nth BB (nth fe (k : Int)))).1) + 1))]) (z := (((nth (Ts.inc js BB fe k) (nth BB (nth fe (k : Int)))).1) + 1, (nth (Ts.inc js BB fe k) (nth BB (nth fe (k : Int)))).2)) T.yW Z Z hH166 Z om T.sz2 Z Z Z (Nat.le_of_ble_eq_true Z) (fun w167 hH168 => (zC (⟨(fun h => by cases h), (vY kz (yC (zN (region (oM hH168 Z (oY hH168 (zV Z Z om) (oA hH168 Z (zC (y0 (k + 1, v_20, lo_20, hi_20) (uC Z (uC Z (uC Z (uC Z (uC Z (uC Z (uC Z (uC Z (Sub.nil _))))))))) (⟨(Heap.y1 (n := 0) hH168 Z (Z)), om⟩) om3)))))))))⟩))))⟩, trivial⟩))))))))
  refine zL Z (dF hc154) (exit (yZ (xF (z7 (zN (seq ?_))))))
  have hke : k = fe.length := by omega
  have hXj := Ts.inc_jobs hj hOrd hfe hb9 (k := k) (by omega)
  have hb1 := Ts.bound_of hj
  have hb2 := Ts.bound_of hXj
  have hsum := (Ts.inc_ok hOrd hfe k (by omega)).2
  have hO2 : S.Ord (Ts.inc js BB fe k).length BB UU FF := by rw [hXl]; exact hOrd
  have hco := S.checkOrder_iff.2 ⟨hXj, hO2⟩
  have hpe := S.play_err hXj hco
  have hsb := S.sumOf_bd hj (b := 0) (by omega) (by omega)
  have hpl := S.play_len2 (l := (Ts.inc js BB fe k)) (B := BB) (U := UU) (F := FF)
  refine region (oM hH153 Z ?_)
  have hev171 : Fn Tryz.prog 16 [v, (.int .i64 0), (.int .i64 0)].toArray _ _ := c16 (h0.now hH153 (n := 6) rfl) (by omega)
  simp only [hb1] at hev171
  refine zM Z Z Z hH153 (hev171) (fun w169 hH170 => (oM hH170 Z (oY hH170 (zH Z Z) (oY hH170 (zH Z Z) (oA hH170 Z (oA hH170 Z (zs (oM hH170 Z ?_))))))))
  have hev174 : Fn Tryz.prog 16 [v_20, (.int .i64 0), (.int .i64 0)].toArray _ _ := c16 (Heap.yI T.yW hH170 (n := 0) rfl) (by omega)
  simp only [hb2] at hev174
  refine zM Z Z Z hH170 (hev174) (fun w172 hH173 => (oM hH173 Z (oY hH173 (zH Z Z) (oY hH173 (zH Z Z) (oA hH173 Z (oA hH173 Z (zt (seq (zr (oM hH173 Z (oY hH173 (yJ Z (yF Z Z)) (oM hH173 Z (zB Z Z Z (oM hH173 Z (zB Z Z Z (oY hH173 (yJ Z (yF Z Z)) (oY hH173 (zT Z Z Z) (oM hH173 Z (zB Z Z Z (oM hH173 Z ?_))))))))))))))))))))
  refine zB Z Z Z (oM hH173 Z (zB Z Z Z (oM hH173 Z (zB Z Z Z (oY hH173 (z8 T.yS Z (Heap.yI T.zA hH173 (n := 1) Z).is) (zB Z Z Z (oY hH173 (zV Z Z om) (zB Z Z Z (oY hH173 (yF Z Z) (oY hH173 (zT Z Z Z) (zt ?_)))))))))))
  have hc175 : ¬ (¬ ((S.sumOf (Ts.inc js BB fe k) 0) = ((S.sumOf js 0) + (fe.length : Int)))) := fun h => h (by omega)
  refine zL Z (vC hc175) (skip (zu (oM hH173 Z (oY hH173 (zW (cs := [ob19, ot20, of21]) T.uF Z Z (fun _ hw => Heap.yH hw (n := 4) Z (k := 0) Z)) (yV Z Z Z hH173 (c17 (Heap.yI T.yW hH173 (n := 0) Z) ((Heap.xM hH173 (n := 5) Z).1) ((Heap.xM hH173 (n := 5) Z).2.1) ((Heap.xM hH173 (n := 5) Z).2.2) om om om om) (fun u178 w176 lo179 hi180 hH177 hv181 => ?_))))))
  obtain ⟨p183, hu, -⟩ := hv181
  subst hu
  have hH182 := Heap.tup2 hH177 (n := 0) Z
  refine oM hH182 Z (oY hH182 (zH Z Z) (oY hH182 (zH Z Z) (oA hH182 Z (oA hH182 Z (zt (seq (zr (oM hH182 Z (oY hH182 (yF Z Z) (zt ?_))))))))))
  by_cases hc184 : ((S.play (Ts.inc js BB fe k) BB UU FF).2) = 0
  ·have hp0 : (S.play (Ts.inc js BB fe k) BB UU FF).2 = 0 := by have hq := (zG hc184); simpa using hq
   have hcp := Ts.play_check hXj hO2 hp0
   have hle := Ts.sum_le_end hXj hcp
   refine zL Z (zG hc184) (skip (zu (oM hH182 Z (oM hH182 Z ?_))))
   have hev187 : Fn Tryz.prog 11 [v_20, p183].toArray _ _ := c11 (Heap.yI T.yW hH182 (n := 1) rfl) (Heap.yI T.xT hH182 (n := 0) rfl) (by omega) (by omega)
   simp only [hcp] at hev187
   refine zM Z Z Z hH182 (hev187) (fun w185 hH186 => (oM hH186 Z (oY hH186 (zH Z Z) (oY hH186 (zH Z Z) (oA hH186 Z (oA hH186 Z (zs (oM hH186 Z (oY hH186 (yJ Z (y5 Z Z)) (oM hH186 Z (zB Z Z Z (oM hH186 Z (zB Z Z Z (oM hH186 Z (zB Z Z Z (oM hH186 Z (zB Z Z Z (oY hH186 (zV Z Z om) (zB Z Z Z ?_)))))))))))))))))))
   refine oY hH186 (vH Z Z) (oY hH186 (zU Z Z Z) (oM hH186 Z ?_))
   have hc188 : ((S.sumOf js 0) + (f3.length : Int)) ≤ (S.endOf (Ts.inc js BB fe k) (S.play (Ts.inc js BB fe k) BB UU FF).1) := by omega
   refine zB Z Z (dT hc188) (zM Z Z Z hH186 (c5) (fun w189 hH190 => (oY hH190 (zU Z (dT hc188) Z) (oA hH190 Z (zt (ret (fin (hH190.sub (sC (sC (sC (sC (sC (sC (sC sR)))))))) (fun w' hf => (yN Z (rt Z))) (fun w' hf => Z))))))))
  refine zO Z (zF hc184) (zr (oM hH182 Z (oY hH182 (y5 Z Z) (oM hH182 Z ?_))))
  have hc192 : ((S.play (Ts.inc js BB fe k) BB UU FF).2) = 13 := by omega
  refine zB Z Z (dT hc192) (zM Z Z Z hH182 (c5) (fun w193 hH194 => (oY hH194 (zU Z (dT hc192) Z) (oA hH194 Z (zt (ret (z6 (fin (hH194.sub (sC (sC (sC (sC (sC (sC (sC sR)))))))) (fun w' hf => (yN Z (rt Z))) (fun w' hf => Z)))))))))
 refine zD Z Z (zF hc6) Z (zD Z Z (zF hc6) Z (zD Z Z (zF hc6) Z (oY hH5 (zU Z (zF hc6) Z) (oM hH5 Z (zD Z Z Z Z (zD Z Z Z Z (zD Z Z Z Z (oY hH5 (zU Z Z Z) (zt (zO Z Z (zr (zM Z Z Z hH5 (c5) (fun w196 hH197 => (oA hH197 Z (zt (ret (z6 (fin hH197 (fun w' hf => (yN Z (rt Z))) (fun w' hf => Z)))))))))))))))))))
end Go.Fip
