/- Joined texts: what the statement needs, walks by program (wip/tools). -/
import Derived.Test.YtdpgihdhilmfjaaGreatB2
import Derived.Test.YtdpgihdhilmfjaaGreatB1
set_option linter.unusedVariables false
set_option linter.unusedSimpArgs false
set_option linter.unusedSectionVars false
set_option linter.unnecessarySimpa false
namespace Go.Fip
open Go.Proofs Go.RowKit
theorem c37 {a b : Int} {w : World}  :
  Fn Tryz.prog 37 [(.int .i64 a), (.int .i64 b)].toArray w (fun u _ => u = .agg #[.int .i64 a, .int .i64 b]) := by
 refine fz Tryz.func37 Z kz Z Z (fun hH => (zr (yD (z := (.agg #[(.int .i64 0), (.int .i64 0)])) (fun _ => by kernel_rfl) Z Z hH (fun b1 w2 hH3 => (zs (oM hH3 Z (oM hH3 Z (oY hH3 (yR (v := (.agg #[(.int .i64 a), (.int .i64 b)])) Z (fun w => by kernel_rfl)) (zS (n := 0) (j := 0) Z Z hH3 Z T.x9 Z Z Z (by rfl) (fun w4 hH5 => (zt (ret (fin (hH5.front (n := 1) Z) (fun w' hf => (yN Z (rvA (cs := [(.int .i64 a), (.int .i64 b)]) Z T.y4 Z (y3 (Heap.xV hf (n := 1) Z) (k := 0) Z)))) (fun w' hf => Z))))))))))))))
theorem c46 {v : Value} {w : World}  :
  Fn Tryz.prog 46 [v].toArray w (fun u _ => u = v) := by
 refine fz Tryz.func46 Z kz Z Z (fun hH => (zr (oA hH Z (zs (oM hH Z (oA hH Z (zt (ret (fin hH (fun w' hf => (yN Z (rt Z))) (fun w' hf => Z))))))))))
theorem c50 {v u : Value} {l m : List Int} {w : World} (h0 : Rd encI 1 v l w) (h1 : Rd encI 1 u m w) (hn : l.length ≤ 1000000) (hn2 : m.length ≤ 1000000)  :
  Fn Tryz.prog 50 [v, u].toArray w (fun u _ => u = .bool (decide (l = m))) := by
 refine fz Tryz.func50 Z kz Z Z (fun hH => (zr (oA hH Z (zt (seq (zr (oM hH Z (oY hH (z8 T.xR Z (h0.now hH (n := 0) Z).is) (oM hH Z (oY hH (z8 T.xR Z (h1.now hH (n := 0) Z).is) (oY hH (yF Z Z) (zt ?_))))))))))))
 by_cases hc1 : (l.length : Int) = (m.length : Int)
 ·refine zL Z (zG hc1) (skip (zN (seq (zr (oA hH Z (zt (block (loop (S := Nat) (fun k => [(5, (.int .i64 (k : Int))), (0, v), (1, u)]) (fun k w1 => Heap [base w] w1 ∧ k ≤ l.length ∧ ∀ i, i < k → nth l (i : Int) = nth m (i : Int)) (fun k => l.length - k) (0) (uC Z (uC Z (uC Z (Sub.nil _)))) ?_ ?_))))))))
  ·exact ⟨hH, om, S.all_zero⟩
  rintro k w2 ⟨hH3, hk, hall⟩
  refine seq (zr (oM hH3 Z (oM hH3 Z (oY hH3 (z8 T.xR Z (h0.now hH3 (n := 0) Z).is) (oY hH3 (yL Z Z) (zt ?_))))))
  by_cases hc4 : (k : Int) < (l.length : Int)
  ·refine zO Z (dT hc4) (skip (zN (seq (block (seq (zY (fun w' => Heap [base w] w') T.mixed (fun w5 hr6 => ?_)))))))
   have hH7 := hH3.redrawn hr6
   refine zK [0, 1, 2, 3, 4, 5, 6, 7, 8] kz hH7 _ _ _ kz (qM Z Z Z (qM Z Z Z (zJ Z Z (zP T.xR Z Z (h0.now hH7 (n := 0) Z).is om) (zJ Z Z (zE T.yT Z (fun _ hw => Rd.at (h0.now hw (n := 0) Z) (i := (k : Int)) om (j := 0) Z)) (qM Z Z Z (qM Z Z Z (zJ Z Z (zP T.xR Z Z (h1.now hH7 (n := 0) Z).is om) (zJ Z Z (zE T.yT Z (fun _ hw => Rd.at (h1.now hw (n := 0) Z) (i := (k : Int)) om (j := 0) Z)) (zJ Z Z (yF Z Z) (zQ (zX kz (zN ?_))))))))))))
   by_cases hc8 : (nth l (k : Int)) = (nth m (k : Int))
   ·refine zL Z (zG hc8) (skip (yC (zN (region (oM hH7 Z (oY hH7 (zV Z Z om) (oA hH7 Z (zC (y0 (k + 1) (uC Z (uC Z (uC Z (Sub.nil _)))) (⟨hH7, om, S.all_snoc hall om⟩) om3)))))))))
   refine zO Z (zF hc8) (zr (oA hH7 Z (zt (ret (yE (z6 (xY (yE (z6 (fin hH7 (fun w' hf => (yN Z (rt Z))) (fun w' hf => ?_)))))))))))
   first | exact congrArg Value.bool (decide_eq_false (fun h => absurd (congrArg List.length h) (by omega))).symm | exact congrArg Value.bool (decide_eq_false (Pt.longs_ne (k := k) (by omega) (by omega))).symm | exact congrArg Value.bool (decide_eq_true (Pt.longs_eq (by omega) (fun i hi => hall i (by omega)))).symm
  refine zL Z (dF hc4) (exit (yZ (xF (z7 (zu (oA hH3 Z (zt (ret (fin hH3 (fun w' hf => (yN Z (rt Z))) (fun w' hf => ?_))))))))))
  first | exact congrArg Value.bool (decide_eq_false (fun h => absurd (congrArg List.length h) (by omega))).symm | exact congrArg Value.bool (decide_eq_false (Pt.longs_ne (k := k) (by omega) (by omega))).symm | exact congrArg Value.bool (decide_eq_true (Pt.longs_eq (by omega) (fun i hi => hall i (by omega)))).symm
 refine zO Z (zF hc1) (zr (oA hH Z (zt (ret (z6 (fin hH (fun w' hf => (yN Z (rt Z))) (fun w' hf => ?_)))))))
 first | exact congrArg Value.bool (decide_eq_false (fun h => absurd (congrArg List.length h) (by omega))).symm | exact congrArg Value.bool (decide_eq_false (Pt.longs_ne (k := k) (by omega) (by omega))).symm | exact congrArg Value.bool (decide_eq_true (Pt.longs_eq (by omega) (fun i hi => hall i (by omega)))).symm
theorem zDh {bf : Nat} {a b c d e f : Int} {w : World} (kf : Bx bf 119 [.int .i64 a, .int .i64 b] w) (hf1 : 1 ≤ a ∧ a ≤ 10000) (hf2 : 1 ≤ b ∧ b ≤ 10000) (hx : Pt.Nw (c, d)) (hy : Pt.Nw (e, f))  :
  Fn Tryz.prog 104 [(.pointer (some ⟨bf, 0, none⟩)), (.agg #[(.int .i64 c), (.int .i64 d)]), (.agg #[(.int .i64 e), (.int .i64 f)])].toArray w (fun u _ => u = .bool (Pt.nearer (a, b) (c, d) (e, f))) := by
 refine fz Tryz.func104 Z kz Z Z (fun hH => ?_)
 obtain ⟨hg1, hg2⟩ := Pt.gap_bd (f := (a, b)) (x := (c, d)) hf1 hf2 hx
 obtain ⟨hg3, hg4⟩ := Pt.gap_bd (f := (a, b)) (x := (e, f)) hf1 hf2 hy
 simp only at hg1 hg2 hg3 hg4
 have hn1 := Pt.near_bd (f := (a, b)) (x := (c, d)) (y := (e, f)) hf1 hf2 hx hy
 have hn2 := Pt.near_bd (f := (a, b)) (x := (e, f)) (y := (c, d)) hf1 hf2 hy hx
 simp only at hn1 hn2
 have he1 : Pt.gap (a, b) (c, d) = c * b - a * d := rfl
 have he2 : Pt.gap (a, b) (e, f) = e * b - a * f := rfl
 refine zr (yY Z Z Z hH (fun b1 w2 hH3 => (yY Z Z Z hH3 (fun b4 w5 hH6 => (oA hH6 Z (zt (seq (zY (fun w' => Heap [bx b4 27 [(.int .i64 e), (.int .i64 f)], bx b1 27 [(.int .i64 c), (.int .i64 d)], base w] w') T.mixed (fun w7 hr8 => ?_)))))))))
 have hH9 := hH6.redrawn hr8
 refine zK [0, 1, 3, 4] kz hH9 _ _ _ kz (qM Z Z Z (zJ Z Z (zW (cs := [(.int .i64 c), (.int .i64 d)]) T.y4 Z Z (fun _ hw => Heap.yH hw (n := 1) Z (k := 0) Z)) (qM Z Z Z (zJ Z Z (zW (cs := [(.int .i64 e), (.int .i64 f)]) T.y4 Z Z (fun _ hw => Heap.yH hw (n := 0) Z (k := 0) Z)) (zQ (z1 2 kz Z (zM Z Z Z hH9 (KY (kf.now hH9 (n := 2) Z) om om) (fun w10 hH11 => (zC (⟨hH11, (z1 5 kz Z (zM Z Z Z hH11 (KY (kf.now hH11 (n := 2) Z) om om) (fun w12 hH13 => (zC (⟨hH13, (zK [6, 7] kz hH13 _ _ _ kz (zJ Z Z (yK Z) (zJ Z Z (yK Z) (zQ (zX kz (zN ?_))))))⟩)))))⟩))))))))))
 refine zr (oM hH13 Z (oM hH13 Z (oY hH13 (JA Z om) (oY hH13 (YG Z Z) (oY hH13 (zI T.vR Z) (oY hH13 (zE T.yT Z (cw (n := 0) Z Z)) (oY hH13 (xA Z Z om) (oM hH13 Z (oM hH13 Z (oY hH13 (JA Z om) (oY hH13 (YG Z Z) (oY hH13 (zI T.vR Z) (oY hH13 (zE T.yT Z (cw (n := 1) Z Z)) (oY hH13 (xA Z Z om) (oY hH13 (yL Z Z) (oA hH13 Z (zt (ret (fin (hH13.sub (sC (sC sR))) (fun w' hf => (yN Z (rt Z))) (fun w' hf => Z))))))))))))))))))))
theorem zFz {b7 bf : Nat} {a b c d e f : Int} {w : World} (kf : Bx bf 119 [.int .i64 a, .int .i64 b] w) (k7 : Bx b7 157 [.func (.func 104) #[.pointer (some ⟨bf, 0, none⟩)] #[]] w) (hf1 : 1 ≤ a ∧ a ≤ 10000) (hf2 : 1 ≤ b ∧ b ≤ 10000) (hx : Pt.Nw (c, d)) (hy : Pt.Nw (e, f))  :
  Fn Tryz.prog 153 [(.agg #[(.int .i64 c), (.int .i64 d)]), (.agg #[(.int .i64 e), (.int .i64 f)]), (.pointer (some ⟨b7, 0, none⟩))].toArray w (fun u _ => u = .bool (Pt.nearer (a, b) (c, d) (e, f))) := by
 refine fz Tryz.func153 Z kz Z Z (fun hH => (zr (yY Z Z Z hH (fun b1 w2 hH3 => (yY Z Z Z hH3 (fun b4 w5 hH6 => (oA hH6 Z (zs (oY hH6 (zE T.zCg Z (fun _ hw => yM (k7.now hw (n := 2) Z) Z)) (oY hH6 (zW (cs := [(.int .i64 c), (.int .i64 d)]) T.y4 Z Z (fun _ hw => Heap.yH hw (n := 1) Z (k := 0) Z)) (oY hH6 (zW (cs := [(.int .i64 e), (.int .i64 f)]) T.y4 Z Z (fun _ hw => Heap.yH hw (n := 0) Z (k := 0) Z)) (zM Z Z Z hH6 (zDh (kf.now hH6 (n := 2) Z) hf1 hf2 hx hy) (fun w7 hH8 => (oA hH8 Z (zt (ret (fin (hH8.sub (sC (sC sR))) (fun w' hf => (yN Z (rt Z))) (fun w' hf => Z))))))))))))))))))
end Go.Fip
namespace Go.Fip
open Go.Proofs Go.RowKit
theorem zEr {v : Value} {l : List Pt.Pr} {b7 bf : Nat} {a b : Int} {w : World} (h0 : Rd encP 2 v l w) (kf : Bx bf 119 [.int .i64 a, .int .i64 b] w) (k7 : Bx b7 157 [.func (.func 104) #[.pointer (some ⟨bf, 0, none⟩)] #[]] w) (hf1 : 1 ≤ a ∧ a ≤ 10000) (hf2 : 1 ≤ b ∧ b ≤ 10000) (hN : Ps.All Pt.Nw l) (hn : 1 ≤ l.length) (hn2 : l.length ≤ 1000000)  :
  Fn Tryz.prog 152 [v, (.func (.func 153) #[] #[(.pointer (some ⟨b7, 0, none⟩))])].toArray w (fun u _ => u = .agg #[.int .i64 (bestTo (Pt.nearer (a, b)) l (l.length - 1)).1, .int .i64 (bestTo (Pt.nearer (a, b)) l (l.length - 1)).2]) := by
 refine fz Tryz.func152 Z kz Z Z (fun hH => ?_)
 have hd : (l.drop 1).length = l.length - 1 := List.length_drop
 refine zr (yD (z := (.agg #[(.int .i64 0), (.int .i64 0)])) (fun _ => by kernel_rfl) Z Z hH (fun b1 w2 hH3 => (zs (oM hH3 Z (oY hH3 (zP T.jO Z Z (h0.now hH3 (n := 1) Z).is om) (oY hH3 (zW (cs := [(.int .i64 ((nth l 0).1)), (.int .i64 ((nth l 0).2))]) T.y4 Z Z (fun _ hw => Rd.KB (h0.now hw (n := 1) Z) (i := 0) om)) (yD (z := (.agg #[(.int .i64 0), (.int .i64 0)])) (fun _ => by kernel_rfl) Z Z hH3 (fun b4 w5 hH6 => (zS (n := 0) (j := 0) Z Z hH6 Z T.x9 Z Z Z (by rfl) (fun w7 hH8 => (zt (seq (zr (oM hH8 Z (oY hH8 (x6 T.jO Z Z (h0.now hH8 (n := 2) Z).is om) (oY hH8 (z8 T.jO Z (Rd.from (h0.now hH8 (n := 2) Z) (lo := 1) om).is) (oM hH8 Z (zC ?_))))))))))))))))))
 refine zN (block (loop (S := Nat) (fun k => [(14, (.int .i64 (k : Int))), (1, (.func (.func 153) #[] #[(.pointer (some ⟨b7, 0, none⟩))])), (4, (.pointer (some ⟨b1, 0, none⟩))), (5, (.pointer (some ⟨b4, 0, none⟩))), (12, (cutv v 2 1 l.length)), (13, (.int .i64 ((l.drop 1).length : Int)))]) (fun k w1 => Heap [bx b4 27 [(.int .i64 ((bestTo (Pt.nearer (a, b)) l k).1)), (.int .i64 ((bestTo (Pt.nearer (a, b)) l k).2))], bx b1 27 [(.int .i64 0), (.int .i64 0)], base w] w1 ∧ k ≤ (l.drop 1).length) (fun k => (l.drop 1).length - k) (0) (uC Z (uC Z (uC Z (uC Z (uC Z (uC Z (Sub.nil _))))))) ?_ ?_))
 ·exact ⟨(Heap.y9 (n := 0) hH8 Z (Z)), om⟩
 rintro k w9 ⟨hH10, hk⟩
 refine zr (oY hH10 (yL Z Z) (zt (seq ?_)))
 by_cases hc11 : (k : Int) < ((l.drop 1).length : Int)
 ·refine zO Z (dT hc11) (skip (zN (seq (block (zr (oY hH10 (zP T.jO Z Z (Rd.from (h0.now hH10 (n := 2) Z) (lo := 1) om).is om) (oY hH10 (zW (cs := [(.int .i64 ((nth (l.drop 1) (k : Int)).1)), (.int .i64 ((nth (l.drop 1) (k : Int)).2))]) T.y4 Z Z (fun _ hw => Rd.KB (Rd.from (h0.now hw (n := 2) Z) (lo := 1) om) (i := (k : Int)) om)) (yD (z := (.agg #[(.int .i64 0), (.int .i64 0)])) (fun _ => by kernel_rfl) Z Z hH10 (fun b12 w13 hH14 => (zS (n := 0) (j := 0) Z Z hH14 Z T.x9 Z Z Z (by rfl) (fun w15 hH16 => (zt (seq ?_)))))))))))))
  have hx0 : Pt.Nw (nth (l.drop 1) (k : Int)) := by rw [uK]; exact hN.nth (by omega) (by omega)
  have hx1 : Pt.Nw ((nth (l.drop 1) (k : Int)).1, (nth (l.drop 1) (k : Int)).2) := hx0
  have hy0 : Pt.Nw (bestTo (Pt.nearer (a, b)) l k) := qS (q := Pt.Nw) (fun i hi => hN.nth (by omega) (by omega)) k (by omega)
  have hy1 : Pt.Nw ((bestTo (Pt.nearer (a, b)) l k).1, (bestTo (Pt.nearer (a, b)) l k).2) := hy0
  refine region (oM hH16 Z (oY hH16 (zW (cs := [(.int .i64 ((nth (l.drop 1) (k : Int)).1)), (.int .i64 ((nth (l.drop 1) (k : Int)).2))]) T.y4 Z Z (fun _ hw => Heap.yH hw (n := 0) Z (k := 0) Z)) (oY hH16 (zW (cs := [(.int .i64 ((bestTo (Pt.nearer (a, b)) l k).1)), (.int .i64 ((bestTo (Pt.nearer (a, b)) l k).2))]) T.y4 Z Z (fun _ hw => Heap.yH hw (n := 1) Z (k := 0) Z)) (zM Z Z Z hH16 (zFz (kf.now hH16 (n := 3) Z) (k7.now hH16 (n := 3) Z) hf1 hf2 hx1 hy1) (fun w17 hH18 => (zt ?_))))))
  by_cases hc19 : Pt.nearer (a, b) ((nth (l.drop 1) (k : Int)).1, (nth (l.drop 1) (k : Int)).2) ((bestTo (Pt.nearer (a, b)) l k).1, (bestTo (Pt.nearer (a, b)) l k).2) = true
  ·have hp : Pt.nearer (a, b) (nth (l.drop 1) (k : Int)) (bestTo (Pt.nearer (a, b)) l k) = true := hc19
   refine zO Z hc19 (region (oY hH18 (zW (cs := [(.int .i64 ((nth (l.drop 1) (k : Int)).1)), (.int .i64 ((nth (l.drop 1) (k : Int)).2))]) T.y4 Z Z (fun _ hw => Heap.yH hw (n := 0) Z (k := 0) Z)) (zS (n := 1) (j := 0) Z Z hH18 Z T.x9 Z Z Z (by rfl) (fun w20 hH21 => (zC (yC (zN (region (oY hH21 (zV Z Z om) (oM hH21 Z (zC (y0 (k + 1) (uC Z (uC Z (uC Z (uC Z (uC Z (uC Z (Sub.nil _))))))) (⟨(Heap.y9 (n := 0) (hH21.sub (sC sR)) Z (by first | (rw [uV hp]; rfl) | (rw [vU hp]; done) | (rw [vU hp]; rfl))), om⟩) om3))))))))))))
  have hp : Pt.nearer (a, b) (nth (l.drop 1) (k : Int)) (bestTo (Pt.nearer (a, b)) l k) = false := (Bool.eq_false_iff.2 hc19)
  refine zL Z (Bool.eq_false_iff.2 hc19) (skip (yC (zN (region (oY hH18 (zV Z Z om) (oM hH18 Z (zC (y0 (k + 1) (uC Z (uC Z (uC Z (uC Z (uC Z (uC Z (Sub.nil _))))))) (⟨(Heap.y9 (n := 0) (hH18.sub (sC sR)) Z (by first | (rw [uV hp]; rfl) | (rw [vU hp]; done) | (rw [vU hp]; rfl))), om⟩) om3))))))))
 refine zL Z (dF hc11) (exit (yZ (xF (z7 (zu (oY hH10 (zW (cs := [(.int .i64 ((bestTo (Pt.nearer (a, b)) l k).1)), (.int .i64 ((bestTo (Pt.nearer (a, b)) l k).2))]) T.y4 Z Z (fun _ hw => Heap.yH hw (n := 0) Z (k := 0) Z)) (zS (n := 1) (j := 0) Z Z hH10 Z T.x9 Z Z Z (by rfl) (fun w24 hH25 => (zt (ret (fin ((hH25.sub (sC sR)).front (n := 1) Z) (fun w' hf => (yN Z (rvA (cs := [(.int .i64 ((bestTo (Pt.nearer (a, b)) l k).1)), (.int .i64 ((bestTo (Pt.nearer (a, b)) l k).2))]) Z T.y4 Z (y3 (Heap.xV hf (n := 1) Z) (k := 0) Z)))) (fun w' hf => ?_))))))))))))
 have hk2 : k = l.length - 1 := by omega
 subst hk2; rfl
theorem zDr {bf : Nat} {a b m : Int} {w : World} (kf : Bx bf 119 [.int .i64 a, .int .i64 b] w) (hck : Pt.chk (a, b) = 0) (hm : 1 ≤ m ∧ m ≤ 1000)  :
  Fn Tryz.prog 103 [(.pointer (some ⟨bf, 0, none⟩)), (.int .i64 m)].toArray w (fun u _ => u = .agg #[.int .i64 (Pt.near a b m).1, .int .i64 (Pt.near a b m).2]) := by
 refine fz Tryz.func103 Z kz Z Z (fun hH => ?_)
 have hbp := Pt.beside_prop hck hm
 refine zr (yD (z := (.agg #[(.int .i64 0), (.int .i64 0)])) (fun _ => by kernel_rfl) Z Z hH (fun b1 w2 hH3 => (zs (oM hH3 Z (oM hH3 Z (zM Z Z Z hH3 (c23 (kf.now hH3 (n := 1) Z) hck hm) (fun w4 hH5 => (oM hH5 Z (oY hH5 (zH Z Z) (oY hH5 (zH Z Z) (yD (z := (.agg #[(.int .i64 0), (.int .i64 0)])) (fun _ => by kernel_rfl) Z Z hH5 (fun b6 w7 hH8 => (yD (z := (.agg #[(.int .i64 0), (.int .i64 0)])) (fun _ => by kernel_rfl) Z Z hH8 (fun b9 w10 hH11 => (zS (n := 1) (j := 0) Z Z hH11 Z T.x9 Z Z Z (by rfl) (fun w12 hH13 => (zS (n := 0) (j := 0) Z Z hH13 Z T.x9 Z Z Z (by rfl) (fun w14 hH15 => (zs (oM hH15 Z ?_))))))))))))))))))))
 refine oY hH15 (vF Z Z) (yD (z := (.nilFunc)) (fun _ => by kernel_rfl) Z Z hH15 (fun b16 w17 hH18 => (zS (n := 0) (j := 0) (us := [(.func (.func 104) #[(.pointer (some ⟨bf, 0, none⟩))] #[])]) Z Z hH18 Z T.zDl Z Z Z (by rfl) (fun w19 hH20 => (zs (oY hH20 (zW (cs := [(.int .i64 ((Pt.beside a b m).1)), (.int .i64 ((Pt.beside a b m).2.1))]) T.y4 Z Z (fun _ hw => Heap.yH hw (n := 2) Z (k := 0) Z)) (oY hH20 (zW (cs := [(.int .i64 ((Pt.beside a b m).2.2.1)), (.int .i64 ((Pt.beside a b m).2.2.2))]) T.y4 Z Z (fun _ hw => Heap.yH hw (n := 1) Z (k := 0) Z)) (z2 T.xG [((Pt.beside a b m).1, (Pt.beside a b m).2.1), ((Pt.beside a b m).2.2.1, (Pt.beside a b m).2.2.2)] Z (fun w => by kernel_rfl) hH20 (fun u21 lo23 hi24 w22 hH25 => (oA hH25 Z (zs (oM hH25 Z ?_))))))))))))
 obtain ⟨g26, hgb27, hgl28⟩ := Ow.blk (show Ow _ _ _ _ _ _ _ _ from hH25.get (n := 0) rfl) (by first | assumption | omega | (simp; done) | decide)
 refine vB (g := g26) (n := 0) Z Z Z hH25 Z hgl28 (zEl (Heap.own hH25 (n := 0) Z) hgb27 (by simp) (by simp) (by intro z hz; simp only [List.mem_cons, List.not_mem_nil, or_false] at hz; have hnw := hbp.nl; have hnu := hbp.nu; rcases hz with rfl | rfl; exact ⟨hnw.d0, by have := hnw.d1; omega⟩; exact ⟨hnu.d0, by have := hnu.d1; omega⟩)) (fun u31 w29 hH30 hv32 => ?_)
 obtain ⟨rfl, -⟩ := hv32
 have hH33 := Heap.xZ (Heap.weaken hH30 (n := 0) Z (φ := Own 27 2 encP u21 (Ps.sorted (fun x y : Pt.Pr => decide (x.2 - y.2 < 0)) [((Pt.beside a b m).1, (Pt.beside a b m).2.1), ((Pt.beside a b m).2.2.1, (Pt.beside a b m).2.2.2)])) (fun w' h => h.2)) (n := 0) (by rfl)
 refine zs (oM hH33 Z (oY hH33 (vF Z Z) (zM Z Z Z hH33 ((show Fn Tryz.prog 152 _ _ (fun u _ => u = .agg #[.int .i64 (Pt.near a b m).1, .int .i64 (Pt.near a b m).2]) from zEr (l := Pt.pair a b m) (Heap.yI T.xG hH33 (n := 0) Z) (kf.now hH33 (n := 5) Z) (Heap.xV hH33 (n := 1) Z) (Pt.chk_rg hck).1 (Pt.chk_rg hck).2 (Pt.pair_nw hck hm) (by rw [Pt.pair_len]; omega) (by rw [Pt.pair_len]; omega))) (fun w34 hH35 => (zS (n := 4) (j := 0) Z Z hH35 Z T.x9 Z Z Z (by rfl) (fun w36 hH37 => (zt (ret (fin ((hH37.sub (sC (sC (sC (sC sR))))).front (n := 1) Z) (fun w' hf => (yN Z (rvA (cs := [(.int .i64 ((Pt.near a b m).1)), (.int .i64 ((Pt.near a b m).2))]) Z T.y4 Z (y3 (Heap.xV hf (n := 1) Z) (k := 0) Z)))) (fun w' hf => Z))))))))))
end Go.Fip
namespace Go.Fip
open Go.Proofs Go.RowKit
theorem c40 {a b m : Int} {w : World} (hck : Pt.chk (a, b) = 0) (hm : 1 ≤ m ∧ m ≤ 1000)  :
  Fn Tryz.prog 40 [(.agg #[(.int .i64 a), (.int .i64 b)]), (.int .i64 m)].toArray w (fun u _ => u = .tuple #[.agg #[.int .i64 (Pt.near a b m).1, .int .i64 (Pt.near a b m).2], .int .i64 0]) := by
 refine fz Tryz.func40 Z kz Z Z (fun hH => (zr (yY Z Z Z hH (fun b1 w2 hH3 => (yD (z := (.agg #[(.int .i64 0), (.int .i64 0)])) (fun _ => by kernel_rfl) Z Z hH3 (fun b4 w5 hH6 => (oA hH6 Z (zs (oY hH6 (zW (cs := [(.int .i64 a), (.int .i64 b)]) T.y4 Z Z (fun _ hw => Heap.yH hw (n := 1) Z (k := 0) Z)) (oM hH6 Z (yV Z Z Z hH6 (c22 (a := a) (b := b) hck hm) (fun u9 w7 lo10 hi11 hH8 hv12 => ?_))))))))))))
 obtain ⟨b13, hu, hb14⟩ := hv12
 subst hu
 have hH15 := Heap.weaken hH8 (n := 0) (φ := Bx b13 119 [.int .i64 a, .int .i64 b]) Z (fun w' h => by obtain ⟨b', e, h⟩ := h; cases e; exact h)
 refine oM hH15 Z (oY hH15 (zH Z Z) (oY hH15 (zH Z Z) (oA hH15 Z (oA hH15 Z (zt (seq (zr (oM hH15 Z (oY hH15 (yF Z Z) (zt (zL Z Z (skip (zu (oM hH15 Z (oM hH15 Z (zM Z Z Z hH15 (zDr ((show Bx b13 119 [.int .i64 a, .int .i64 b] _ from hH15.get (n := 0) Z)) hck hm) (fun w16 hH17 => ?_)))))))))))))))))
 refine zS (n := 1) (j := 0) Z Z hH17 Z T.x9 Z Z Z (by rfl) (fun w18 hH19 => (oA hH19 Z (zt (ret (fin ((hH19.sub (sC (sK (sC sR)))).front (n := 1) Z) (fun w' hf => (xI Z (rvA (cs := [(.int .i64 ((Pt.near a b m).1)), (.int .i64 ((Pt.near a b m).2))]) Z T.y4 Z (y3 (Heap.xV hf (n := 1) Z) (k := 0) Z)) (rt Z))) (fun w' hf => Z))))))
theorem c41 {a b c d m : Int} {w : World} (hck : Pt.chk (a, b) = 0) (hm : 1 ≤ m ∧ m ≤ 1000) (hr : (0 ≤ c ∧ c ≤ 1073741824) ∧ (1 ≤ d ∧ d ≤ m))  :
  Fn Tryz.prog 41 [(.agg #[(.int .i64 a), (.int .i64 b)]), (.agg #[(.int .i64 c), (.int .i64 d)]), (.int .i64 m)].toArray w (fun u _ => u = .int .i64 (if Pt.nearer (a, b) (Pt.near a b m) (c, d) = true then 17 else 0)) := by
 refine fz Tryz.func41 Z kz Z Z (fun hH => (zr (yY Z Z Z hH (fun b1 w2 hH3 => (yY Z Z Z hH3 (fun b4 w5 hH6 => (oA hH6 Z (zs (oY hH6 (zW (cs := [(.int .i64 a), (.int .i64 b)]) T.y4 Z Z (fun _ hw => Heap.yH hw (n := 1) Z (k := 0) Z)) (oM hH6 Z (yV Z Z Z hH6 (c22 (a := a) (b := b) hck hm) (fun u9 w7 lo10 hi11 hH8 hv12 => ?_))))))))))))
 obtain ⟨b13, hu, hb14⟩ := hv12
 subst hu
 have hH15 := Heap.weaken hH8 (n := 0) (φ := Bx b13 119 [.int .i64 a, .int .i64 b]) Z (fun w' h => by obtain ⟨b', e, h⟩ := h; cases e; exact h)
 refine oM hH15 Z (oY hH15 (zH Z Z) (oY hH15 (zH Z Z) (oA hH15 Z (oA hH15 Z (zt (seq (block (zr (oM hH15 Z (oY hH15 (yF Z Z) (oA hH15 Z (zt (zL Z Z (zr (oY hH15 (zI T.uI Z) (oY hH15 (zE T.yT Z (cw (n := 1) Z Z)) (z2 T.zR [c] Z (fun w => by kernel_rfl) hH15 (fun u16 lo18 hi19 w17 hH20 => ?_))))))))))))))))))
 refine zM Z Z Z hH20 (ZS (Heap.yI T.zR hH20 (n := 0) Z)) (fun w21 hH22 => (oY hH22 (y6 Z) (oM hH22 Z ?_)))
 by_cases hc23 : 0 ≤ c ∧ c ≤ 1073741824
 ·refine zB Z Z (zG hc23) (oM hH22 Z (zB Z Z (zG hc23) (oY hH22 (zI T.vR Z) (zB Z Z (zG hc23) (oY hH22 (zE T.yT Z (cw (n := 2) Z Z)) (zB Z Z (zG hc23) (z2 T.zR [d] Z (fun w => by kernel_rfl) hH22 (fun u24 lo26 hi27 w25 hH28 => (zB Z Z (zG hc23) (zM Z Z Z hH28 (ZS (Heap.yI T.zR hH28 (n := 0) Z)) (fun w29 hH30 => (zB Z Z (zG hc23) (oY hH30 (y6 Z) (oY hH30 (zT Z (zG hc23) Z) (oA hH30 Z (zt ?_))))))))))))))))
  by_cases hc31 : 1 ≤ d ∧ d ≤ m
  ·refine zL Z (zG hc31) (seq (zY (fun w' => Heap [ow lo26 hi27 2 1 encI u24 [d], ow lo18 hi19 2 1 encI u16 [c], ⟨lo10, hi11, Bx b13 119 [.int .i64 a, .int .i64 b]⟩, bx b4 27 [(.int .i64 c), (.int .i64 d)], bx b1 27 [(.int .i64 a), (.int .i64 b)], base w] w') T.mixed (fun w32 hr33 => ?_)))
   have hH34 := hH30.redrawn hr33
   refine zK [0, 1, 2, 4] kz hH34 _ _ _ kz (qM Z Z Z (qM Z Z Z (qM Z Z Z (zJ Z Z (zW (cs := [(.int .i64 c), (.int .i64 d)]) T.y4 Z Z (fun _ hw => Heap.yH hw (n := 3) Z (k := 0) Z)) (zQ (z1 3 kz Z (zM Z Z Z hH34 (zDr ((show Bx b13 119 [.int .i64 a, .int .i64 b] _ from hH34.get (n := 2) Z)) hck hm) (fun w35 hH36 => (zC (⟨hH36, (z1 5 kz Z (zM Z Z Z hH36 (zDh ((show Bx b13 119 [.int .i64 a, .int .i64 b] _ from hH36.get (n := 2) Z)) (Pt.chk_rg hck).1 (Pt.chk_rg hck).2 (show Pt.Nw ((Pt.near a b m).1, (Pt.near a b m).2) from Pt.near_nw hck hm) ⟨by simp only; omega, by simp only; omega, by simp only; omega, by simp only; omega⟩) (fun w37 hH38 => (zC (⟨hH38, (zK [6] kz hH38 _ _ _ kz (zJ Z Z (yK Z) (zQ (zX kz (zN ?_)))))⟩)))))⟩))))))))))
   by_cases hc39 : Pt.nearer (a, b) ((Pt.near a b m).1, (Pt.near a b m).2) (c, d) = true
   ·have hnr : Pt.nearer (a, b) (Pt.near a b m) (c, d) = true := hc39
    refine zO Z hc39 (zr (oA hH38 Z (zt (ret (yE (z6 (fin (hH38.sub (sC (sC (sC (sC (sC sR)))))) (fun w' hf => (yN Z (rt Z))) (fun w' hf => ?_))))))))
    first | (exfalso; omega) | (rw [if_pos hnr]; done) | (rw [if_neg hnr]; done)
   have hnr : ¬ Pt.nearer (a, b) (Pt.near a b m) (c, d) = true := by have hq := (Bool.eq_false_iff.2 hc39); simpa using hq
   refine zL Z (Bool.eq_false_iff.2 hc39) (skip (yC (zu (oA hH38 Z (zt (ret (fin (hH38.sub (sC (sC (sC (sC (sC sR)))))) (fun w' hf => (yN Z (rt Z))) (fun w' hf => ?_))))))))
   first | (exfalso; omega) | (rw [if_pos hnr]; done) | (rw [if_neg hnr]; done)
  refine zO Z (zF hc31) (zr (oA hH30 Z (zt (ret (yE (z6 (fin (hH30.sub (sC (sC (sC (sC (sC sR)))))) (fun w' hf => (yN Z (rt Z))) (fun w' hf => ?_))))))))
  first | (exfalso; omega) | (rw [if_pos hnr]; done) | (rw [if_neg hnr]; done)
 refine zD Z Z (zF hc23) Z (zD Z Z (zF hc23) Z (zD Z Z (zF hc23) Z (zD Z Z (zF hc23) Z (zD Z Z (zF hc23) Z (zD Z Z (zF hc23) Z (oY hH22 (zU Z (zF hc23) Z) (oA hH22 Z (zt (zO Z Z (zr (oA hH22 Z (zt (ret (yE (z6 (fin (hH22.sub (sC (sC (sC (sC sR))))) (fun w' hf => (yN Z (rt Z))) (fun w' hf => ?_)))))))))))))))))
 first | (exfalso; omega) | (rw [if_pos hnr]; done) | (rw [if_neg hnr]; done)
theorem c7 {a b m : Int} {w : World} (hck : Pt.chk (a, b) = 0) (hm : 1 ≤ m ∧ m ≤ 1000)  :
  Fn Tryz.prog 7 [(.agg #[(.int .i64 a), (.int .i64 b)]), (.int .i64 m)].toArray w (fun u _ => u = .tuple #[.agg #[.int .i64 (Pt.beside a b m).1, .int .i64 (Pt.beside a b m).2.1], .agg #[.int .i64 (Pt.beside a b m).2.2.1, .int .i64 (Pt.beside a b m).2.2.2], .int .i64 0]) := by
 refine fz Tryz.func7 Z kz Z Z (fun hH => (zr (yY Z Z Z hH (fun b1 w2 hH3 => (yD (z := (.agg #[(.int .i64 0), (.int .i64 0)])) (fun _ => by kernel_rfl) Z Z hH3 (fun b4 w5 hH6 => (yD (z := (.agg #[(.int .i64 0), (.int .i64 0)])) (fun _ => by kernel_rfl) Z Z hH6 (fun b7 w8 hH9 => (oA hH9 Z (zs (oY hH9 (zW (cs := [(.int .i64 a), (.int .i64 b)]) T.y4 Z Z (fun _ hw => Heap.yH hw (n := 2) Z (k := 0) Z)) (oM hH9 Z (yV Z Z Z hH9 (c22 (a := a) (b := b) hck hm) (fun u12 w10 lo13 hi14 hH11 hv15 => ?_))))))))))))))
 obtain ⟨b16, hu, hb17⟩ := hv15
 subst hu
 have hH18 := Heap.weaken hH11 (n := 0) (φ := Bx b16 119 [.int .i64 a, .int .i64 b]) Z (fun w' h => by obtain ⟨b', e, h⟩ := h; cases e; exact h)
 refine oM hH18 Z (oY hH18 (zH Z Z) (oY hH18 (zH Z Z) (oA hH18 Z (oA hH18 Z (zt (seq (zr (oM hH18 Z (oY hH18 (yF Z Z) (zt (zL Z Z (skip (zu (oM hH18 Z (oM hH18 Z (zM Z Z Z hH18 (c23 ((show Bx b16 119 [.int .i64 a, .int .i64 b] _ from hH18.get (n := 0) Z)) hck hm) (fun w19 hH20 => ?_)))))))))))))))))
 refine oM hH20 Z (oY hH20 (zH Z Z) (oY hH20 (zH Z Z) (yD (z := (.agg #[(.int .i64 0), (.int .i64 0)])) (fun _ => by kernel_rfl) Z Z hH20 (fun b21 w22 hH23 => (yD (z := (.agg #[(.int .i64 0), (.int .i64 0)])) (fun _ => by kernel_rfl) Z Z hH23 (fun b24 w25 hH26 => (zS (n := 1) (j := 0) Z Z hH26 Z T.x9 Z Z Z (by rfl) (fun w27 hH28 => (zS (n := 0) (j := 0) Z Z hH28 Z T.x9 Z Z Z (by rfl) (fun w29 hH30 => (zt (seq (zY (fun w' => Heap [bx b24 27 [(.int .i64 ((Pt.beside a b m).2.2.1)), (.int .i64 ((Pt.beside a b m).2.2.2))], bx b21 27 [(.int .i64 ((Pt.beside a b m).1)), (.int .i64 ((Pt.beside a b m).2.1))], ⟨lo13, hi14, Bx b16 119 [.int .i64 a, .int .i64 b]⟩, bx b1 27 [(.int .i64 a), (.int .i64 b)], base w] w') T.mixed (fun w31 hr32 => ?_))))))))))))))
 have hH33 := hH30.redrawn hr32
 refine zK [0, 1] kz (hH33.sub (sK (sK (sK (sC (sC sR)))))) _ _ _ kz (zJ Z Z (zW (cs := [(.int .i64 ((Pt.beside a b m).1)), (.int .i64 ((Pt.beside a b m).2.1))]) T.y4 Z Z (fun _ hw => Heap.yH hw (n := 1) Z (k := 0) Z)) (zJ Z Z (zW (cs := [(.int .i64 ((Pt.beside a b m).2.2.1)), (.int .i64 ((Pt.beside a b m).2.2.2))]) T.y4 Z Z (fun _ hw => Heap.yH hw (n := 0) Z (k := 0) Z)) (zQ (z1 2 kz Z (zS (n := 4) (j := 0) Z Z hH33 Z T.x9 Z Z Z (by rfl) (fun w34 hH35 => (zC (⟨(hH35.sub (sK (sK (sK (sC (sC sR)))))), (z1 3 kz Z (zS (n := 3) (j := 0) Z Z hH35 Z T.x9 Z Z Z (by rfl) (fun w36 hH37 => (zC (⟨(hH37.sub (sK (sK (sK (sC (sC sR)))))), (zK [4] kz (hH37.sub (sK (sK (sK (sC (sC sR)))))) _ _ _ kz (zJ Z Z (yK Z) (zQ (zX kz (zN (ret (fin ((hH37.sub (sC (sC (sC (sK (sK (sC sR))))))).front (n := 2) Z) (fun w' hf => (zCs Z (rvA (cs := [(.int .i64 ((Pt.beside a b m).1)), (.int .i64 ((Pt.beside a b m).2.1))]) Z T.y4 Z (y3 (Heap.xV hf (n := 2) Z) (k := 0) Z)) (rvA (cs := [(.int .i64 ((Pt.beside a b m).2.2.1)), (.int .i64 ((Pt.beside a b m).2.2.2))]) Z T.y4 Z (y3 (Heap.xV hf (n := 1) Z) (k := 0) Z)) (rt Z))) (fun w' hf => Z))))))))⟩)))))⟩))))))))
end Go.Fip
namespace Go.Fip
namespace Pt
def sim : Nat → Int → Int → Int → Int → Pr
 | 0, _, _, _, _ => (0, 1)
 | k + 1, a, b, c, d =>
  if a / b * b = a then (a / b, 1) else if (a / b + 1) * d ≤ c then (a / b + 1, 1)
  else (a / b * (sim k d (c - a / b * d) b (a - a / b * b)).1 + (sim k d (c - a / b * d) b (a - a / b * b)).2, (sim k d (c - a / b * d) b (a - a / b * b)).1)
structure Sm (a b c d : Int) : Prop where
 a1 : 1 ≤ a
 a2 : a ≤ 10000
 b1 : 1 ≤ b
 b2 : b ≤ 10000
 c1 : 1 ≤ c
 c2 : c ≤ 10000
 d1 : 1 ≤ d
 d2 : d ≤ 10000
 le : a * d ≤ c * b
theorem Sm.div {a b c d : Int} (h : Sm a b c d) : 0 ≤ a / b ∧ a / b ≤ a ∧ 0 ≤ a / b * b ∧ a / b * b ≤ a ∧ a < a / b * b + b := by
 have h1 := Int.ediv_nonneg (show 0 ≤ a by have := h.a1; omega) (show 0 ≤ b by have := h.b1; omega)
 have h2 := Int.ediv_mul_le a (show b ≠ 0 by have := h.b1; omega)
 have h3 := Int.emod_lt_of_pos a (show 0 < b by have := h.b1; omega)
 have h4 := Int.emod_add_mul_ediv a b
 rw [Int.mul_comm] at h4
 have h5 := Int.mul_le_mul_of_nonneg_left h.b1 h1
 omega
theorem Sm.step {a b c d : Int} (h : Sm a b c d) (h1 : ¬ a / b * b = a) (h2 : ¬ (a / b + 1) * d ≤ c) : Sm d (c - a / b * d) b (a - a / b * b) ∧ (c - a / b * d) + (a - a / b * b) < b + d := by
 obtain ⟨e0, e1, e2, e3, e4⟩ := h.div
 generalize a / b = n at *
 have hle := h.le
 have hb := h.b1
 have hd := h.d1
 have e5 : (n + 1) * d = n * d + d := by rw [Int.add_mul, Int.one_mul]
 have hnd : 0 ≤ n * d := Int.mul_nonneg e0 (by omega)
 have hnd2 : n * d < c := by
  -- n b d < a d ≤ c b
  refine Classical.byContradiction fun hn => ?_
  have i1 := Int.mul_le_mul_of_nonneg_right (show c ≤ n * d by omega) (show 0 ≤ b by omega)
  have i2 := Int.mul_lt_mul_of_pos_right (show n * b < a by omega) (show 0 < d by omega)
  have i3 : n * d * b = n * b * d := by rw [Int.mul_assoc, Int.mul_comm d b, ← Int.mul_assoc]
  omega
 refine ⟨⟨hd, h.d2, by omega, by have := h.c2; omega, hb, h.b2, by omega, by have := h.a2; omega, ?_⟩, by omega⟩
 have i4 : d * (a - n * b) = a * d - n * b * d := by rw [Int.mul_sub, Int.mul_comm d a, Int.mul_comm d (n * b)]
 have i5 : b * (c - n * d) = c * b - n * b * d := by rw [Int.mul_sub, Int.mul_comm b c, Int.mul_comm b (n * d), Int.mul_assoc, Int.mul_comm d b, ← Int.mul_assoc]
 omega
theorem sim_bd : ∀ (k : Nat) (a b c d : Int), Sm a b c d → b + d ≤ k → 1 ≤ (sim k a b c d).1 ∧ 1 ≤ (sim k a b c d).2 ∧ (((sim k a b c d).1 ≤ a ∧ (sim k a b c d).2 ≤ b) ∨ ((sim k a b c d).1 ≤ c ∧ (sim k a b c d).2 ≤ d))
 | 0, a, b, c, d, h, hk => by have := h.b1; have := h.d1; omega
 | k + 1, a, b, c, d, h, hk => by
  obtain ⟨e0, e1, e2, e3, e4⟩ := h.div
  have hb := h.b1
  have hd := h.d1
  have ha := h.a1
  simp only [sim]
  split
  ·rename_i h1
   have : ¬ a / b = 0 := fun e => by rw [e] at h1; omega
   simp only; omega
  ·rename_i h1
   split
   ·rename_i h2
    simp only
    have := Int.mul_le_mul_of_nonneg_left hd (show 0 ≤ a / b + 1 by omega)
    omega
   ·rename_i h2
    obtain ⟨hs, hlt⟩ := h.step h1 h2
    have ih := sim_bd k d (c - a / b * d) b (a - a / b * b) hs (by omega)
    generalize sim k d (c - a / b * d) b (a - a / b * b) = x at *
    generalize a / b = n at *
    obtain ⟨i1, i2, i3⟩ := ih
    have hx := Int.mul_nonneg e0 (show 0 ≤ x.1 by omega)
    simp only
    rcases i3 with ⟨j1, j2⟩ | ⟨j1, j2⟩
    ·have k1 := Int.mul_le_mul_of_nonneg_left j1 e0
     exact ⟨by omega, i1, .inr ⟨by omega, j1⟩⟩
    ·have k1 := Int.mul_le_mul_of_nonneg_left j1 e0
     exact ⟨by omega, i1, .inl ⟨by omega, j1⟩⟩
theorem sim_1 {k : Nat} {a b c d : Int} (h : a / b * b = a) : sim (k + 1) a b c d = (a / b, 1) := by simp only [sim]; rw [if_pos h]
theorem sim_2 {k : Nat} {a b c d : Int} (h : ¬ a / b * b = a) (h2 : (a / b + 1) * d ≤ c) : sim (k + 1) a b c d = (a / b + 1, 1) := by simp only [sim]; rw [if_neg h, if_pos h2]
theorem sim_3 {k : Nat} {a b c d : Int} (h : ¬ a / b * b = a) (h2 : ¬ (a / b + 1) * d ≤ c) : sim (k + 1) a b c d = (a / b * (sim k d (c - a / b * d) b (a - a / b * b)).1 + (sim k d (c - a / b * d) b (a - a / b * b)).2, (sim k d (c - a / b * d) b (a - a / b * b)).1) := by
 conv => lhs; simp only [sim]
 rw [if_neg h, if_neg h2]
def pq : Nat → Int → Int → List Int
 | 0, _, _ => []
 | k + 1, a, b => if b = 0 then [] else a / b :: pq k b (a % b)
def lessLast (l : List Int) : List Int := l.set (l.length - 1) (nth l ((l.length : Int) - 1) - 1)
def pth (a b : Int) : List Int :=
 let l := lessLast (pq (b + 1).toNat a b)
 if nth l ((l.length : Int) - 1) = 0 then l.take (l.length - 1) else l
theorem pq_0 {k : Nat} {a b : Int} (h : b = 0) : pq k a b = [] := by
 cases k with
 | zero => rfl
 | succ k => simp only [pq]; rw [if_pos h]
theorem pq_s {k : Nat} {a b : Int} (h : ¬ b = 0) (hk : 0 < k) : pq k a b = a / b :: pq (k - 1) b (a % b) := by
 cases k with
 | zero => omega
 | succ k => simp only [pq]; rw [if_neg h]; rfl
theorem zAa : ∀ (k : Nat) (a b : Int), (pq k a b).length ≤ k
 | 0, _, _ => by simp [pq]
 | k + 1, a, b => by
  simp only [pq]
  split
  ·simp
  ·have := zAa k b (a % b)
   simp; omega
def mxTo (l : List Int) : Nat → Int
 | 0 => nth l 0
 | k + 1 => max (mxTo l k) (nth l ((k + 1 : Nat) : Int))
def mnTo (l : List Int) : Nat → Int
 | 0 => nth l 0
 | k + 1 => min (mnTo l k) (nth l ((k + 1 : Nat) : Int))
def wst (l : List Int) : Nat → Qd
 | 0 => (0, 1, 1, 0)
 | k + 1 => if (k : Int) % 2 = 0 then ((wst l k).1 + nth l (k : Int) * (wst l k).2.2.1, (wst l k).2.1 + nth l (k : Int) * (wst l k).2.2.2, (wst l k).2.2.1, (wst l k).2.2.2)
  else ((wst l k).1, (wst l k).2.1, (wst l k).2.2.1 + nth l (k : Int) * (wst l k).1, (wst l k).2.2.2 + nth l (k : Int) * (wst l k).2.1)
def Few (x : Qd) : Prop := (0 ≤ x.1 ∧ x.1 ≤ 10000) ∧ (0 ≤ x.2.1 ∧ x.2.1 ≤ 10000) ∧ (0 ≤ x.2.2.1 ∧ x.2.2.1 ≤ 10000) ∧ (0 ≤ x.2.2.2 ∧ x.2.2.2 ≤ 10000)
instance (x : Qd) : Decidable (Few x) := by unfold Few; infer_instance
theorem wst_e {l : List Int} {k : Nat} (h : (k : Int) % 2 = 0) : wst l (k + 1) = ((wst l k).1 + nth l (k : Int) * (wst l k).2.2.1, (wst l k).2.1 + nth l (k : Int) * (wst l k).2.2.2, (wst l k).2.2.1, (wst l k).2.2.2) := by simp only [wst]; rw [if_pos h]
theorem wst_o {l : List Int} {k : Nat} (h : ¬ (k : Int) % 2 = 0) : wst l (k + 1) = ((wst l k).1, (wst l k).2.1, (wst l k).2.2.1 + nth l (k : Int) * (wst l k).1, (wst l k).2.2.2 + nth l (k : Int) * (wst l k).2.1) := by simp only [wst]; rw [if_neg h]
end Pt
end Go.Fip
namespace Go.Fip
namespace Pt
theorem zB3 {a b : Int} {o X : List Int} (ho : o = pq (b + 1).toNat a b) (hX : X = o.set ((o.length : Int) - 1).toNat (nth o ((o.length : Int) - 1) - 1)) (hl : 1 ≤ o.length) : lessLast (pq (b + 1).toNat a b) = X := by
 subst ho
 rw [hX]
 unfold lessLast
 rw [show (((pq (b + 1).toNat a b).length : Int) - 1).toNat = (pq (b + 1).toNat a b).length - 1 by omega]
theorem pth_t {a b : Int} {o X : List Int} (ho : o = pq (b + 1).toNat a b) (hX : X = o.set ((o.length : Int) - 1).toNat (nth o ((o.length : Int) - 1) - 1)) (hl : 1 ≤ o.length) (h : nth X ((X.length : Int) - 1) = 0) : X.take ((X.length : Int) - 1).toNat = pth a b := by
 unfold pth
 rw [zB3 ho hX hl]
 simp only
 rw [if_pos h, show ((X.length : Int) - 1).toNat = X.length - 1 by omega]
theorem pth_f {a b : Int} {o X : List Int} (ho : o = pq (b + 1).toNat a b) (hX : X = o.set ((o.length : Int) - 1).toNat (nth o ((o.length : Int) - 1) - 1)) (hl : 1 ≤ o.length) (h : ¬ nth X ((X.length : Int) - 1) = 0) : X = pth a b := by
 unfold pth
 rw [zB3 ho hX hl]
 simp only
 rw [if_neg h]
theorem pth_len {a b : Int} : (pth a b).length ≤ (b + 1).toNat := by
 have h := zAa (b + 1).toNat a b
 unfold pth
 simp only
 split <;> simp [lessLast] <;> omega
end Pt
end Go.Fip
namespace Go.Fip
open Go.Proofs Go.RowKit
theorem c39 {a b c d m : Int} {w : World} (hm : 1 ≤ m ∧ m ≤ 1000) (hr : ((0 ≤ a ∧ a ≤ 1073741824) ∧ (0 ≤ c ∧ c ≤ 1073741824)) ∧ (1 ≤ b ∧ b ≤ 1073741824) ∧ (1 ≤ d ∧ d ≤ 1073741824))  :
  Fn Tryz.prog 39 [(.agg #[(.int .i64 a), (.int .i64 b)]), (.agg #[(.int .i64 c), (.int .i64 d)]), (.int .i64 m)].toArray w (fun u _ => u = .int .i64 (if Pt.gap (a, b) (c, d) = 1 ∧ ¬ b + d ≤ m then 0 else 14)) := by
 refine fz Tryz.func39 Z kz Z Z (fun hH => ?_)
 have hm1 := Pt.mul_30 (a := c) (b := b) hr.1.2 (by omega)
 have hm2 := Pt.mul_30 (a := a) (b := d) hr.1.1 (by omega)
 refine zr (yY Z Z Z hH (fun b1 w2 hH3 => (yY Z Z Z hH3 (fun b4 w5 hH6 => (oA hH6 Z (zt (seq (block (zr (oM hH6 Z (z2 T.zR [m] Z (fun w => by kernel_rfl) hH6 (fun u7 lo9 hi10 w8 hH11 => (zM Z Z Z hH11 (ZS (Heap.yI T.zR hH11 (n := 0) Z)) (fun w12 hH13 => (oY hH13 (y6 Z) (oA hH13 Z (zt ?_)))))))))))))))))
 by_cases hc14 : 1 ≤ m ∧ m ≤ 1000
 ·refine zL Z (zG hc14) (zr (oY hH13 (zI T.uI Z) (oY hH13 (zE T.yT Z (cw (n := 2) Z Z)) (oY hH13 (zI T.uI Z) (oY hH13 (zE T.yT Z (cw (n := 1) Z Z)) (z2 T.zR [a, c] Z (fun w => by kernel_rfl) hH13 (fun u15 lo17 hi18 w16 hH19 => (zM Z Z Z hH19 (JE (Heap.yI T.zR hH19 (n := 0) Z)) (fun w20 hH21 => (oY hH21 (y6 Z) (oM hH21 Z ?_)))))))))))
  by_cases hc22 : (0 ≤ a ∧ a ≤ 1073741824) ∧ (0 ≤ c ∧ c ≤ 1073741824)
  ·refine zB Z Z (zG hc22) (oY hH21 (zI T.vR Z) (zB Z Z (zG hc22) (oY hH21 (zE T.yT Z (cw (n := 3) Z Z)) (zB Z Z (zG hc22) (oY hH21 (zI T.vR Z) (zB Z Z (zG hc22) (oY hH21 (zE T.yT Z (cw (n := 2) Z Z)) (zB Z Z (zG hc22) (z2 T.zR [b, d] Z (fun w => by kernel_rfl) hH21 (fun u23 lo25 hi26 w24 hH27 => (zB Z Z (zG hc22) (zM Z Z Z hH27 (JE (Heap.yI T.zR hH27 (n := 0) Z)) (fun w28 hH29 => (zB Z Z (zG hc22) (oY hH29 (y6 Z) (oY hH29 (zT Z (zG hc22) Z) (oA hH29 Z (zt ?_))))))))))))))))))
   by_cases hc30 : (1 ≤ b ∧ b ≤ 1073741824) ∧ (1 ≤ d ∧ d ≤ 1073741824)
   ·refine zL Z (zG hc30) (zr (oY hH29 (zW (cs := [(.int .i64 a), (.int .i64 b)]) T.y4 Z Z (fun _ hw => Heap.yH hw (n := 4) Z (k := 0) Z)) (oY hH29 (yR (v := (.agg #[(.int .i64 a), (.int .i64 b)])) Z (fun w => by kernel_rfl)) (yY Z Z Z hH29 (fun b31 w32 hH33 => (oY hH33 (zW (cs := [(.int .i64 c), (.int .i64 d)]) T.y4 Z Z (fun _ hw => Heap.yH hw (n := 4) Z (k := 0) Z)) (zM Z Z Z hH33 (KY (Heap.xV hH33 (n := 0) Z) om om) (fun w34 hH35 => (oY hH35 (yF Z Z) (oM hH35 Z ?_))))))))))
    by_cases hc36 : (Pt.gap (a, b) (c, d)) = 1
    ·refine zB Z Z (zG hc36) (oY hH35 (zI T.vR Z) (zB Z Z (zG hc36) (oY hH35 (zE T.yT Z (cw (n := 5) Z Z)) (zB Z Z (zG hc36) (oY hH35 (zI T.vR Z) (zB Z Z (zG hc36) (oY hH35 (zE T.yT Z (cw (n := 4) Z Z)) (zB Z Z (zG hc36) (oY hH35 (zV Z Z om) (zB Z Z (zG hc36) (oM hH35 Z (zB Z Z (zG hc36) (oY hH35 (uS Z Z) (oY hH35 (zT Z (zG hc36) Z) (oA hH35 Z (zt ?_))))))))))))))))
     by_cases hc37 : (b + d) ≤ m
     ·refine zO Z (dT hc37) (zr (oA hH35 Z (zt (ret (yE (z6 (fin (hH35.sub (sC (sC (sC (sC (sC (sC sR))))))) (fun w' hf => (yN Z (rt Z))) (fun w' hf => ?_))))))))
      first | (exfalso; omega) | (rw [if_pos (by omega)]; done) | (rw [if_neg (by omega)]; done)
     refine zL Z (dF hc37) (skip (yC (zu (oA hH35 Z (zt (ret (fin (hH35.sub (sC (sC (sC (sC (sC (sC sR))))))) (fun w' hf => (yN Z (rt Z))) (fun w' hf => ?_))))))))
     first | (exfalso; omega) | (rw [if_pos (by omega)]; done) | (rw [if_neg (by omega)]; done)
    refine zD Z Z (zF hc36) Z (zD Z Z (zF hc36) Z (zD Z Z (zF hc36) Z (zD Z Z (zF hc36) Z (zD Z Z (zF hc36) Z (zD Z Z (zF hc36) Z (zD Z Z (zF hc36) Z (oY hH35 (zU Z (zF hc36) Z) (oA hH35 Z (zt (zO Z Z (zr (oA hH35 Z (zt (ret (yE (z6 (fin (hH35.sub (sC (sC (sC (sC (sC (sC sR))))))) (fun w' hf => (yN Z (rt Z))) (fun w' hf => ?_))))))))))))))))))
    first | (exfalso; omega) | (rw [if_pos (by omega)]; done) | (rw [if_neg (by omega)]; done)
   refine zO Z (zF hc30) (zr (oA hH29 Z (zt (ret (yE (z6 (fin (hH29.sub (sC (sC (sC (sC (sC sR)))))) (fun w' hf => (yN Z (rt Z))) (fun w' hf => ?_))))))))
   first | (exfalso; omega) | (rw [if_pos (by omega)]; done) | (rw [if_neg (by omega)]; done)
  refine zD Z Z (zF hc22) Z (zD Z Z (zF hc22) Z (zD Z Z (zF hc22) Z (zD Z Z (zF hc22) Z (zD Z Z (zF hc22) Z (zD Z Z (zF hc22) Z (zD Z Z (zF hc22) Z (oY hH21 (zU Z (zF hc22) Z) (oA hH21 Z (zt (zO Z Z (zr (oA hH21 Z (zt (ret (yE (z6 (fin (hH21.sub (sC (sC (sC (sC sR))))) (fun w' hf => (yN Z (rt Z))) (fun w' hf => ?_))))))))))))))))))
  first | (exfalso; omega) | (rw [if_pos (by omega)]; done) | (rw [if_neg (by omega)]; done)
 refine zO Z (zF hc14) (zr (oA hH13 Z (zt (ret (yE (z6 (fin (hH13.sub (sC (sC (sC sR)))) (fun w' hf => (yN Z (rt Z))) (fun w' hf => ?_))))))))
 first | (exfalso; omega) | (rw [if_pos (by omega)]; done) | (rw [if_neg (by omega)]; done)
theorem c38 {a b c d : Int} {w : World} (hck : Pt.chk (a, b) = 0) (hck2 : Pt.chk (c, d) = 0)  :
  Fn Tryz.prog 38 [(.agg #[(.int .i64 a), (.int .i64 b)]), (.agg #[(.int .i64 c), (.int .i64 d)])].toArray w (fun u _ => u = .tuple #[.int .i64 (Pt.gap (a, b) (c, d)), .int .i64 0]) := by
 refine fz Tryz.func38 Z kz Z Z (fun hH => ?_)
 obtain ⟨hra, hrb⟩ := Pt.chk_rg hck
 obtain ⟨hrc, hrd⟩ := Pt.chk_rg hck2
 have hm1 := Pt.mul_30 (a := c) (b := b) (by omega) (by omega)
 have hm2 := Pt.mul_30 (a := a) (b := d) (by omega) (by omega)
 refine zr (yY Z Z Z hH (fun b1 w2 hH3 => (yY Z Z Z hH3 (fun b4 w5 hH6 => (oA hH6 Z (oA hH6 Z (zt (seq ?_))))))))
 have hck : Pt.chk (a, b) = 0 := hck
 refine region (oY hH6 (zW (cs := [(.int .i64 a), (.int .i64 b)]) T.y4 Z Z (fun _ hw => Heap.yH hw (n := 1) Z (k := 0) Z)) (oY hH6 (zW (cs := [(.int .i64 c), (.int .i64 d)]) T.y4 Z Z (fun _ hw => Heap.yH hw (n := 0) Z (k := 0) Z)) (z2 T.xG [(a, b), (c, d)] Z (fun w => by kernel_rfl) hH6 (fun u7 lo9 hi10 w8 hH11 => (yV Z Z Z hH11 (c72 (Heap.yI T.xG hH11 (n := 0) Z) (by simp) (by simp) (Pt.chkL_2 hck hck2)) (fun u14 w12 lo15 hi16 hH13 hv17 => ?_))))))
 obtain ⟨b18, hu, hb19⟩ := hv17
 subst hu
 have hH20 := Heap.weaken hH13 (n := 0) (φ := Bx b18 119 [.int .i64 a, .int .i64 b]) Z (fun w' h => by obtain ⟨b', e, h⟩ := h; cases e; exact h)
 refine oM hH20 Z (oY hH20 (zH Z Z) (oY hH20 (zH Z Z) (oA hH20 Z (oA hH20 Z (zt (seq (zr (oM hH20 Z (oY hH20 (yF Z Z) (zt (zL Z Z (skip (zu (oM hH20 Z (oY hH20 (zW (cs := [(.int .i64 c), (.int .i64 d)]) T.y4 Z Z (fun _ hw => Heap.yH hw (n := 2) Z (k := 0) Z)) (zM Z Z Z hH20 (KY ((show Bx b18 119 [.int .i64 a, .int .i64 b] _ from hH20.get (n := 0) Z)) om om) (fun w21 hH22 => ?_)))))))))))))))))
 refine oA hH22 Z (oA hH22 Z (zt (ret (fin (hH22.sub (sC (sC (sC (sC sR))))) (fun w' hf => (xI Z (rt Z) (rt Z))) (fun w' hf => Z)))))
theorem zC7 {k : Nat} {a b c d : Int} {w : World} (h : Pt.Sm a b c d) (hk : b + d ≤ (k + 1 : Nat)) (ih : ∀ {a b c d : Int} {w : World}, Pt.Sm a b c d → b + d ≤ (k : Int) → Fn Tryz.prog 105 #[.agg #[.int .i64 a, .int .i64 b], .agg #[.int .i64 c, .int .i64 d]] w (fun u _ => u = .agg #[.int .i64 (Pt.sim (k) a b c d).1, .int .i64 (Pt.sim (k) a b c d).2]))  :
  Fn Tryz.prog 105 [(.agg #[(.int .i64 a), (.int .i64 b)]), (.agg #[(.int .i64 c), (.int .i64 d)])].toArray w (fun u _ => u = .agg #[.int .i64 (Pt.sim (k + 1) a b c d).1, .int .i64 (Pt.sim (k + 1) a b c d).2]) := by
 refine fz Tryz.func105 Z kz Z Z (fun hH => ?_)
 obtain ⟨e0, e1, e2, e3, e4⟩ := h.div
 have ha1 := h.a1
 have ha2 := h.a2
 have hb1 := h.b1
 have hb2 := h.b2
 have hc1 := h.c1
 have hc2 := h.c2
 have hd1 := h.d1
 have hd2 := h.d2
 have hnd := Pt.mul_bd (a := a / b + 1) (b := d) (A := 10001) (B := 10000) (by omega) (by omega) (by omega) (by omega)
 have hnd2 := Pt.mul_bd (a := a / b) (b := d) (A := 10001) (B := 10000) (by omega) (by omega) (by omega) (by omega)
 refine zr (yY Z Z Z hH (fun b1 w2 hH3 => (yY Z Z Z hH3 (fun b4 w5 hH6 => (yD (z := (.agg #[(.int .i64 0), (.int .i64 0)])) (fun _ => by kernel_rfl) Z Z hH6 (fun b7 w8 hH9 => (zs (oY hH9 (zI T.uI Z) (oY hH9 (zE T.yT Z (cw (n := 2) Z Z)) (oY hH9 (zI T.vR Z) (oY hH9 (zE T.yT Z (cw (n := 2) Z Z)) (oY hH9 (xU Z Z om om om) (oA hH9 Z (zt (seq (block (zr (oM hH9 Z ?_))))))))))))))))))
 refine oY hH9 (zI T.vR Z) (oY hH9 (zE T.yT Z (cw (n := 2) Z Z)) (oY hH9 (xA Z Z om) (oY hH9 (zI T.uI Z) (oY hH9 (zE T.yT Z (cw (n := 2) Z Z)) (oY hH9 (y5 Z Z) (oA hH9 Z (zt ?_)))))))
 by_cases hc10 : ((a / b) * b) = a
 ·have h1 : a / b * b = a := by omega
  refine zO Z (dT hc10) (zr (oM hH9 Z (oY hH9 (yR (v := (.agg #[(.int .i64 (a / b)), (.int .i64 1)])) Z (fun w => by kernel_rfl)) (zS (n := 0) (j := 0) Z Z hH9 Z T.x9 Z Z Z (by rfl) (fun w11 hH12 => (zt (ret (yE (z6 (fin ((hH12.sub (sK (sC (sC sR)))).front (n := 1) Z) (fun w' hf => (yN Z (rvA (cs := [(.int .i64 (a / b)), (.int .i64 1)]) Z T.y4 Z (y3 (Heap.xV hf (n := 1) Z) (k := 0) Z)))) (fun w' hf => ?_)))))))))))
  first | (rw [Pt.sim_1 h1]; done) | (rw [Pt.sim_2 h1 h2]; done) | (rw [Pt.sim_3 h1 h2]; done)
 have h1 : ¬ a / b * b = a := by omega
 refine zL Z (dF hc10) (zr (oM hH9 Z (oY hH9 (zV Z Z om) (oY hH9 (zI T.vR Z) (oY hH9 (zE T.yT Z (cw (n := 1) Z Z)) (oY hH9 (xA Z Z om) (oY hH9 (zI T.uI Z) (oY hH9 (zE T.yT Z (cw (n := 1) Z Z)) (oY hH9 (uS Z Z) (oA hH9 Z (zt ?_)))))))))))
 by_cases hc14 : (((a / b) + 1) * d) ≤ c
 ·have h2 : (a / b + 1) * d ≤ c := by omega
  refine zO Z (dT hc14) (zr (oM hH9 Z (oY hH9 (zV Z Z om) (oY hH9 (yR (v := (.agg #[(.int .i64 ((a / b) + 1)), (.int .i64 1)])) Z (fun w => by kernel_rfl)) (zS (n := 0) (j := 0) Z Z hH9 Z T.x9 Z Z Z (by rfl) (fun w15 hH16 => (zt (ret (yE (z6 (fin ((hH16.sub (sK (sC (sC sR)))).front (n := 1) Z) (fun w' hf => (yN Z (rvA (cs := [(.int .i64 ((a / b) + 1)), (.int .i64 1)]) Z T.y4 Z (y3 (Heap.xV hf (n := 1) Z) (k := 0) Z)))) (fun w' hf => ?_))))))))))))
  first | (rw [Pt.sim_1 h1]; done) | (rw [Pt.sim_2 h1 h2]; done) | (rw [Pt.sim_3 h1 h2]; done)
 have h2 : ¬ (a / b + 1) * d ≤ c := by omega
 obtain ⟨hs, hlt⟩ := h.step h1 h2
 have hsb := Pt.sim_bd k _ _ _ _ hs (by omega)
 have hsn := Pt.mul_bd (a := a / b) (b := (Pt.sim k d (c - a / b * d) b (a - a / b * b)).1) (A := 10001) (B := 10000) (by omega) (by omega) (by omega) (by have := hs.a2; have := hs.c2; omega)
 have hsa2 := hs.a2
 have hsb2 := hs.b2
 have hsc2 := hs.c2
 have hsd2 := hs.d2
 refine zL Z (dF hc14) (skip (yC (zu (oY hH9 (zI T.vR Z) (oY hH9 (zE T.yT Z (cw (n := 1) Z Z)) (oY hH9 (zI T.uI Z) (oY hH9 (zE T.yT Z (cw (n := 1) Z Z)) (oM hH9 Z (oY hH9 (zI T.vR Z) (oY hH9 (zE T.yT Z (cw (n := 1) Z Z)) (oY hH9 (xA Z Z om) (oY hH9 (y8 Z Z om) (oY hH9 (yR (v := (.agg #[(.int .i64 d), (.int .i64 (c - ((a / b) * d)))])) Z (fun w => by kernel_rfl)) (oY hH9 (zI T.vR Z) (oY hH9 (zE T.yT Z (cw (n := 2) Z Z)) (oY hH9 (zI T.uI Z) (oY hH9 (zE T.yT Z (cw (n := 2) Z Z)) (oM hH9 Z (oY hH9 (zI T.vR Z) ?_)))))))))))))))))))
 refine oY hH9 (zE T.yT Z (cw (n := 2) Z Z)) (oY hH9 (xA Z Z om) (oY hH9 (y8 Z Z om) (oY hH9 (yR (v := (.agg #[(.int .i64 b), (.int .i64 (a - ((a / b) * b)))])) Z (fun w => by kernel_rfl)) (zM Z Z Z hH9 (ih hs om) (fun w18 hH19 => (yD (z := (.agg #[(.int .i64 0), (.int .i64 0)])) (fun _ => by kernel_rfl) Z Z hH19 (fun b20 w21 hH22 => (zS (n := 0) (j := 0) Z Z hH22 Z T.x9 Z Z Z (by rfl) (fun w23 hH24 => (zs (oM hH24 Z (oY hH24 (zI T.uI Z) (oY hH24 (zE T.yT Z (cw (n := 0) Z Z)) (oY hH24 (xA Z Z om) (oY hH24 (zI T.vR Z) (oY hH24 (zE T.yT Z (cw (n := 0) Z Z)) (oY hH24 (zV Z Z om) (oY hH24 (zI T.uI Z) (oY hH24 (zE T.yT Z (cw (n := 0) Z Z)) (oY hH24 (yR (v := (.agg #[(.int .i64 (((a / b) * ((Pt.sim k d (c - ((a / b) * d)) b (a - ((a / b) * b))).1)) + ((Pt.sim k d (c - ((a / b) * d)) b (a - ((a / b) * b))).2))), (.int .i64 ((Pt.sim k d (c - ((a / b) * d)) b (a - ((a / b) * b))).1))])) Z (fun w => by kernel_rfl)) (zS (n := 1) (j := 0) Z Z hH24 Z T.x9 Z Z Z (by rfl) (fun w25 hH26 => ?_))))))))))))))))))))))
 refine zt (ret (fin ((hH26.sub (sC (sK (sC (sC sR))))).front (n := 1) Z) (fun w' hf => (yN Z (rvA (cs := [(.int .i64 (((a / b) * ((Pt.sim k d (c - ((a / b) * d)) b (a - ((a / b) * b))).1)) + ((Pt.sim k d (c - ((a / b) * d)) b (a - ((a / b) * b))).2))), (.int .i64 ((Pt.sim k d (c - ((a / b) * d)) b (a - ((a / b) * b))).1))]) Z T.y4 Z (y3 (Heap.xV hf (n := 1) Z) (k := 0) Z)))) (fun w' hf => ?_)))
 first | (rw [Pt.sim_1 h1]; done) | (rw [Pt.sim_2 h1 h2]; done) | (rw [Pt.sim_3 h1 h2]; done)
theorem zEk {k : Nat} {a b c d : Int} {w : World} (h : Pt.Sm a b c d) (hk : b + d ≤ (k : Int)) : Fn Tryz.prog 105 #[.agg #[.int .i64 a, .int .i64 b], .agg #[.int .i64 c, .int .i64 d]] w (fun u _ => u = .agg #[.int .i64 (Pt.sim (k) a b c d).1, .int .i64 (Pt.sim (k) a b c d).2]) := by
 induction k generalizing a b c d w with
 | zero => exact absurd hk (by have := h.b1; have := h.d1; omega)
 | succ k ih => exact zC7 h hk (fun h1 h2 => ih h1 h2)
theorem c42 {k : Nat} {a b c d : Int} {w : World} (hck : Pt.chk (a, b) = 0) (hck2 : Pt.chk (c, d) = 0) (hg : 0 ≤ Pt.gap (a, b) (c, d)) (hk : b + d ≤ (k : Int))  :
  Fn Tryz.prog 42 [(.agg #[(.int .i64 a), (.int .i64 b)]), (.agg #[(.int .i64 c), (.int .i64 d)])].toArray w (fun u _ => u = .tuple #[.agg #[.int .i64 (Pt.sim k a b c d).1, .int .i64 (Pt.sim k a b c d).2], .int .i64 0]) := by
 refine fz Tryz.func42 Z kz Z Z (fun hH => ?_)
 obtain ⟨hra, hrb⟩ := Pt.chk_rg hck
 obtain ⟨hrc, hrd⟩ := Pt.chk_rg hck2
 have hm1 := Pt.mul_30 (a := c) (b := b) (by omega) (by omega)
 have hm2 := Pt.mul_30 (a := a) (b := d) (by omega) (by omega)
 have hge : Pt.gap (a, b) (c, d) = c * b - a * d := rfl
 have hsm : Pt.Sm a b c d := ⟨by omega, by omega, by omega, by omega, by omega, by omega, by omega, by omega, by omega⟩
 refine zr (yY Z Z Z hH (fun b1 w2 hH3 => (yY Z Z Z hH3 (fun b4 w5 hH6 => (yD (z := (.agg #[(.int .i64 0), (.int .i64 0)])) (fun _ => by kernel_rfl) Z Z hH6 (fun b7 w8 hH9 => (oA hH9 Z (zt (seq ?_)))))))))
 have hck : Pt.chk (a, b) = 0 := hck
 refine region (oY hH9 (zW (cs := [(.int .i64 a), (.int .i64 b)]) T.y4 Z Z (fun _ hw => Heap.yH hw (n := 2) Z (k := 0) Z)) (oY hH9 (zW (cs := [(.int .i64 c), (.int .i64 d)]) T.y4 Z Z (fun _ hw => Heap.yH hw (n := 1) Z (k := 0) Z)) (z2 T.xG [(a, b), (c, d)] Z (fun w => by kernel_rfl) hH9 (fun u10 lo12 hi13 w11 hH14 => (yV Z Z Z hH14 (c72 (Heap.yI T.xG hH14 (n := 0) Z) (by simp) (by simp) (Pt.chkL_2 hck hck2)) (fun u17 w15 lo18 hi19 hH16 hv20 => ?_))))))
 obtain ⟨b21, hu, hb22⟩ := hv20
 subst hu
 have hH23 := Heap.weaken hH16 (n := 0) (φ := Bx b21 119 [.int .i64 a, .int .i64 b]) Z (fun w' h => by obtain ⟨b', e, h⟩ := h; cases e; exact h)
 refine oM hH23 Z (oY hH23 (zH Z Z) (oY hH23 (zH Z Z) (oA hH23 Z (oA hH23 Z (zt (seq (block (zr (oM hH23 Z (oY hH23 (yF Z Z) (oA hH23 Z (zt (zL Z Z (zr (oM hH23 Z (oY hH23 (zW (cs := [(.int .i64 c), (.int .i64 d)]) T.y4 Z Z (fun _ hw => Heap.yH hw (n := 3) Z (k := 0) Z)) (zM Z Z Z hH23 (KY ((show Bx b21 119 [.int .i64 a, .int .i64 b] _ from hH23.get (n := 0) Z)) om om) (fun w24 hH25 => ?_))))))))))))))))))
 refine oY hH25 (yL Z Z) (oA hH25 Z (zt ?_))
 by_cases hc26 : (Pt.gap (a, b) (c, d)) < 0
 ·refine zO Z (dT hc26) (zr (oY hH25 (yR (v := (.agg #[(.int .i64 0), (.int .i64 0)])) Z (fun w => by kernel_rfl)) (zS (n := 2) (j := 0) Z Z hH25 Z T.x9 Z Z Z (by rfl) (fun w27 hH28 => (oA hH28 Z (zt (ret (yE (z6 (fin ((hH28.sub (sC (sC (sK (sC (sC sR)))))).front (n := 1) Z) (fun w' hf => (xI Z (rvA (cs := [(.int .i64 0), (.int .i64 0)]) Z T.y4 Z (y3 (Heap.xV hf (n := 1) Z) (k := 0) Z)) (rt Z))) (fun w' hf => ?_)))))))))))
  first | (exfalso; omega) | rfl
 refine zL Z (dF hc26) (skip (yC (zu (oY hH25 (zW (cs := [(.int .i64 a), (.int .i64 b)]) T.y4 Z Z (fun _ hw => Heap.yH hw (n := 4) Z (k := 0) Z)) (oY hH25 (zW (cs := [(.int .i64 c), (.int .i64 d)]) T.y4 Z Z (fun _ hw => Heap.yH hw (n := 3) Z (k := 0) Z)) (zM Z Z Z hH25 (zEk (k := k) hsm hk) (fun w30 hH31 => (zS (n := 2) (j := 0) Z Z hH31 Z T.x9 Z Z Z (by rfl) (fun w32 hH33 => (oA hH33 Z (zt (ret (fin ((hH33.sub (sC (sC (sK (sC (sC sR)))))).front (n := 1) Z) (fun w' hf => (xI Z (rvA (cs := [(.int .i64 ((Pt.sim k a b c d).1)), (.int .i64 ((Pt.sim k a b c d).2))]) Z T.y4 Z (y3 (Heap.xV hf (n := 1) Z) (k := 0) Z)) (rt Z))) (fun w' hf => ?_))))))))))))))
 first | (exfalso; omega) | rfl
end Go.Fip
namespace Go.Fip
open Go.Proofs Go.RowKit
theorem zD7 {v : Value} {l : List Int} {x : Int} {w : World} (h0 : Rd encI 1 v l w) (hn : l.length ≤ 1000000)  :
  Fn Tryz.prog 114 [v, (.int .i64 x)].toArray w (fun u _ => u = .int .i64 (S.place l x)) := by
 refine fz Tryz.func114 Z kz Z Z (fun hH => (zr (oA hH Z (zt (seq (zr (oM hH Z (oY hH (z8 T.xR Z (h0.now hH (n := 0) Z).is) (oM hH Z (zt (block (loop (S := Nat) (fun k => [(8, (.int .i64 (k : Int))), (0, v), (1, (.int .i64 x)), (7, (.int .i64 (l.length : Int)))]) (fun k w1 => Heap [base w] w1 ∧ k ≤ l.length ∧ ∀ i, i < k → (fun y : Int => decide (y = x)) (nth l (i : Int)) = false) (fun k => l.length - k) (0) (uC Z (uC Z (uC Z (uC Z (Sub.nil _))))) ?_ ?_))))))))))))
 ·exact ⟨hH, om, S.all_zero⟩
 rintro k w1 ⟨hH2, hk, hall⟩
 refine zr (oY hH2 (yL Z Z) (zt (seq ?_)))
 by_cases hc3 : (k : Int) < (l.length : Int)
 ·refine zO Z (dT hc3) (skip (zN (seq (block (zr (oM hH2 Z (oA hH2 Z (zs (oM hH2 Z (oM hH2 Z (oM hH2 Z (oY hH2 (zP T.xR Z Z (h0.now hH2 (n := 0) Z).is om) (oY hH2 (zE T.yT Z (fun _ hw => Rd.at (h0.now hw (n := 0) Z) (i := (k : Int)) om (j := 0) Z)) (oY hH2 (y5 Z Z) (zt ?_)))))))))))))))
  by_cases hc4 : x = (nth l (k : Int))
  ·have hp : (fun y : Int => decide (y = x)) (nth l (k : Int)) = true := decide_eq_true (by omega)
   refine zO Z (dT hc4) (zr (oM hH2 Z (oA hH2 Z (zt (ret (yE (z6 (xY (yE (z6 (fin hH2 (fun w' hf => (yN Z (rt Z))) (fun w' hf => ?_))))))))))))
   first | exact congrArg (Value.int .i64) (x5 (k := k) (by omega) hall hp).symm | exact congrArg (Value.int .i64) (xP (fun i hi => hall i (by omega))).symm
  have hp : (fun y : Int => decide (y = x)) (nth l (k : Int)) = false := decide_eq_false (by omega)
  refine zL Z (dF hc4) (skip (yC (zN (region (oY hH2 (zV Z Z om) (oM hH2 Z (zC (y0 (k + 1) (uC Z (uC Z (uC Z (uC Z (Sub.nil _))))) (⟨hH2, om, S.all_snoc hall hp⟩) om3))))))))
 refine zL Z (dF hc3) (exit (yZ (xF (z7 (zu (oA hH2 Z (zt (ret (fin hH2 (fun w' hf => (yN Z (rt Z))) (fun w' hf => ?_))))))))))
 first | exact congrArg (Value.int .i64) (x5 (k := k) (by omega) hall hp).symm | exact congrArg (Value.int .i64) (xP (fun i hi => hall i (by omega))).symm
theorem zDe {v : Value} {l : List Int} {x : Int} {w : World} (h0 : Rd encI 1 v l w) (hn : l.length ≤ 1000000)  :
  Fn Tryz.prog 108 [v, (.int .i64 x)].toArray w (fun u _ => u = .bool (decide (0 ≤ S.place l x))) := by
 refine fz Tryz.func108 Z kz Z Z (fun hH => (zr (oA hH Z (zs (oM hH Z (oM hH Z (zM Z Z Z hH (zD7 (h0.now hH (n := 0) Z) (by first | omega | (simp; done) | (simp only [List.length_drop]; omega))) (fun w1 hH2 => (oY hH2 (vH Z Z) (oA hH2 Z (zt (ret (fin hH2 (fun w' hf => (yN Z (rt Z))) (fun w' hf => Z))))))))))))))
theorem zEd {v : Value} {l : List Int} {w : World} (h0 : Rd encI 1 v l w) (hne : 1 ≤ l.length) (hn : l.length ≤ 1000000)  :
  Fn Tryz.prog 156 [v].toArray w (fun u _ => u = .int .i64 (Pt.mxTo l (l.length - 1))) := by
 refine fz Tryz.func156 Z kz Z Z (fun hH => (zr (oA hH Z (zt (seq (zr (oM hH Z (oY hH (z8 T.xR Z (h0.now hH (n := 0) Z).is) (oY hH (yL Z Z) (zt ?_))))))))))
 have hc1 : ¬ ((l.length : Int) < 1) := (show ¬ (l.length : Int) < 1 by omega)
 refine zL Z (dF hc1) (skip (zu (oM hH Z (oY hH (zP T.xR Z Z (h0.now hH (n := 0) Z).is om) (oY hH (zE T.yT Z (fun _ hw => Rd.at (h0.now hw (n := 0) Z) (i := 0) om (j := 0) Z)) (oA hH Z (zt (seq (zr (oA hH Z (zt (block (loop (S := Nat) (fun k => [(4, (.int .i64 ((k + 1 : Nat) : Int))), (3, (.int .i64 (Pt.mxTo l k))), (0, v), (2, (.int .i64 0))]) (fun k w1 => Heap [base w] w1 ∧ k + 1 ≤ l.length) (fun k => l.length - k) (0) (uC Z (uC Z (uC Z (uC Z (Sub.nil _))))) ?_ ?_)))))))))))))
 ·exact ⟨hH, om⟩
 rintro k w2 ⟨hH3, hk⟩
 refine seq (zr (oM hH3 Z (oM hH3 Z (oY hH3 (z8 T.xR Z (h0.now hH3 (n := 0) Z).is) (oY hH3 (yL Z Z) (zt ?_))))))
 by_cases hc4 : ((k + 1 : Nat) : Int) < (l.length : Int)
 ·refine zO Z (dT hc4) (skip (zN (seq (block (region (oM hH3 Z (oM hH3 Z (oM hH3 Z (oY hH3 (zP T.xR Z Z (h0.now hH3 (n := 0) Z).is om) (oY hH3 (zE T.yT Z (fun _ hw => Rd.at (h0.now hw (n := 0) Z) (i := ((k + 1 : Nat) : Int)) om (j := 0) Z)) (oY hH3 (YG Z Z) (oA hH3 Z (zC (yC (zN (region (oM hH3 Z (oY hH3 (zV Z Z om) (oA hH3 Z (zC (y0 (k + 1) (Sub.cons (congrArg (fun z => some (Value.int .i64 z)) om) (uC Z (uC Z (uC Z (Sub.nil _))))) (⟨hH3, om⟩) om3)))))))))))))))))))))
 refine zL Z (dF hc4) (exit (yZ (xF (z7 (zu (oM hH3 Z (oA hH3 Z (zt (ret (fin hH3 (fun w' hf => (yN Z (rt Z))) (fun w' hf => ?_)))))))))))
 have hk2 : l.length - 1 = k := (by omega); rw [hk2]
theorem zFl {v : Value} {l : List Int} {w : World} (h0 : Rd encI 1 v l w) (hne : 1 ≤ l.length) (hn : l.length ≤ 1000000)  :
  Fn Tryz.prog 115 [v].toArray w (fun u _ => u = .int .i64 (Pt.mnTo l (l.length - 1))) := by
 refine fz Tryz.func115 Z kz Z Z (fun hH => (zr (oA hH Z (zt (seq (zr (oM hH Z (oY hH (z8 T.xR Z (h0.now hH (n := 0) Z).is) (oY hH (yL Z Z) (zt ?_))))))))))
 have hc1 : ¬ ((l.length : Int) < 1) := (show ¬ (l.length : Int) < 1 by omega)
 refine zL Z (dF hc1) (skip (zu (oM hH Z (oY hH (zP T.xR Z Z (h0.now hH (n := 0) Z).is om) (oY hH (zE T.yT Z (fun _ hw => Rd.at (h0.now hw (n := 0) Z) (i := 0) om (j := 0) Z)) (oA hH Z (zt (seq (zr (oA hH Z (zt (block (loop (S := Nat) (fun k => [(4, (.int .i64 ((k + 1 : Nat) : Int))), (3, (.int .i64 (Pt.mnTo l k))), (0, v), (2, (.int .i64 0))]) (fun k w1 => Heap [base w] w1 ∧ k + 1 ≤ l.length) (fun k => l.length - k) (0) (uC Z (uC Z (uC Z (uC Z (Sub.nil _))))) ?_ ?_)))))))))))))
 ·exact ⟨hH, om⟩
 rintro k w2 ⟨hH3, hk⟩
 refine seq (zr (oM hH3 Z (oM hH3 Z (oY hH3 (z8 T.xR Z (h0.now hH3 (n := 0) Z).is) (oY hH3 (yL Z Z) (zt ?_))))))
 by_cases hc4 : ((k + 1 : Nat) : Int) < (l.length : Int)
 ·refine zO Z (dT hc4) (skip (zN (seq (block (region (oM hH3 Z (oM hH3 Z (oM hH3 Z (oY hH3 (zP T.xR Z Z (h0.now hH3 (n := 0) Z).is om) (oY hH3 (zE T.yT Z (fun _ hw => Rd.at (h0.now hw (n := 0) Z) (i := ((k + 1 : Nat) : Int)) om (j := 0) Z)) (oY hH3 (j5 Z Z) (oA hH3 Z (zC (yC (zN (region (oM hH3 Z (oY hH3 (zV Z Z om) (oA hH3 Z (zC (y0 (k + 1) (Sub.cons (congrArg (fun z => some (Value.int .i64 z)) om) (uC Z (uC Z (uC Z (Sub.nil _))))) (⟨hH3, om⟩) om3)))))))))))))))))))))
 refine zL Z (dF hc4) (exit (yZ (xF (z7 (zu (oM hH3 Z (oA hH3 Z (zt (ret (fin hH3 (fun w' hf => (yN Z (rt Z))) (fun w' hf => ?_)))))))))))
 have hk2 : l.length - 1 = k := (by omega); rw [hk2]
theorem zBy {v : Value} {l : List Int} {w : World} (h0 : Rd encI 1 v l w) (hn : l.length ≤ 1000000) (hin : ∀ i, i < l.length → 0 ≤ nth l (i : Int) ∧ nth l (i : Int) ≤ 10000) (hfew : ∀ k, k ≤ l.length → Pt.Few (Pt.wst l k))  :
  Fn Tryz.prog 109 [v].toArray w (fun u _ => u = .tuple #[.agg #[.int .i64 ((Pt.wst l l.length).1 + (Pt.wst l l.length).2.2.1), .int .i64 ((Pt.wst l l.length).2.1 + (Pt.wst l l.length).2.2.2)], .bool (decide ((1 ≤ (Pt.wst l l.length).1 + (Pt.wst l l.length).2.2.1 ∧ (Pt.wst l l.length).1 + (Pt.wst l l.length).2.2.1 ≤ 10000) ∧ (1 ≤ (Pt.wst l l.length).2.1 + (Pt.wst l l.length).2.2.2 ∧ (Pt.wst l l.length).2.1 + (Pt.wst l l.length).2.2.2 ≤ 10000)))]) := by
 refine fz Tryz.func109 Z kz Z Z (fun hH => (zr (yD (z := (.agg #[(.int .i64 0), (.int .i64 0)])) (fun _ => by kernel_rfl) Z Z hH (fun b1 w2 hH3 => (oA hH3 Z (zs (zM Z Z Z hH3 (c74) (fun w4 hH5 => (yD (z := (.agg #[(.int .i64 0), (.int .i64 0), (.int .i64 0), (.int .i64 0)])) (fun _ => by kernel_rfl) Z Z hH5 (fun b6 w7 hH8 => (zS (n := 0) (j := 0) Z Z hH8 Z T.JJ Z Z Z (by rfl) (fun w9 hH10 => (zt (seq (zr (oM hH10 Z (oY hH10 (z8 T.xR Z (h0.now hH10 (n := 2) Z).is) (oM hH10 Z (zt ?_)))))))))))))))))))
 refine block (loop (S := Nat) (fun k => [(11, (.int .i64 (k : Int))), (2, (.pointer (some ⟨b1, 0, none⟩))), (4, (.pointer (some ⟨b6, 0, none⟩))), (9, v), (10, (.int .i64 (l.length : Int)))]) (fun k w1 => Heap [bx b6 120 [(.int .i64 ((Pt.wst l k).1)), (.int .i64 ((Pt.wst l k).2.1)), (.int .i64 ((Pt.wst l k).2.2.1)), (.int .i64 ((Pt.wst l k).2.2.2))], bx b1 27 [(.int .i64 0), (.int .i64 0)], base w] w1 ∧ k ≤ l.length) (fun k => l.length - k) (0) (uC Z (uC Z (uC Z (uC Z (uC Z (Sub.nil _)))))) ?_ ?_)
 ·exact ⟨(Heap.y9 (n := 0) hH10 Z (Z)), om⟩
 rintro k w11 ⟨hH12, hk⟩
 obtain ⟨hw1, hw2, hw3, hw4⟩ := hfew k hk
 refine zr (oY hH12 (yL Z Z) (zt (seq ?_)))
 by_cases hc13 : (k : Int) < (l.length : Int)
 ·refine zO Z (dT hc13) (skip (zN (seq (block (zr (oM hH12 Z (oY hH12 (zP T.xR Z Z (h0.now hH12 (n := 2) Z).is om) (oY hH12 (zE T.yT Z (fun _ hw => Rd.at (h0.now hw (n := 2) Z) (i := (k : Int)) om (j := 0) Z)) (oA hH12 Z (oA hH12 Z (zt (seq (seq ?_)))))))))))))
  have hnk := hin k (by omega)
  obtain ⟨hv1, hv2, hv3, hv4⟩ := hfew (k + 1) (by omega)
  have m1 := Pt.mul_30 (a := nth l (k : Int)) (b := (Pt.wst l k).1) (by omega) (by omega)
  have m2 := Pt.mul_30 (a := nth l (k : Int)) (b := (Pt.wst l k).2.1) (by omega) (by omega)
  have m3 := Pt.mul_30 (a := nth l (k : Int)) (b := (Pt.wst l k).2.2.1) (by omega) (by omega)
  have m4 := Pt.mul_30 (a := nth l (k : Int)) (b := (Pt.wst l k).2.2.2) (by omega) (by omega)
  refine region (oM hH12 Z (oY hH12 (xO Z Z om om) (oY hH12 (y5 Z Z) (zt ?_))))
  by_cases hc14 : ((k : Int) % 2) = 0
  ·have hev : (k : Int) % 2 = 0 := by omega
   rw [Pt.wst_e hev] at hv1 hv2 hv3 hv4
   refine zO Z (dT hc14) (region (oY hH12 (yA T.y7 Z Z om) (oY hH12 (zE T.yT Z (cw (n := 0) Z Z)) (oM hH12 Z (oY hH12 (yA T.y7 Z Z om) (oY hH12 (zE T.yT Z (cw (n := 0) Z Z)) (oY hH12 (xA Z Z om) (oY hH12 (zV Z Z om) (oY hH12 (yA T.y7 Z Z om) (oY hH12 (zE T.yT Z (cw (n := 0) Z Z)) (oM hH12 Z (oY hH12 (yA T.y7 Z Z om) (oY hH12 (zE T.yT Z (cw (n := 0) Z Z)) (oY hH12 (xA Z Z om) (oY hH12 (zV Z Z om) (oY hH12 (yA T.y7 Z Z om) (zS (n := 0) (j := 0) Z Z hH12 Z T.sz2 Z Z Z (by rfl) (fun w15 hH16 => (oY hH16 (yA T.y7 Z Z om) (zS (n := 0) (j := 1) Z Z hH16 Z T.sz2 Z Z Z (by rfl) (fun w17 hH18 => (zt ?_))))))))))))))))))))))
   refine zr (oY hH18 (zBe T.y7 Z) (zM Z Z Z hH18 ((show Fn Tryz.prog 156 _ _ (fun u _ => u = .int .i64 (max (max (max (((Pt.wst l k).1) + ((nth l (k : Int)) * ((Pt.wst l k).2.2.1))) (((Pt.wst l k).2.1) + ((nth l (k : Int)) * ((Pt.wst l k).2.2.2)))) ((Pt.wst l k).2.2.1)) ((Pt.wst l k).2.2.2))) from zEd (Bx.rdI (xs := [((Pt.wst l k).1) + ((nth l (k : Int)) * ((Pt.wst l k).2.2.1)), ((Pt.wst l k).2.1) + ((nth l (k : Int)) * ((Pt.wst l k).2.2.2)), (Pt.wst l k).2.2.1, (Pt.wst l k).2.2.2]) (Heap.xV hH18 (n := 0) Z)) (by simp) (by simp))) (fun w19 hH20 => (oY hH20 (xJ Z Z) (zt ?_)))))
   have hc21 : ¬ (10000 < (max (max (max (((Pt.wst l k).1) + ((nth l (k : Int)) * ((Pt.wst l k).2.2.1))) (((Pt.wst l k).2.1) + ((nth l (k : Int)) * ((Pt.wst l k).2.2.2)))) ((Pt.wst l k).2.2.1)) ((Pt.wst l k).2.2.2))) := (by simp only at hv1 hv2 hv3 hv4; omega)
   refine zL Z (dF hc21) (skip (yC (zN (region (oY hH20 (zV Z Z om) (oM hH20 Z (zC (y0 (k + 1) (uC Z (uC Z (uC Z (uC Z (uC Z (Sub.nil _)))))) (⟨(Heap.y9 (n := 0) hH20 Z (by first | (rw [Pt.wst_e hev]; rfl) | (rw [Pt.wst_o hod]; rfl))), om⟩) om3))))))))
  have hod : ¬ (k : Int) % 2 = 0 := by omega
  rw [Pt.wst_o hod] at hv1 hv2 hv3 hv4
  refine zL Z (dF hc14) (region (oY hH12 (yA T.y7 Z Z om) (oY hH12 (zE T.yT Z (cw (n := 0) Z Z)) (oM hH12 Z (oY hH12 (yA T.y7 Z Z om) (oY hH12 (zE T.yT Z (cw (n := 0) Z Z)) (oY hH12 (xA Z Z om) (oY hH12 (zV Z Z om) (oY hH12 (yA T.y7 Z Z om) (oY hH12 (zE T.yT Z (cw (n := 0) Z Z)) (oM hH12 Z (oY hH12 (yA T.y7 Z Z om) (oY hH12 (zE T.yT Z (cw (n := 0) Z Z)) (oY hH12 (xA Z Z om) (oY hH12 (zV Z Z om) (oY hH12 (yA T.y7 Z Z om) (zS (n := 0) (j := 2) Z Z hH12 Z T.sz2 Z Z Z (by rfl) (fun w22 hH23 => (oY hH23 (yA T.y7 Z Z om) (zS (n := 0) (j := 3) Z Z hH23 Z T.sz2 Z Z Z (by rfl) (fun w24 hH25 => (zt ?_))))))))))))))))))))))
  refine zr (oY hH25 (zBe T.y7 Z) (zM Z Z Z hH25 ((show Fn Tryz.prog 156 _ _ (fun u _ => u = .int .i64 (max (max (max ((Pt.wst l k).1) ((Pt.wst l k).2.1)) (((Pt.wst l k).2.2.1) + ((nth l (k : Int)) * ((Pt.wst l k).1)))) (((Pt.wst l k).2.2.2) + ((nth l (k : Int)) * ((Pt.wst l k).2.1))))) from zEd (Bx.rdI (xs := [(Pt.wst l k).1, (Pt.wst l k).2.1, ((Pt.wst l k).2.2.1) + ((nth l (k : Int)) * ((Pt.wst l k).1)), ((Pt.wst l k).2.2.2) + ((nth l (k : Int)) * ((Pt.wst l k).2.1))]) (Heap.xV hH25 (n := 0) Z)) (by simp) (by simp))) (fun w26 hH27 => (oY hH27 (xJ Z Z) (zt ?_)))))
  have hc28 : ¬ (10000 < (max (max (max ((Pt.wst l k).1) ((Pt.wst l k).2.1)) (((Pt.wst l k).2.2.1) + ((nth l (k : Int)) * ((Pt.wst l k).1)))) (((Pt.wst l k).2.2.2) + ((nth l (k : Int)) * ((Pt.wst l k).2.1))))) := (by simp only at hv1 hv2 hv3 hv4; omega)
  refine zL Z (dF hc28) (skip (yC (zN (region (oY hH27 (zV Z Z om) (oM hH27 Z (zC (y0 (k + 1) (uC Z (uC Z (uC Z (uC Z (uC Z (Sub.nil _)))))) (⟨(Heap.y9 (n := 0) hH27 Z (by first | (rw [Pt.wst_e hev]; rfl) | (rw [Pt.wst_o hod]; rfl))), om⟩) om3))))))))
 have hk2 : l.length = k := by omega
 refine zL Z (dF hc13) (exit (yZ (xF (z7 (zN (seq ?_))))))
 skip
 refine region (oY hH12 (yA T.y7 Z Z om) (oY hH12 (zE T.yT Z (cw (n := 0) Z Z)) (oY hH12 (yA T.y7 Z Z om) (oY hH12 (zE T.yT Z (cw (n := 0) Z Z)) (oY hH12 (zV Z Z om) (oY hH12 (yA T.y7 Z Z om) (oY hH12 (zE T.yT Z (cw (n := 0) Z Z)) (oY hH12 (yA T.y7 Z Z om) (oY hH12 (zE T.yT Z (cw (n := 0) Z Z)) (oY hH12 (zV Z Z om) (oY hH12 (yR (v := (.agg #[(.int .i64 (((Pt.wst l k).1) + ((Pt.wst l k).2.2.1))), (.int .i64 (((Pt.wst l k).2.1) + ((Pt.wst l k).2.2.2)))])) Z (fun w => by kernel_rfl)) (yD (z := (.agg #[(.int .i64 0), (.int .i64 0)])) (fun _ => by kernel_rfl) Z Z hH12 (fun b29 w30 hH31 => (zS (n := 0) (j := 0) Z Z hH31 Z T.x9 Z Z Z (by rfl) (fun w32 hH33 => (zt (seq (zY (fun w' => Heap [bx b29 27 [(.int .i64 (((Pt.wst l k).1) + ((Pt.wst l k).2.2.1))), (.int .i64 (((Pt.wst l k).2.1) + ((Pt.wst l k).2.2.2)))], bx b6 120 [(.int .i64 ((Pt.wst l k).1)), (.int .i64 ((Pt.wst l k).2.1)), (.int .i64 ((Pt.wst l k).2.2.1)), (.int .i64 ((Pt.wst l k).2.2.2))], base w] w') T.mixed (fun w34 hr35 => ?_)))))))))))))))))))
 have hH36 := hH33.redrawn hr35
 refine zK [0, 1, 2, 3, 4] kz (hH36.sub (sK (sK (sC sR)))) _ _ _ kz (zJ Z Z (zW (cs := [(.int .i64 (((Pt.wst l k).1) + ((Pt.wst l k).2.2.1))), (.int .i64 (((Pt.wst l k).2.1) + ((Pt.wst l k).2.2.2)))]) T.y4 Z Z (fun _ hw => Heap.yH hw (n := 0) Z (k := 0) Z)) (zJ Z Z (zI T.uI Z) (zJ Z Z (zE T.yT Z (cw (n := 0) Z Z)) (zJ Z Z (zI T.vR Z) (zJ Z Z (zE T.yT Z (cw (n := 0) Z Z)) (zQ (z1 5 kz Z (z2 T.zR [((Pt.wst l k).1) + ((Pt.wst l k).2.2.1), ((Pt.wst l k).2.1) + ((Pt.wst l k).2.2.2)] Z (fun w => by kernel_rfl) hH36 (fun u37 lo39 hi40 w38 hH41 => (zC (⟨(hH41.sub (sC (sK (sK (sC sR))))), (z1 6 kz Z (zM Z Z Z hH41 (JE (Heap.yI T.zR hH41 (n := 0) Z)) (fun w42 hH43 => (zC (⟨(hH43.sub (sC (sK (sK (sC sR))))), (z1 7 kz Z (zS (n := 3) (j := 0) Z Z hH43 Z T.x9 Z Z Z (by rfl) (fun w44 hH45 => (zC (⟨(hH45.sub (sC (sK (sK (sC sR))))), ?_⟩)))))⟩)))))⟩)))))))))))
 refine zK [8] kz (hH45.sub (sC (sK (sK (sC sR))))) _ _ _ kz (zJ Z Z (yK Z) (zQ (zX kz (zN (ret (fin ((hH45.sub (sC (sC (sC sR)))).front (n := 1) Z) (fun w' hf => (xI Z (rvA (cs := [(.int .i64 (((Pt.wst l k).1) + ((Pt.wst l k).2.2.1))), (.int .i64 (((Pt.wst l k).2.1) + ((Pt.wst l k).2.2.2)))]) Z T.y4 Z (y3 (Heap.xV hf (n := 1) Z) (k := 0) Z)) (rt Z))) (fun w' hf => ?_)))))))
 rw [hk2]
end Go.Fip
namespace Go.Fip
open Go.Proofs Go.RowKit
theorem tup2 {p : Int × Int} {a b : Int} {k k' : IntKind} (h : p = (a, b)) : Value.tuple #[.int k a, .int k' b] = .tuple #[.int k p.1, .int k' p.2] := by subst h; rfl
theorem c32 {v : Value} {js : List S.Pr} {x : Int} {w : World} (h0 : Rd encP 2 v js w) (hx : 0 ≤ x) (hx2 : x < 2 * (js.length : Int)) (hx3 : x ≤ 1000000)  :
  Fn Tryz.prog 32 [v, (.int .i64 x)].toArray w (fun u _ => u = .int .i64 (S.at2 js x)) := by
 refine fz Tryz.func32 Z kz Z Z (fun hH => (zr (oA hH Z (zt (seq (zY (fun w' => Heap [base w] w') T.mixed (fun w1 hr2 => ?_)))))))
 have hH3 := hH.redrawn hr2
 refine zK [0, 1, 2, 3, 4, 5, 6, 7, 8, 9, 10, 11, 12, 13, 14, 15, 16] kz hH3 _ _ _ kz (qM Z Z Z (qM Z Z Z (zJ Z Z (xU Z Z om om om) (zJ Z Z (zP T.xX Z Z (h0.now hH3 (n := 0) Z).is om) (zJ Z Z (zI T.uW Z) (zJ Z Z (zE T.yT Z (fun _ hw => Rd.at (h0.now hw (n := 0) Z) (i := x / 2) om (j := 0) Z)) (qM Z Z Z (qM Z Z Z (zJ Z Z (xU Z Z om om om) (zJ Z Z (zP T.xX Z Z (h0.now hH3 (n := 0) Z).is om) (zJ Z Z (zI T.kL Z) (zJ Z Z (zE T.yT Z (fun _ hw => Rd.at (h0.now hw (n := 0) Z) (i := x / 2) om (j := 1) Z)) (zJ Z Z (yR (v := (.agg #[(.int .i64 ((nth js (x / 2)).1)), (.int .i64 ((nth js (x / 2)).2))])) Z (fun w => by kernel_rfl)) (qM Z Z Z (zJ Z Z (xO Z Z om om) (zJ Z Z (XB T.zAh T.yT Z Z om) (zJ Z Z (yK Z) (zQ (zX kz (zN (ret ?_)))))))))))))))))))))
 refine fin hH3 (fun w' hf => (yN Z (rt Z))) (fun w' hf => Z)
theorem c31 {v : Value} {js : List S.Pr} {x : Int} {w : World} (h0 : Rd encP 2 v js w) (hx : 0 ≤ x) (hx2 : x < 2 * (js.length : Int)) (hx3 : x ≤ 1000000)  :
  Fn Tryz.prog 31 [v, (.int .i64 x)].toArray w (fun u _ => u = .int .i64 (S.at2 js x)) := by
 refine fz Tryz.func31 Z kz Z Z (fun hH => (zr (oA hH Z (zt (seq (zY (fun w' => Heap [base w] w') T.mixed (fun w1 hr2 => ?_)))))))
 have hH3 := hH.redrawn hr2
 refine zK [0, 1, 2, 3, 4, 5, 6, 7, 8, 9, 10, 11, 12, 13, 14, 15, 16] kz hH3 _ _ _ kz (qM Z Z Z (qM Z Z Z (zJ Z Z (xU Z Z om om om) (zJ Z Z (zP T.j0 Z Z (h0.now hH3 (n := 0) Z).is om) (zJ Z Z (zI T.VR Z) (zJ Z Z (zE T.yT Z (fun _ hw => Rd.at (h0.now hw (n := 0) Z) (i := x / 2) om (j := 0) Z)) (qM Z Z Z (qM Z Z Z (zJ Z Z (xU Z Z om om om) (zJ Z Z (zP T.j0 Z Z (h0.now hH3 (n := 0) Z).is om) (zJ Z Z (zI T.VX Z) (zJ Z Z (zE T.yT Z (fun _ hw => Rd.at (h0.now hw (n := 0) Z) (i := x / 2) om (j := 1) Z)) (zJ Z Z (yR (v := (.agg #[(.int .i64 ((nth js (x / 2)).1)), (.int .i64 ((nth js (x / 2)).2))])) Z (fun w => by kernel_rfl)) (qM Z Z Z (zJ Z Z (xO Z Z om om) (zJ Z Z (XB T.zAh T.yT Z Z om) (zJ Z Z (yK Z) (zQ (zX kz (zN (ret ?_)))))))))))))))))))))
 refine fin hH3 (fun w' hf => (yN Z (rt Z))) (fun w' hf => Z)
theorem c11 {v u : Value} {js ps : List S.Pr} {w : World} (h0 : Rd encP 2 v js w) (h1 : Rd encP 2 u ps w) (hn : js.length ≤ 1000000) (hn2 : ps.length ≤ 1000000)  :
  Fn Tryz.prog 11 [v, u].toArray w (fun u _ => u = .tuple #[.int .i64 (S.checkPlan js ps).1, .int .i64 (S.checkPlan js ps).2]) := by
 refine fz Tryz.func11 Z kz Z Z (fun hH => (zr (oA hH Z (oA hH Z (zs (oM hH Z (zM Z Z Z hH (c26 (h0.now hH (n := 0) Z) om) (fun w1 hH2 => (oA hH2 Z (zs (oA hH2 Z (zt (seq (block (seq ?_)))))))))))))))
 refine region (oM hH2 Z (oY hH2 (yF Z Z) (oA hH2 Z (zt ?_))))
 by_cases hc3 : (S.checkJobs js) = 0
 ·refine zL Z (zG hc3) (zr (oM hH2 Z (oY hH2 (z8 T.j0 Z (h1.now hH2 (n := 0) Z).is) (oM hH2 Z (oY hH2 (z8 T.xX Z (h0.now hH2 (n := 0) Z).is) (oY hH2 (yF Z Z) (oA hH2 Z (zt ?_))))))))
  by_cases hc4 : (ps.length : Int) = (js.length : Int)
  ·refine zL Z (zG hc4) (zr (oM hH2 Z (oM hH2 Z (zM Z Z Z hH2 (c30 (h1.now hH2 (n := 0) Z) hn2) (fun w5 hH6 => (oA hH6 Z (zt ?_)))))))
   by_cases hc7 : has (fun x : S.Pr => !decide (S.okTime x)) ps = true
   ·have hT := zAw ‹_›
    refine zO Z hc7 (zr (oA hH6 Z (oA hH6 Z (zt (ret (yE (z6 (fin hH6 (fun w' hf => (xI Z (rt Z) (rt Z))) (fun w' hf => ?_)))))))))
    first | (have hk2 : k = 2 * js.length := (by omega); have hR := S.right_of_not_bad hj (ps := ps) (fun i hi => hall i (by omega)); subst hk2; exact tup2 (S.cp5 hc0 (by omega) hT hR)) | first | exact tup2 (S.cp1 (by assumption)) | exact tup2 (S.cp2 (by assumption) (by omega)) | exact tup2 (S.cp3 (by assumption) (by omega) (by assumption)) | exact tup2 (S.cp4 (by assumption) (by omega) (by assumption) (by assumption)) | exact tup2 (S.cp5 (by assumption) (by omega) (by assumption) (by assumption))
   have hT := WU ‹_›
   have hc0 : S.checkJobs js = 0 := by omega
   have hj := S.checkJobs_iff.1 hc0
   have hl8 := hj.2.1
   refine zL Z (Bool.eq_false_iff.2 hc7) (skip (yC (zu (oA hH6 Z (zt (seq (zr (oM hH6 Z (oY hH6 (z8 T.xX Z (h0.now hH6 (n := 0) Z).is) (oY hH6 (xA Z Z om) (oM hH6 Z (zt (block (loop (S := Nat) (fun k => [(31, (.int .i64 (k : Int))), (8, (.int .i64 (S.endTo js ps k))), (0, v), (1, u), (30, (.int .i64 (2 * (js.length : Int))))]) (fun k w1 => Heap [base w] w1 ∧ k ≤ 2 * js.length ∧ ∀ i, i < k → ∀ j, j < 2 * js.length → ¬ S.bad js ps (i : Int) (j : Int)) (fun k => 2 * js.length - k) (0) (uC Z (uC Z (uC Z (uC Z (uC Z (Sub.nil _)))))) ?_ ?_))))))))))))))
   ·exact ⟨hH6, om, S.all_zero⟩
   rintro k w8 ⟨hH9, hk, hall⟩
   refine zr (oY hH9 (yL Z Z) (zt (seq ?_)))
   by_cases hc10 : (k : Int) < (2 * (js.length : Int))
   ·refine zO Z (dT hc10) (skip (zN (seq (block (zr (oM hH9 Z (oA hH9 Z (zt (seq ?_)))))))))
    have hb1 := hj.at2 (w := (k : Int)) (by omega) (by omega)
    have hb2 := hT.at2 (w := (k : Int)) (by omega) (by omega)
    have hb3 := S.endTo_bd hj hT (by omega) k (by omega)
    refine region (oM hH9 Z (oM hH9 Z (zM Z Z Z hH9 (c31 (h1.now hH9 (n := 0) Z) om om om) (fun w11 hH12 => (oM hH12 Z (oM hH12 Z (zM Z Z Z hH12 (c32 (h0.now hH12 (n := 0) Z) om om om) (fun w13 hH14 => (oY hH14 (zV Z Z om) (oA hH14 Z (zs (oM hH14 Z (oM hH14 Z (oY hH14 (YG Z Z) (oA hH14 Z (zs (oM hH14 Z ?_)))))))))))))))))
    refine oY hH14 (z8 T.xX Z (h0.now hH14 (n := 0) Z).is) (oY hH14 (xA Z Z om) (oM hH14 Z (zt (block (loop (S := Nat) (fun j => [(47, (.int .i64 (j : Int))), (0, v), (1, u), (8, (.int .i64 (max (S.endTo js ps k) ((S.at2 ps (k : Int)) + (S.at2 js (k : Int)))))), (9, (.int .i64 (k : Int))), (10, (.int .i64 ((S.at2 ps (k : Int)) + (S.at2 js (k : Int))))), (30, (.int .i64 (2 * (js.length : Int)))), (31, (.int .i64 (k : Int))), (46, (.int .i64 (2 * (js.length : Int))))]) (fun j w1 => Heap [base w] w1 ∧ j ≤ 2 * js.length ∧ ∀ i, i < j → ¬ S.bad js ps (k : Int) (i : Int)) (fun j => 2 * js.length - j) (0) (uC Z (uC Z (uC Z (uC Z (uC Z (uC Z (uC Z (uC Z (uC Z (Sub.nil _)))))))))) ?_ ?_)))))
    ·exact ⟨hH14, om, S.all_zero⟩
    rintro j w15 ⟨hH16, hj2, hall2⟩
    refine zr (oY hH16 (yL Z Z) (zt (seq ?_)))
    by_cases hc17 : (j : Int) < (2 * (js.length : Int))
    ·refine zO Z (dT hc17) (skip (zN (seq (block (zr (oM hH16 Z (oA hH16 Z (zs (oM hH16 Z (oM hH16 Z (oY hH16 (yF Z Z) (oM hH16 Z ?_))))))))))))
     by_cases hc18 : (j : Int) = (k : Int)
     ·refine zD Z Z (zG hc18) Z (zD Z Z (zG hc18) Z (zD Z Z (zG hc18) Z (zD Z Z (zG hc18) Z (zD Z Z (zG hc18) Z (zD Z Z (zG hc18) Z (xD Z Z Z (xD Z Z Z (xD Z Z Z (xD Z Z Z (xD Z Z Z (zD Z Z (zG hc18) Z (oY hH16 (zT Z (zG hc18) Z) (oM hH16 Z (zD Z Z Z Z (zD Z Z Z Z (zD Z Z Z Z (zD Z Z Z Z (zD Z Z Z Z (zD Z Z Z Z (zD Z Z Z Z (oY hH16 (zT Z Z Z) ?_)))))))))))))))))))))
      refine oM hH16 Z (zD Z Z Z Z (zD Z Z Z Z (zD Z Z Z Z (zD Z Z Z Z (zD Z Z Z Z (oY hH16 (zT Z Z Z) (zt (zL Z Z (skip (yC (zN (region (oY hH16 (zV Z Z om) (oM hH16 Z (zC (y0 (j + 1) (uC Z (uC Z (uC Z (uC Z (uC Z (uC Z (uC Z (uC Z (uC Z (Sub.nil _)))))))))) (⟨hH16, om, S.all_snoc hall2 (by unfold S.bad; omega)⟩) om3))))))))))))))))
     refine zB Z Z (zF hc18) (oM hH16 Z (zB Z Z (zF hc18) (oY hH16 (xU Z Z om om om) (zB Z Z (zF hc18) (oM hH16 Z (zB Z Z (zF hc18) (oY hH16 (xU Z Z om om om) (zB Z Z (zF hc18) (oY hH16 (y5 Z Z) (zB Z Z (zF hc18) (oM hH16 Z ?_)))))))))))
     by_cases hc19 : ((j : Int) / 2) = ((k : Int) / 2)
     ·refine zD Z Z (dT hc19) Z (zD Z Z (dT hc19) Z (zD Z Z (dT hc19) Z (zD Z Z (dT hc19) Z (zD Z Z (dT hc19) Z (zB Z Z (zF hc18) (oY hH16 (zU Z (dT hc19) Z) (oY hH16 (zU Z (zF hc18) Z) (oM hH16 Z (zB Z Z Z (oM hH16 Z (zB Z Z Z (oM hH16 Z (zB Z Z Z (zM Z Z Z hH16 (c31 (h1.now hH16 (n := 0) Z) om om om) (fun w20 hH21 => (zB Z Z Z (oM hH21 Z (zB Z Z Z (oM hH21 Z (zB Z Z Z (zM Z Z Z hH21 (c31 (h1.now hH21 (n := 0) Z) om om om) (fun w22 hH23 => (zB Z Z Z ?_)))))))))))))))))))))))
      refine oY hH23 (vH Z Z) (oY hH23 (zU Z Z Z) (oM hH23 Z ?_))
      by_cases hc24 : (S.at2 ps (k : Int)) ≤ (S.at2 ps (j : Int))
      ·refine zB Z Z (dT hc24) (oM hH23 Z (zB Z Z (dT hc24) (oM hH23 Z (zB Z Z (dT hc24) (zM Z Z Z hH23 (c31 (h1.now hH23 (n := 0) Z) om om om) (fun w25 hH26 => (zB Z Z (dT hc24) (oM hH26 Z (zB Z Z (dT hc24) (oY hH26 (yL Z Z) (oY hH26 (zU Z (dT hc24) Z) (zt ?_))))))))))))
       by_cases hc27 : (S.at2 ps (j : Int)) < ((S.at2 ps (k : Int)) + (S.at2 js (k : Int)))
       ·have hbad : S.bad js ps (k : Int) (j : Int) := by unfold S.bad; omega
        have hR := S.not_right_of_bad hj (by omega) (by omega) hbad
        refine zO Z (dT hc27) (zr (oA hH26 Z (oA hH26 Z (zt (ret (yE (z6 (xY (yE (yE (z6 (xY (yE (z6 (fin hH26 (fun w' hf => (xI Z (rt Z) (rt Z))) (fun w' hf => ?_))))))))))))))))
        first | (have hk2 : k = 2 * js.length := (by omega); have hR := S.right_of_not_bad hj (ps := ps) (fun i hi => hall i (by omega)); subst hk2; exact tup2 (S.cp5 hc0 (by omega) hT hR)) | first | exact tup2 (S.cp1 (by assumption)) | exact tup2 (S.cp2 (by assumption) (by omega)) | exact tup2 (S.cp3 (by assumption) (by omega) (by assumption)) | exact tup2 (S.cp4 (by assumption) (by omega) (by assumption) (by assumption)) | exact tup2 (S.cp5 (by assumption) (by omega) (by assumption) (by assumption))
       refine zL Z (dF hc27) (skip (yC (zN (region (oY hH26 (zV Z Z om) (oM hH26 Z (zC (y0 (j + 1) (uC Z (uC Z (uC Z (uC Z (uC Z (uC Z (uC Z (uC Z (uC Z (Sub.nil _)))))))))) (⟨hH26, om, S.all_snoc hall2 (by unfold S.bad; omega)⟩) om3))))))))
      refine zD Z Z (dF hc24) Z (zD Z Z (dF hc24) Z (zD Z Z (dF hc24) Z (zD Z Z (dF hc24) Z (zD Z Z (dF hc24) Z (oY hH23 (zT Z (dF hc24) Z) (zt (zL Z Z (skip (yC (zN (region (oY hH23 (zV Z Z om) (oM hH23 Z (zC (y0 (j + 1) (uC Z (uC Z (uC Z (uC Z (uC Z (uC Z (uC Z (uC Z (uC Z (Sub.nil _)))))))))) (⟨hH23, om, S.all_snoc hall2 (by unfold S.bad; omega)⟩) om3)))))))))))))))
     refine zB Z Z (dF hc19) (oM hH16 Z (zB Z Z (dF hc19) (oY hH16 (xO Z Z om om) (zB Z Z (dF hc19) (oM hH16 Z (zB Z Z (dF hc19) (oY hH16 (xO Z Z om om) (zB Z Z (dF hc19) (oY hH16 (y5 Z Z) (zB Z Z (zF hc18) (oY hH16 (zT Z (dF hc19) Z) (oY hH16 (zU Z (zF hc18) Z) (oM hH16 Z ?_)))))))))))))
     by_cases hc28 : ((j : Int) % 2) = ((k : Int) % 2)
     ·refine zB Z Z (dT hc28) (oM hH16 Z (zB Z Z (dT hc28) (oM hH16 Z (zB Z Z (dT hc28) (zM Z Z Z hH16 (c31 (h1.now hH16 (n := 0) Z) om om om) (fun w29 hH30 => (zB Z Z (dT hc28) (oM hH30 Z (zB Z Z (dT hc28) (oM hH30 Z (zB Z Z (dT hc28) (zM Z Z Z hH30 (c31 (h1.now hH30 (n := 0) Z) om om om) (fun w31 hH32 => (zB Z Z (dT hc28) (oY hH32 (vH Z Z) (oY hH32 (zU Z (dT hc28) Z) (oM hH32 Z ?_)))))))))))))))))
      by_cases hc33 : (S.at2 ps (k : Int)) ≤ (S.at2 ps (j : Int))
      ·refine zB Z Z (dT hc33) (oM hH32 Z (zB Z Z (dT hc33) (oM hH32 Z (zB Z Z (dT hc33) (zM Z Z Z hH32 (c31 (h1.now hH32 (n := 0) Z) om om om) (fun w34 hH35 => (zB Z Z (dT hc33) (oM hH35 Z (zB Z Z (dT hc33) (oY hH35 (yL Z Z) (oY hH35 (zU Z (dT hc33) Z) (zt ?_))))))))))))
       by_cases hc36 : (S.at2 ps (j : Int)) < ((S.at2 ps (k : Int)) + (S.at2 js (k : Int)))
       ·have hbad : S.bad js ps (k : Int) (j : Int) := by unfold S.bad; omega
        have hR := S.not_right_of_bad hj (by omega) (by omega) hbad
        refine zO Z (dT hc36) (zr (oA hH35 Z (oA hH35 Z (zt (ret (yE (z6 (xY (yE (yE (z6 (xY (yE (z6 (fin hH35 (fun w' hf => (xI Z (rt Z) (rt Z))) (fun w' hf => ?_))))))))))))))))
        first | (have hk2 : k = 2 * js.length := (by omega); have hR := S.right_of_not_bad hj (ps := ps) (fun i hi => hall i (by omega)); subst hk2; exact tup2 (S.cp5 hc0 (by omega) hT hR)) | first | exact tup2 (S.cp1 (by assumption)) | exact tup2 (S.cp2 (by assumption) (by omega)) | exact tup2 (S.cp3 (by assumption) (by omega) (by assumption)) | exact tup2 (S.cp4 (by assumption) (by omega) (by assumption) (by assumption)) | exact tup2 (S.cp5 (by assumption) (by omega) (by assumption) (by assumption))
       refine zL Z (dF hc36) (skip (yC (zN (region (oY hH35 (zV Z Z om) (oM hH35 Z (zC (y0 (j + 1) (uC Z (uC Z (uC Z (uC Z (uC Z (uC Z (uC Z (uC Z (uC Z (Sub.nil _)))))))))) (⟨hH35, om, S.all_snoc hall2 (by unfold S.bad; omega)⟩) om3))))))))
      refine zD Z Z (dF hc33) Z (zD Z Z (dF hc33) Z (zD Z Z (dF hc33) Z (zD Z Z (dF hc33) Z (zD Z Z (dF hc33) Z (oY hH32 (zT Z (dF hc33) Z) (zt (zL Z Z (skip (yC (zN (region (oY hH32 (zV Z Z om) (oM hH32 Z (zC (y0 (j + 1) (uC Z (uC Z (uC Z (uC Z (uC Z (uC Z (uC Z (uC Z (uC Z (Sub.nil _)))))))))) (⟨hH32, om, S.all_snoc hall2 (by unfold S.bad; omega)⟩) om3)))))))))))))))
     refine zD Z Z (dF hc28) Z (zD Z Z (dF hc28) Z (zD Z Z (dF hc28) Z (zD Z Z (dF hc28) Z (zD Z Z (dF hc28) Z (zD Z Z (dF hc28) Z (zD Z Z (dF hc28) Z (oY hH16 (zT Z (dF hc28) Z) (oM hH16 Z (zD Z Z Z Z (zD Z Z Z Z (zD Z Z Z Z (zD Z Z Z Z (zD Z Z Z Z (oY hH16 (zT Z Z Z) (zt (zL Z Z (skip (yC (zN (region ?_))))))))))))))))))))
     refine oY hH16 (zV Z Z om) (oM hH16 Z (zC (y0 (j + 1) (uC Z (uC Z (uC Z (uC Z (uC Z (uC Z (uC Z (uC Z (uC Z (Sub.nil _)))))))))) (⟨hH16, om, S.all_snoc hall2 (by unfold S.bad; omega)⟩) om3)))
    refine zL Z (dF hc17) (exit (yZ (xF (z7 (yC (zN (region (oY hH16 (zV Z Z om) (oM hH16 Z (zC (y0 (k + 1) (uC Z (uC Z (uC Z (uC Z (uC Z (Sub.nil _)))))) (⟨hH16, om, S.all_snoc hall (fun j hj => hall2 j om)⟩) om3)))))))))))
   refine zL Z (dF hc10) (exit (yZ (xF (z7 (zu (oM hH9 Z (oA hH9 Z (oA hH9 Z (zt (ret (fin hH9 (fun w' hf => (xI Z (rt Z) (rt Z))) (fun w' hf => ?_))))))))))))
   first | (have hk2 : k = 2 * js.length := (by omega); have hR := S.right_of_not_bad hj (ps := ps) (fun i hi => hall i (by omega)); subst hk2; exact tup2 (S.cp5 hc0 (by omega) hT hR)) | first | exact tup2 (S.cp1 (by assumption)) | exact tup2 (S.cp2 (by assumption) (by omega)) | exact tup2 (S.cp3 (by assumption) (by omega) (by assumption)) | exact tup2 (S.cp4 (by assumption) (by omega) (by assumption) (by assumption)) | exact tup2 (S.cp5 (by assumption) (by omega) (by assumption) (by assumption))
  refine zO Z (zF hc4) (zr (oA hH2 Z (oA hH2 Z (zt (ret (yE (z6 (fin hH2 (fun w' hf => (xI Z (rt Z) (rt Z))) (fun w' hf => ?_)))))))))
  first | (have hk2 : k = 2 * js.length := (by omega); have hR := S.right_of_not_bad hj (ps := ps) (fun i hi => hall i (by omega)); subst hk2; exact tup2 (S.cp5 hc0 (by omega) hT hR)) | first | exact tup2 (S.cp1 (by assumption)) | exact tup2 (S.cp2 (by assumption) (by omega)) | exact tup2 (S.cp3 (by assumption) (by omega) (by assumption)) | exact tup2 (S.cp4 (by assumption) (by omega) (by assumption) (by assumption)) | exact tup2 (S.cp5 (by assumption) (by omega) (by assumption) (by assumption))
 refine zO Z (zF hc3) (zr (oM hH2 Z (oA hH2 Z (oA hH2 Z (zt (ret (yE (z6 (fin hH2 (fun w' hf => (xI Z (rt Z) (rt Z))) (fun w' hf => ?_))))))))))
 first | (have hk2 : k = 2 * js.length := (by omega); have hR := S.right_of_not_bad hj (ps := ps) (fun i hi => hall i (by omega)); subst hk2; exact tup2 (S.cp5 hc0 (by omega) hT hR)) | first | exact tup2 (S.cp1 (by assumption)) | exact tup2 (S.cp2 (by assumption) (by omega)) | exact tup2 (S.cp3 (by assumption) (by omega) (by assumption)) | exact tup2 (S.cp4 (by assumption) (by omega) (by assumption) (by assumption)) | exact tup2 (S.cp5 (by assumption) (by omega) (by assumption) (by assumption))
theorem c69 {v u : Value} {js ps : List S.Pr} {w : World} (h0 : Rd encP 2 v js w) (h1 : Rd encP 2 u ps w) (hn : js.length ≤ 1000000) (hn2 : ps.length ≤ 1000000)  :
  Fn Tryz.prog 69 [v, u].toArray w (fun u _ => u = .tuple #[.int .i64 (S.checkPlan js ps).1, .int .i64 (S.checkPlan js ps).2]) := by
 refine fz Tryz.func69 Z kz Z Z (fun hH => (zr (oA hH Z (oA hH Z (zt (seq (zr (oM hH Z (zM Z Z Z hH (c12 (h0.now hH (n := 0) Z) om) (fun w1 hH2 => (oY hH2 (yF Z Z) (zt ?_))))))))))))
 by_cases hc3 : (S.checkJobs js) = 0
 ·have hc0 : S.checkJobs js = 0 := by omega
  have hj := S.checkJobs_iff.1 hc0
  have hl8 := hj.2.1
  refine zL Z (zG hc3) (skip (zN (seq (zr (oM hH2 Z (oY hH2 (z8 T.j0 Z (h1.now hH2 (n := 0) Z).is) (oM hH2 Z (oY hH2 (z8 T.xX Z (h0.now hH2 (n := 0) Z).is) (oY hH2 (yF Z Z) (zt ?_))))))))))
  by_cases hc4 : (ps.length : Int) = (js.length : Int)
  ·refine zL Z (zG hc4) (skip (zN (seq (zr (oA hH2 Z (zt (block (loop (S := Nat) (fun k => [(6, (.int .i64 (k : Int))), (0, v), (1, u)]) (fun k w1 => Heap [base w] w1 ∧ k ≤ ps.length ∧ ∀ i, i < k → S.okTime (nth ps (i : Int))) (fun k => ps.length - k) (0) (uC Z (uC Z (uC Z (Sub.nil _)))) ?_ ?_))))))))
   ·exact ⟨hH2, om, S.all_zero⟩
   rintro k w5 ⟨hH6, hk, hall⟩
   refine seq (zr (oM hH6 Z (oM hH6 Z (oY hH6 (z8 T.j0 Z (h1.now hH6 (n := 0) Z).is) (oY hH6 (yL Z Z) (zt ?_))))))
   by_cases hc7 : (k : Int) < (ps.length : Int)
   ·refine zO Z (dT hc7) (skip (zN (seq (block (zr (oM hH6 Z (oM hH6 Z (oY hH6 (zP T.j0 Z Z (h1.now hH6 (n := 0) Z).is om) (oY hH6 (zI T.VR Z) (oY hH6 (zE T.yT Z (fun _ hw => Rd.at (h1.now hw (n := 0) Z) (i := (k : Int)) om (j := 0) Z)) (oY hH6 (yL Z Z) (oM hH6 Z ?_))))))))))))
    by_cases hc8 : ((nth ps (k : Int)).1) < 0
    ·have hT : ¬ S.AllT ps := fun h => (show ¬ S.okTime (nth ps (k : Int)) by unfold S.okTime; omega) (h k (by omega))
     refine zD Z Z (dT hc8) Z (zD Z Z (dT hc8) Z (zD Z Z (dT hc8) Z (zD Z Z (dT hc8) Z (zD Z Z (dT hc8) Z (zD Z Z (dT hc8) Z (oY hH6 (zU Z (dT hc8) Z) (oM hH6 Z (zD Z Z Z Z (zD Z Z Z Z (zD Z Z Z Z (zD Z Z Z Z (zD Z Z Z Z (zD Z Z Z Z (oY hH6 (zU Z Z Z) (oM hH6 Z (zD Z Z Z Z (zD Z Z Z Z (zD Z Z Z Z (zD Z Z Z Z (zD Z Z Z Z (zD Z Z Z Z ?_)))))))))))))))))))))
     refine oY hH6 (zU Z Z Z) (zt (zO Z Z (zr (oA hH6 Z (oA hH6 Z (zt (ret (yE (z6 (xY (yE (z6 (fin hH6 (fun w' hf => (xI Z (rt Z) (rt Z))) (fun w' hf => ?_))))))))))))))
     first | exact tup2 (S.cp1 (by assumption)) | exact tup2 (S.cp2 (by assumption) (by omega)) | exact tup2 (S.cp3 (by assumption) (by omega) (by assumption)) | exact tup2 (S.cp4 (by assumption) (by omega) (by assumption) (by assumption)) | exact tup2 (S.cp5 (by assumption) (by omega) (by assumption) (by assumption))
    refine zB Z Z (dF hc8) (oM hH6 Z (zB Z Z (dF hc8) (oM hH6 Z (zB Z Z (dF hc8) (oY hH6 (zP T.j0 Z Z (h1.now hH6 (n := 0) Z).is om) (zB Z Z (dF hc8) (oY hH6 (zI T.VR Z) (zB Z Z (dF hc8) (oY hH6 (zE T.yT Z (fun _ hw => Rd.at (h1.now hw (n := 0) Z) (i := (k : Int)) om (j := 0) Z)) (zB Z Z (dF hc8) (oY hH6 (xJ Z Z) (oY hH6 (zT Z (dF hc8) Z) (oM hH6 Z ?_)))))))))))))
    by_cases hc9 : 100000 < ((nth ps (k : Int)).1)
    ·have hT : ¬ S.AllT ps := fun h => (show ¬ S.okTime (nth ps (k : Int)) by unfold S.okTime; omega) (h k (by omega))
     refine zD Z Z (dT hc9) Z (zD Z Z (dT hc9) Z (zD Z Z (dT hc9) Z (zD Z Z (dT hc9) Z (zD Z Z (dT hc9) Z (zD Z Z (dT hc9) Z (oY hH6 (zU Z (dT hc9) Z) (oM hH6 Z (zD Z Z Z Z (zD Z Z Z Z (zD Z Z Z Z (zD Z Z Z Z (zD Z Z Z Z (zD Z Z Z Z (oY hH6 (zU Z Z Z) (zt (zO Z Z (zr (oA hH6 Z (oA hH6 Z ?_)))))))))))))))))))
     refine zt (ret (yE (z6 (xY (yE (z6 (fin hH6 (fun w' hf => (xI Z (rt Z) (rt Z))) (fun w' hf => ?_))))))))
     first | exact tup2 (S.cp1 (by assumption)) | exact tup2 (S.cp2 (by assumption) (by omega)) | exact tup2 (S.cp3 (by assumption) (by omega) (by assumption)) | exact tup2 (S.cp4 (by assumption) (by omega) (by assumption) (by assumption)) | exact tup2 (S.cp5 (by assumption) (by omega) (by assumption) (by assumption))
    refine zB Z Z (dF hc9) (oM hH6 Z (zB Z Z (dF hc9) (oM hH6 Z (zB Z Z (dF hc9) (oY hH6 (zP T.j0 Z Z (h1.now hH6 (n := 0) Z).is om) (zB Z Z (dF hc9) (oY hH6 (zI T.VX Z) (zB Z Z (dF hc9) (oY hH6 (zE T.yT Z (fun _ hw => Rd.at (h1.now hw (n := 0) Z) (i := (k : Int)) om (j := 1) Z)) (zB Z Z (dF hc9) (oY hH6 (yL Z Z) (oY hH6 (zT Z (dF hc9) Z) (oM hH6 Z ?_)))))))))))))
    by_cases hc10 : ((nth ps (k : Int)).2) < 0
    ·have hT : ¬ S.AllT ps := fun h => (show ¬ S.okTime (nth ps (k : Int)) by unfold S.okTime; omega) (h k (by omega))
     refine zD Z Z (dT hc10) Z (zD Z Z (dT hc10) Z (zD Z Z (dT hc10) Z (zD Z Z (dT hc10) Z (zD Z Z (dT hc10) Z (zD Z Z (dT hc10) Z (oY hH6 (zU Z (dT hc10) Z) (zt (zO Z Z (zr (oA hH6 Z (oA hH6 Z (zt (ret (yE (z6 (xY (yE (z6 ?_))))))))))))))))))
     refine fin hH6 (fun w' hf => (xI Z (rt Z) (rt Z))) (fun w' hf => ?_)
     first | exact tup2 (S.cp1 (by assumption)) | exact tup2 (S.cp2 (by assumption) (by omega)) | exact tup2 (S.cp3 (by assumption) (by omega) (by assumption)) | exact tup2 (S.cp4 (by assumption) (by omega) (by assumption) (by assumption)) | exact tup2 (S.cp5 (by assumption) (by omega) (by assumption) (by assumption))
    refine zB Z Z (dF hc10) (oM hH6 Z (zB Z Z (dF hc10) (oM hH6 Z (zB Z Z (dF hc10) (oY hH6 (zP T.j0 Z Z (h1.now hH6 (n := 0) Z).is om) (zB Z Z (dF hc10) (oY hH6 (zI T.VX Z) (zB Z Z (dF hc10) (oY hH6 (zE T.yT Z (fun _ hw => Rd.at (h1.now hw (n := 0) Z) (i := (k : Int)) om (j := 1) Z)) (zB Z Z (dF hc10) (oY hH6 (xJ Z Z) (oY hH6 (zT Z (dF hc10) Z) (zt ?_)))))))))))))
    by_cases hc11 : 100000 < ((nth ps (k : Int)).2)
    ·have hT : ¬ S.AllT ps := fun h => (show ¬ S.okTime (nth ps (k : Int)) by unfold S.okTime; omega) (h k (by omega))
     refine zO Z (dT hc11) (zr (oA hH6 Z (oA hH6 Z (zt (ret (yE (z6 (xY (yE (z6 (fin hH6 (fun w' hf => (xI Z (rt Z) (rt Z))) (fun w' hf => ?_))))))))))))
     first | exact tup2 (S.cp1 (by assumption)) | exact tup2 (S.cp2 (by assumption) (by omega)) | exact tup2 (S.cp3 (by assumption) (by omega) (by assumption)) | exact tup2 (S.cp4 (by assumption) (by omega) (by assumption) (by assumption)) | exact tup2 (S.cp5 (by assumption) (by omega) (by assumption) (by assumption))
    refine zL Z (dF hc11) (skip (yC (zN (region (oM hH6 Z (oY hH6 (zV Z Z om) (oA hH6 Z (zC (y0 (k + 1) (uC Z (uC Z (uC Z (Sub.nil _)))) (⟨hH6, om, S.all_snoc hall (by unfold S.okTime; omega)⟩) om3)))))))))
   have hT : S.AllT ps := fun i hi => hall i (by omega)
   refine zL Z (dF hc7) (exit (yZ (xF (z7 (zN (seq (zr (oA hH6 Z (zt (block (loop (S := Nat) (fun a => [(7, (.int .i64 (a : Int))), (0, v), (1, u)]) (fun a w1 => Heap [base w] w1 ∧ a ≤ 2 * js.length ∧ ∀ i, i < a → ∀ j, j < i → ¬ S.clash js ps (i : Int) (j : Int)) (fun a => 2 * js.length - a) (0) (uC Z (uC Z (uC Z (Sub.nil _)))) ?_ ?_)))))))))))
   ·exact ⟨hH6, om, S.all_zero⟩
   rintro a w12 ⟨hH13, ha, halla⟩
   refine seq (zr (oM hH13 Z (oM hH13 Z (oY hH13 (z8 T.xX Z (h0.now hH13 (n := 0) Z).is) (oY hH13 (xA Z Z om) (oY hH13 (yL Z Z) (zt ?_)))))))
   by_cases hc14 : (a : Int) < (2 * (js.length : Int))
   ·refine zO Z (dT hc14) (skip (zN (seq (block (zr (oA hH13 Z (zt (block (loop (S := Nat) (fun b => [(8, (.int .i64 (b : Int))), (0, v), (1, u), (7, (.int .i64 (a : Int)))]) (fun b w1 => Heap [base w] w1 ∧ b ≤ a ∧ ∀ i, i < b → ¬ S.clash js ps (a : Int) (i : Int)) (fun b => a - b) (0) (uC Z (uC Z (uC Z (uC Z (Sub.nil _))))) ?_ ?_)))))))))
    ·exact ⟨hH13, om, S.all_zero⟩
    rintro b w15 ⟨hH16, hb, hallb⟩
    refine seq (zr (oM hH16 Z (oM hH16 Z (oY hH16 (yL Z Z) (zt ?_)))))
    by_cases hc17 : (b : Int) < (a : Int)
    ·refine zO Z (dT hc17) (skip (zN (seq (block (seq (zr (oM hH16 Z (oY hH16 (xO Z Z om om) (oM hH16 Z (oY hH16 (xO Z Z om om) (oY hH16 (yF Z Z) (oM hH16 Z ?_))))))))))))
     by_cases hc18 : ((a : Int) % 2) = ((b : Int) % 2)
     ·refine zD Z Z (zG hc18) Z (zD Z Z (zG hc18) Z (zD Z Z (zG hc18) Z (zD Z Z (zG hc18) Z (zD Z Z (zG hc18) Z (oY hH16 (zT Z (zG hc18) Z) (zt (zL Z Z (skip (zN (seq ?_))))))))))
      have hb1 := hj.at2 (w := (a : Int)) (by omega) (by omega)
      have hb2 := hT.at2 (w := (a : Int)) (by omega) (by omega)
      have hb3 := hj.at2 (w := (b : Int)) (by omega) (by omega)
      have hb4 := hT.at2 (w := (b : Int)) (by omega) (by omega)
      refine region (oM hH16 Z (oM hH16 Z (zM Z Z Z hH16 (WX (h1.now hH16 (n := 0) Z) om om om) (fun w19 hH20 => (oM hH20 Z (oM hH20 Z (zM Z Z Z hH20 (WX (h1.now hH20 (n := 0) Z) om om om) (fun w21 hH22 => (oM hH22 Z (oM hH22 Z (zM Z Z Z hH22 (zAr (h0.now hH22 (n := 0) Z) om om om) (fun w23 hH24 => (oY hH24 (zV Z Z om) (oY hH24 (yL Z Z) (oM hH24 Z ?_)))))))))))))))
      by_cases hc25 : (S.at2 ps (a : Int)) < ((S.at2 ps (b : Int)) + (S.at2 js (b : Int)))
      ·refine zB Z Z (dT hc25) (oM hH24 Z (zB Z Z (dT hc25) (oM hH24 Z (zB Z Z (dT hc25) (zM Z Z Z hH24 (WX (h1.now hH24 (n := 0) Z) om om om) (fun w26 hH27 => (zB Z Z (dT hc25) (oM hH27 Z (zB Z Z (dT hc25) (oM hH27 Z (zB Z Z (dT hc25) (zM Z Z Z hH27 (WX (h1.now hH27 (n := 0) Z) om om om) (fun w28 hH29 => (zB Z Z (dT hc25) (oM hH29 Z (zB Z Z (dT hc25) (oM hH29 Z (zB Z Z (dT hc25) (zM Z Z Z hH29 (zAr (h0.now hH29 (n := 0) Z) om om om) (fun w30 hH31 => (zB Z Z (dT hc25) (oY hH31 (zV Z Z om) (zB Z Z (dT hc25) (oY hH31 (yL Z Z) ?_))))))))))))))))))))))))
       refine oY hH31 (zU Z (dT hc25) Z) (zt ?_)
       by_cases hc32 : (S.at2 ps (b : Int)) < ((S.at2 ps (a : Int)) + (S.at2 js (a : Int)))
       ·have hR : ¬ S.Right js ps := fun h => h a (by omega) b (by omega) (by unfold S.clash; omega)
        refine zO Z (dT hc32) (zr (oA hH31 Z (oA hH31 Z (zt (ret (yE (z6 (xY (yE (yE (z6 (xY (yE (z6 (fin hH31 (fun w' hf => (xI Z (rt Z) (rt Z))) (fun w' hf => ?_))))))))))))))))
        first | exact tup2 (S.cp1 (by assumption)) | exact tup2 (S.cp2 (by assumption) (by omega)) | exact tup2 (S.cp3 (by assumption) (by omega) (by assumption)) | exact tup2 (S.cp4 (by assumption) (by omega) (by assumption) (by assumption)) | exact tup2 (S.cp5 (by assumption) (by omega) (by assumption) (by assumption))
       refine zL Z (dF hc32) (skip (yC (zN (region (oM hH31 Z (oY hH31 (zV Z Z om) (oA hH31 Z (zC (y0 (b + 1) (uC Z (uC Z (uC Z (uC Z (Sub.nil _))))) (⟨hH31, om, S.all_snoc hallb (by unfold S.clash; omega)⟩) om3)))))))))
      refine zD Z Z (dF hc25) Z (zD Z Z (dF hc25) Z (zD Z Z (dF hc25) Z (zD Z Z (dF hc25) Z (zD Z Z (dF hc25) Z (zD Z Z (dF hc25) Z (zD Z Z (dF hc25) Z (zD Z Z (dF hc25) Z (zD Z Z (dF hc25) Z (zD Z Z (dF hc25) Z (zD Z Z (dF hc25) Z (oY hH24 (zT Z (dF hc25) Z) (zt (zL Z Z (skip (yC (zN (region (oM hH24 Z (oY hH24 (zV Z Z om) (oA hH24 Z ?_))))))))))))))))))))
      refine zC (y0 (b + 1) (uC Z (uC Z (uC Z (uC Z (Sub.nil _))))) (⟨hH24, om, S.all_snoc hallb (by unfold S.clash; omega)⟩) om3)
     refine zB Z Z (zF hc18) (oM hH16 Z (zB Z Z (zF hc18) (oY hH16 (xU Z Z om om om) (zB Z Z (zF hc18) (oM hH16 Z (zB Z Z (zF hc18) (oY hH16 (xU Z Z om om om) (zB Z Z (zF hc18) (oY hH16 (yF Z Z) (oY hH16 (zU Z (zF hc18) Z) (zt ?_)))))))))))
     by_cases hc33 : ((a : Int) / 2) = ((b : Int) / 2)
     ·refine zL Z (zG hc33) (skip (zN (seq ?_)))
      have hb1 := hj.at2 (w := (a : Int)) (by omega) (by omega)
      have hb2 := hT.at2 (w := (a : Int)) (by omega) (by omega)
      have hb3 := hj.at2 (w := (b : Int)) (by omega) (by omega)
      have hb4 := hT.at2 (w := (b : Int)) (by omega) (by omega)
      refine region (oM hH16 Z (oM hH16 Z (zM Z Z Z hH16 (WX (h1.now hH16 (n := 0) Z) om om om) (fun w34 hH35 => (oM hH35 Z (oM hH35 Z (zM Z Z Z hH35 (WX (h1.now hH35 (n := 0) Z) om om om) (fun w36 hH37 => (oM hH37 Z (oM hH37 Z (zM Z Z Z hH37 (zAr (h0.now hH37 (n := 0) Z) om om om) (fun w38 hH39 => (oY hH39 (zV Z Z om) (oY hH39 (yL Z Z) (oM hH39 Z ?_)))))))))))))))
      by_cases hc40 : (S.at2 ps (a : Int)) < ((S.at2 ps (b : Int)) + (S.at2 js (b : Int)))
      ·refine zB Z Z (dT hc40) (oM hH39 Z (zB Z Z (dT hc40) (oM hH39 Z (zB Z Z (dT hc40) (zM Z Z Z hH39 (WX (h1.now hH39 (n := 0) Z) om om om) (fun w41 hH42 => (zB Z Z (dT hc40) (oM hH42 Z (zB Z Z (dT hc40) (oM hH42 Z (zB Z Z (dT hc40) (zM Z Z Z hH42 (WX (h1.now hH42 (n := 0) Z) om om om) (fun w43 hH44 => (zB Z Z (dT hc40) (oM hH44 Z (zB Z Z (dT hc40) (oM hH44 Z (zB Z Z (dT hc40) (zM Z Z Z hH44 (zAr (h0.now hH44 (n := 0) Z) om om om) (fun w45 hH46 => (zB Z Z (dT hc40) (oY hH46 (zV Z Z om) (zB Z Z (dT hc40) (oY hH46 (yL Z Z) ?_))))))))))))))))))))))))
       refine oY hH46 (zU Z (dT hc40) Z) (zt ?_)
       by_cases hc47 : (S.at2 ps (b : Int)) < ((S.at2 ps (a : Int)) + (S.at2 js (a : Int)))
       ·have hR : ¬ S.Right js ps := fun h => h a (by omega) b (by omega) (by unfold S.clash; omega)
        refine zO Z (dT hc47) (zr (oA hH46 Z (oA hH46 Z (zt (ret (yE (z6 (xY (yE (yE (z6 (xY (yE (z6 (fin hH46 (fun w' hf => (xI Z (rt Z) (rt Z))) (fun w' hf => ?_))))))))))))))))
        first | exact tup2 (S.cp1 (by assumption)) | exact tup2 (S.cp2 (by assumption) (by omega)) | exact tup2 (S.cp3 (by assumption) (by omega) (by assumption)) | exact tup2 (S.cp4 (by assumption) (by omega) (by assumption) (by assumption)) | exact tup2 (S.cp5 (by assumption) (by omega) (by assumption) (by assumption))
       refine zL Z (dF hc47) (skip (yC (zN (region (oM hH46 Z (oY hH46 (zV Z Z om) (oA hH46 Z (zC (y0 (b + 1) (uC Z (uC Z (uC Z (uC Z (Sub.nil _))))) (⟨hH46, om, S.all_snoc hallb (by unfold S.clash; omega)⟩) om3)))))))))
      refine zD Z Z (dF hc40) Z (zD Z Z (dF hc40) Z (zD Z Z (dF hc40) Z (zD Z Z (dF hc40) Z (zD Z Z (dF hc40) Z (zD Z Z (dF hc40) Z (zD Z Z (dF hc40) Z (zD Z Z (dF hc40) Z (zD Z Z (dF hc40) Z (zD Z Z (dF hc40) Z (zD Z Z (dF hc40) Z (oY hH39 (zT Z (dF hc40) Z) (zt (zL Z Z (skip (yC (zN (region (oM hH39 Z (oY hH39 (zV Z Z om) (oA hH39 Z ?_))))))))))))))))))))
      refine zC (y0 (b + 1) (uC Z (uC Z (uC Z (uC Z (Sub.nil _))))) (⟨hH39, om, S.all_snoc hallb (by unfold S.clash; omega)⟩) om3)
     refine zO Z (zF hc33) (exit (yZ (z7 (zN (region (oM hH16 Z (oY hH16 (zV Z Z om) (oA hH16 Z (zC (y0 (b + 1) (uC Z (uC Z (uC Z (uC Z (Sub.nil _))))) (⟨hH16, om, S.all_snoc hallb (by unfold S.clash; omega)⟩) om3))))))))))
    refine zL Z (dF hc17) (exit (yZ (xF (z7 (yC (zN (region (oM hH16 Z (oY hH16 (zV Z Z om) (oA hH16 Z (zC (y0 (a + 1) (uC Z (uC Z (uC Z (Sub.nil _)))) (⟨hH16, om, S.all_snoc halla (fun j hj => hallb j om)⟩) om3))))))))))))
   have hR : S.Right js ps := fun i hi => halla i (by omega)
   refine zL Z (dF hc14) (exit (yZ (xF (z7 (zu (oM hH13 Z (oM hH13 Z (zM Z Z Z hH13 (zEq (h0.now hH13 (n := 0) Z) (h1.now hH13 (n := 0) Z) hj hT om) (fun w48 hH49 => (oA hH49 Z (oA hH49 Z (zt (ret (fin hH49 (fun w' hf => (xI Z (rt Z) (rt Z))) (fun w' hf => ?_)))))))))))))))
   first | exact tup2 (S.cp1 (by assumption)) | exact tup2 (S.cp2 (by assumption) (by omega)) | exact tup2 (S.cp3 (by assumption) (by omega) (by assumption)) | exact tup2 (S.cp4 (by assumption) (by omega) (by assumption) (by assumption)) | exact tup2 (S.cp5 (by assumption) (by omega) (by assumption) (by assumption))
  refine zO Z (zF hc4) (zr (oA hH2 Z (oA hH2 Z (zt (ret (z6 (fin hH2 (fun w' hf => (xI Z (rt Z) (rt Z))) (fun w' hf => ?_))))))))
  first | exact tup2 (S.cp1 (by assumption)) | exact tup2 (S.cp2 (by assumption) (by omega)) | exact tup2 (S.cp3 (by assumption) (by omega) (by assumption)) | exact tup2 (S.cp4 (by assumption) (by omega) (by assumption) (by assumption)) | exact tup2 (S.cp5 (by assumption) (by omega) (by assumption) (by assumption))
 refine zO Z (zF hc3) (zr (oM hH2 Z (zM Z Z Z hH2 (c12 (h0.now hH2 (n := 0) Z) om) (fun w50 hH51 => (oA hH51 Z (oA hH51 Z (zt (ret (z6 (fin hH51 (fun w' hf => (xI Z (rt Z) (rt Z))) (fun w' hf => ?_)))))))))))
 first | exact tup2 (S.cp1 (by assumption)) | exact tup2 (S.cp2 (by assumption) (by omega)) | exact tup2 (S.cp3 (by assumption) (by omega) (by assumption)) | exact tup2 (S.cp4 (by assumption) (by omega) (by assumption) (by assumption)) | exact tup2 (S.cp5 (by assumption) (by omega) (by assumption) (by assumption))
end Go.Fip
namespace Go.Fip
open Go.Proofs Go.RowKit
theorem c78 {v : Value} {js : List S.Pr} {w : World} (h0 : Rd encP 2 v js w) (hj : S.Jobs js)  :
  Fn Tryz.prog 78 [v].toArray w (fun u _ => u = .agg #[.int .i64 (S.sumOf js 0), .int .i64 (S.sumOf js 1)]) := by
 refine fz Tryz.func78 Z kz Z Z (fun hH => ?_)
 have hl8 := hj.2.1
 refine zr (yD (z := (.agg #[(.int .i64 0), (.int .i64 0)])) (fun _ => by kernel_rfl) Z Z hH (fun b1 w2 hH3 => (zs (yD (z := (.agg #[(.int .i64 0), (.int .i64 0)])) (fun _ => by kernel_rfl) Z Z hH3 (fun b4 w5 hH6 => (zt (seq (zr (oM hH6 Z (oY hH6 (z8 T.xX Z (h0.now hH6 (n := 2) Z).is) (oM hH6 Z (zt (block (loop (S := Nat) (fun k => [(8, (.int .i64 (k : Int))), (2, (.pointer (some ⟨b1, 0, none⟩))), (3, (.pointer (some ⟨b4, 0, none⟩))), (6, v), (7, (.int .i64 (js.length : Int)))]) (fun k w1 => Heap [bx b4 129 [(.int .i64 (S.sumTo js 0 k)), (.int .i64 (S.sumTo js 1 k))], bx b1 129 [(.int .i64 0), (.int .i64 0)], base w] w1 ∧ k ≤ js.length) (fun k => js.length - k) (0) (uC Z (uC Z (uC Z (uC Z (uC Z (Sub.nil _)))))) ?_ ?_))))))))))))))
 ·exact ⟨(Heap.y9 (n := 0) hH6 Z (Z)), om⟩
 rintro k w7 ⟨hH8, hk⟩
 refine zr (oY hH8 (yL Z Z) (zt (seq ?_)))
 by_cases hc9 : (k : Int) < (js.length : Int)
 ·refine zO Z (dT hc9) (skip (zN (seq (block (seq ?_)))))
  have ho := hj.nth (i := (k : Int)) (by omega) (by omega)
  unfold S.okJob at ho
  have hb0 := S.sumTo_bd hj (b := 0) (by omega) (by omega) k hk
  have hb1 := S.sumTo_bd hj (b := 1) (by omega) (by omega) k hk
  refine region (oY hH8 (zP T.xX Z Z (h0.now hH8 (n := 2) Z).is om) (oY hH8 (zW (cs := [(.int .i64 ((nth js (k : Int)).1)), (.int .i64 ((nth js (k : Int)).2))]) T.zA2 Z Z (fun _ hw => Rd.KB (h0.now hw (n := 2) Z) (i := (k : Int)) om)) (yD (z := (.agg #[(.int .i64 0), (.int .i64 0)])) (fun _ => by kernel_rfl) Z Z hH8 (fun b10 w11 hH12 => (zS (n := 0) (j := 0) Z Z hH12 Z T.zDd Z Z Z (by rfl) (fun w13 hH14 => (zs (oY hH14 (yA T.uH Z Z om) (oY hH14 (zE T.yT Z (cw (n := 1) Z Z)) (oY hH14 (zI T.uW Z) (oY hH14 (zE T.yT Z (cw (n := 0) Z Z)) (oY hH14 (zV Z Z om) (oY hH14 (yA T.uH Z Z om) (zS (n := 1) (j := 0) Z Z hH14 Z T.sz2 Z Z Z (by rfl) (fun w15 hH16 => (zq (oY hH16 (yA T.uH Z Z om) (oY hH16 (zE T.yT Z (cw (n := 1) Z Z)) (oY hH16 (zI T.kL Z) ?_)))))))))))))))))))
  refine oY hH16 (zE T.yT Z (cw (n := 0) Z Z)) (oY hH16 (zV Z Z om) (oY hH16 (yA T.uH Z Z om) (zS (n := 1) (j := 1) Z Z hH16 Z T.sz2 Z Z Z (by rfl) (fun w17 hH18 => (zC (yC (zN (region (oY hH18 (zV Z Z om) (oM hH18 Z (zC (y0 (k + 1) (uC Z (uC Z (uC Z (uC Z (uC Z (Sub.nil _)))))) (⟨(Heap.y9 (n := 0) (hH18.sub (sC sR)) Z (by rw [S.sum0, S.sum1]; rfl)), om⟩) om3))))))))))))
 refine zL Z (dF hc9) (exit (yZ (xF (z7 (zu (oY hH8 (zW (cs := [(.int .i64 (S.sumTo js 0 k)), (.int .i64 (S.sumTo js 1 k))]) T.XX Z Z (fun _ hw => Heap.yH hw (n := 0) Z (k := 0) Z)) (zS (n := 1) (j := 0) Z Z hH8 Z T.zAz Z Z Z (by rfl) (fun w20 hH21 => (zt (ret (fin ((hH21.sub (sC sR)).front (n := 1) Z) (fun w' hf => (yN Z (rvA (cs := [(.int .i64 (S.sumTo js 0 k)), (.int .i64 (S.sumTo js 1 k))]) Z T.XX Z (y3 (Heap.xV hf (n := 1) Z) (k := 0) Z)))) (fun w' hf => ?_))))))))))))
 have hk2 : k = js.length := by omega
 subst hk2; rfl
theorem c25 {v : Value} {js : List S.Pr} {b i : Int} {w : World} (h0 : Rd encP 2 v js w) (hj : S.Jobs js) (hb : 0 ≤ b) (hb2 : b ≤ 2) (hi : 0 ≤ i) (hi2 : i < (js.length : Int))  :
  Fn Tryz.prog 25 [v, (.int .i64 b), (.int .i64 i)].toArray w (fun u _ => u = .int .i64 (S.boundOf js b i)) := by
 refine fz Tryz.func25 Z kz Z Z (fun hH => ?_)
 have hl8 := hj.2.1
 have ho := hj.nth hi hi2
 unfold S.okJob at ho
 refine zr (oA hH Z (zt (seq (zr (oM hH Z (oY hH (y5 Z Z) (zt ?_)))))))
 by_cases hc1 : b = 2
 ·refine zO Z (dT hc1) (seq (zY (fun w' => Heap [base w] w') T.mixed (fun w2 hr3 => ?_)))
  have hH4 := hH.redrawn hr3
  refine zK [0, 1, 2, 3, 4, 5, 6, 7, 8, 9, 10, 11] kz hH4 _ _ _ kz (qM Z Z Z (qM Z Z Z (zJ Z Z (zP T.xX Z Z (h0.now hH4 (n := 0) Z).is om) (zJ Z Z (zI T.uW Z) (zJ Z Z (zE T.yT Z (fun _ hw => Rd.at (h0.now hw (n := 0) Z) (i := i) om (j := 0) Z)) (qM Z Z Z (qM Z Z Z (zJ Z Z (zP T.xX Z Z (h0.now hH4 (n := 0) Z).is om) (zJ Z Z (zI T.kL Z) (zJ Z Z (zE T.yT Z (fun _ hw => Rd.at (h0.now hw (n := 0) Z) (i := i) om (j := 1) Z)) (zJ Z Z (zV Z Z om) (zJ Z Z (yK Z) (zQ (zX kz (zN (ret (z6 (fin hH4 (fun w' hf => (yN Z (rt Z))) (fun w' hf => ?_)))))))))))))))))))
  show _ = _; unfold S.boundOf; first | (rw [if_pos ‹_›]; done) | (rcases (by omega : b = 0 ∨ b = 1) with rfl | rfl <;> rfl)
 refine zL Z (dF hc1) (skip (zu (oM hH Z (zM Z Z Z hH (c78 (h0.now hH (n := 0) Z) hj) (fun w5 hH6 => (oM hH6 Z (oY hH6 (XB T.uH T.yT Z Z om) (oA hH6 Z (zt (ret (fin hH6 (fun w' hf => (yN Z (rt Z))) (fun w' hf => ?_))))))))))))
 show _ = _; unfold S.boundOf; first | (rw [if_pos ‹_›]; done) | (rcases (by omega : b = 0 ∨ b = 1) with rfl | rfl <;> rfl)
theorem c75 {v : Value} {js : List S.Pr} {w : World} (h0 : Rd encP 2 v js w) (hj : S.Jobs js)  :
  Fn Tryz.prog 75 [v].toArray w (fun u w => Own 125 3 encN u (S.boundsTo js js.length) w) := by
 refine fz Tryz.func75 Z kz Z Z (fun hH => ?_)
 have hl8 := hj.2.1
 have hl1 := hj.1
 refine zr (oA hH Z (zs (oM hH Z (zM Z Z Z hH (c25 (h0.now hH (n := 0) Z) hj om om om om) (fun w1 hH2 => (oY hH2 (yR (v := (.agg #[(.int .i64 0), (.int .i64 0), (.int .i64 (S.boundOf js 0 0))])) Z (fun w => by kernel_rfl)) (oM hH2 Z (zM Z Z Z hH2 (c25 (h0.now hH2 (n := 0) Z) hj om om om om) (fun w3 hH4 => (oY hH4 (yR (v := (.agg #[(.int .i64 1), (.int .i64 0), (.int .i64 (S.boundOf js 1 0))])) Z (fun w => by kernel_rfl)) (z2 T.jE [(0, 0, S.boundOf js 0 0), (1, 0, S.boundOf js 1 0)] Z (fun w => by kernel_rfl) hH4 (fun u5 lo7 hi8 w6 hH9 => (oA hH9 Z (zt (seq (zr (oM hH9 Z (oY hH9 (z8 T.xX Z (h0.now hH9 (n := 1) Z).is) ?_))))))))))))))))))
 refine oM hH9 Z (zt (block (loop (S := Nat × Value × Nat × Nat) (fun (k, v_3, lo_3, hi_3) => [(14, (.int .i64 (k : Int))), (3, v_3), (0, v), (2, (.slice none 0 0)), (13, (.int .i64 (js.length : Int)))]) (fun (k, v_3, lo_3, hi_3) w1 => Heap [ow lo_3 hi_3 125 3 encN v_3 (S.boundsTo js k), base w] w1 ∧ k ≤ js.length) (fun (k, v_3, lo_3, hi_3) => js.length - k) (0, u5, lo7, hi8) (uC Z (uC Z (uC Z (uC Z (uC Z (Sub.nil _)))))) ?_ ?_)))
 ·exact ⟨(Heap.y1 (n := 0) hH9 Z (Z)), om⟩
 rintro ⟨k, v_3, lo_3, hi_3⟩ w10 ⟨hH11, hk⟩
 refine zr (oY hH11 (yL Z Z) (zt (seq ?_)))
 by_cases hc12 : (k : Int) < (js.length : Int)
 ·refine zO Z (dT hc12) (skip (zN (seq (block (zr (oM hH11 Z (oA hH11 Z (zt ?_))))))))
  have hbl := S.boundsTo_length js k
  refine region (oM hH11 Z (oM hH11 Z (oM hH11 Z (oM hH11 Z (zM Z Z Z hH11 (c25 (h0.now hH11 (n := 1) Z) hj om om om om) (fun w13 hH14 => (oY hH14 (yR (v := (.agg #[(.int .i64 2), (.int .i64 (k : Int)), (.int .i64 (S.boundOf js 2 (k : Int)))])) Z (fun w => by kernel_rfl)) (z2 T.jE [(2, (k : Int), S.boundOf js 2 (k : Int))] Z (fun w => by kernel_rfl) hH14 (fun u15 lo17 hi18 w16 hH19 => (yB (n := 1) T.jE Z Z Z hH19 Z (Heap.yI T.jE hH19 (n := 0) Z) om2 (fun u20 lo22 hi23 w21 hH24 => (oA hH24 Z (zC (yC (zN (region (oY hH24 (zV Z Z om) (oM hH24 Z (zC (y0 (k + 1, u20, lo22, hi23) (uC Z (uC Z (uC Z (uC Z (uC Z (Sub.nil _)))))) (⟨(Heap.y1 (n := 0) (hH24.sub (sC sR)) Z (Z)), om⟩) om3))))))))))))))))))))
 refine zL Z (dF hc12) (exit (yZ (xF (z7 (zu (oM hH11 Z (oA hH11 Z (zt (ret (fin (hH11.front (n := 1) Z) (fun w' hf => (yN Z (rt Z))) (fun w' hf => ?_)))))))))))
 have hk2 : k = js.length := by omega
 subst hk2; exact Heap.own hf (n := 0) rfl
theorem c77 {x y : S.Nm} {w : World}  :
  Fn Tryz.prog 77 [(.agg #[(.int .i64 x.1), (.int .i64 x.2.1), (.int .i64 x.2.2)]), (.agg #[(.int .i64 y.1), (.int .i64 y.2.1), (.int .i64 y.2.2)])].toArray w (fun u _ => u = .bool (S.better x y)) := by
 refine fz Tryz.func77 Z kz Z Z (fun hH => (zr (yY Z Z Z hH (fun b1 w2 hH3 => (yY Z Z Z hH3 (fun b4 w5 hH6 => (oA hH6 Z (zs (oY hH6 (zI T.zAm Z) (oY hH6 (zE T.yT Z (cw (n := 1) Z Z)) (oY hH6 (zI T.zAm Z) (oY hH6 (zE T.yT Z (cw (n := 0) Z Z)) (oY hH6 (xJ Z Z) (oA hH6 Z (zt (ret (fin (hH6.sub (sC (sC sR))) (fun w' hf => (yN Z (rt Z))) (fun w' hf => Z))))))))))))))))))
theorem c76 {v : Value} {l : List S.Nm} {w : World} (h0 : Rd encN 3 v l w) (hn : 1 ≤ l.length) (hn2 : l.length ≤ 1000000)  :
  Fn Tryz.prog 76 [v, (.func (.func 77) #[] #[])].toArray w (fun u _ => u = .agg #[.int .i64 (bestTo S.better l (l.length - 1)).1, .int .i64 (bestTo S.better l (l.length - 1)).2.1, .int .i64 (bestTo S.better l (l.length - 1)).2.2]) := by
 refine fz Tryz.func76 Z kz Z Z (fun hH => ?_)
 have hd : (l.drop 1).length = l.length - 1 := List.length_drop
 refine zr (yD (z := (.agg #[(.int .i64 0), (.int .i64 0), (.int .i64 0)])) (fun _ => by kernel_rfl) Z Z hH (fun b1 w2 hH3 => (zs (oM hH3 Z (oY hH3 (zP T.JU Z Z (h0.now hH3 (n := 1) Z).is om) (oY hH3 (zW (cs := [(.int .i64 ((nth l 0).1)), (.int .i64 ((nth l 0).2.1)), (.int .i64 ((nth l 0).2.2))]) T.YF Z Z (fun _ hw => Rd.KB (h0.now hw (n := 1) Z) (i := 0) om)) (yD (z := (.agg #[(.int .i64 0), (.int .i64 0), (.int .i64 0)])) (fun _ => by kernel_rfl) Z Z hH3 (fun b4 w5 hH6 => (zS (n := 0) (j := 0) Z Z hH6 Z T.W9 Z Z Z (by rfl) (fun w7 hH8 => (zt (seq (zr (oM hH8 Z (oY hH8 (x6 T.JU Z Z (h0.now hH8 (n := 2) Z).is om) (oY hH8 (z8 T.JU Z (Rd.from (h0.now hH8 (n := 2) Z) (lo := 1) om).is) (oM hH8 Z (zC ?_))))))))))))))))))
 refine zN (block (loop (S := Nat) (fun k => [(14, (.int .i64 (k : Int))), (1, (.func (.func 77) #[] #[])), (4, (.pointer (some ⟨b1, 0, none⟩))), (5, (.pointer (some ⟨b4, 0, none⟩))), (12, (cutv v 3 1 l.length)), (13, (.int .i64 ((l.drop 1).length : Int)))]) (fun k w1 => Heap [bx b4 125 [(.int .i64 ((bestTo S.better l k).1)), (.int .i64 ((bestTo S.better l k).2.1)), (.int .i64 ((bestTo S.better l k).2.2))], bx b1 125 [(.int .i64 0), (.int .i64 0), (.int .i64 0)], base w] w1 ∧ k ≤ (l.drop 1).length) (fun k => (l.drop 1).length - k) (0) (uC Z (uC Z (uC Z (uC Z (uC Z (uC Z (Sub.nil _))))))) ?_ ?_))
 ·exact ⟨(Heap.y9 (n := 0) hH8 Z (Z)), om⟩
 rintro k w9 ⟨hH10, hk⟩
 refine zr (oY hH10 (yL Z Z) (zt (seq ?_)))
 by_cases hc11 : (k : Int) < ((l.drop 1).length : Int)
 ·refine zO Z (dT hc11) (skip (zN (seq (block (zr (oY hH10 (zP T.JU Z Z (Rd.from (h0.now hH10 (n := 2) Z) (lo := 1) om).is om) (oY hH10 (zW (cs := [(.int .i64 ((nth (l.drop 1) (k : Int)).1)), (.int .i64 ((nth (l.drop 1) (k : Int)).2.1)), (.int .i64 ((nth (l.drop 1) (k : Int)).2.2))]) T.YF Z Z (fun _ hw => Rd.KB (Rd.from (h0.now hw (n := 2) Z) (lo := 1) om) (i := (k : Int)) om)) (yD (z := (.agg #[(.int .i64 0), (.int .i64 0), (.int .i64 0)])) (fun _ => by kernel_rfl) Z Z hH10 (fun b12 w13 hH14 => (zS (n := 0) (j := 0) Z Z hH14 Z T.W9 Z Z Z (by rfl) (fun w15 hH16 => (zs (oM hH16 Z (oY hH16 (zW (cs := [(.int .i64 ((nth (l.drop 1) (k : Int)).1)), (.int .i64 ((nth (l.drop 1) (k : Int)).2.1)), (.int .i64 ((nth (l.drop 1) (k : Int)).2.2))]) T.YF Z Z (fun _ hw => Heap.yH hw (n := 0) Z (k := 0) Z)) (oY hH16 (zW (cs := [(.int .i64 ((bestTo S.better l k).1)), (.int .i64 ((bestTo S.better l k).2.1)), (.int .i64 ((bestTo S.better l k).2.2))]) T.YF Z Z (fun _ hw => Heap.yH hw (n := 1) Z (k := 0) Z)) (zM Z Z Z hH16 ((c77 (x := ((nth (l.drop 1) (k : Int)).1, (nth (l.drop 1) (k : Int)).2.1, (nth (l.drop 1) (k : Int)).2.2)) (y := ((bestTo S.better l k).1, (bestTo S.better l k).2.1, (bestTo S.better l k).2.2)))) (fun w17 hH18 => (zt ?_))))))))))))))))))
  by_cases hc19 : S.better ((nth (l.drop 1) (k : Int)).1, (nth (l.drop 1) (k : Int)).2.1, (nth (l.drop 1) (k : Int)).2.2) ((bestTo S.better l k).1, (bestTo S.better l k).2.1, (bestTo S.better l k).2.2) = true
  ·have hp : S.better (nth (l.drop 1) (k : Int)) (bestTo S.better l k) = true := hc19
   refine zO Z hc19 (region (oY hH18 (zW (cs := [(.int .i64 ((nth (l.drop 1) (k : Int)).1)), (.int .i64 ((nth (l.drop 1) (k : Int)).2.1)), (.int .i64 ((nth (l.drop 1) (k : Int)).2.2))]) T.YF Z Z (fun _ hw => Heap.yH hw (n := 0) Z (k := 0) Z)) (zS (n := 1) (j := 0) Z Z hH18 Z T.W9 Z Z Z (by rfl) (fun w20 hH21 => (zC (yC (zN (region (oY hH21 (zV Z Z om) (oM hH21 Z (zC (y0 (k + 1) (uC Z (uC Z (uC Z (uC Z (uC Z (uC Z (Sub.nil _))))))) (⟨(Heap.y9 (n := 0) (hH21.sub (sC sR)) Z (by first | (rw [uV hp]; rfl) | (rw [vU hp]; done) | (rw [vU hp]; rfl))), om⟩) om3))))))))))))
  have hp : S.better (nth (l.drop 1) (k : Int)) (bestTo S.better l k) = false := (Bool.eq_false_iff.2 hc19)
  refine zL Z (Bool.eq_false_iff.2 hc19) (skip (yC (zN (region (oY hH18 (zV Z Z om) (oM hH18 Z (zC (y0 (k + 1) (uC Z (uC Z (uC Z (uC Z (uC Z (uC Z (Sub.nil _))))))) (⟨(Heap.y9 (n := 0) (hH18.sub (sC sR)) Z (by first | (rw [uV hp]; rfl) | (rw [vU hp]; done) | (rw [vU hp]; rfl))), om⟩) om3))))))))
 refine zL Z (dF hc11) (exit (yZ (xF (z7 (zu (oY hH10 (zW (cs := [(.int .i64 ((bestTo S.better l k).1)), (.int .i64 ((bestTo S.better l k).2.1)), (.int .i64 ((bestTo S.better l k).2.2))]) T.YF Z Z (fun _ hw => Heap.yH hw (n := 0) Z (k := 0) Z)) (zS (n := 1) (j := 0) Z Z hH10 Z T.W9 Z Z Z (by rfl) (fun w24 hH25 => (zt (ret (fin ((hH25.sub (sC sR)).front (n := 1) Z) (fun w' hf => (yN Z (rvA (cs := [(.int .i64 ((bestTo S.better l k).1)), (.int .i64 ((bestTo S.better l k).2.1)), (.int .i64 ((bestTo S.better l k).2.2))]) Z T.YF Z (y3 (Heap.xV hf (n := 1) Z) (k := 0) Z)))) (fun w' hf => ?_))))))))))))
 have hk2 : k = l.length - 1 := by omega
 subst hk2; rfl
theorem zBn {p : Int × Int × Int} {a b c : Int} {k k' k'' : IntKind} (h : p = (a, b, c)) : Value.tuple #[.int k a, .int k' b, .int k'' c] = .tuple #[.int k p.1, .int k' p.2.1, .int k'' p.2.2] := by subst h; rfl
theorem GX {js : List S.Pr} (h : S.checkJobs js = 0) : S.tight js = ((bestTo S.better (S.boundsTo js js.length) ((S.boundsTo js js.length).length - 1)).1, (bestTo S.better (S.boundsTo js js.length) ((S.boundsTo js js.length).length - 1)).2.1, 0) := by
 rw [S.tightest_spec.1, if_neg (by omega), S.boundsTo_length]
 rfl
theorem GJ {js : List S.Pr} (h : ¬ S.checkJobs js = 0) : S.tight js = (0, 0, S.checkJobs js) := by
 rw [S.tightest_spec.1, if_pos h]
theorem c24 {v : Value} {js : List S.Pr} {w : World} (h0 : Rd encP 2 v js w) (hn : js.length ≤ 1000000)  :
  Fn Tryz.prog 24 [v].toArray w (fun u _ => u = .tuple #[.int .i64 (S.tight js).1, .int .i64 (S.tight js).2.1, .int .i64 (S.tight js).2.2]) := by
 refine fz Tryz.func24 Z kz Z Z (fun hH => (zr (oA hH Z (oA hH Z (oA hH Z (zt (seq (zr (oM hH Z (zM Z Z Z hH (c26 (h0.now hH (n := 0) Z) om) (fun w1 hH2 => (oA hH2 Z (zs (oM hH2 Z (oY hH2 (yF Z Z) (zt ?_))))))))))))))))
 by_cases hc3 : (S.checkJobs js) = 0
 ·have hc0 : S.checkJobs js = 0 := by omega
  have hj := S.checkJobs_iff.1 hc0
  have hl1 := hj.1
  have hl8 := hj.2.1
  refine zL Z (zG hc3) (skip (zN (seq ?_)))
  have hbl := S.boundsTo_length js js.length
  refine region (oM hH2 Z (yV Z Z Z hH2 (c75 (h0.now hH2 (n := 0) Z) hj) (fun u6 w4 lo7 hi8 hH5 hv9 => ?_)))
  have hH10 := Heap.xZ hH5 (n := 0) Z
  refine oA hH10 Z (zs (oM hH10 Z (zM Z Z Z hH10 (c76 (Heap.yI T.jE hH10 (n := 0) Z) om om) (fun w11 hH12 => (yD (z := (.agg #[(.int .i64 0), (.int .i64 0), (.int .i64 0)])) (fun _ => by kernel_rfl) Z Z hH12 (fun b13 w14 hH15 => (zS (n := 0) (j := 0) Z Z hH15 Z T.W9 Z Z Z (by rfl) (fun w16 hH17 => (zt (seq (zY (fun w' => Heap [bx b13 125 [(.int .i64 ((bestTo S.better (S.boundsTo js js.length) ((S.boundsTo js js.length).length - 1)).1)), (.int .i64 ((bestTo S.better (S.boundsTo js js.length) ((S.boundsTo js js.length).length - 1)).2.1)), (.int .i64 ((bestTo S.better (S.boundsTo js js.length) ((S.boundsTo js js.length).length - 1)).2.2))], ow lo7 hi8 125 3 encN u6 (S.boundsTo js js.length), base w] w') T.mixed (fun w18 hr19 => ?_))))))))))))
  have hH20 := hH17.redrawn hr19
  refine zK [0, 1, 2, 3, 4, 5, 6] kz hH20 _ _ _ kz (zJ Z Z (zI T.zCh Z) (zJ Z Z (zE T.yU Z (cw (n := 0) Z Z)) (zJ Z Z (zI T.zB9 Z) (zJ Z Z (zE T.yU Z (cw (n := 0) Z Z)) (zJ Z Z (yK Z) (zJ Z Z (yK Z) (zJ Z Z (yK Z) (zQ (zX kz (zN (ret (fin (hH20.sub (sC (sC sR))) (fun w' hf => (zCs Z (rt Z) (rt Z) (rt Z))) (fun w' hf => ?_)))))))))))))
  first | exact zBn (GJ (by assumption)) | exact zBn (GX hc0)
 refine zO Z (zF hc3) (zr (oM hH2 Z (oA hH2 Z (oA hH2 Z (oA hH2 Z (zt (ret (z6 (fin hH2 (fun w' hf => (zCs Z (rt Z) (rt Z) (rt Z))) (fun w' hf => ?_))))))))))
 first | exact zBn (GJ (by assumption)) | exact zBn (GX hc0)
theorem c16 {v : Value} {js : List S.Pr} {b i : Int} {w : World} (h0 : Rd encP 2 v js w) (hn : js.length ≤ 1000000)  :
  Fn Tryz.prog 16 [v, (.int .i64 b), (.int .i64 i)].toArray w (fun u _ => u = .tuple #[.int .i64 (S.bound js b i).1, .int .i64 (S.bound js b i).2]) := by
 refine fz Tryz.func16 Z kz Z Z (fun hH => (zr (oA hH Z (oA hH Z (zs (oM hH Z (zM Z Z Z hH (c26 (h0.now hH (n := 0) Z) om) (fun w1 hH2 => (oA hH2 Z (zt (seq (block (zr (oM hH2 Z (oY hH2 (yF Z Z) (oA hH2 Z (zC ?_)))))))))))))))))
 refine zN ?_
 by_cases hc3 : (S.checkJobs js) = 0
 ·have hc0 : S.checkJobs js = 0 := by omega
  have hj := S.checkJobs_iff.1 hc0
  have hl1 := hj.1
  have hl8 := hj.2.1
  refine zL Z (zG hc3) (zr (oM hH2 Z (z2 T.zR [b] Z (fun w => by kernel_rfl) hH2 (fun u4 lo6 hi7 w5 hH8 => (zM Z Z Z hH8 (X9 (Heap.yI T.zR hH8 (n := 0) Z)) (fun w9 hH10 => (oY hH10 (y6 Z) (oM hH10 Z ?_))))))))
  by_cases hc11 : 0 ≤ b ∧ b ≤ 2
  ·refine zB Z Z (zG hc11) (oM hH10 Z (zB Z Z (zG hc11) (oY hH10 (z8 T.xX Z (h0.now hH10 (n := 1) Z).is) (zB Z Z (zG hc11) (oY hH10 (y8 Z Z om) (zB Z Z (zG hc11) (oM hH10 Z (zB Z Z (zG hc11) (z2 T.zR [i] Z (fun w => by kernel_rfl) hH10 (fun u12 lo14 hi15 w13 hH16 => (zB Z Z (zG hc11) (zM Z Z Z hH16 (X9 (Heap.yI T.zR hH16 (n := 0) Z)) (fun w17 hH18 => (zB Z Z (zG hc11) (oY hH18 (y6 Z) (oY hH18 (zT Z (zG hc11) Z) (oA hH18 Z (zt ?_))))))))))))))))))
   by_cases hc19 : 0 ≤ i ∧ i ≤ (js.length : Int) - 1
   ·refine zL Z (zG hc19) (skip (yC (zu (oM hH18 Z (oM hH18 Z (oM hH18 Z (zM Z Z Z hH18 (c25 (h0.now hH18 (n := 2) Z) hj om om om om) (fun w20 hH21 => (oA hH21 Z (oA hH21 Z (zt (ret (fin (hH21.sub (sC (sC sR))) (fun w' hf => (xI Z (rt Z) (rt Z))) (fun w' hf => ?_))))))))))))))
    first | exact tup2 (S.bd1 (by assumption)) | exact tup2 (S.bd2 (by assumption) (by omega)) | exact tup2 (S.bd3 (by assumption) (by omega))
   refine zO Z (zF hc19) (zr (oA hH18 Z (oA hH18 Z (zt (ret (yE (z6 (fin (hH18.sub (sC (sC sR))) (fun w' hf => (xI Z (rt Z) (rt Z))) (fun w' hf => ?_)))))))))
   first | exact tup2 (S.bd1 (by assumption)) | exact tup2 (S.bd2 (by assumption) (by omega)) | exact tup2 (S.bd3 (by assumption) (by omega))
  refine zD Z Z (zF hc11) Z (zD Z Z (zF hc11) Z (zD Z Z (zF hc11) Z (zD Z Z (zF hc11) Z (zD Z Z (zF hc11) Z (zD Z Z (zF hc11) Z (zD Z Z (zF hc11) Z (oY hH10 (zU Z (zF hc11) Z) (oA hH10 Z (zt (zO Z Z (zr (oA hH10 Z (oA hH10 Z (zt (ret (yE (z6 (fin (hH10.sub (sC sR)) (fun w' hf => (xI Z (rt Z) (rt Z))) (fun w' hf => ?_)))))))))))))))))))
  first | exact tup2 (S.bd1 (by assumption)) | exact tup2 (S.bd2 (by assumption) (by omega)) | exact tup2 (S.bd3 (by assumption) (by omega))
 refine zO Z (zF hc3) (zr (oM hH2 Z (oA hH2 Z (oA hH2 Z (zt (ret (yE (z6 (fin hH2 (fun w' hf => (xI Z (rt Z) (rt Z))) (fun w' hf => ?_))))))))))
 first | exact tup2 (S.bd1 (by assumption)) | exact tup2 (S.bd2 (by assumption) (by omega)) | exact tup2 (S.bd3 (by assumption) (by omega))
theorem c9 {v : Value} {js : List S.Pr} {w : World} (h0 : Rd encP 2 v js w) (hn : js.length ≤ 1000000)  :
  Fn Tryz.prog 9 [v].toArray w (fun u _ => u = .tuple #[.int .i64 (S.shortest js).1, .int .i64 (S.shortest js).2]) := by
 refine fz Tryz.func9 Z kz Z Z (fun hH => (zr (oA hH Z (oA hH Z (zs (oM hH Z (zM Z Z Z hH (c24 (h0.now hH (n := 0) Z) om) (fun w1 hH2 => (oM hH2 Z (oY hH2 (zH Z Z) (oY hH2 (zH Z Z) (oY hH2 (zH Z Z) (oA hH2 Z (oA hH2 Z (oA hH2 Z (zt (seq (seq ?_))))))))))))))))))
 refine region (oM hH2 Z (oY hH2 (yF Z Z) (zt ?_)))
 by_cases hc3 : ((S.tight js).2.2) = 0
 ·have hc0 : S.checkJobs js = 0 := Classical.not_not.1 fun h => S.tight_err.2 h (by assumption)
  have hj := S.checkJobs_iff.1 hc0
  have htt := S.tight_ok2 hj
  refine zL Z (zG hc3) (skip (zu (oM hH2 Z (oM hH2 Z (oM hH2 Z (zM Z Z Z hH2 (c25 (h0.now hH2 (n := 0) Z) hj htt.2.1 htt.2.2.1 htt.2.2.2.1 htt.2.2.2.2) (fun w4 hH5 => (oA hH5 Z (oA hH5 Z (zt (ret (fin hH5 (fun w' hf => (xI Z (rt Z) (rt Z))) (fun w' hf => ?_)))))))))))))
  first | (show Value.tuple #[_, .int _ (S.tight js).2.2] = _; rw [he]; exact tup2 (S.sh1 hc0)) | (rw [htt.1]; exact tup2 (S.sh2 hc0))
 have hc0 : ¬ S.checkJobs js = 0 := S.tight_err.1 (by assumption)
 have he : (S.tight js).2.2 = S.checkJobs js := S.tight_err2 hc0
 refine zO Z (zF hc3) (zr (oM hH2 Z (oA hH2 Z (oA hH2 Z (zt (ret (z6 (fin hH2 (fun w' hf => (xI Z (rt Z) (rt Z))) (fun w' hf => ?_)))))))))
 first | (show Value.tuple #[_, .int _ (S.tight js).2.2] = _; rw [he]; exact tup2 (S.sh1 hc0)) | (rw [htt.1]; exact tup2 (S.sh2 hc0))
theorem c63 {v u : Value} {js ps : List S.Pr} {b : Int} {w : World} (h0 : Rd encP 2 v js w) (h1 : Rd encP 2 u ps w) (hn : js.length ≤ 1000000) (hn2 : ps.length ≤ 1000000)  :
  Fn Tryz.prog 63 [v, u, (.int .i64 b)].toArray w (fun u _ => u = .tuple #[.int .i64 (S.idle js ps b).1, .int .i64 (S.idle js ps b).2]) := by
 refine fz Tryz.func63 Z kz Z Z (fun hH => (zr (oA hH Z (oA hH Z (zs (oM hH Z (oM hH Z (zM Z Z Z hH (c11 (h0.now hH (n := 0) Z) (h1.now hH (n := 0) Z) om om) (fun w1 hH2 => (oM hH2 Z (oY hH2 (zH Z Z) (oY hH2 (zH Z Z) (oA hH2 Z (oA hH2 Z (zt (seq (block (seq ?_))))))))))))))))))
 refine region (oM hH2 Z (oY hH2 (yF Z Z) (oA hH2 Z (zt ?_))))
 by_cases hc3 : ((S.checkPlan js ps).2) = 0
 ·have hcp : (S.checkPlan js ps).2 = 0 := by omega
  obtain ⟨hj, he, hT, _⟩ := S.checkPlan_iff.1 hcp
  have hl8 := hj.2.1
  refine zL Z (zG hc3) (zr (oM hH2 Z (z2 T.zR [b] Z (fun w => by kernel_rfl) hH2 (fun u4 lo6 hi7 w5 hH8 => (zM Z Z Z hH8 (X9 (Heap.yI T.zR hH8 (n := 0) Z)) (fun w9 hH10 => (oY hH10 (y6 Z) (oA hH10 Z (zt ?_)))))))))
  by_cases hc11 : 0 ≤ b ∧ b ≤ 1
  ·refine zL Z (zG hc11) (skip (yC (zu (oA hH10 Z (zt (seq (zr (oM hH10 Z (oY hH10 (z8 T.xX Z (h0.now hH10 (n := 1) Z).is) (oM hH10 Z (zt (block (loop (S := Nat) (fun k => [(29, (.int .i64 (k : Int))), (10, (.int .i64 (S.lastTo js ps b k))), (0, v), (1, u), (2, (.int .i64 b)), (6, (.int .i64 0)), (7, (.int .i64 0)), (28, (.int .i64 (js.length : Int)))]) (fun k w1 => Heap [ow lo6 hi7 2 1 encI u4 [b], base w] w1 ∧ k ≤ js.length) (fun k => js.length - k) (0) (uC Z (uC Z (uC Z (uC Z (uC Z (uC Z (uC Z (uC Z (Sub.nil _))))))))) ?_ ?_)))))))))))))
   ·exact ⟨hH10, om⟩
   rintro k w12 ⟨hH13, hk⟩
   refine zr (oY hH13 (yL Z Z) (zt (seq ?_)))
   by_cases hc14 : (k : Int) < (js.length : Int)
   ·refine zO Z (dT hc14) (skip (zN (seq (block (zr (oM hH13 Z (oA hH13 Z (zt ?_))))))))
    have hb1 := hj.at2 (w := 2 * (k : Int) + b) (by omega) (by omega)
    have hb2 := hT.at2 (w := 2 * (k : Int) + b) (by omega) (by omega)
    have hb3 := S.lastTo_bd hj hT (by omega) (b := b) (by omega) (by omega) k hk
    refine region (oM hH13 Z (oM hH13 Z (oM hH13 Z (oY hH13 (xA Z Z om) (oM hH13 Z (oY hH13 (zV Z Z om) (zM Z Z Z hH13 (c31 (h1.now hH13 (n := 1) Z) om om om) (fun w15 hH16 => (oM hH16 Z (oM hH16 Z (oY hH16 (xA Z Z om) (oM hH16 Z (oY hH16 (zV Z Z om) (zM Z Z Z hH16 (c32 (h0.now hH16 (n := 1) Z) om om om) (fun w17 hH18 => (oY hH18 (zV Z Z om) (oY hH18 (YG Z Z) (oA hH18 Z (zC (yC (zN (region (oY hH18 (zV Z Z om) ?_)))))))))))))))))))))))
    refine oM hH18 Z (zC (y0 (k + 1) (uC Z (uC Z (uC Z (uC Z (uC Z (uC Z (uC Z (uC Z (Sub.nil _))))))))) (⟨hH18, om⟩) om3))
   have hb3 := S.lastTo_bd hj hT (by omega) (b := b) (by omega) (by omega) k hk
   have hs0 := S.sumOf_bd hj (b := 0) (by omega) (by omega)
   have hs1 := S.sumOf_bd hj (b := 1) (by omega) (by omega)
   have hsb := S.sumOf_bd hj (b := b) (by omega) (by omega)
   refine zL Z (dF hc14) (exit (yZ (xF (z7 (zu (oM hH13 Z (oM hH13 Z (zM Z Z Z hH13 (c78 (h0.now hH13 (n := 1) Z) hj) (fun w19 hH20 => (oM hH20 Z (oY hH20 (XB T.uH T.yT Z Z om) (oY hH20 (y8 Z Z om) (oA hH20 Z (oA hH20 Z (zt (ret (fin (hH20.sub (sC sR)) (fun w' hf => (xI Z (rt Z) (rt Z))) (fun w' hf => ?_))))))))))))))))))
   first | exact tup2 (S.id1 (by assumption)) | exact tup2 (S.id2 (by assumption) (by omega)) | (have hk2 : k = js.length := (by omega); subst hk2; first | exact tup2 (S.id3 hcp (by omega)) | (rcases (by omega : b = 0 ∨ b = 1) with rfl | rfl <;> exact tup2 (S.id3 hcp (by omega))))
  refine zO Z (zF hc11) (zr (oA hH10 Z (oA hH10 Z (zt (ret (yE (z6 (fin (hH10.sub (sC sR)) (fun w' hf => (xI Z (rt Z) (rt Z))) (fun w' hf => ?_)))))))))
  first | exact tup2 (S.id1 (by assumption)) | exact tup2 (S.id2 (by assumption) (by omega)) | (have hk2 : k = js.length := (by omega); subst hk2; first | exact tup2 (S.id3 hcp (by omega)) | (rcases (by omega : b = 0 ∨ b = 1) with rfl | rfl <;> exact tup2 (S.id3 hcp (by omega))))
 refine zO Z (zF hc3) (zr (oM hH2 Z (oA hH2 Z (oA hH2 Z (zt (ret (yE (z6 (fin hH2 (fun w' hf => (xI Z (rt Z) (rt Z))) (fun w' hf => ?_))))))))))
 first | exact tup2 (S.id1 (by assumption)) | exact tup2 (S.id2 (by assumption) (by omega)) | (have hk2 : k = js.length := (by omega); subst hk2; first | exact tup2 (S.id3 hcp (by omega)) | (rcases (by omega : b = 0 ∨ b = 1) with rfl | rfl <;> exact tup2 (S.id3 hcp (by omega))))
end Go.Fip
namespace Go.Fip
open Go.Proofs Go.RowKit
theorem c93 {v : Value} {l : List Int} {x : Int} {w : World} (h0 : Rd encI 1 v l w) (hn : l.length ≤ 1000000)  :
  Fn Tryz.prog 93 [v, (.int .i64 x)].toArray w (fun u _ => u = .int .i64 (S.place l x)) := by
 refine fz Tryz.func93 Z kz Z Z (fun hH => (zr (oA hH Z (zt (seq (zr (oM hH Z (oY hH (z8 T.yS Z (h0.now hH (n := 0) Z).is) (oM hH Z (zt (block (loop (S := Nat) (fun k => [(8, (.int .i64 (k : Int))), (0, v), (1, (.int .i64 x)), (7, (.int .i64 (l.length : Int)))]) (fun k w1 => Heap [base w] w1 ∧ k ≤ l.length ∧ ∀ i, i < k → (fun y : Int => decide (y = x)) (nth l (i : Int)) = false) (fun k => l.length - k) (0) (uC Z (uC Z (uC Z (uC Z (Sub.nil _))))) ?_ ?_))))))))))))
 ·exact ⟨hH, om, S.all_zero⟩
 rintro k w1 ⟨hH2, hk, hall⟩
 refine zr (oY hH2 (yL Z Z) (zt (seq ?_)))
 by_cases hc3 : (k : Int) < (l.length : Int)
 ·refine zO Z (dT hc3) (skip (zN (seq (block (zr (oM hH2 Z (oA hH2 Z (zs (oM hH2 Z (oM hH2 Z (oM hH2 Z (oY hH2 (zP T.yS Z Z (h0.now hH2 (n := 0) Z).is om) (oY hH2 (zE T.yU Z (fun _ hw => Rd.at (h0.now hw (n := 0) Z) (i := (k : Int)) om (j := 0) Z)) (oY hH2 (y5 Z Z) (zt ?_)))))))))))))))
  by_cases hc4 : x = (nth l (k : Int))
  ·have hp : (fun y : Int => decide (y = x)) (nth l (k : Int)) = true := decide_eq_true (by omega)
   refine zO Z (dT hc4) (zr (oM hH2 Z (oA hH2 Z (zt (ret (yE (z6 (xY (yE (z6 (fin hH2 (fun w' hf => (yN Z (rt Z))) (fun w' hf => ?_))))))))))))
   first | exact congrArg (Value.int .i64) (x5 (k := k) (by omega) hall hp).symm | exact congrArg (Value.int .i64) (xP (fun i hi => hall i (by omega))).symm
  have hp : (fun y : Int => decide (y = x)) (nth l (k : Int)) = false := decide_eq_false (by omega)
  refine zL Z (dF hc4) (skip (yC (zN (region (oY hH2 (zV Z Z om) (oM hH2 Z (zC (y0 (k + 1) (uC Z (uC Z (uC Z (uC Z (Sub.nil _))))) (⟨hH2, om, S.all_snoc hall hp⟩) om3))))))))
 refine zL Z (dF hc3) (exit (yZ (xF (z7 (zu (oA hH2 Z (zt (ret (fin hH2 (fun w' hf => (yN Z (rt Z))) (fun w' hf => ?_))))))))))
 first | exact congrArg (Value.int .i64) (x5 (k := k) (by omega) hall hp).symm | exact congrArg (Value.int .i64) (xP (fun i hi => hall i (by omega))).symm
theorem J4 {v : Value} {l : List Int} {x : Int} {w : World} (h0 : Rd encI 1 v l w) (hn : l.length ≤ 1000000)  :
  Fn Tryz.prog 164 [v, (.int .i64 x)].toArray w (fun u _ => u = .int .i64 (S.place l x)) := by
 refine fz Tryz.func164 Z kz Z Z (fun hH => (zr (oA hH Z (zt (seq (zr (oA hH Z (zt (block (loop (S := Nat) (fun k => [(5, (.int .i64 (k : Int))), (0, v), (1, (.int .i64 x))]) (fun k w1 => Heap [base w] w1 ∧ k ≤ l.length ∧ ∀ i, i < k → (fun y : Int => decide (y = x)) (nth l (i : Int)) = false) (fun k => l.length - k) (0) (uC Z (uC Z (uC Z (Sub.nil _)))) ?_ ?_))))))))))
 ·exact ⟨hH, om, S.all_zero⟩
 rintro k w1 ⟨hH2, hk, hall⟩
 refine seq (zr (oM hH2 Z (oM hH2 Z (oY hH2 (z8 T.yS Z (h0.now hH2 (n := 0) Z).is) (oY hH2 (yL Z Z) (zt ?_))))))
 by_cases hc3 : (k : Int) < (l.length : Int)
 ·refine zO Z (dT hc3) (skip (zN (seq (block (zr (oM hH2 Z (oM hH2 Z (oY hH2 (zP T.yS Z Z (h0.now hH2 (n := 0) Z).is om) (oY hH2 (zE T.yU Z (fun _ hw => Rd.at (h0.now hw (n := 0) Z) (i := (k : Int)) om (j := 0) Z)) (oM hH2 Z (oY hH2 (y5 Z Z) (zt ?_))))))))))))
  by_cases hc4 : (nth l (k : Int)) = x
  ·have hp : (fun y : Int => decide (y = x)) (nth l (k : Int)) = true := decide_eq_true (by omega)
   refine zO Z (dT hc4) (zr (oM hH2 Z (oA hH2 Z (zt (ret (yE (z6 (xY (yE (z6 (fin hH2 (fun w' hf => (yN Z (rt Z))) (fun w' hf => ?_))))))))))))
   first | exact congrArg (Value.int .i64) (x5 (k := k) (by omega) hall hp).symm | exact congrArg (Value.int .i64) (xP (fun i hi => hall i (by omega))).symm
  have hp : (fun y : Int => decide (y = x)) (nth l (k : Int)) = false := decide_eq_false (by omega)
  refine zL Z (dF hc4) (skip (yC (zN (region (oM hH2 Z (oY hH2 (zV Z Z om) (oA hH2 Z (zC (y0 (k + 1) (uC Z (uC Z (uC Z (Sub.nil _)))) (⟨hH2, om, S.all_snoc hall hp⟩) om3)))))))))
 refine zL Z (dF hc3) (exit (yZ (xF (z7 (zu (oA hH2 Z (zt (ret (fin hH2 (fun w' hf => (yN Z (rt Z))) (fun w' hf => ?_))))))))))
 first | exact congrArg (Value.int .i64) (x5 (k := k) (by omega) hall hp).symm | exact congrArg (Value.int .i64) (xP (fun i hi => hall i (by omega))).symm
theorem zBo {v : Value} {l : List Int} {x : Int} {w : World} (h0 : Rd encI 1 v l w) (hn : l.length ≤ 1000000)  :
  Fn Tryz.prog 129 [v, (.int .i64 x)].toArray w (fun u _ => u = .bool (decide (0 ≤ S.place l x))) := by
 refine fz Tryz.func129 Z kz Z Z (fun hH => (zr (oA hH Z (zs (oM hH Z (oM hH Z (zM Z Z Z hH (c93 (h0.now hH (n := 0) Z) om) (fun w1 hH2 => (oY hH2 (vH Z Z) (oA hH2 Z (zt (ret (fin hH2 (fun w' hf => (yN Z (rt Z))) (fun w' hf => Z))))))))))))))
theorem zC3 {v : Value} {js : List S.Pr} {vb vt vf : Value} {B U F : List Int} {w : World} (h0 : Rd encP 2 v js w) (hB : Rd encI 1 vb B w) (hT : Rd encI 1 vt U w) (hF : Rd encI 1 vf F w) (hn : js.length ≤ 1000000) (hBl : B.length ≤ 1000000) (hTl : U.length ≤ 1000000) (hFl : F.length ≤ 1000000)  :
  Fn Tryz.prog 100 [v, (.agg #[vb, vt, vf])].toArray w (fun u _ => u = .int .i64 (S.checkOrder js B U F)) := by
 refine fz Tryz.func100 Z kz Z Z (fun hH => (zr (yY Z Z Z hH (fun b1 w2 hH3 => (oA hH3 Z (zt (seq (zr (oM hH3 Z (zM Z Z Z hH3 (c26 (h0.now hH3 (n := 1) Z) om) (fun w4 hH5 => (oA hH5 Z (zs (oM hH5 Z (oY hH5 (yF Z Z) (zt ?_))))))))))))))))
 by_cases hc6 : (S.checkJobs js) = 0
 ·have hc0 : S.checkJobs js = 0 := by omega
  have hj := S.checkJobs_iff.1 hc0
  have hl1 := hj.1
  have hl8 := hj.2.1
  refine zL Z (zG hc6) (skip (zN (seq (zr (oY hH5 (zI T.q9 Z) (oY hH5 (zE T.xB Z (cw (n := 0) Z Z)) (oY hH5 (z8 T.yS Z (hB.now hH5 (n := 1) Z).is) (oM hH5 Z (oY hH5 (z8 T.xX Z (h0.now hH5 (n := 1) Z).is) (oY hH5 (yF Z Z) (oM hH5 Z ?_)))))))))))
  by_cases hc7 : (B.length : Int) = (js.length : Int)
  ·refine zB Z Z (zG hc7) (oY hH5 (zI T.kX Z) (zB Z Z (zG hc7) (oY hH5 (zE T.xB Z (cw (n := 0) Z Z)) (zB Z Z (zG hc7) (oY hH5 (z8 T.yS Z (hT.now hH5 (n := 1) Z).is) (zB Z Z (zG hc7) (oM hH5 Z (zB Z Z (zG hc7) (oY hH5 (z8 T.xX Z (h0.now hH5 (n := 1) Z).is) (zB Z Z (zG hc7) (oY hH5 (yF Z Z) (oY hH5 (zT Z (zG hc7) Z) (oM hH5 Z ?_)))))))))))))
   by_cases hc8 : (U.length : Int) = (js.length : Int)
   ·refine zB Z Z (zG hc8) (oY hH5 (zI T.qI Z) (zB Z Z (zG hc8) (oY hH5 (zE T.xB Z (cw (n := 0) Z Z)) (zB Z Z (zG hc8) (oY hH5 (z8 T.yS Z (hF.now hH5 (n := 1) Z).is) (zB Z Z (zG hc8) (oM hH5 Z (zB Z Z (zG hc8) (oY hH5 (z8 T.xX Z (h0.now hH5 (n := 1) Z).is) (zB Z Z (zG hc8) (oY hH5 (yF Z Z) (oY hH5 (zT Z (zG hc8) Z) (zt ?_)))))))))))))
    by_cases hc9 : (F.length : Int) = (js.length : Int)
    ·refine zL Z (zG hc9) (skip (zN (seq (zr (oM hH5 Z (oY hH5 (z8 T.xX Z (h0.now hH5 (n := 1) Z).is) (oM hH5 Z (zt (block (loop (S := Nat) (fun k => [(36, (.int .i64 (k : Int))), (3, (.pointer (some ⟨b1, 0, none⟩))), (35, (.int .i64 (js.length : Int)))]) (fun k w1 => Heap [bx b1 48 [vb, vt, vf], base w] w1 ∧ k ≤ js.length ∧ ∀ i, i < k → S.okFor B U F (i : Int)) (fun k => js.length - k) (0) (uC Z (uC Z (uC Z (Sub.nil _)))) ?_ ?_))))))))))
     ·exact ⟨hH5, om, S.all_zero⟩
     rintro k w10 ⟨hH11, hk, hall⟩
     refine zr (oY hH11 (yL Z Z) (zt (seq ?_)))
     by_cases hc12 : (k : Int) < (js.length : Int)
     ·refine zO Z (dT hc12) (skip (zN (seq (block (zr (oM hH11 Z (oA hH11 Z (zs (oY hH11 (zI T.q9 Z) (oY hH11 (zE T.xB Z (cw (n := 0) Z Z)) (oM hH11 Z (zM Z Z Z hH11 (zBo (hB.now hH11 (n := 1) Z) om) (fun w13 hH14 => (oY hH14 (y6 Z) (oM hH14 Z ?_)))))))))))))))
      by_cases hc15 : 0 ≤ S.place B (k : Int)
      ·refine zB Z Z (zG hc15) (oY hH14 (zI T.kX Z) (zB Z Z (zG hc15) (oY hH14 (zE T.xB Z (cw (n := 0) Z Z)) (zB Z Z (zG hc15) (oM hH14 Z (zB Z Z (zG hc15) (zM Z Z Z hH14 (zBo (hT.now hH14 (n := 1) Z) om) (fun w16 hH17 => (zB Z Z (zG hc15) (oY hH17 (y6 Z) (oY hH17 (zT Z (zG hc15) Z) (oM hH17 Z ?_))))))))))))
       by_cases hc18 : 0 ≤ S.place U (k : Int)
       ·refine zB Z Z (zG hc18) (oY hH17 (zI T.qI Z) (zB Z Z (zG hc18) (oY hH17 (zE T.xB Z (cw (n := 0) Z Z)) (zB Z Z (zG hc18) (oM hH17 Z (zB Z Z (zG hc18) (oY hH17 (zP T.yS Z Z (hF.now hH17 (n := 1) Z).is om) (zB Z Z (zG hc18) (oY hH17 (zE T.yU Z (fun _ hw => Rd.at (hF.now hw (n := 1) Z) (i := (k : Int)) om (j := 0) Z)) (zB Z Z (zG hc18) (z2 T.zR [nth F (k : Int)] Z (fun w => by kernel_rfl) hH17 (fun u19 lo21 hi22 w20 hH23 => (zB Z Z (zG hc18) (zM Z Z Z hH23 (X9 (Heap.yI T.zR hH23 (n := 0) Z)) (fun w24 hH25 => (zB Z Z (zG hc18) (oY hH25 (y6 Z) (oY hH25 (zT Z (zG hc18) Z) (zt ?_)))))))))))))))))))
        by_cases hc26 : 0 ≤ nth F (k : Int) ∧ nth F (k : Int) ≤ 1
        ·refine zL Z (zG hc26) (skip (yC (zN (region (oY hH25 (zV Z Z om) (oM hH25 Z (zC (y0 (k + 1) (uC Z (uC Z (uC Z (Sub.nil _)))) (⟨(hH25.sub (sC sR)), om, S.all_snoc hall (by unfold S.okFor; omega)⟩) om3))))))))
        have hbad : ¬ S.AllO js.length B U F := fun h => (show ¬ S.okFor B U F (k : Int) by unfold S.okFor; omega) (h k (by omega))
        refine zO Z (zF hc26) (zr (oA hH25 Z (zt (ret (yE (z6 (xY (yE (z6 (fin (hH25.sub (sC (sC sR))) (fun w' hf => (yN Z (rt Z))) (fun w' hf => ?_)))))))))))
        first | exact congrArg (Value.int .i64) (S.co1 (by assumption)).symm | exact congrArg (Value.int .i64) (S.co2 hc0 (by omega)).symm | exact congrArg (Value.int .i64) (S.co4 hc0 (by omega) hbad).symm | exact congrArg (Value.int .i64) (S.co3 hc0 (by omega) (fun i hi => hall i (by omega))).symm
       have hbad : ¬ S.AllO js.length B U F := fun h => (show ¬ S.okFor B U F (k : Int) by unfold S.okFor; omega) (h k (by omega))
       refine zD Z Z (zF hc18) Z (zD Z Z (zF hc18) Z (zD Z Z (zF hc18) Z (zD Z Z (zF hc18) Z (zD Z Z (zF hc18) Z (zD Z Z (zF hc18) Z (zD Z Z (zF hc18) Z (zD Z Z (zF hc18) Z (oY hH17 (zU Z (zF hc18) Z) (zt (zO Z Z (zr (oA hH17 Z (zt (ret (yE (z6 (xY (yE ?_))))))))))))))))))
       refine z6 (fin (hH17.sub (sC sR)) (fun w' hf => (yN Z (rt Z))) (fun w' hf => ?_))
       first | exact congrArg (Value.int .i64) (S.co1 (by assumption)).symm | exact congrArg (Value.int .i64) (S.co2 hc0 (by omega)).symm | exact congrArg (Value.int .i64) (S.co4 hc0 (by omega) hbad).symm | exact congrArg (Value.int .i64) (S.co3 hc0 (by omega) (fun i hi => hall i (by omega))).symm
      have hbad : ¬ S.AllO js.length B U F := fun h => (show ¬ S.okFor B U F (k : Int) by unfold S.okFor; omega) (h k (by omega))
      refine zD Z Z (zF hc15) Z (zD Z Z (zF hc15) Z (zD Z Z (zF hc15) Z (zD Z Z (zF hc15) Z (zD Z Z (zF hc15) Z (oY hH14 (zU Z (zF hc15) Z) (oM hH14 Z (zD Z Z Z Z (zD Z Z Z Z (zD Z Z Z Z (zD Z Z Z Z (zD Z Z Z Z (zD Z Z Z Z (zD Z Z Z Z (zD Z Z Z Z (oY hH14 (zU Z Z Z) (zt (zO Z Z (zr (oA hH14 Z ?_)))))))))))))))))))
      refine zt (ret (yE (z6 (xY (yE (z6 (fin (hH14.sub (sC sR)) (fun w' hf => (yN Z (rt Z))) (fun w' hf => ?_))))))))
      first | exact congrArg (Value.int .i64) (S.co1 (by assumption)).symm | exact congrArg (Value.int .i64) (S.co2 hc0 (by omega)).symm | exact congrArg (Value.int .i64) (S.co4 hc0 (by omega) hbad).symm | exact congrArg (Value.int .i64) (S.co3 hc0 (by omega) (fun i hi => hall i (by omega))).symm
     refine zL Z (dF hc12) (exit (yZ (xF (z7 (zu (oA hH11 Z (zt (ret (fin (hH11.sub (sC sR)) (fun w' hf => (yN Z (rt Z))) (fun w' hf => ?_))))))))))
     first | exact congrArg (Value.int .i64) (S.co1 (by assumption)).symm | exact congrArg (Value.int .i64) (S.co2 hc0 (by omega)).symm | exact congrArg (Value.int .i64) (S.co4 hc0 (by omega) hbad).symm | exact congrArg (Value.int .i64) (S.co3 hc0 (by omega) (fun i hi => hall i (by omega))).symm
    refine zO Z (zF hc9) (zr (oA hH5 Z (zt (ret (z6 (fin (hH5.sub (sC sR)) (fun w' hf => (yN Z (rt Z))) (fun w' hf => ?_)))))))
    first | exact congrArg (Value.int .i64) (S.co1 (by assumption)).symm | exact congrArg (Value.int .i64) (S.co2 hc0 (by omega)).symm | exact congrArg (Value.int .i64) (S.co4 hc0 (by omega) hbad).symm | exact congrArg (Value.int .i64) (S.co3 hc0 (by omega) (fun i hi => hall i (by omega))).symm
   refine zD Z Z (zF hc8) Z (zD Z Z (zF hc8) Z (zD Z Z (zF hc8) Z (zD Z Z (zF hc8) Z (zD Z Z (zF hc8) Z (zD Z Z (zF hc8) Z (oY hH5 (zU Z (zF hc8) Z) (zt (zO Z Z (zr (oA hH5 Z (zt (ret (z6 (fin (hH5.sub (sC sR)) (fun w' hf => (yN Z (rt Z))) (fun w' hf => ?_)))))))))))))))
   first | exact congrArg (Value.int .i64) (S.co1 (by assumption)).symm | exact congrArg (Value.int .i64) (S.co2 hc0 (by omega)).symm | exact congrArg (Value.int .i64) (S.co4 hc0 (by omega) hbad).symm | exact congrArg (Value.int .i64) (S.co3 hc0 (by omega) (fun i hi => hall i (by omega))).symm
  refine zD Z Z (zF hc7) Z (zD Z Z (zF hc7) Z (zD Z Z (zF hc7) Z (zD Z Z (zF hc7) Z (zD Z Z (zF hc7) Z (zD Z Z (zF hc7) Z (oY hH5 (zU Z (zF hc7) Z) (oM hH5 Z (zD Z Z Z Z (zD Z Z Z Z (zD Z Z Z Z (zD Z Z Z Z (zD Z Z Z Z (zD Z Z Z Z (oY hH5 (zU Z Z Z) (zt (zO Z Z (zr (oA hH5 Z (zC ?_)))))))))))))))))))
  refine zN (ret (z6 (fin (hH5.sub (sC sR)) (fun w' hf => (yN Z (rt Z))) (fun w' hf => ?_))))
  first | exact congrArg (Value.int .i64) (S.co1 (by assumption)).symm | exact congrArg (Value.int .i64) (S.co2 hc0 (by omega)).symm | exact congrArg (Value.int .i64) (S.co4 hc0 (by omega) hbad).symm | exact congrArg (Value.int .i64) (S.co3 hc0 (by omega) (fun i hi => hall i (by omega))).symm
 refine zO Z (zF hc6) (zr (oM hH5 Z (oA hH5 Z (zt (ret (z6 (fin (hH5.sub (sC sR)) (fun w' hf => (yN Z (rt Z))) (fun w' hf => ?_))))))))
 first | exact congrArg (Value.int .i64) (S.co1 (by assumption)).symm | exact congrArg (Value.int .i64) (S.co2 hc0 (by omega)).symm | exact congrArg (Value.int .i64) (S.co4 hc0 (by omega) hbad).symm | exact congrArg (Value.int .i64) (S.co3 hc0 (by omega) (fun i hi => hall i (by omega))).symm
theorem zC1 {v : Value} {js : List S.Pr} {vb vt vf : Value} {B U F : List Int} {w : World} (h0 : Rd encP 2 v js w) (hB : Rd encI 1 vb B w) (hT : Rd encI 1 vt U w) (hF : Rd encI 1 vf F w) (hn : js.length ≤ 1000000) (hBl : B.length ≤ 1000000) (hTl : U.length ≤ 1000000) (hFl : F.length ≤ 1000000)  :
  Fn Tryz.prog 136 [v, (.agg #[vb, vt, vf])].toArray w (fun u _ => u = .int .i64 (S.checkOrder js B U F)) := by
 refine fz Tryz.func136 Z kz Z Z (fun hH => (zr (yY Z Z Z hH (fun b1 w2 hH3 => (oA hH3 Z (zt (seq (zr (oM hH3 Z (zM Z Z Z hH3 (c12 (h0.now hH3 (n := 1) Z) om) (fun w4 hH5 => (oY hH5 (yF Z Z) (zt ?_)))))))))))))
 by_cases hc6 : (S.checkJobs js) = 0
 ·have hc0 : S.checkJobs js = 0 := by omega
  have hj := S.checkJobs_iff.1 hc0
  have hl1 := hj.1
  have hl8 := hj.2.1
  refine zL Z (zG hc6) (skip (zN (seq (zr (oY hH5 (zI T.q9 Z) (oY hH5 (zE T.xB Z (cw (n := 0) Z Z)) (oY hH5 (z8 T.yS Z (hB.now hH5 (n := 1) Z).is) (oM hH5 Z (oY hH5 (z8 T.xX Z (h0.now hH5 (n := 1) Z).is) (oY hH5 (yF Z Z) (oM hH5 Z ?_)))))))))))
  by_cases hc7 : (B.length : Int) = (js.length : Int)
  ·refine zB Z Z (zG hc7) (oY hH5 (zI T.kX Z) (zB Z Z (zG hc7) (oY hH5 (zE T.xB Z (cw (n := 0) Z Z)) (zB Z Z (zG hc7) (oY hH5 (z8 T.yS Z (hT.now hH5 (n := 1) Z).is) (zB Z Z (zG hc7) (oM hH5 Z (zB Z Z (zG hc7) (oY hH5 (z8 T.xX Z (h0.now hH5 (n := 1) Z).is) (zB Z Z (zG hc7) (oY hH5 (yF Z Z) (oY hH5 (zT Z (zG hc7) Z) (oM hH5 Z ?_)))))))))))))
   by_cases hc8 : (U.length : Int) = (js.length : Int)
   ·refine zB Z Z (zG hc8) (oY hH5 (zI T.qI Z) (zB Z Z (zG hc8) (oY hH5 (zE T.xB Z (cw (n := 0) Z Z)) (zB Z Z (zG hc8) (oY hH5 (z8 T.yS Z (hF.now hH5 (n := 1) Z).is) (zB Z Z (zG hc8) (oM hH5 Z (zB Z Z (zG hc8) (oY hH5 (z8 T.xX Z (h0.now hH5 (n := 1) Z).is) (zB Z Z (zG hc8) (oY hH5 (yF Z Z) (oY hH5 (zT Z (zG hc8) Z) (zt ?_)))))))))))))
    by_cases hc9 : (F.length : Int) = (js.length : Int)
    ·refine zL Z (zG hc9) (skip (zN (seq (zr (oA hH5 Z (zt (block (loop (S := Nat) (fun k => [(5, (.int .i64 (k : Int))), (0, v), (3, (.pointer (some ⟨b1, 0, none⟩)))]) (fun k w1 => Heap [bx b1 48 [vb, vt, vf], base w] w1 ∧ k ≤ js.length ∧ ∀ i, i < k → S.okFor B U F (i : Int)) (fun k => js.length - k) (0) (uC Z (uC Z (uC Z (Sub.nil _)))) ?_ ?_))))))))
     ·exact ⟨hH5, om, S.all_zero⟩
     rintro k w10 ⟨hH11, hk, hall⟩
     refine seq (zr (oM hH11 Z (oM hH11 Z (oY hH11 (z8 T.xX Z (h0.now hH11 (n := 1) Z).is) (oY hH11 (yL Z Z) (zt ?_))))))
     by_cases hc12 : (k : Int) < (js.length : Int)
     ·refine zO Z (dT hc12) (skip (zN (seq (block (zr (oY hH11 (zI T.q9 Z) (oY hH11 (zE T.xB Z (cw (n := 0) Z Z)) (oM hH11 Z (zM Z Z Z hH11 (J4 (hB.now hH11 (n := 1) Z) om) (fun w13 hH14 => (oY hH14 (yL Z Z) (oM hH14 Z ?_))))))))))))
      by_cases hc15 : (S.place B (k : Int)) < 0
      ·have hbad : ¬ S.AllO js.length B U F := fun h => (show ¬ S.okFor B U F (k : Int) by unfold S.okFor; omega) (h k (by omega))
       refine zD Z Z (dT hc15) Z (zD Z Z (dT hc15) Z (zD Z Z (dT hc15) Z (zD Z Z (dT hc15) Z (zD Z Z (dT hc15) Z (oY hH14 (zU Z (dT hc15) Z) (oM hH14 Z (zD Z Z Z Z (zD Z Z Z Z (zD Z Z Z Z (zD Z Z Z Z (zD Z Z Z Z (zD Z Z Z Z (oY hH14 (zU Z Z Z) (oM hH14 Z (zD Z Z Z Z (zD Z Z Z Z (zD Z Z Z Z (zD Z Z Z Z (zD Z Z Z Z (zD Z Z Z Z (oY hH14 (zU Z Z Z) ?_)))))))))))))))))))))
       refine zt (zO Z Z (zr (oA hH14 Z (zt (ret (yE (z6 (xY (yE (z6 (fin (hH14.sub (sC sR)) (fun w' hf => (yN Z (rt Z))) (fun w' hf => ?_))))))))))))
       first | exact congrArg (Value.int .i64) (S.co1 (by assumption)).symm | exact congrArg (Value.int .i64) (S.co2 hc0 (by omega)).symm | exact congrArg (Value.int .i64) (S.co4 hc0 (by omega) hbad).symm | exact congrArg (Value.int .i64) (S.co3 hc0 (by omega) (fun i hi => hall i (by omega))).symm
      refine zB Z Z (dF hc15) (oY hH14 (zI T.kX Z) (zB Z Z (dF hc15) (oY hH14 (zE T.xB Z (cw (n := 0) Z Z)) (zB Z Z (dF hc15) (oM hH14 Z (zB Z Z (dF hc15) (zM Z Z Z hH14 (J4 (hT.now hH14 (n := 1) Z) om) (fun w17 hH18 => (zB Z Z (dF hc15) (oY hH18 (yL Z Z) (oY hH18 (zT Z (dF hc15) Z) (oM hH18 Z ?_))))))))))))
      by_cases hc19 : (S.place U (k : Int)) < 0
      ·have hbad : ¬ S.AllO js.length B U F := fun h => (show ¬ S.okFor B U F (k : Int) by unfold S.okFor; omega) (h k (by omega))
       refine zD Z Z (dT hc19) Z (zD Z Z (dT hc19) Z (zD Z Z (dT hc19) Z (zD Z Z (dT hc19) Z (zD Z Z (dT hc19) Z (zD Z Z (dT hc19) Z (oY hH18 (zU Z (dT hc19) Z) (oM hH18 Z (zD Z Z Z Z (zD Z Z Z Z (zD Z Z Z Z (zD Z Z Z Z (zD Z Z Z Z (zD Z Z Z Z (oY hH18 (zU Z Z Z) (zt (zO Z Z (zr (oA hH18 Z (zC ?_)))))))))))))))))))
       refine zN (ret (yE (z6 (xY (yE (z6 (fin (hH18.sub (sC sR)) (fun w' hf => (yN Z (rt Z))) (fun w' hf => ?_))))))))
       first | exact congrArg (Value.int .i64) (S.co1 (by assumption)).symm | exact congrArg (Value.int .i64) (S.co2 hc0 (by omega)).symm | exact congrArg (Value.int .i64) (S.co4 hc0 (by omega) hbad).symm | exact congrArg (Value.int .i64) (S.co3 hc0 (by omega) (fun i hi => hall i (by omega))).symm
      refine zB Z Z (dF hc19) (oY hH18 (zI T.qI Z) (zB Z Z (dF hc19) (oY hH18 (zE T.xB Z (cw (n := 0) Z Z)) (zB Z Z (dF hc19) (oM hH18 Z (zB Z Z (dF hc19) (oY hH18 (zP T.yS Z Z (hF.now hH18 (n := 1) Z).is om) (zB Z Z (dF hc19) (oY hH18 (zE T.yU Z (fun _ hw => Rd.at (hF.now hw (n := 1) Z) (i := (k : Int)) om (j := 0) Z)) (zB Z Z (dF hc19) (oY hH18 (yL Z Z) (oY hH18 (zT Z (dF hc19) Z) (oM hH18 Z ?_)))))))))))))
      by_cases hc21 : (nth F (k : Int)) < 0
      ·have hbad : ¬ S.AllO js.length B U F := fun h => (show ¬ S.okFor B U F (k : Int) by unfold S.okFor; omega) (h k (by omega))
       refine zD Z Z (dT hc21) Z (zD Z Z (dT hc21) Z (zD Z Z (dT hc21) Z (zD Z Z (dT hc21) Z (zD Z Z (dT hc21) Z (zD Z Z (dT hc21) Z (oY hH18 (zU Z (dT hc21) Z) (zt (zO Z Z (zr (oA hH18 Z (zt (ret (yE (z6 (xY (yE (z6 (fin (hH18.sub (sC sR)) (fun w' hf => (yN Z (rt Z))) (fun w' hf => ?_)))))))))))))))))))
       first | exact congrArg (Value.int .i64) (S.co1 (by assumption)).symm | exact congrArg (Value.int .i64) (S.co2 hc0 (by omega)).symm | exact congrArg (Value.int .i64) (S.co4 hc0 (by omega) hbad).symm | exact congrArg (Value.int .i64) (S.co3 hc0 (by omega) (fun i hi => hall i (by omega))).symm
      refine zB Z Z (dF hc21) (oY hH18 (zI T.qI Z) (zB Z Z (dF hc21) (oY hH18 (zE T.xB Z (cw (n := 0) Z Z)) (zB Z Z (dF hc21) (oM hH18 Z (zB Z Z (dF hc21) (oY hH18 (zP T.yS Z Z (hF.now hH18 (n := 1) Z).is om) (zB Z Z (dF hc21) (oY hH18 (zE T.yU Z (fun _ hw => Rd.at (hF.now hw (n := 1) Z) (i := (k : Int)) om (j := 0) Z)) (zB Z Z (dF hc21) (oY hH18 (xJ Z Z) (oY hH18 (zT Z (dF hc21) Z) (zt ?_)))))))))))))
      by_cases hc23 : 1 < (nth F (k : Int))
      ·have hbad : ¬ S.AllO js.length B U F := fun h => (show ¬ S.okFor B U F (k : Int) by unfold S.okFor; omega) (h k (by omega))
       refine zO Z (dT hc23) (zr (oA hH18 Z (zt (ret (yE (z6 (xY (yE (z6 (fin (hH18.sub (sC sR)) (fun w' hf => (yN Z (rt Z))) (fun w' hf => ?_)))))))))))
       first | exact congrArg (Value.int .i64) (S.co1 (by assumption)).symm | exact congrArg (Value.int .i64) (S.co2 hc0 (by omega)).symm | exact congrArg (Value.int .i64) (S.co4 hc0 (by omega) hbad).symm | exact congrArg (Value.int .i64) (S.co3 hc0 (by omega) (fun i hi => hall i (by omega))).symm
      refine zL Z (dF hc23) (skip (yC (zN (region (oM hH18 Z (oY hH18 (zV Z Z om) (oA hH18 Z (zC (y0 (k + 1) (uC Z (uC Z (uC Z (Sub.nil _)))) (⟨hH18, om, S.all_snoc hall (by unfold S.okFor; omega)⟩) om3)))))))))
     refine zL Z (dF hc12) (exit (yZ (xF (z7 (zu (oA hH11 Z (zt (ret (fin (hH11.sub (sC sR)) (fun w' hf => (yN Z (rt Z))) (fun w' hf => ?_))))))))))
     first | exact congrArg (Value.int .i64) (S.co1 (by assumption)).symm | exact congrArg (Value.int .i64) (S.co2 hc0 (by omega)).symm | exact congrArg (Value.int .i64) (S.co4 hc0 (by omega) hbad).symm | exact congrArg (Value.int .i64) (S.co3 hc0 (by omega) (fun i hi => hall i (by omega))).symm
    refine zO Z (zF hc9) (zr (oA hH5 Z (zt (ret (z6 (fin (hH5.sub (sC sR)) (fun w' hf => (yN Z (rt Z))) (fun w' hf => ?_)))))))
    first | exact congrArg (Value.int .i64) (S.co1 (by assumption)).symm | exact congrArg (Value.int .i64) (S.co2 hc0 (by omega)).symm | exact congrArg (Value.int .i64) (S.co4 hc0 (by omega) hbad).symm | exact congrArg (Value.int .i64) (S.co3 hc0 (by omega) (fun i hi => hall i (by omega))).symm
   refine zD Z Z (zF hc8) Z (zD Z Z (zF hc8) Z (zD Z Z (zF hc8) Z (zD Z Z (zF hc8) Z (zD Z Z (zF hc8) Z (zD Z Z (zF hc8) Z (oY hH5 (zU Z (zF hc8) Z) (zt (zO Z Z (zr (oA hH5 Z (zt (ret (z6 (fin (hH5.sub (sC sR)) (fun w' hf => (yN Z (rt Z))) (fun w' hf => ?_)))))))))))))))
   first | exact congrArg (Value.int .i64) (S.co1 (by assumption)).symm | exact congrArg (Value.int .i64) (S.co2 hc0 (by omega)).symm | exact congrArg (Value.int .i64) (S.co4 hc0 (by omega) hbad).symm | exact congrArg (Value.int .i64) (S.co3 hc0 (by omega) (fun i hi => hall i (by omega))).symm
  refine zD Z Z (zF hc7) Z (zD Z Z (zF hc7) Z (zD Z Z (zF hc7) Z (zD Z Z (zF hc7) Z (zD Z Z (zF hc7) Z (zD Z Z (zF hc7) Z (oY hH5 (zU Z (zF hc7) Z) (oM hH5 Z (zD Z Z Z Z (zD Z Z Z Z (zD Z Z Z Z (zD Z Z Z Z (zD Z Z Z Z (zD Z Z Z Z (oY hH5 (zU Z Z Z) (zt (zO Z Z (zr (oA hH5 Z (zC ?_)))))))))))))))))))
  refine zN (ret (z6 (fin (hH5.sub (sC sR)) (fun w' hf => (yN Z (rt Z))) (fun w' hf => ?_))))
  first | exact congrArg (Value.int .i64) (S.co1 (by assumption)).symm | exact congrArg (Value.int .i64) (S.co2 hc0 (by omega)).symm | exact congrArg (Value.int .i64) (S.co4 hc0 (by omega) hbad).symm | exact congrArg (Value.int .i64) (S.co3 hc0 (by omega) (fun i hi => hall i (by omega))).symm
 refine zO Z (zF hc6) (zr (oM hH5 Z (zM Z Z Z hH5 (c12 (h0.now hH5 (n := 1) Z) om) (fun w29 hH30 => (oA hH30 Z (zt (ret (z6 (fin (hH30.sub (sC sR)) (fun w' hf => (yN Z (rt Z))) (fun w' hf => ?_))))))))))
 first | exact congrArg (Value.int .i64) (S.co1 (by assumption)).symm | exact congrArg (Value.int .i64) (S.co2 hc0 (by omega)).symm | exact congrArg (Value.int .i64) (S.co4 hc0 (by omega) hbad).symm | exact congrArg (Value.int .i64) (S.co3 hc0 (by omega) (fun i hi => hall i (by omega))).symm
theorem zE6 {vb vt vf : Value} {B U F : List Int} {x y : Int} {w : World} (hB : Rd encI 1 vb B w) (hT : Rd encI 1 vt U w) (hF : Rd encI 1 vf F w) (hBl : B.length ≤ 1000000) (hTl : U.length ≤ 1000000) (hFl : F.length ≤ 1000000) (hx : 0 ≤ x) (hx2 : x < 2 * (F.length : Int)) (hy : 0 ≤ y) (hy2 : y < 2 * (F.length : Int))  :
  Fn Tryz.prog 137 [(.agg #[vb, vt, vf]), (.int .i64 x), (.int .i64 y)].toArray w (fun u _ => u = .bool (decide (S.Waits B U F x y))) := by
 refine fz Tryz.func137 Z kz Z Z (fun hH => (zr (yY Z Z Z hH (fun b1 w2 hH3 => (oA hH3 Z (zt (seq (zr (oM hH3 Z (oY hH3 (xO Z Z om om) (oM hH3 Z (oY hH3 (xO Z Z om om) (oY hH3 (yF Z Z) (zt ?_))))))))))))))
 by_cases hc4 : (x % 2) = (y % 2)
 ·refine zL Z (zG hc4) (skip (zu (oY hH3 (zI T.q9 Z) (oY hH3 (zE T.xB Z (cw (n := 0) Z Z)) (oA hH3 Z (zt (seq (zr (oM hH3 Z (oY hH3 (xO Z Z om om) (oY hH3 (y5 Z Z) (zt ?_))))))))))))
  by_cases hc5 : (x % 2) = 1
  ·refine zO Z (dT hc5) (region (oY hH3 (zI T.kX Z) (oY hH3 (zE T.xB Z (cw (n := 0) Z Z)) (oA hH3 Z (zt (seq ?_))))))
   have hp1 := S.place_lt B (x / 2)
   have hp2 := S.place_lt U (x / 2)
   have hp3 := S.place_lt B (y / 2)
   have hp4 := S.place_lt U (y / 2)
   refine region (oM hH3 Z (oM hH3 Z (oY hH3 (xU Z Z om om om) (zM Z Z Z hH3 (J4 (hT.now hH3 (n := 1) Z) om) (fun w6 hH7 => (oM hH7 Z (oM hH7 Z (oY hH7 (xU Z Z om om om) (zM Z Z Z hH7 (J4 (hT.now hH7 (n := 1) Z) om) (fun w8 hH9 => (oY hH9 (zV Z Z om) (oY hH9 (y5 Z Z) (oA hH9 Z (zt (ret (fin (hH9.sub (sC sR)) (fun w' hf => (yN Z (rt Z))) (fun w' hf => ?_)))))))))))))))))
   show Value.bool _ = Value.bool _; congr 1; rw [Bool.eq_iff_iff, decide_eq_true_eq (p := S.Waits B U F x y)]; first | (rw [S.waits_ne (by omega)]; first | (simp; done) | (simp; omega)) | (rw [S.waits_t (by omega) (by omega)]; simp; done) | (rw [S.waits_b (by omega) (by omega)]; simp; done)
  refine zL Z (dF hc5) (skip (zN (seq ?_)))
  have hp1 := S.place_lt B (x / 2)
  have hp2 := S.place_lt U (x / 2)
  have hp3 := S.place_lt B (y / 2)
  have hp4 := S.place_lt U (y / 2)
  refine region (oM hH3 Z (oM hH3 Z (oY hH3 (xU Z Z om om om) (zM Z Z Z hH3 (J4 (hB.now hH3 (n := 1) Z) om) (fun w11 hH12 => (oM hH12 Z (oM hH12 Z (oY hH12 (xU Z Z om om om) (zM Z Z Z hH12 (J4 (hB.now hH12 (n := 1) Z) om) (fun w13 hH14 => (oY hH14 (zV Z Z om) (oY hH14 (y5 Z Z) (oA hH14 Z (zt (ret (fin (hH14.sub (sC sR)) (fun w' hf => (yN Z (rt Z))) (fun w' hf => ?_)))))))))))))))))
  show Value.bool _ = Value.bool _; congr 1; rw [Bool.eq_iff_iff, decide_eq_true_eq (p := S.Waits B U F x y)]; first | (rw [S.waits_ne (by omega)]; first | (simp; done) | (simp; omega)) | (rw [S.waits_t (by omega) (by omega)]; simp; done) | (rw [S.waits_b (by omega) (by omega)]; simp; done)
 refine zO Z (zF hc4) (zr (oM hH3 Z (oY hH3 (xU Z Z om om om) (oM hH3 Z (oY hH3 (xU Z Z om om om) (oY hH3 (y5 Z Z) (oM hH3 Z ?_)))))))
 by_cases hc16 : (x / 2) = (y / 2)
 ·refine zB Z Z (dT hc16) (oY hH3 (zI T.qI Z) (zB Z Z (dT hc16) (oY hH3 (zE T.xB Z (cw (n := 0) Z Z)) (zB Z Z (dT hc16) (oM hH3 Z (zB Z Z (dT hc16) (oY hH3 (xU Z Z om om om) (zB Z Z (dT hc16) (oY hH3 (zP T.yS Z Z (hF.now hH3 (n := 1) Z).is om) (zB Z Z (dT hc16) (oY hH3 (zE T.yU Z (fun _ hw => Rd.at (hF.now hw (n := 1) Z) (i := x / 2) om (j := 0) Z)) (zB Z Z (dT hc16) (oM hH3 Z (zB Z Z (dT hc16) (oY hH3 (xO Z Z om om) (zB Z Z (dT hc16) (oY hH3 (y5 Z Z) (oY hH3 (zU Z (dT hc16) Z) (oA hH3 Z (zt ?_))))))))))))))))))))
  refine ret (z6 (fin (hH3.sub (sC sR)) (fun w' hf => (yN Z (rt Z))) (fun w' hf => ?_)))
  show Value.bool _ = Value.bool _; congr 1; rw [Bool.eq_iff_iff, decide_eq_true_eq (p := S.Waits B U F x y)]; first | (rw [S.waits_ne (by omega)]; first | (simp; done) | (simp; omega)) | (rw [S.waits_t (by omega) (by omega)]; simp; done) | (rw [S.waits_b (by omega) (by omega)]; simp; done)
 refine zD Z Z (dF hc16) Z (zD Z Z (dF hc16) Z (zD Z Z (dF hc16) Z (zD Z Z (dF hc16) Z (zD Z Z (dF hc16) Z (zD Z Z (dF hc16) Z (zD Z Z (dF hc16) Z (zD Z Z (dF hc16) Z (zD Z Z (dF hc16) Z (oY hH3 (zT Z (dF hc16) Z) (oA hH3 Z (zt (ret (z6 (fin (hH3.sub (sC sR)) (fun w' hf => (yN Z (rt Z))) (fun w' hf => ?_)))))))))))))))
 show Value.bool _ = Value.bool _; congr 1; rw [Bool.eq_iff_iff, decide_eq_true_eq (p := S.Waits B U F x y)]; first | (rw [S.waits_ne (by omega)]; first | (simp; done) | (simp; omega)) | (rw [S.waits_t (by omega) (by omega)]; simp; done) | (rw [S.waits_b (by omega) (by omega)]; simp; done)
end Go.Fip
namespace Go.Fip
open Go.Proofs Go.RowKit
theorem c71 {v vc : Value} {js : List S.Pr} {c : List Int} {vb vt vf : Value} {B U F : List Int} {w : World} (h0 : Rd encP 2 v js w) (hB : Rd encI 1 vb B w) (hT : Rd encI 1 vt U w) (hF : Rd encI 1 vf F w) (hC : Rd encI 1 vc c w) (hn : js.length ≤ 1000000) (hBl : B.length ≤ 1000000) (hTl : U.length ≤ 1000000) (hFl : F.length ≤ 1000000) (hcl : c.length ≤ 1000000)  :
  Fn Tryz.prog 71 [v, (.agg #[vb, vt, vf]), vc].toArray w (fun u _ => u = .int .i64 (S.checkCircle js B U F c)) := by
 refine fz Tryz.func71 Z kz Z Z (fun hH => (zr (yY Z Z Z hH (fun b1 w2 hH3 => (oA hH3 Z (zt (seq (zr (oM hH3 Z (oY hH3 (zW (cs := [vb, vt, vf]) T.uF Z Z (fun _ hw => Heap.yH hw (n := 0) Z (k := 0) Z)) (zM Z Z Z hH3 (zC1 (h0.now hH3 (n := 1) Z) (hB.now hH3 (n := 1) Z) (hT.now hH3 (n := 1) Z) (hF.now hH3 (n := 1) Z) om om om om) (fun w4 hH5 => (oY hH5 (yF Z Z) (zt ?_))))))))))))))
 by_cases hc6 : (S.checkOrder js B U F) = 0
 ·have hco : S.checkOrder js B U F = 0 := by omega
  obtain ⟨hj, hO⟩ := S.checkOrder_iff.1 hco
  have hO8 := hO
  obtain ⟨hlB, hlU, hlF, hOk⟩ := hO8
  have hl1 := hj.1
  have hl8 := hj.2.1
  refine zL Z (zG hc6) (skip (zN (seq (zr (oM hH5 Z (oY hH5 (z8 T.yS Z (hC.now hH5 (n := 1) Z).is) (oY hH5 (yL Z Z) (oM hH5 Z ?_))))))))
  by_cases hc7 : (c.length : Int) < 2
  ·refine zD Z Z (dT hc7) Z (zD Z Z (dT hc7) Z (zD Z Z (dT hc7) Z (zD Z Z (dT hc7) Z (zD Z Z (dT hc7) Z (zD Z Z (dT hc7) Z (oY hH5 (zU Z (dT hc7) Z) (zt (zO Z Z (zr (oA hH5 Z (zt (ret (z6 (fin (hH5.sub (sC sR)) (fun w' hf => (yN Z (rt Z))) (fun w' hf => ?_)))))))))))))))
   first | exact congrArg (Value.int .i64) (S.cc1 (by assumption)).symm | exact congrArg (Value.int .i64) (S.cc2 hco (by omega)).symm | exact congrArg (Value.int .i64) (S.cc3 hco (by omega) hbad).symm | exact congrArg (Value.int .i64) (S.cc4 hco (by omega) hin hbad).symm | exact congrArg (Value.int .i64) (S.cc5 hco (by omega) hin (fun i hi => hcirc i (by omega))).symm
  refine zB Z Z (dF hc7) (oM hH5 Z (zB Z Z (dF hc7) (oY hH5 (z8 T.yS Z (hC.now hH5 (n := 1) Z).is) (zB Z Z (dF hc7) (oM hH5 Z (zB Z Z (dF hc7) (oY hH5 (z8 T.xX Z (h0.now hH5 (n := 1) Z).is) (zB Z Z (dF hc7) (oY hH5 (xA Z Z om) (zB Z Z (dF hc7) (oY hH5 (xJ Z Z) (oY hH5 (zT Z (dF hc7) Z) (zt ?_)))))))))))))
  by_cases hc9 : (2 * (js.length : Int)) < (c.length : Int)
  ·refine zO Z (dT hc9) (zr (oA hH5 Z (zt (ret (z6 (fin (hH5.sub (sC sR)) (fun w' hf => (yN Z (rt Z))) (fun w' hf => ?_)))))))
   first | exact congrArg (Value.int .i64) (S.cc1 (by assumption)).symm | exact congrArg (Value.int .i64) (S.cc2 hco (by omega)).symm | exact congrArg (Value.int .i64) (S.cc3 hco (by omega) hbad).symm | exact congrArg (Value.int .i64) (S.cc4 hco (by omega) hin hbad).symm | exact congrArg (Value.int .i64) (S.cc5 hco (by omega) hin (fun i hi => hcirc i (by omega))).symm
  refine zL Z (dF hc9) (skip (zN (seq (zr (oA hH5 Z (zt (block (loop (S := Nat) (fun k => [(7, (.int .i64 (k : Int))), (0, v), (2, vc), (4, (.pointer (some ⟨b1, 0, none⟩)))]) (fun k w1 => Heap [bx b1 48 [vb, vt, vf], base w] w1 ∧ k ≤ c.length ∧ ∀ i, i < k → 0 ≤ nth c (i : Int) ∧ nth c (i : Int) < 2 * (js.length : Int)) (fun k => c.length - k) (0) (uC Z (uC Z (uC Z (uC Z (Sub.nil _))))) ?_ ?_))))))))
  ·exact ⟨hH5, om, S.all_zero⟩
  rintro k w11 ⟨hH12, hk, hall⟩
  refine seq (zr (oM hH12 Z (oM hH12 Z (oY hH12 (z8 T.yS Z (hC.now hH12 (n := 1) Z).is) (oY hH12 (yL Z Z) (zt ?_))))))
  by_cases hc13 : (k : Int) < (c.length : Int)
  ·refine zO Z (dT hc13) (skip (zN (seq (block (zr (oM hH12 Z (oM hH12 Z (oY hH12 (zP T.yS Z Z (hC.now hH12 (n := 1) Z).is om) (oY hH12 (zE T.yU Z (fun _ hw => Rd.at (hC.now hw (n := 1) Z) (i := (k : Int)) om (j := 0) Z)) (oY hH12 (yL Z Z) (oM hH12 Z ?_)))))))))))
   by_cases hc14 : (nth c (k : Int)) < 0
   ·have hbad : ¬ S.InC js.length c := fun h => absurd (h k (by omega)) (by omega)
    refine zD Z Z (dT hc14) Z (zD Z Z (dT hc14) Z (zD Z Z (dT hc14) Z (zD Z Z (dT hc14) Z (zD Z Z (dT hc14) Z (zD Z Z (dT hc14) Z (zD Z Z (dT hc14) Z (zD Z Z (dT hc14) Z (oY hH12 (zU Z (dT hc14) Z) (zt (zO Z Z (zr (oA hH12 Z (zt (ret (yE (z6 (xY (yE ?_))))))))))))))))))
    refine z6 (fin (hH12.sub (sC sR)) (fun w' hf => (yN Z (rt Z))) (fun w' hf => ?_))
    first | exact congrArg (Value.int .i64) (S.cc1 (by assumption)).symm | exact congrArg (Value.int .i64) (S.cc2 hco (by omega)).symm | exact congrArg (Value.int .i64) (S.cc3 hco (by omega) hbad).symm | exact congrArg (Value.int .i64) (S.cc4 hco (by omega) hin hbad).symm | exact congrArg (Value.int .i64) (S.cc5 hco (by omega) hin (fun i hi => hcirc i (by omega))).symm
   refine zB Z Z (dF hc14) (oM hH12 Z (zB Z Z (dF hc14) (oM hH12 Z (zB Z Z (dF hc14) (oY hH12 (zP T.yS Z Z (hC.now hH12 (n := 1) Z).is om) (zB Z Z (dF hc14) (oY hH12 (zE T.yU Z (fun _ hw => Rd.at (hC.now hw (n := 1) Z) (i := (k : Int)) om (j := 0) Z)) (zB Z Z (dF hc14) (oM hH12 Z (zB Z Z (dF hc14) (oY hH12 (z8 T.xX Z (h0.now hH12 (n := 1) Z).is) (zB Z Z (dF hc14) (oY hH12 (xA Z Z om) (zB Z Z (dF hc14) (oY hH12 (vH Z Z) (oY hH12 (zT Z (dF hc14) Z) (zt ?_)))))))))))))))))
   by_cases hc16 : (2 * (js.length : Int)) ≤ (nth c (k : Int))
   ·have hbad : ¬ S.InC js.length c := fun h => absurd (h k (by omega)) (by omega)
    refine zO Z (dT hc16) (zr (oA hH12 Z (zt (ret (yE (z6 (xY (yE (z6 (fin (hH12.sub (sC sR)) (fun w' hf => (yN Z (rt Z))) (fun w' hf => ?_)))))))))))
    first | exact congrArg (Value.int .i64) (S.cc1 (by assumption)).symm | exact congrArg (Value.int .i64) (S.cc2 hco (by omega)).symm | exact congrArg (Value.int .i64) (S.cc3 hco (by omega) hbad).symm | exact congrArg (Value.int .i64) (S.cc4 hco (by omega) hin hbad).symm | exact congrArg (Value.int .i64) (S.cc5 hco (by omega) hin (fun i hi => hcirc i (by omega))).symm
   refine zL Z (dF hc16) (skip (yC (zN (region (oM hH12 Z (oY hH12 (zV Z Z om) (oA hH12 Z (zC (y0 (k + 1) (uC Z (uC Z (uC Z (uC Z (Sub.nil _))))) (⟨hH12, om, S.all_snoc hall om⟩) om3)))))))))
  have hin : S.InC js.length c := fun i hi => hall i (by omega)
  refine zL Z (dF hc13) (exit (yZ (xF (z7 (zu (oM hH12 Z (oM hH12 Z (oY hH12 (z8 T.yS Z (hC.now hH12 (n := 1) Z).is) (oY hH12 (y8 Z Z om) (oY hH12 (zP T.yS Z Z (hC.now hH12 (n := 1) Z).is om) (oY hH12 (zE T.yU Z (fun _ hw => Rd.at (hC.now hw (n := 1) Z) (i := (c.length : Int) - 1) om (j := 0) Z)) (oA hH12 Z (zt (seq (zr (oA hH12 Z (zC ?_)))))))))))))))))
  refine zN (block (loop (S := Nat) (fun k => [(9, (.int .i64 (k : Int))), (8, (.int .i64 (S.prev c k))), (2, vc), (4, (.pointer (some ⟨b1, 0, none⟩)))]) (fun k w1 => Heap [bx b1 48 [vb, vt, vf], base w] w1 ∧ k ≤ c.length ∧ ∀ i, i < k → S.Waits B U F (nth c (i : Int)) (S.prev c i)) (fun k => c.length - k) (0) (uC Z (uC Z (uC Z (uC Z (Sub.nil _))))) ?_ ?_))
  ·exact ⟨hH12, om, S.all_zero⟩
  rintro k w18 ⟨hH19, hk, hcirc⟩
  refine seq (zr (oM hH19 Z (oM hH19 Z (oY hH19 (z8 T.yS Z (hC.now hH19 (n := 1) Z).is) (oY hH19 (yL Z Z) (zt ?_))))))
  by_cases hc20 : (k : Int) < (c.length : Int)
  ·refine zO Z (dT hc20) (skip (zN (seq (block (seq (seq ?_))))))
   have hpi := S.prev_in hin (by omega) (i := k) (by omega)
   have hci := hin k (by omega)
   refine zY (fun w' => Heap [bx b1 48 [vb, vt, vf], base w] w') T.mixed (fun w21 hr22 => ?_)
   have hH23 := hH19.redrawn hr22
   refine zK [0, 1, 2, 3, 4, 5] kz hH23 _ _ _ kz (zJ Z Z (zW (cs := [vb, vt, vf]) T.uF Z Z (fun _ hw => Heap.yH hw (n := 0) Z (k := 0) Z)) (qM Z Z Z (qM Z Z Z (zJ Z Z (zP T.yS Z Z (hC.now hH23 (n := 1) Z).is om) (zJ Z Z (zE T.yU Z (fun _ hw => Rd.at (hC.now hw (n := 1) Z) (i := (k : Int)) om (j := 0) Z)) (qM Z Z Z (zQ (z1 6 kz Z (zM Z Z Z hH23 (zE6 (hB.now hH23 (n := 1) Z) (hT.now hH23 (n := 1) Z) (hF.now hH23 (n := 1) Z) om om om om om om om) (fun w24 hH25 => (zC (⟨hH25, (zK [7] kz hH25 _ _ _ kz (zJ Z Z (y6 Z) (zQ (zX kz (zN ?_)))))⟩))))))))))))
   by_cases hc26 : S.Waits B U F (nth c (k : Int)) (S.prev c k)
   ·refine zL Z (zG hc26) (skip (zN (region (oM hH25 Z (oM hH25 Z (oY hH25 (zP T.yS Z Z (hC.now hH25 (n := 1) Z).is om) (oY hH25 (zE T.yU Z (fun _ hw => Rd.at (hC.now hw (n := 1) Z) (i := (k : Int)) om (j := 0) Z)) (oA hH25 Z (zC (yC (zN (region (oM hH25 Z (oY hH25 (zV Z Z om) (oA hH25 Z (zC (y0 (k + 1) (uC Z (Sub.cons (by rw [S.prev_succ]; rfl) (uC Z (uC Z (Sub.nil _))))) (⟨hH25, om, S.all_snoc hcirc ‹_›⟩) om3)))))))))))))))))
   have hbad : ¬ S.Circ B U F c := fun h => absurd (h k (by omega)) ‹_›
   refine zO Z (zF hc26) (zr (oA hH25 Z (zt (ret (z6 (yE (z6 (xY (yE (z6 (fin (hH25.sub (sC sR)) (fun w' hf => (yN Z (rt Z))) (fun w' hf => ?_))))))))))))
   first | exact congrArg (Value.int .i64) (S.cc1 (by assumption)).symm | exact congrArg (Value.int .i64) (S.cc2 hco (by omega)).symm | exact congrArg (Value.int .i64) (S.cc3 hco (by omega) hbad).symm | exact congrArg (Value.int .i64) (S.cc4 hco (by omega) hin hbad).symm | exact congrArg (Value.int .i64) (S.cc5 hco (by omega) hin (fun i hi => hcirc i (by omega))).symm
  refine zL Z (dF hc20) (exit (yZ (xF (z7 (zu (oA hH19 Z (zt (ret (fin (hH19.sub (sC sR)) (fun w' hf => (yN Z (rt Z))) (fun w' hf => ?_))))))))))
  first | exact congrArg (Value.int .i64) (S.cc1 (by assumption)).symm | exact congrArg (Value.int .i64) (S.cc2 hco (by omega)).symm | exact congrArg (Value.int .i64) (S.cc3 hco (by omega) hbad).symm | exact congrArg (Value.int .i64) (S.cc4 hco (by omega) hin hbad).symm | exact congrArg (Value.int .i64) (S.cc5 hco (by omega) hin (fun i hi => hcirc i (by omega))).symm
 refine zO Z (zF hc6) (zr (oM hH5 Z (oY hH5 (zW (cs := [vb, vt, vf]) T.uF Z Z (fun _ hw => Heap.yH hw (n := 0) Z (k := 0) Z)) (zM Z Z Z hH5 (zC1 (h0.now hH5 (n := 1) Z) (hB.now hH5 (n := 1) Z) (hT.now hH5 (n := 1) Z) (hF.now hH5 (n := 1) Z) om om om om) (fun w29 hH30 => (oA hH30 Z (zt (ret (z6 (fin (hH30.sub (sC sR)) (fun w' hf => (yN Z (rt Z))) (fun w' hf => ?_)))))))))))
 first | exact congrArg (Value.int .i64) (S.cc1 (by assumption)).symm | exact congrArg (Value.int .i64) (S.cc2 hco (by omega)).symm | exact congrArg (Value.int .i64) (S.cc3 hco (by omega) hbad).symm | exact congrArg (Value.int .i64) (S.cc4 hco (by omega) hin hbad).symm | exact congrArg (Value.int .i64) (S.cc5 hco (by omega) hin (fun i hi => hcirc i (by omega))).symm
end Go.Fip
namespace Go.Fip
open Go.Proofs Go.RowKit
abbrev kvW (n : Int) : Value := .agg #[.int .i64 n]
abbrev vvI (n : Int) : Value := .int .i64 n
def Day (d : Nat) (vb vt vf : Value) (m : Nat) (E : List (Int × Int)) (w : World) : Prop := Bx d 86 [vb, vt, vf, .map (some m)] w ∧ Mp kvW vvI m E w
theorem Day.now {d m : Nat} {vb vt vf : Value} {E : List (Int × Int)} {w w' : World} (h : Day d vb vt vf m E w) {H : List Item} {n : Nat} (hH : Heap H w') (hn : H[n]? = some (base w)) : Day d vb vt vf m E w' := ⟨h.1.now hH hn, h.2.now hH hn⟩
abbrev Cap (b5 b3 b2 d : Nat) (rv : Value) (x : Int) (w : World) : Prop := Bx b5 46 [rv] w ∧ Bx b3 3 [.int .i64 x] w ∧ Bx b2 81 [.pointer (some ⟨d, 0, none⟩)] w
abbrev DW (b5 b3 b2 d m : Nat) (rv vb vt vf : Value) (x : Int) (L F : List Int) (w : World) : Prop := Cap b5 b3 b2 d rv x w ∧ Bx d 86 [vb, vt, vf, .map (some m)] w ∧ Rd encI 1 rv L w ∧ Rd encI 1 vf F w
theorem zA5 {b5 b3 b2 d m : Nat} {rv vb vt vf : Value} {x : Int} {L F : List Int} (hx : 0 ≤ x) (hx2 : x < 2 * (F.length : Int)) (hl : L.length ≤ 1000000) (hf : F.length ≤ 500000) (hL : ∀ i, 0 ≤ i → i < (L.length : Int) → 0 ≤ nth L i ∧ nth L i ≤ 1000000) :
  Iter Tryz.prog 163 [(.pointer (some ⟨b5, 0, none⟩)), (.pointer (some ⟨b3, 0, none⟩)), (.pointer (some ⟨b2, 0, none⟩))] (DW b5 b3 b2 d m rv vb vt vf x L F) (((S.preL L F x).map (Value.int .i64))) := by
 refine WS (N := 42) Tryz.func163 Z (ent Tryz.func163 kz Z) Z Z Z (fun yl J Jx hJ hJx hD hY w hH => ?_)
 have hpl := S.place_lt L (x / 2)
 refine zr (oY hH (zE T.xB Z (fun _ hw => yM ((hD _ _ (hw.get (n := 0) Z)).1.1) Z)) (oY hH (zE T.yU Z (fun _ hw => yM ((hD _ _ (hw.get (n := 0) Z)).1.2.1) Z)) (oY hH (xU Z Z om om om) (zM Z Z Z hH (c93 ((hD _ _ (hH.get (n := 0) Z)).2.2.1) om) (fun w1 hH2 => (oA hH2 Z (zt (seq (seq (zY (fun w' => True) T.mixed (fun w3 hr4 => ?_)))))))))))
 have hH5 := hH2.redrawn hr4
 refine zK [0, 1, 2] kz trivial _ _ _ kz (qM Z Z Z (zJ Z Z (xJ Z Z) (qM Z Z Z (zQ ?_))))
 by_cases hc6 : 0 < (S.place L (x / 2))
 ·have hk1 : 0 < S.place L (x / 2) := ‹_›
  have hLk := hL (S.place L (x / 2) - 1) (by omega) (by omega)
  refine zK [3, 5, 6] kz trivial _ _ _ kz (zZ Z Z Z (dT hc6) Z (yX Z) (zZ Z Z Z (dT hc6) Z (yX Z) (zZ Z Z Z (dT hc6) Z (y8 Z Z om) (zQ (xH [4, 10] kz Z (⟨⟨_, Z, ?_⟩, ⟨_, Z, ?_⟩, trivial⟩))))))
  ·refine zB Z Z (dT hc6) (oY hH5 (zE T.xB Z (fun _ hw => yM ((hD _ _ (hw.get (n := 0) Z)).1.1) Z)) (zC (⟨trivial, (zK [7] kz trivial _ _ _ kz (zZ Z Z Z (dT hc6) Z (zP T.yS Z Z ((hD _ _ (hH5.get (n := 0) Z)).2.2.1).is om) (zQ (xH [8, 10] kz Z (⟨⟨_, Z, ?_⟩, ⟨_, Z, ?_⟩, trivial⟩)))))⟩)))
   ·refine zB Z Z (dT hc6) (oY hH5 (zE T.yU Z (fun _ hw => Rd.at ((hD _ _ (hw.get (n := 0) Z)).2.2.1) (i := (S.place L (x / 2)) - 1) om (j := 0) Z)) (zC (⟨trivial, (zK [9] kz trivial _ _ _ kz (zZ Z Z Z (dT hc6) Z (xA Z Z om) (zQ (z1 10 kz Z (zB Z Z (dT hc6) (oY hH5 (zE T.yU Z (fun _ hw => yM ((hD _ _ (hw.get (n := 0) Z)).1.2.1) Z)) (zC (⟨trivial, (zK [11, 12] kz trivial _ _ _ kz (zZ Z Z Z (dT hc6) Z (xO Z Z om om) (zZ Z Z Z (dT hc6) Z (zV Z Z om) (zQ (z1 13 kz Z (zB Z Z (dT hc6) (uM Z Z Z (hY 0 _ (by unfold S.preL; rw [if_pos hk1]; rfl) _ (hH5.get (n := 0) Z)) (fun w7 hA8 => ?_) (fun w7 hA8 => ?_))))))))⟩))))))))⟩)))
    ·have hH9 := xL (J := J (0 + 1)) (hJ (0 + 1)) hA8
     refine zC (⟨trivial, (zK [14, 15] kz trivial _ _ _ kz (zZ Z Z Z (dT hc6) Z (y6 Z) (zJ Z Z (zU Z (dT hc6) Z) (zQ (zX kz (zN (zL Z Z (skip (zN (seq (zY (fun w' => Heap [jItem w7 (J (0 + 1))] w') T.mixed (fun w10 hr11 => ?_))))))))))))⟩)
     have hH12 := hH9.redrawn hr11
     refine zK [0, 1, 2, 3, 4, 5, 6, 7, 8, 9, 10, 11] kz hH12 _ _ _ kz (zJ Z Z (zE T.kN Z (fun _ hw => yM ((hD _ _ (hw.get (n := 0) Z)).1.2.2) Z)) (zJ Z Z (yQ Z) (zJ Z Z (zI T.V9 Z) (zJ Z Z (zI T.qI Z) (zJ Z Z (zE T.xB Z (fun _ hw => yM ((hD _ _ (hw.get (n := 0) Z)).2.1) Z)) (zJ Z Z (zE T.yU Z (fun _ hw => yM ((hD _ _ (hw.get (n := 0) Z)).1.2.1) Z)) (zJ Z Z (xU Z Z om om om) (zJ Z Z (zP T.yS Z Z ((hD _ _ (hH12.get (n := 0) Z)).2.2.2).is om) (zJ Z Z (zE T.yU Z (fun _ hw => Rd.at ((hD _ _ (hw.get (n := 0) Z)).2.2.2) (i := x / 2) om (j := 0) Z)) (zJ Z Z (zE T.yU Z (fun _ hw => yM ((hD _ _ (hw.get (n := 0) Z)).1.2.1) Z)) (zJ Z Z (xO Z Z om om) (zJ Z Z (yF Z Z) (zQ (zX kz (zN ?_)))))))))))))))
     by_cases hc13 : (nth F (x / 2)) = (x % 2)
     ·have hn2 : ¬ ¬ nth F (x / 2) = x % 2 := fun h => h ‹_›
      refine zL Z (zG hc13) (skip ?_)
      have hpre : ((S.preL L F x).map (Value.int .i64)).length = 1 := by unfold S.preL; rw [if_pos hk1, if_neg hn2]; rfl
      exact ⟨Z, .inl (by rw [hpre]; exact hH12.get (n := 0) rfl)⟩
     have hk2 : ¬ nth F (x / 2) = x % 2 := ‹_›
     refine zO Z (zF hc13) (region (oM hH12 Z (oY hH12 (zE T.yU Z (fun _ hw => yM ((hD _ _ (hw.get (n := 0) Z)).1.2.1) Z)) (oY hH12 (XC Z Z om om) (uM Z Z Z (hY 1 _ (by unfold S.preL; rw [if_pos hk1, if_pos hk2]; rfl) _ (hH12.get (n := 0) Z)) (fun w14 hA15 => ?_) (fun w14 hA15 => ?_))))))
     ·have hH16 := xL (J := J (1 + 1)) (hJ (1 + 1)) hA15
      refine zC ?_
      have hpre : ((S.preL L F x).map (Value.int .i64)).length = 2 := by unfold S.preL; rw [if_pos hk1, if_pos hk2]; rfl
      exact ⟨Z, .inl (by rw [hpre]; exact hH16.get (n := 0) rfl)⟩
     have hH16 := xL (J := Jx) hJx hA15
     refine zC ?_
     exact ⟨Z, .inr (hH16.get (n := 0) Z)⟩
    have hH9 := xL (J := Jx) hJx hA8
    refine zC (⟨trivial, (zK [14, 15] kz trivial _ _ _ kz (zZ Z Z Z (dT hc6) Z (y6 Z) (zJ Z Z (zU Z (dT hc6) Z) (zQ (zX kz (zN (zO Z Z (ret (z6 ?_)))))))))⟩)
    exact ⟨Z, .inr (hH9.get (n := 0) Z)⟩
   refine zB Z Z (dT hc6) (oY hH5 (zE T.yU Z (fun _ hw => yM ((hD _ _ (hw.get (n := 0) Z)).1.2.1) Z)) (zC (⟨trivial, (zK [11] kz trivial _ _ _ kz (zZ Z Z Z (dT hc6) Z (xO Z Z om om) (zQ (z1 8 kz Z (zB Z Z (dT hc6) (oY hH5 (zE T.yU Z (fun _ hw => Rd.at ((hD _ _ (hw.get (n := 0) Z)).2.2.1) (i := (S.place L (x / 2)) - 1) om (j := 0) Z)) (zC (⟨trivial, (zK [9, 12] kz trivial _ _ _ kz (zZ Z Z Z (dT hc6) Z (xA Z Z om) (zZ Z Z Z (dT hc6) Z (zV Z Z om) (zQ (z1 13 kz Z (zB Z Z (dT hc6) (uM Z Z Z (hY 0 _ (by unfold S.preL; rw [if_pos hk1]; rfl) _ (hH5.get (n := 0) Z)) (fun w17 hA18 => ?_) (fun w17 hA18 => ?_))))))))⟩))))))))⟩)))
   ·have hH19 := xL (J := J (0 + 1)) (hJ (0 + 1)) hA18
    refine zC (⟨trivial, (zK [14, 15] kz trivial _ _ _ kz (zZ Z Z Z (dT hc6) Z (y6 Z) (zJ Z Z (zU Z (dT hc6) Z) (zQ (zX kz (zN (zL Z Z (skip (zN (seq (zY (fun w' => Heap [jItem w17 (J (0 + 1))] w') T.mixed (fun w20 hr21 => ?_))))))))))))⟩)
    have hH22 := hH19.redrawn hr21
    refine zK [0, 1, 2, 3, 4, 5, 6, 7, 8, 9, 10, 11] kz hH22 _ _ _ kz (zJ Z Z (zE T.kN Z (fun _ hw => yM ((hD _ _ (hw.get (n := 0) Z)).1.2.2) Z)) (zJ Z Z (yQ Z) (zJ Z Z (zI T.V9 Z) (zJ Z Z (zI T.qI Z) (zJ Z Z (zE T.xB Z (fun _ hw => yM ((hD _ _ (hw.get (n := 0) Z)).2.1) Z)) (zJ Z Z (zE T.yU Z (fun _ hw => yM ((hD _ _ (hw.get (n := 0) Z)).1.2.1) Z)) (zJ Z Z (xU Z Z om om om) (zJ Z Z (zP T.yS Z Z ((hD _ _ (hH22.get (n := 0) Z)).2.2.2).is om) (zJ Z Z (zE T.yU Z (fun _ hw => Rd.at ((hD _ _ (hw.get (n := 0) Z)).2.2.2) (i := x / 2) om (j := 0) Z)) (zJ Z Z (zE T.yU Z (fun _ hw => yM ((hD _ _ (hw.get (n := 0) Z)).1.2.1) Z)) (zJ Z Z (xO Z Z om om) (zJ Z Z (yF Z Z) (zQ (zX kz (zN ?_)))))))))))))))
    by_cases hc23 : (nth F (x / 2)) = (x % 2)
    ·have hn2 : ¬ ¬ nth F (x / 2) = x % 2 := fun h => h ‹_›
     refine zL Z (zG hc23) (skip ?_)
     have hpre : ((S.preL L F x).map (Value.int .i64)).length = 1 := by unfold S.preL; rw [if_pos hk1, if_neg hn2]; rfl
     exact ⟨Z, .inl (by rw [hpre]; exact hH22.get (n := 0) rfl)⟩
    have hk2 : ¬ nth F (x / 2) = x % 2 := ‹_›
    refine zO Z (zF hc23) (region (oM hH22 Z (oY hH22 (zE T.yU Z (fun _ hw => yM ((hD _ _ (hw.get (n := 0) Z)).1.2.1) Z)) (oY hH22 (XC Z Z om om) (uM Z Z Z (hY 1 _ (by unfold S.preL; rw [if_pos hk1, if_pos hk2]; rfl) _ (hH22.get (n := 0) Z)) (fun w24 hA25 => ?_) (fun w24 hA25 => ?_))))))
    ·have hH26 := xL (J := J (1 + 1)) (hJ (1 + 1)) hA25
     refine zC ?_
     have hpre : ((S.preL L F x).map (Value.int .i64)).length = 2 := by unfold S.preL; rw [if_pos hk1, if_pos hk2]; rfl
     exact ⟨Z, .inl (by rw [hpre]; exact hH26.get (n := 0) rfl)⟩
    have hH26 := xL (J := Jx) hJx hA25
    refine zC ?_
    exact ⟨Z, .inr (hH26.get (n := 0) Z)⟩
   have hH19 := xL (J := Jx) hJx hA18
   refine zC (⟨trivial, (zK [14, 15] kz trivial _ _ _ kz (zZ Z Z Z (dT hc6) Z (y6 Z) (zJ Z Z (zU Z (dT hc6) Z) (zQ (zX kz (zN (zO Z Z (ret (z6 ?_)))))))))⟩)
   exact ⟨Z, .inr (hH19.get (n := 0) Z)⟩
  refine zB Z Z (dT hc6) (oY hH5 (zE T.yU Z (fun _ hw => yM ((hD _ _ (hw.get (n := 0) Z)).1.2.1) Z)) (zC (⟨trivial, (zK [11] kz trivial _ _ _ kz (zZ Z Z Z (dT hc6) Z (xO Z Z om om) (zQ (z1 4 kz Z (zB Z Z (dT hc6) (oY hH5 (zE T.xB Z (fun _ hw => yM ((hD _ _ (hw.get (n := 0) Z)).1.1) Z)) (zC (⟨trivial, (zK [7] kz trivial _ _ _ kz (zZ Z Z Z (dT hc6) Z (zP T.yS Z Z ((hD _ _ (hH5.get (n := 0) Z)).2.2.1).is om) (zQ (z1 8 kz Z (zB Z Z (dT hc6) (oY hH5 (zE T.yU Z (fun _ hw => Rd.at ((hD _ _ (hw.get (n := 0) Z)).2.2.1) (i := (S.place L (x / 2)) - 1) om (j := 0) Z)) (zC (⟨trivial, ?_⟩))))))))⟩))))))))⟩)))
  refine zK [9, 12] kz trivial _ _ _ kz (zZ Z Z Z (dT hc6) Z (xA Z Z om) (zZ Z Z Z (dT hc6) Z (zV Z Z om) (zQ (z1 13 kz Z (zB Z Z (dT hc6) (uM Z Z Z (hY 0 _ (by unfold S.preL; rw [if_pos hk1]; rfl) _ (hH5.get (n := 0) Z)) (fun w27 hA28 => ?_) (fun w27 hA28 => ?_)))))))
  ·have hH29 := xL (J := J (0 + 1)) (hJ (0 + 1)) hA28
   refine zC (⟨trivial, (zK [14, 15] kz trivial _ _ _ kz (zZ Z Z Z (dT hc6) Z (y6 Z) (zJ Z Z (zU Z (dT hc6) Z) (zQ (zX kz (zN (zL Z Z (skip (zN (seq (zY (fun w' => Heap [jItem w27 (J (0 + 1))] w') T.mixed (fun w30 hr31 => ?_))))))))))))⟩)
   have hH32 := hH29.redrawn hr31
   refine zK [0, 1, 2, 3, 4, 5, 6, 7, 8, 9, 10, 11] kz hH32 _ _ _ kz (zJ Z Z (zE T.kN Z (fun _ hw => yM ((hD _ _ (hw.get (n := 0) Z)).1.2.2) Z)) (zJ Z Z (yQ Z) (zJ Z Z (zI T.V9 Z) (zJ Z Z (zI T.qI Z) (zJ Z Z (zE T.xB Z (fun _ hw => yM ((hD _ _ (hw.get (n := 0) Z)).2.1) Z)) (zJ Z Z (zE T.yU Z (fun _ hw => yM ((hD _ _ (hw.get (n := 0) Z)).1.2.1) Z)) (zJ Z Z (xU Z Z om om om) (zJ Z Z (zP T.yS Z Z ((hD _ _ (hH32.get (n := 0) Z)).2.2.2).is om) (zJ Z Z (zE T.yU Z (fun _ hw => Rd.at ((hD _ _ (hw.get (n := 0) Z)).2.2.2) (i := x / 2) om (j := 0) Z)) (zJ Z Z (zE T.yU Z (fun _ hw => yM ((hD _ _ (hw.get (n := 0) Z)).1.2.1) Z)) (zJ Z Z (xO Z Z om om) (zJ Z Z (yF Z Z) (zQ (zX kz (zN ?_)))))))))))))))
   by_cases hc33 : (nth F (x / 2)) = (x % 2)
   ·have hn2 : ¬ ¬ nth F (x / 2) = x % 2 := fun h => h ‹_›
    refine zL Z (zG hc33) (skip ?_)
    have hpre : ((S.preL L F x).map (Value.int .i64)).length = 1 := by unfold S.preL; rw [if_pos hk1, if_neg hn2]; rfl
    exact ⟨Z, .inl (by rw [hpre]; exact hH32.get (n := 0) rfl)⟩
   have hk2 : ¬ nth F (x / 2) = x % 2 := ‹_›
   refine zO Z (zF hc33) (region (oM hH32 Z (oY hH32 (zE T.yU Z (fun _ hw => yM ((hD _ _ (hw.get (n := 0) Z)).1.2.1) Z)) (oY hH32 (XC Z Z om om) (uM Z Z Z (hY 1 _ (by unfold S.preL; rw [if_pos hk1, if_pos hk2]; rfl) _ (hH32.get (n := 0) Z)) (fun w34 hA35 => ?_) (fun w34 hA35 => ?_))))))
   ·have hH36 := xL (J := J (1 + 1)) (hJ (1 + 1)) hA35
    refine zC ?_
    have hpre : ((S.preL L F x).map (Value.int .i64)).length = 2 := by unfold S.preL; rw [if_pos hk1, if_pos hk2]; rfl
    exact ⟨Z, .inl (by rw [hpre]; exact hH36.get (n := 0) rfl)⟩
   have hH36 := xL (J := Jx) hJx hA35
   refine zC ?_
   exact ⟨Z, .inr (hH36.get (n := 0) Z)⟩
  have hH29 := xL (J := Jx) hJx hA28
  refine zC (⟨trivial, (zK [14, 15] kz trivial _ _ _ kz (zZ Z Z Z (dT hc6) Z (y6 Z) (zJ Z Z (zU Z (dT hc6) Z) (zQ (zX kz (zN (zO Z Z (ret (z6 ?_)))))))))⟩)
  exact ⟨Z, .inr (hH29.get (n := 0) Z)⟩
 have hn1 : ¬ 0 < S.place L (x / 2) := ‹_›
 refine zK [3, 4, 5, 6, 7, 8, 9, 10, 11, 12, 13, 14, 15] kz trivial _ _ _ kz (yO Z Z Z (dF hc6) Z (yO Z Z Z (dF hc6) Z (yO Z Z Z (dF hc6) Z (yO Z Z Z (dF hc6) Z (yO Z Z Z (dF hc6) Z (yO Z Z Z (dF hc6) Z (yO Z Z Z (dF hc6) Z (yO Z Z Z (dF hc6) Z (yO Z Z Z (dF hc6) Z (yO Z Z Z (dF hc6) Z (yO Z Z Z (dF hc6) Z (yO Z Z Z (dF hc6) Z (zJ Z Z (zT Z (dF hc6) Z) (zQ (zX kz (zN (zL Z Z (skip (zN (seq (zY (fun w' => Heap [jItem w (J 0)] w') T.mixed (fun w37 hr38 => ?_))))))))))))))))))))))
 have hH39 := hH5.redrawn hr38
 refine zK [0, 1, 2, 3, 4, 5, 6, 7, 8, 9, 10, 11] kz hH39 _ _ _ kz (zJ Z Z (zE T.kN Z (fun _ hw => yM ((hD _ _ (hw.get (n := 0) Z)).1.2.2) Z)) (zJ Z Z (yQ Z) (zJ Z Z (zI T.V9 Z) (zJ Z Z (zI T.qI Z) (zJ Z Z (zE T.xB Z (fun _ hw => yM ((hD _ _ (hw.get (n := 0) Z)).2.1) Z)) (zJ Z Z (zE T.yU Z (fun _ hw => yM ((hD _ _ (hw.get (n := 0) Z)).1.2.1) Z)) (zJ Z Z (xU Z Z om om om) (zJ Z Z (zP T.yS Z Z ((hD _ _ (hH39.get (n := 0) Z)).2.2.2).is om) (zJ Z Z (zE T.yU Z (fun _ hw => Rd.at ((hD _ _ (hw.get (n := 0) Z)).2.2.2) (i := x / 2) om (j := 0) Z)) (zJ Z Z (zE T.yU Z (fun _ hw => yM ((hD _ _ (hw.get (n := 0) Z)).1.2.1) Z)) (zJ Z Z (xO Z Z om om) (zJ Z Z (yF Z Z) (zQ (zX kz (zN ?_)))))))))))))))
 by_cases hc40 : (nth F (x / 2)) = (x % 2)
 ·have hn2 : ¬ ¬ nth F (x / 2) = x % 2 := fun h => h ‹_›
  refine zL Z (zG hc40) (skip ?_)
  have hpre : ((S.preL L F x).map (Value.int .i64)).length = 0 := by unfold S.preL; rw [if_neg hn1, if_neg hn2]; rfl
  exact ⟨Z, .inl (by rw [hpre]; exact hH39.get (n := 0) rfl)⟩
 have hk2 : ¬ nth F (x / 2) = x % 2 := ‹_›
 refine zO Z (zF hc40) (region (oM hH39 Z (oY hH39 (zE T.yU Z (fun _ hw => yM ((hD _ _ (hw.get (n := 0) Z)).1.2.1) Z)) (oY hH39 (XC Z Z om om) (uM Z Z Z (hY 0 _ (by unfold S.preL; rw [if_neg hn1, if_pos hk2]; rfl) _ (hH39.get (n := 0) Z)) (fun w41 hA42 => ?_) (fun w41 hA42 => ?_))))))
 ·have hH43 := xL (J := J (0 + 1)) (hJ (0 + 1)) hA42
  refine zC ?_
  have hpre : ((S.preL L F x).map (Value.int .i64)).length = 1 := by unfold S.preL; rw [if_neg hn1, if_pos hk2]; rfl
  exact ⟨Z, .inl (by rw [hpre]; exact hH43.get (n := 0) rfl)⟩
 have hH43 := xL (J := Jx) hJx hA42
 refine zC ?_
 exact ⟨Z, .inr (hH43.get (n := 0) Z)⟩
theorem Heap.cap {b5 b3 b2 d lo hi n : Nat} {rv : Value} {x : Int} {H : List Item} {w : World} (hH : Heap H w)
  (hn : H[n]? = some ⟨lo, hi, fun w => ∃ c5 c3 c2 : Nat, (Value.func (.func 163) #[] #[.pointer (some ⟨b5, 0, none⟩), .pointer (some ⟨b3, 0, none⟩), .pointer (some ⟨b2, 0, none⟩)] : Value) = .func (.func 163) #[] #[.pointer (some ⟨c5, 0, none⟩), .pointer (some ⟨c3, 0, none⟩), .pointer (some ⟨c2, 0, none⟩)] ∧ Cap c5 c3 c2 d rv x w⟩) :
  Heap (H.set n ⟨lo, hi, Cap b5 b3 b2 d rv x⟩) w := hH.weaken hn (φ := Cap b5 b3 b2 d rv x) (fun w' h => by
 obtain ⟨c5, c3, c2, e, h⟩ := h
 cases e
 exact h)
theorem K2 {vb vt : Value} {B U : List Int} {x : Int} {w : World} (hB : Rd encI 1 vb B w) (hT : Rd encI 1 vt U w) : Rd encI 1 (if x % 2 = 1 then vt else vb) (S.row B U (x % 2)) w := by
 unfold S.row; split <;> assumption
theorem zCf {d m : Nat} {vb vt vf : Value} {B U : List Int} {E : List (Int × Int)} {x : Int} {w : World} (hd : Day d vb vt vf m E w) (hB : Rd encI 1 vb B w) (hT : Rd encI 1 vt U w) (hx : 0 ≤ x) (hx1 : x ≤ 1000000)  :
  Fn Tryz.prog 131 [(.pointer (some ⟨d, 0, none⟩)), (.int .i64 x)].toArray w (fun u w => ∃ c5 c3 c2 : Nat, u = .func (.func 163) #[] #[.pointer (some ⟨c5, 0, none⟩), .pointer (some ⟨c3, 0, none⟩), .pointer (some ⟨c2, 0, none⟩)] ∧ Cap c5 c3 c2 d (if x % 2 = 1 then vt else vb) x w) := by
 refine fz Tryz.func131 Z kz Z Z (fun hH => (zr (yY Z Z Z hH (fun b1 w2 hH3 => (yY Z Z Z hH3 (fun b4 w5 hH6 => (oA hH6 Z (zs (oY hH6 (zE T.kN Z (cw (n := 1) Z Z)) (oY hH6 (yQ Z) (oY hH6 (zI T.V9 Z) (oY hH6 (zI T.q9 Z) (oY hH6 (zE T.xB Z (fun _ hw => yM ((hd.now hw (n := 2) Z).1) Z)) (yD (z := (.slice none 0 0)) (fun _ => by kernel_rfl) Z Z hH6 (fun b7 w8 hH9 => (zS (n := 0) (j := 0) Z Z hH9 Z T.ZK (SliceIs.cells (hB.now hH9 (n := 3) Z).is) Z Z (SliceIs.one (hB.now hH9 (n := 3) Z).is) (fun w10 hH11 => (zt (seq (zr ?_))))))))))))))))))))
 refine oY hH11 (zE T.yU Z (cw (n := 1) Z Z)) (oY hH11 (xO Z Z om om) (oY hH11 (y5 Z Z) (zt ?_)))
 by_cases hc12 : (x % 2) = 1
 ·refine zO Z (dT hc12) (region (oY hH11 (zE T.kN Z (cw (n := 2) Z Z)) (oY hH11 (yQ Z) (oY hH11 (zI T.V9 Z) (oY hH11 (zI T.kX Z) (oY hH11 (zE T.xB Z (fun _ hw => yM ((hd.now hw (n := 3) Z).1) Z)) (zS (n := 0) (j := 0) Z Z hH11 Z T.ZK (SliceIs.cells (hT.now hH11 (n := 3) Z).is) Z Z (SliceIs.one (hT.now hH11 (n := 3) Z).is) (fun w13 hH14 => (zs (oY hH14 (vF Z Z) (oA hH14 Z (zt (ret (fin (hH14.front (n := 3) Z) (fun w' hf => (yN Z (rt Z))) (fun w' hf => (⟨_, _, _, Z, ?_⟩))))))))))))))))
  first | rw [if_pos (by omega)] | rw [if_neg (by omega)]
  exact ⟨Heap.xV hf (n := 0) Z, Heap.xV hf (n := 1) Z, Heap.xV hf (n := 2) Z⟩
 refine zL Z (dF hc12) (skip (zu (oY hH11 (vF Z Z) (oA hH11 Z (zt (ret (fin (hH11.front (n := 3) Z) (fun w' hf => (yN Z (rt Z))) (fun w' hf => (⟨_, _, _, Z, ?_⟩)))))))))
 first | rw [if_pos (by omega)] | rw [if_neg (by omega)]
 exact ⟨Heap.xV hf (n := 0) Z, Heap.xV hf (n := 1) Z, Heap.xV hf (n := 2) Z⟩
theorem zDz {d m n : Nat} {vb vt vf : Value} {B U F : List Int} {E : List (Int × Int)} {x : Int} {w : World} (hd : Day d vb vt vf m E w) (hB : Rd encI 1 vb B w) (hT : Rd encI 1 vt U w) (hF : Rd encI 1 vf F w) (hO : S.Ord n B U F) (hn8 : n ≤ 8) (hx : 0 ≤ x) (hx2 : x < 2 * (n : Int)) (hE : ∀ k e, find k E = some e → 0 ≤ e ∧ e ≤ 1000000)  :
  Fn Tryz.prog 149 [(.pointer (some ⟨d, 0, none⟩)), (.int .i64 x)].toArray w (fun u _ => u = .tuple #[.int .i64 (S.ready E B U F x).1, .bool (S.ready E B U F x).2]) := by
 refine fz Tryz.func149 Z kz Z Z (fun hH => ?_)
 have hO8 := hO
 obtain ⟨hlB, hlU, hlF, hOk⟩ := hO8
 obtain ⟨hr1, hr2, hr3, hr4⟩ := hO.row (x % 2)
 refine zr (yY Z Z Z hH (fun b1 w2 hH3 => (yD (z := (.int .i64 0)) (fun _ => by kernel_rfl) Z Z hH3 (fun b4 w5 hH6 => (yD (z := (.bool false)) (fun _ => by kernel_rfl) Z Z hH6 (fun b7 w8 hH9 => (zs (yD (z := (.int .i64 0)) (fun _ => by kernel_rfl) Z Z hH9 (fun b10 w11 hH12 => (zS (n := 0) (j := 0) Z Z hH12 Z T.sz2 Z Z Z (by rfl) (fun w13 hH14 => (zt (seq (zr (oY hH14 (zE T.kN Z (cw (n := 3) Z Z)) (oM hH14 Z (yV Z Z Z hH14 (zCf (hd.now hH14 (n := 4) Z) (hB.now hH14 (n := 4) Z) (hT.now hH14 (n := 4) Z) om om) (fun u20 w18 lo21 hi22 hH19 hv23 => ?_))))))))))))))))))
 obtain ⟨c15, c16, c17, hu, -⟩ := hv23
 subst hu
 have hH24 := Heap.cap hH19 (n := 0) Z
 refine zt (block (rangeFunc (xs := ((S.pre B U F x).map (Value.int .i64))) Z (zA5 (d := d) (m := m) (vb := vb) (vt := vt) (vf := vf) (rv := (if x % 2 = 1 then vt else vb)) (L := S.row B U (x % 2)) (F := F) (x := x) om om om om (fun i h0 h1 => by have := (hO.row (x % 2)).2.1 i h0 om; omega)) Z hH24 (fun i H => ∃ a : Int, H = [⟨lo21, hi22, Cap c15 c16 c17 d (if x % 2 = 1 then vt else vb) x⟩, bx b10 2 [(.int .i64 a)], bx b7 4 [(.bool false)], bx b4 2 [(.int .i64 0)], bx b1 81 [(.pointer (some ⟨d, 0, none⟩))], base w] ∧ (0 ≤ a ∧ a ≤ 1000000) ∧ S.readyL E ((S.pre B U F x).drop i) a = S.ready E B U F x) (fun c H => ∃ a : Int, c = .ret ∧ H = [⟨lo21, hi22, Cap c15 c16 c17 d (if x % 2 = 1 then vt else vb) x⟩, bx b10 2 [(.int .i64 a)], bx b7 4 [(.bool false)], bx b4 2 [(.int .i64 0)], bx b1 81 [(.pointer (some ⟨d, 0, none⟩))], base w] ∧ S.ready E B U F x = (0, false)) ⟨0, Z, ⟨om, om⟩, Z⟩ (fun i H w hI hw => ?_) (fun l25 D26 i27 x28 H w30 rc hx29 hI hH31 => ?_) (fun D26 H w30 hI hH31 => ?_) (fun D26 c H w30 hI hH31 => ?_)))
 ·obtain ⟨_, rfl, _⟩ := hI
  exact ⟨hw.get (n := 0) Z, (hd.now hw (n := 5) Z).1, K2 (hB.now hw (n := 5) Z) (hT.now hw (n := 5) Z), hF.now hw (n := 5) Z⟩
 ·obtain ⟨a, rfl, ⟨⟨ha0, ha1⟩, hinv⟩⟩ := hI
  obtain ⟨hlt, hxe⟩ := j6 hx29
  subst hxe
  refine region (oA hH31 Z (zC (⟨_, hH31, fun w34 hH35 => (block (zr (oY hH35 (zE T.kN Z (cw (n := 6) Z Z)) (oY hH35 (yQ Z) (oY hH35 (zI T.VZ Z) (oY hH35 (zE T.XW Z (fun _ hw => yM ((hd.now hw (n := 7) Z).1) Z)) (oM hH35 Z (oY hH35 (yR (v := (.agg #[(.int .i64 (nth (S.pre B U F x) (i27 : Int)))])) Z (fun w => by kernel_rfl)) (oY hH35 (YK (k := nth (S.pre B U F x) (i27 : Int)) T.m84 Z Z (fun _ hw => ((hd.now hw (n := 7) Z).2))) (oM hH35 Z (oY hH35 (zH Z Z) (oY hH35 (zH Z Z) (oA hH35 Z (oA hH35 Z (zt (seq ?_))))))))))))))))⟩)))
  refine zr (oM hH35 Z (oY hH35 (y6 Z) (zt ?_)))
  by_cases hc36 : (!((find (nth (S.pre B U F x) (i27 : Int)) E).isSome)) = true
  ·refine zO Z hc36 (zr (zS (n := 5) (j := 0) Z Z hH35 Z T.sz2 Z Z Z (by rfl) (fun w37 hH38 => (zS (n := 4) (j := 0) Z Z hH38 Z T.sz4 Z Z Z (by rfl) (fun w39 hH40 => (zt (ret (z6 (yE ?_)))))))))
   exact ⟨_, ⟨_, ⟨a, Z, Z, by rw [← hinv]; exact S.readyL_none hlt ‹_›⟩, Z⟩, hH40⟩
  have hfg := S.find_getD (k := nth (S.pre B U F x) (i27 : Int)) hE
  refine zL Z (Bool.eq_false_iff.2 hc36) (skip (zN (region (oY hH35 (zE T.yT Z (cw (n := 3) Z Z)) (oM hH35 Z (oY hH35 (YG Z Z) (zS (n := 3) (j := 0) Z Z hH35 Z T.sz2 Z Z Z (by rfl) (fun w41 hH42 => (zC (yC ?_))))))))))
  exact ⟨_, ⟨_, ⟨max a ((find (nth (S.pre B U F x) (i27 : Int)) E).getD 0), Z, ⟨om, om⟩, by rw [← S.readyL_some hlt ‹_›]; exact hinv⟩, Z⟩, hH42⟩
 ·obtain ⟨a, rfl, ⟨⟨ha0, ha1⟩, hinv⟩⟩ := hI
  have hH43 := hH31.perm (List.perm_append_comm (l₁ := [_]))
  refine yC (zu (oY hH43 (zE T.yT Z (cw (n := 1) Z Z)) (zS (n := 3) (j := 0) Z Z hH43 Z T.sz2 Z Z Z (by rfl) (fun w44 hH45 => (zS (n := 2) (j := 0) Z Z hH45 Z T.sz4 Z Z Z (by rfl) (fun w46 hH47 => (zt (ret (kY (H := [bx b7 4 [(.bool true)], bx b4 2 [(.int .i64 a)]]) [D26] ((hH47.sub (sC (sC (sK (sK (sC sR)))))).front (n := 2) Z) (fun w' hf => (xI Z (rv1 Z T.yT (yM (Heap.xV hf (n := 2) Z) Z)) (rv1 Z T.zDo (yM (Heap.xV hf (n := 1) Z) Z)))) (fun w' hf => ?_))))))))))
  first | (rw [hinv]; done) | (rw [← hinv, List.length_map, List.drop_length]; rfl)
 obtain ⟨a, rfl, rfl, hinv⟩ := hI
 have hH49 := hH31.perm (List.perm_append_comm (l₁ := [_]))
 refine ret (yE (z6 (kY (H := [bx b7 4 [(.bool false)], bx b4 2 [(.int .i64 0)]]) [D26] ((hH49.sub (sC (sC (sK (sK (sC sR)))))).front (n := 2) Z) (fun w' hf => (xI Z (rv1 Z T.yT (yM (Heap.xV hf (n := 2) Z) Z)) (rv1 Z T.zDo (yM (Heap.xV hf (n := 1) Z) Z)))) (fun w' hf => ?_))))
 first | (rw [hinv]; done) | (rw [← hinv, List.length_map, List.drop_length]; rfl)
end Go.Fip
namespace Go.Fip
open Go.Proofs Go.RowKit
theorem zFb {v : Value} {js : List S.Pr} {vb vt vf : Value} {B U F : List Int} {w : World} (h0 : Rd encP 2 v js w) (hB : Rd encI 1 vb B w) (hT : Rd encI 1 vt U w) (hF : Rd encI 1 vf F w) (hj : S.Jobs js) (hO : S.Ord js.length B U F)  :
  Fn Tryz.prog 101 [v, (.agg #[vb, vt, vf])].toArray w (fun u w => ∃ d m E, u = .pointer (some ⟨d, 0, none⟩) ∧ Day d vb vt vf m E w ∧ S.DayOK js B U F E) := by
 refine fz Tryz.func101 Z kz Z Z (fun hH => ?_)
 have hO8 := hO
 obtain ⟨hlB, hlU, hlF, hOk⟩ := hO8
 have hl1 := hj.1
 have hl8 := hj.2.1
 refine zr (yY Z Z Z hH (fun b1 w2 hH3 => (oA hH3 Z (zs (oY hH3 (zW (cs := [vb, vt, vf]) T.uF Z Z (fun _ hw => Heap.yH hw (n := 0) Z (k := 0) Z)) (uA kvW vvI Z hH3 (fun b4 w5 hH6 => (oY hH6 (yR (v := (.agg #[vb, vt, vf, (.map (some b4))])) Z (fun w => by kernel_rfl)) (yY Z Z Z hH6 (fun b7 w8 hH9 => (oA hH9 Z (zs (uA kvW vvI Z hH9 (fun b10 w11 hH12 => (oA hH12 Z (zt (seq ?_)))))))))))))))))
 refine zr (oM hH12 Z (oY hH12 (z8 T.xX Z (h0.now hH12 (n := 4) Z).is) (oY hH12 (xA Z Z om) (oM hH12 Z (zt (block (loop (S := Nat) (fun k => [(21, (.int .i64 (k : Int))), (0, v), (4, (.pointer none)), (5, (.pointer (some ⟨b7, 0, none⟩))), (6, (.map (some b10))), (14, (.map (some b4))), (17, (.map (some b10))), (20, (.int .i64 (2 * (js.length : Int))))]) (fun k w1 => Heap [mp kvW vvI b10 (S.leftTo k), bx b7 86 [vb, vt, vf, (.map (some b4))], mp kvW vvI b4 ([] : List (Int × Int)), bx b1 48 [vb, vt, vf], base w] w1 ∧ k ≤ 2 * js.length) (fun k => 2 * js.length - k) (0) (uC Z (uC Z (uC Z (uC Z (uC Z (uC Z (uC Z (uC Z (Sub.nil _))))))))) ?_ ?_)))))))
 ·exact ⟨hH12, om⟩
 rintro k w13 ⟨hH14, hk⟩
 refine zr (oY hH14 (yL Z Z) (zt (seq ?_)))
 by_cases hc15 : (k : Int) < (2 * (js.length : Int))
 ·refine zO Z (dT hc15) (skip (zN (seq (block (zr (oM hH14 Z (oA hH14 Z (zq (oM hH14 Z (oM hH14 Z (oY hH14 (yR (v := (.agg #[(.int .i64 (k : Int))])) Z (fun w => by kernel_rfl)) (uO (n := 0) (k := (k : Int)) (v := 1) T.zCe Z Z Z hH14 Z (fun w16 hH17 => (zC (yC (zN (region (oY hH17 (zV Z Z om) (oM hH17 Z ?_)))))))))))))))))))
  refine zC (y0 (k + 1) (uC Z (uC Z (uC Z (uC Z (uC Z (uC Z (uC Z (uC Z (Sub.nil _))))))))) (⟨hH17, om⟩) om3)
 have hk2 : k = 2 * js.length := by omega
 refine zL Z (dF hc15) (exit (yZ (xF (z7 (zu (oY hH14 (yR (v := (.agg #[(.int .i64 0), (.int .i64 0)])) Z (fun w => by kernel_rfl)) (yD (z := (.agg #[(.int .i64 0), (.int .i64 0)])) (fun _ => by kernel_rfl) Z Z hH14 (fun b18 w19 hH20 => (zS (n := 0) (j := 0) Z Z hH20 Z T.zAz Z Z Z (by rfl) (fun w21 hH22 => (zt (block (loop (S := S.Mm × S.Mm × Int × Int) (fun (E, L, a, b) => [(0, v), (5, (.pointer (some ⟨b7, 0, none⟩))), (6, (.map (some b10))), (8, (.pointer (some ⟨b18, 0, none⟩))), (14, (.map (some b4))), (17, (.map (some b10)))]) (fun (E, L, a, b) w1 => Heap [bx b18 129 [(.int .i64 a), (.int .i64 b)], mp kvW vvI b10 L, bx b7 86 [vb, vt, vf, (.map (some b4))], mp kvW vvI b4 E, bx b1 48 [vb, vt, vf], base w] w1 ∧ S.DI js B U F E L a b) (fun (E, L, a, b) => L.length) ([], (S.leftTo (2 * js.length)), 0, 0) (uC Z (uC Z (uC Z (uC Z (uC Z (uC Z (Sub.nil _))))))) ?_ ?_)))))))))))))
 ·exact ⟨(Heap.ZG (n := 1) hH22 Z (by rw [hk2])), S.DI.start⟩
 rintro ⟨E, L, a, b⟩ w23 ⟨hH24, hD⟩
 refine block (zr (oY hH24 (zW (cs := [(.int .i64 a), (.int .i64 b)]) T.XX Z Z (fun _ hw => Heap.yH hw (n := 0) Z (k := 0) Z)) (yD (z := (.agg #[(.int .i64 0), (.int .i64 0)])) (fun _ => by kernel_rfl) Z Z hH24 (fun b25 w26 hH27 => (zS (n := 0) (j := 0) Z Z hH27 Z T.zAz Z Z Z (by rfl) (fun w28 hH29 => (zt (seq (zr (oM hH29 Z (oY hH29 (z8 T.xX Z (h0.now hH29 (n := 6) Z).is) (oY hH29 (xA Z Z om) (oM hH29 Z (zt (block (loop (S := Nat × S.Mm × S.Mm × Int × Int) (fun (k, E3, L3, a3, b3) => [(33, (.int .i64 (k : Int))), (0, v), (5, (.pointer (some ⟨b7, 0, none⟩))), (6, (.map (some b10))), (8, (.pointer (some ⟨b18, 0, none⟩))), (9, (.pointer (some ⟨b25, 0, none⟩))), (14, (.map (some b4))), (17, (.map (some b10))), (32, (.int .i64 (2 * (js.length : Int))))]) (fun (k, E3, L3, a3, b3) w1 => Heap [bx b25 129 [(.int .i64 a), (.int .i64 b)], bx b18 129 [(.int .i64 a3), (.int .i64 b3)], mp kvW vvI b10 L3, bx b7 86 [vb, vt, vf, (.map (some b4))], mp kvW vvI b4 E3, bx b1 48 [vb, vt, vf], base w] w1 ∧ k ≤ 2 * js.length ∧ S.DI js B U F E3 L3 a3 b3 ∧ S.Rnd js B U F E L a b k E3 L3 a3 b3) (fun (k, E3, L3, a3, b3) => 2 * js.length - k) (0, E, L, a, b) (uC Z (uC Z (uC Z (uC Z (uC Z (uC Z (uC Z (uC Z (uC Z (Sub.nil _)))))))))) ?_ ?_))))))))))))))))
 ·exact ⟨hH29, om, hD, .inl ⟨Z, Z, Z, Z, S.all_zero⟩⟩
 rintro ⟨k, E3, L3, a3, b3⟩ w30 ⟨hH31, hk, hD, hU⟩
 refine zr (oY hH31 (yL Z Z) (zt (seq ?_)))
 by_cases hc32 : (k : Int) < (2 * (js.length : Int))
 ·refine zO Z (dT hc32) (skip (zN (seq (block (zr (oM hH31 Z (oA hH31 Z (zt (seq ?_)))))))))
  have hEb := S.ready_bd (B := B) (T := U) (F := F) (x := (k : Int)) (c := 8000) (by omega) (fun q e he => by have := hD.bd q e he; have := hD.len; omega)
  have hmk := hj.at2 (w := (k : Int)) (by omega) (by omega)
  have htk := hD.tot
  have hlk := hD.len
  refine region (oM hH31 Z (oM hH31 Z (zM Z Z Z hH31 (zDz ⟨Heap.xV hH31 (n := 3) Z, (Heap.kJ hH31 (n := 4) Z)⟩ (hB.now hH31 (n := 6) Z) (hT.now hH31 (n := 6) Z) (hF.now hH31 (n := 6) Z) hO om om om (fun k e he => hD.hE hj k e he)) (fun w33 hH34 => (oM hH34 Z (oY hH34 (zH Z Z) (oY hH34 (zH Z Z) (oA hH34 Z (oA hH34 Z (zt (seq (zr (oM hH34 Z (oM hH34 Z (oY hH34 (yR (v := (.agg #[(.int .i64 (k : Int))])) Z (fun w => by kernel_rfl)) (oY hH34 (kT (k := (k : Int)) T.zCe Z Z (fun _ hw => (Heap.kJ hw (n := 2) Z))) (oY hH34 (y5 Z Z) (oM hH34 Z ?_))))))))))))))))))
  by_cases hc35 : ((find (k : Int) L3).getD 0) = 0
  ·have hdone : (find (k : Int) L3).getD 0 = 0 := ‹_›
   refine zD Z Z (dT hc35) Z (zD Z Z (dT hc35) Z (oY hH34 (zU Z (dT hc35) Z) (zt (zO Z Z (exit (yZ (z7 (zN (region (oY hH34 (zV Z Z om) (oM hH34 Z (zC (y0 (k + 1, E3, L3, a3, b3) (uC Z (uC Z (uC Z (uC Z (uC Z (uC Z (uC Z (uC Z (uC Z (Sub.nil _)))))))))) (⟨hH34, om, hD, S.keep_on hU (Or.inl ‹_›)⟩) om3)))))))))))))
  have hnd : ¬ (find (k : Int) L3).getD 0 = 0 := ‹_›
  refine zB Z Z (dF hc35) (oM hH34 Z (zB Z Z (dF hc35) (oY hH34 (y6 Z) (oY hH34 (zT Z (dF hc35) Z) (zt ?_)))))
  by_cases hc36 : (!((S.ready E3 B U F (k : Int)).2)) = true
  ·have hnr : (S.ready E3 B U F (k : Int)).2 = false := by simpa using hc36
   refine zO Z hc36 (exit (yZ (z7 (zN (region (oY hH34 (zV Z Z om) (oM hH34 Z (zC (y0 (k + 1, E3, L3, a3, b3) (uC Z (uC Z (uC Z (uC Z (uC Z (uC Z (uC Z (uC Z (uC Z (Sub.nil _)))))))))) (⟨hH34, om, hD, S.keep_on hU (Or.inr ‹_›)⟩) om3)))))))))
  have hrd : (S.ready E3 B U F (k : Int)).2 = true := by simpa using (Bool.eq_false_iff.2 hc36)
  refine zL Z (Bool.eq_false_iff.2 hc36) (skip (zu (oM hH34 Z (oM hH34 Z (oY hH34 (yR (v := (.agg #[(.int .i64 (k : Int))])) Z (fun w => by kernel_rfl)) (V7 (n := 2) (k := (k : Int)) T.zCe Z Z hH34 Z (fun w37 hH38 => (zt (seq (zY (fun w' => True) T.mixed (fun w39 hr40 => ?_)))))))))))
  have hH41 := hH38.redrawn hr40
  refine zK [0, 1, 2, 4, 5, 6, 7, 8] kz trivial _ _ _ kz (qM Z Z Z (zJ Z Z (yQ Z) (zJ Z Z (zI T.VZ Z) (qM Z Z Z (zJ Z Z (yR (v := (.agg #[(.int .i64 (k : Int))])) Z (fun w => by kernel_rfl)) (qM Z Z Z (qM Z Z Z (qM Z Z Z (zQ (xH [3, 9] kz Z (⟨⟨_, Z, ?_⟩, ⟨_, Z, ?_⟩, trivial⟩)))))))))))
  ·refine oY hH41 (zE T.XW Z (cw (n := 3) Z Z)) (zC (⟨trivial, (z1 9 kz Z (zM Z Z Z hH41 (c32 (h0.now hH41 (n := 6) Z) om om om) (fun w42 hH43 => (zC (⟨trivial, (zK [10] kz trivial _ _ _ kz (zJ Z Z (zV Z Z om) (zQ (z1 11 kz Z (uO (n := 4) (k := (k : Int)) (v := ((S.ready E3 B U F (k : Int)).1) + (S.at2 js (k : Int))) T.m84 Z Z Z hH43 Z (fun w44 hH45 => (zC (⟨trivial, (zX kz (zN ?_))⟩))))))))⟩)))))⟩))
   by_cases hc46 : (k : Int) % 2 = 0
   ·have hpar : (k : Int) % 2 = 0 := ‹_›
    have hplay := hD.play hj (w := k) (by omega) hnd hrd (.inl ⟨rfl, rfl⟩)
    refine zY (fun w' => True) T.mixed (fun w47 hr48 => ?_)
    have hH49 := hH45.redrawn hr48
    refine zK [0, 1, 2, 4, 5] kz trivial _ _ _ kz (qM Z Z Z (zJ Z Z (vN (show (k : Int) % 2 = 0 from hpar) (xO Z Z om om)) (zJ Z Z (yA T.uH Z Z om) (qM Z Z Z (qM Z Z Z (zQ (xH [3, 6] kz Z (⟨⟨_, Z, ?_⟩, ⟨_, Z, ?_⟩, trivial⟩))))))))
    ·refine oY hH49 (zE T.yT Z (cw (n := 1) Z Z)) (zC (⟨trivial, (z1 6 kz Z (zM Z Z Z hH49 (c32 (h0.now hH49 (n := 6) Z) om om om) (fun w50 hH51 => (zC (⟨trivial, (zK [7, 8] kz trivial _ _ _ kz (zJ Z Z (zV Z Z om) (zJ Z Z (yA T.uH Z Z om) (zQ (z1 9 kz Z (zS (n := 1) (j := 0) Z Z hH51 Z T.sz2 Z Z Z (by rfl) (fun w52 hH53 => (zC (⟨trivial, (zX kz (yC (zN (region (oY hH53 (zV Z Z om) ?_)))))⟩)))))))))⟩)))))⟩))
     refine oM hH53 Z (zC (y0 (k + 1, (upd (k : Int) (((S.ready E3 B U F (k : Int)).1) + (S.at2 js (k : Int))) E3), (del (k : Int) L3), a3 + (S.at2 js (k : Int)), b3) (uC Z (uC Z (uC Z (uC Z (uC Z (uC Z (uC Z (uC Z (uC Z (Sub.nil _)))))))))) (⟨hH53, om, hplay.1, .inr ⟨by have := hplay.2; have := hU.le; omega, by have := hU.le; omega⟩⟩) om3))
    refine zM Z Z Z hH49 (c32 (h0.now hH49 (n := 6) Z) om om om) (fun w54 hH55 => (zC (⟨trivial, (z1 3 kz Z (oY hH55 (zE T.yT Z (cw (n := 1) Z Z)) (zC (⟨trivial, (zK [7, 8] kz trivial _ _ _ kz (zJ Z Z (zV Z Z om) (zJ Z Z (yA T.uH Z Z om) (zQ (z1 9 kz Z (zS (n := 1) (j := 0) Z Z hH55 Z T.sz2 Z Z Z (by rfl) (fun w56 hH57 => (zC (⟨trivial, (zX kz (yC (zN (region (oY hH57 (zV Z Z om) ?_)))))⟩)))))))))⟩))))⟩)))
    refine oM hH57 Z (zC (y0 (k + 1, (upd (k : Int) (((S.ready E3 B U F (k : Int)).1) + (S.at2 js (k : Int))) E3), (del (k : Int) L3), a3 + (S.at2 js (k : Int)), b3) (uC Z (uC Z (uC Z (uC Z (uC Z (uC Z (uC Z (uC Z (uC Z (Sub.nil _)))))))))) (⟨hH57, om, hplay.1, .inr ⟨by have := hplay.2; have := hU.le; omega, by have := hU.le; omega⟩⟩) om3))
   have hodd : (k : Int) % 2 = 1 := by omega
   have hplay := hD.play hj (w := k) (by omega) hnd hrd (.inr ⟨rfl, rfl⟩)
   refine zY (fun w' => True) T.mixed (fun w58 hr59 => ?_)
   have hH60 := hH45.redrawn hr59
   refine zK [0, 1, 2, 4, 5] kz trivial _ _ _ kz (qM Z Z Z (zJ Z Z (vN (show (k : Int) % 2 = 1 from hodd) (xO Z Z om om)) (zJ Z Z (yA T.uH Z Z om) (qM Z Z Z (qM Z Z Z (zQ (xH [3, 6] kz Z (⟨⟨_, Z, ?_⟩, ⟨_, Z, ?_⟩, trivial⟩))))))))
   ·refine oY hH60 (zE T.yT Z (cw (n := 1) Z Z)) (zC (⟨trivial, (z1 6 kz Z (zM Z Z Z hH60 (c32 (h0.now hH60 (n := 6) Z) om om om) (fun w61 hH62 => (zC (⟨trivial, (zK [7, 8] kz trivial _ _ _ kz (zJ Z Z (zV Z Z om) (zJ Z Z (yA T.uH Z Z om) (zQ (z1 9 kz Z (zS (n := 1) (j := 1) Z Z hH62 Z T.sz2 Z Z Z (by rfl) (fun w63 hH64 => (zC (⟨trivial, (zX kz (yC (zN (region (oY hH64 (zV Z Z om) ?_)))))⟩)))))))))⟩)))))⟩))
    refine oM hH64 Z (zC (y0 (k + 1, (upd (k : Int) (((S.ready E3 B U F (k : Int)).1) + (S.at2 js (k : Int))) E3), (del (k : Int) L3), a3, b3 + (S.at2 js (k : Int))) (uC Z (uC Z (uC Z (uC Z (uC Z (uC Z (uC Z (uC Z (uC Z (Sub.nil _)))))))))) (⟨hH64, om, hplay.1, .inr ⟨by have := hplay.2; have := hU.le; omega, by have := hU.le; omega⟩⟩) om3))
   refine zM Z Z Z hH60 (c32 (h0.now hH60 (n := 6) Z) om om om) (fun w65 hH66 => (zC (⟨trivial, (z1 3 kz Z (oY hH66 (zE T.yT Z (cw (n := 1) Z Z)) (zC (⟨trivial, (zK [7, 8] kz trivial _ _ _ kz (zJ Z Z (zV Z Z om) (zJ Z Z (yA T.uH Z Z om) (zQ (z1 9 kz Z (zS (n := 1) (j := 1) Z Z hH66 Z T.sz2 Z Z Z (by rfl) (fun w67 hH68 => (zC (⟨trivial, (zX kz (yC (zN (region (oY hH68 (zV Z Z om) ?_)))))⟩)))))))))⟩))))⟩)))
   refine oM hH68 Z (zC (y0 (k + 1, (upd (k : Int) (((S.ready E3 B U F (k : Int)).1) + (S.at2 js (k : Int))) E3), (del (k : Int) L3), a3, b3 + (S.at2 js (k : Int))) (uC Z (uC Z (uC Z (uC Z (uC Z (uC Z (uC Z (uC Z (uC Z (Sub.nil _)))))))))) (⟨hH68, om, hplay.1, .inr ⟨by have := hplay.2; have := hU.le; omega, by have := hU.le; omega⟩⟩) om3))
  refine zM Z Z Z hH41 (c32 (h0.now hH41 (n := 6) Z) om om om) (fun w69 hH70 => (zC (⟨trivial, (zK [10] kz trivial _ _ _ kz (zJ Z Z (zV Z Z om) (zQ (z1 3 kz Z (oY hH70 (zE T.XW Z (cw (n := 3) Z Z)) (zC (⟨trivial, (z1 11 kz Z (uO (n := 4) (k := (k : Int)) (v := ((S.ready E3 B U F (k : Int)).1) + (S.at2 js (k : Int))) T.m84 Z Z Z hH70 Z (fun w71 hH72 => (zC (⟨trivial, (zX kz (zN ?_))⟩)))))⟩)))))))⟩)))
  by_cases hc73 : (k : Int) % 2 = 0
  ·have hpar : (k : Int) % 2 = 0 := ‹_›
   have hplay := hD.play hj (w := k) (by omega) hnd hrd (.inl ⟨rfl, rfl⟩)
   refine zY (fun w' => True) T.mixed (fun w74 hr75 => ?_)
   have hH76 := hH72.redrawn hr75
   refine zK [0, 1, 2, 4, 5] kz trivial _ _ _ kz (qM Z Z Z (zJ Z Z (vN (show (k : Int) % 2 = 0 from hpar) (xO Z Z om om)) (zJ Z Z (yA T.uH Z Z om) (qM Z Z Z (qM Z Z Z (zQ (xH [3, 6] kz Z (⟨⟨_, Z, ?_⟩, ⟨_, Z, ?_⟩, trivial⟩))))))))
   ·refine oY hH76 (zE T.yT Z (cw (n := 1) Z Z)) (zC (⟨trivial, (z1 6 kz Z (zM Z Z Z hH76 (c32 (h0.now hH76 (n := 6) Z) om om om) (fun w77 hH78 => (zC (⟨trivial, (zK [7, 8] kz trivial _ _ _ kz (zJ Z Z (zV Z Z om) (zJ Z Z (yA T.uH Z Z om) (zQ (z1 9 kz Z (zS (n := 1) (j := 0) Z Z hH78 Z T.sz2 Z Z Z (by rfl) (fun w79 hH80 => (zC (⟨trivial, (zX kz (yC (zN (region (oY hH80 (zV Z Z om) ?_)))))⟩)))))))))⟩)))))⟩))
    refine oM hH80 Z (zC (y0 (k + 1, (upd (k : Int) (((S.ready E3 B U F (k : Int)).1) + (S.at2 js (k : Int))) E3), (del (k : Int) L3), a3 + (S.at2 js (k : Int)), b3) (uC Z (uC Z (uC Z (uC Z (uC Z (uC Z (uC Z (uC Z (uC Z (Sub.nil _)))))))))) (⟨hH80, om, hplay.1, .inr ⟨by have := hplay.2; have := hU.le; omega, by have := hU.le; omega⟩⟩) om3))
   refine zM Z Z Z hH76 (c32 (h0.now hH76 (n := 6) Z) om om om) (fun w81 hH82 => (zC (⟨trivial, (z1 3 kz Z (oY hH82 (zE T.yT Z (cw (n := 1) Z Z)) (zC (⟨trivial, (zK [7, 8] kz trivial _ _ _ kz (zJ Z Z (zV Z Z om) (zJ Z Z (yA T.uH Z Z om) (zQ (z1 9 kz Z (zS (n := 1) (j := 0) Z Z hH82 Z T.sz2 Z Z Z (by rfl) (fun w83 hH84 => (zC (⟨trivial, (zX kz (yC (zN (region (oY hH84 (zV Z Z om) ?_)))))⟩)))))))))⟩))))⟩)))
   refine oM hH84 Z (zC (y0 (k + 1, (upd (k : Int) (((S.ready E3 B U F (k : Int)).1) + (S.at2 js (k : Int))) E3), (del (k : Int) L3), a3 + (S.at2 js (k : Int)), b3) (uC Z (uC Z (uC Z (uC Z (uC Z (uC Z (uC Z (uC Z (uC Z (Sub.nil _)))))))))) (⟨hH84, om, hplay.1, .inr ⟨by have := hplay.2; have := hU.le; omega, by have := hU.le; omega⟩⟩) om3))
  have hodd : (k : Int) % 2 = 1 := by omega
  have hplay := hD.play hj (w := k) (by omega) hnd hrd (.inr ⟨rfl, rfl⟩)
  refine zY (fun w' => True) T.mixed (fun w85 hr86 => ?_)
  have hH87 := hH72.redrawn hr86
  refine zK [0, 1, 2, 4, 5] kz trivial _ _ _ kz (qM Z Z Z (zJ Z Z (vN (show (k : Int) % 2 = 1 from hodd) (xO Z Z om om)) (zJ Z Z (yA T.uH Z Z om) (qM Z Z Z (qM Z Z Z (zQ (xH [3, 6] kz Z (⟨⟨_, Z, ?_⟩, ⟨_, Z, ?_⟩, trivial⟩))))))))
  ·refine oY hH87 (zE T.yT Z (cw (n := 1) Z Z)) (zC (⟨trivial, (z1 6 kz Z (zM Z Z Z hH87 (c32 (h0.now hH87 (n := 6) Z) om om om) (fun w88 hH89 => (zC (⟨trivial, (zK [7, 8] kz trivial _ _ _ kz (zJ Z Z (zV Z Z om) (zJ Z Z (yA T.uH Z Z om) (zQ (z1 9 kz Z (zS (n := 1) (j := 1) Z Z hH89 Z T.sz2 Z Z Z (by rfl) (fun w90 hH91 => (zC (⟨trivial, (zX kz (yC (zN (region (oY hH91 (zV Z Z om) ?_)))))⟩)))))))))⟩)))))⟩))
   refine oM hH91 Z (zC (y0 (k + 1, (upd (k : Int) (((S.ready E3 B U F (k : Int)).1) + (S.at2 js (k : Int))) E3), (del (k : Int) L3), a3, b3 + (S.at2 js (k : Int))) (uC Z (uC Z (uC Z (uC Z (uC Z (uC Z (uC Z (uC Z (uC Z (Sub.nil _)))))))))) (⟨hH91, om, hplay.1, .inr ⟨by have := hplay.2; have := hU.le; omega, by have := hU.le; omega⟩⟩) om3))
  refine zM Z Z Z hH87 (c32 (h0.now hH87 (n := 6) Z) om om om) (fun w92 hH93 => (zC (⟨trivial, (z1 3 kz Z (oY hH93 (zE T.yT Z (cw (n := 1) Z Z)) (zC (⟨trivial, (zK [7, 8] kz trivial _ _ _ kz (zJ Z Z (zV Z Z om) (zJ Z Z (yA T.uH Z Z om) (zQ (z1 9 kz Z (zS (n := 1) (j := 1) Z Z hH93 Z T.sz2 Z Z Z (by rfl) (fun w94 hH95 => (zC (⟨trivial, (zX kz (yC (zN (region (oY hH95 (zV Z Z om) ?_)))))⟩)))))))))⟩))))⟩)))
  refine oM hH95 Z (zC (y0 (k + 1, (upd (k : Int) (((S.ready E3 B U F (k : Int)).1) + (S.at2 js (k : Int))) E3), (del (k : Int) L3), a3, b3 + (S.at2 js (k : Int))) (uC Z (uC Z (uC Z (uC Z (uC Z (uC Z (uC Z (uC Z (uC Z (Sub.nil _)))))))))) (⟨hH95, om, hplay.1, .inr ⟨by have := hplay.2; have := hU.le; omega, by have := hU.le; omega⟩⟩) om3))
 refine zL Z (dF hc32) (exit (yZ (xF (z7 (zu (oY hH31 (zW (cs := [(.int .i64 a), (.int .i64 b)]) T.XX Z Z (fun _ hw => Heap.yH hw (n := 0) Z (k := 0) Z)) (oY hH31 (zW (cs := [(.int .i64 a3), (.int .i64 b3)]) T.XX Z Z (fun _ hw => Heap.yH hw (n := 1) Z (k := 0) Z)) (oY hH31 (kP (a := [a, b]) (b := [a3, b3]) T.zCu Z Z Z Z) (zt ?_)))))))))
 by_cases hc96 : [a, b] = [a3, b3]
 ·have hsame : [a, b] = [a3, b3] := of_decide_eq_true (decide_eq_true hc96)
  refine zO Z (dT hc96) (zr (oM hH31 Z (oA hH31 Z (zt (ret (yE (xY (yE (fin ((hH31.sub (sC (sC (sC (sK (sK (sC sR))))))).front (n := 2) Z) (fun w' hf => (yN Z (rt Z))) (fun w' hf => ?_))))))))))
  exact ⟨_, _, _, Z, ⟨Heap.xV hf (n := 0) Z, Heap.kJ hf (n := 1) Z⟩, hD.stop hj (S.settled hU hsame om)⟩
 have hne : ¬ [a, b] = [a3, b3] := of_decide_eq_false (decide_eq_false hc96)
 refine zL Z (dF hc96) (skip (yC ?_))
 have hH98 := (hH31.sub (sC sR))
 refine y0 (E3, L3, a3, b3) (uC Z (uC Z (uC Z (uC Z (uC Z (uC Z (Sub.nil _))))))) ?_ ?_
 ·exact ⟨hH98, hD⟩
 ·show _ < _; exact S.moved hU hne
end Go.Fip
namespace Go.Fip
open Go.Proofs Go.RowKit
def DayR (d : Nat) (vb vt vf : Value) (m : Nat) (es : Array MapEntry) (clock : Nat) (w : World) : Prop := Bx d 86 [vb, vt, vf, .map (some m)] w ∧ w.heap[m]? = some (.map es clock)
theorem Heap.JL {lo hi n d m : Nat} {vb vt vf : Value} {E : List (Int × Int)} {φ : World → Prop} {H : List Item} {w : World} (hH : Heap H w) (hn : H[n]? = some ⟨lo, hi, φ⟩)
  (hφ : ∀ w', φ w' → ∃ m' E', Day d vb vt vf m' E' w') (hd : Day d vb vt vf m E w) :
  ∃ es clock, Ents kvW vvI es clock E ∧ Heap (H.set n ⟨lo, hi, DayR d vb vt vf m es clock⟩) w := by
 have hok := hH.okAt hn
 obtain ⟨hbx, es, clock, hmp, h1, h2, h3, h4⟩ := hd
 have hdin := Item.within hok hbx (fun w' h _ hx => by
  obtain ⟨m', E', hb', _⟩ := hφ w' h
  unfold Bx at hb'
  rw [hb'] at hx; cases hx)
 have hne : d ≠ m := fun e => by unfold Bx at hbx; subst e; rw [hbx] at hmp; cases hmp
 have hmin := Item.within hok hmp (fun w' h hoth hx => by
  obtain ⟨m', E', hb', es', clock', hm', _⟩ := hφ w' h
  have h5 := hoth d hne
  unfold Bx at hb' hbx
  rw [hb', hbx] at h5
  cases h5
  rw [hm'] at hx; cases hx)
 refine ⟨es, clock, ⟨h1, h2, h3, h4⟩, hH.set hn ⟨Z, Z, Z, Nat.le_refl _, fun _ _ _ => Z⟩ (.inl ⟨Nat.le_refl _, Nat.le_refl _⟩) ⟨hok.1, hok.2.1, fun w' ha => ⟨?_, ?_⟩⟩⟩
 ·exact (ha.block d hdin.1 hdin.2).trans hbx
 ·exact (ha.block m hmin.1 hmin.2).trans hmp
theorem Heap.dr {lo hi n d m : Nat} {vb vt vf : Value} {es : Array MapEntry} {clock : Nat} {H : List Item} {w : World} (hH : Heap H w) (hn : H[n]? = some ⟨lo, hi, DayR d vb vt vf m es clock⟩) : DayR d vb vt vf m es clock w := hH.get hn
theorem DayR.day {d m : Nat} {vb vt vf : Value} {es : Array MapEntry} {clock : Nat} {E : List (Int × Int)} {w : World} (h : DayR d vb vt vf m es clock w) (he : Ents kvW vvI es clock E) : Day d vb vt vf m E w :=
 ⟨h.1, es, clock, h.2, he.views, he.nd, he.bornNd, he.born⟩
theorem c36 {v : Value} {js : List S.Pr} {vb vt vf : Value} {B U F : List Int} {w : World} (h0 : Rd encP 2 v js w) (hB : Rd encI 1 vb B w) (hT : Rd encI 1 vt U w) (hF : Rd encI 1 vf F w) (hn : js.length ≤ 1000000) (hBl : B.length ≤ 1000000) (hTl : U.length ≤ 1000000) (hFl : F.length ≤ 1000000) (hco : S.checkOrder js B U F = 0)  :
  Fn Tryz.prog 36 [v, (.agg #[vb, vt, vf])].toArray w (fun u w => ∃ d m E, u = .tuple #[.pointer (some ⟨d, 0, none⟩), .int .i64 0] ∧ Day d vb vt vf m E w ∧ S.DayOK js B U F E) := by
 refine fz Tryz.func36 Z kz Z Z (fun hH => ?_)
 obtain ⟨hj, hO⟩ := S.checkOrder_iff.1 hco
 refine zr (yY Z Z Z hH (fun b1 w2 hH3 => (oA hH3 Z (oA hH3 Z (zt (seq (zr (oM hH3 Z (oY hH3 (zW (cs := [vb, vt, vf]) T.uF Z Z (fun _ hw => Heap.yH hw (n := 0) Z (k := 0) Z)) (zM Z Z Z hH3 (zC3 (h0.now hH3 (n := 1) Z) (hB.now hH3 (n := 1) Z) (hT.now hH3 (n := 1) Z) (hF.now hH3 (n := 1) Z) om om om om) (fun w4 hH5 => (oA hH5 Z (zs (oM hH5 Z (oY hH5 (yF Z Z) (zt ?_))))))))))))))))
 have hc6 : ¬ (¬ ((S.checkOrder js B U F) = 0)) := fun h => h hco
 refine zL Z (vC hc6) (skip (zu (oM hH5 Z (oY hH5 (zW (cs := [vb, vt, vf]) T.uF Z Z (fun _ hw => Heap.yH hw (n := 0) Z (k := 0) Z)) (yV Z Z Z hH5 (zFb (h0.now hH5 (n := 1) Z) (hB.now hH5 (n := 1) Z) (hT.now hH5 (n := 1) Z) (hF.now hH5 (n := 1) Z) hj hO) (fun u9 w7 lo10 hi11 hH8 hv12 => ?_))))))
 obtain ⟨d, m, E, hu, hday, hOK⟩ := hv12
 subst hu
 obtain ⟨es, clock, hents, hH13⟩ := Heap.JL hH8 (n := 0) rfl (fun w' h => by obtain ⟨d', m', E', e, h, _⟩ := h; cases e; exact ⟨_, _, h⟩) hday
 refine oA hH13 Z (oA hH13 Z (zt (ret (fin ((hH13.sub (sK (sC sR))).front (n := 1) Z) (fun w' hf => (xI Z (rt Z) (rt Z))) (fun w' hf => ?_)))))
 exact ⟨d, m, E, Z, DayR.day (Heap.dr hf (n := 0) Z) hents, hOK⟩
theorem zB8 {v : Value} {js : List S.Pr} {vb vt vf : Value} {B U F : List Int} {w : World} (h0 : Rd encP 2 v js w) (hB : Rd encI 1 vb B w) (hT : Rd encI 1 vt U w) (hF : Rd encI 1 vf F w) (hn : js.length ≤ 1000000) (hBl : B.length ≤ 1000000) (hTl : U.length ≤ 1000000) (hFl : F.length ≤ 1000000) (hcn : ¬ S.checkOrder js B U F = 0)  :
  Fn Tryz.prog 36 [v, (.agg #[vb, vt, vf])].toArray w (fun u _ => u = .tuple #[.pointer none, .int .i64 (S.checkOrder js B U F)]) := by
 refine fz Tryz.func36 Z kz Z Z (fun hH => (zr (yY Z Z Z hH (fun b1 w2 hH3 => (oA hH3 Z (oA hH3 Z (zt (seq (zr (oM hH3 Z (oY hH3 (zW (cs := [vb, vt, vf]) T.uF Z Z (fun _ hw => Heap.yH hw (n := 0) Z (k := 0) Z)) (zM Z Z Z hH3 (zC3 (h0.now hH3 (n := 1) Z) (hB.now hH3 (n := 1) Z) (hT.now hH3 (n := 1) Z) (hF.now hH3 (n := 1) Z) om om om om) (fun w4 hH5 => (oA hH5 Z (zs (oM hH5 Z (oY hH5 (yF Z Z) (zC ?_))))))))))))))))))
 refine zN ?_
 have hc6 : ¬ ((S.checkOrder js B U F) = 0) := hcn
 refine zO Z (zF hc6) (zr (oM hH5 Z (oA hH5 Z (oA hH5 Z (zt (ret (z6 (fin (hH5.sub (sC sR)) (fun w' hf => (xI Z (rt Z) (rt Z))) (fun w' hf => Z)))))))))
theorem S.set_even {O : List S.Pr} {w : Nat} {t : Int} (hw : w < 2 * O.length) (h : (w : Int) % 2 = 0) (x : Nat) : S.at2 (O.set ((w : Int) / 2).toNat (t, (nth O ((w : Int) / 2)).2)) (x : Int) = if x = w then t else S.at2 O (x : Int) := by
 have e : ((((w : Int) / 2).toNat : Nat) : Int) = (w : Int) / 2 := by omega
 have ex : ((((x : Int) / 2).toNat : Nat) : Int) = (x : Int) / 2 := by omega
 unfold S.at2
 by_cases hx : (x : Int) / 2 = (w : Int) / 2
 ·have hs := qE (l := O) (i := ((w : Int) / 2).toNat) (x := (t, (nth O ((w : Int) / 2)).2)) (by omega)
  rw [e] at hs
  rw [hx, hs]
  by_cases h2 : x = w
  ·subst h2; rw [if_pos h, if_pos rfl]
  ·rw [if_neg (by omega), if_neg h2, if_neg (by omega)]
 ·have hn := jH (l := O) (x := (t, (nth O ((w : Int) / 2)).2)) (i := ((w : Int) / 2).toNat) (j := ((x : Int) / 2).toNat) (by omega)
  rw [ex] at hn
  rw [hn, if_neg (show ¬ x = w from fun h => hx (by rw [h]))]
theorem S.set_odd {O : List S.Pr} {w : Nat} {t : Int} (hw : w < 2 * O.length) (h : ¬ (w : Int) % 2 = 0) (x : Nat) : S.at2 (O.set ((w : Int) / 2).toNat ((nth O ((w : Int) / 2)).1, t)) (x : Int) = if x = w then t else S.at2 O (x : Int) := by
 have e : ((((w : Int) / 2).toNat : Nat) : Int) = (w : Int) / 2 := by omega
 have ex : ((((x : Int) / 2).toNat : Nat) : Int) = (x : Int) / 2 := by omega
 unfold S.at2
 by_cases hx : (x : Int) / 2 = (w : Int) / 2
 ·have hs := qE (l := O) (i := ((w : Int) / 2).toNat) (x := ((nth O ((w : Int) / 2)).1, t)) (by omega)
  rw [e] at hs
  rw [hx, hs]
  by_cases h2 : x = w
  ·subst h2; rw [if_neg h, if_pos rfl]
  ·rw [if_pos (by omega), if_neg h2, if_pos (by omega)]
 ·have hn := jH (l := O) (x := ((nth O ((w : Int) / 2)).1, t)) (i := ((w : Int) / 2).toNat) (j := ((x : Int) / 2).toNat) (by omega)
  rw [ex] at hn
  rw [hn, if_neg (show ¬ x = w from fun h => hx (by rw [h]))]
def S.Wr (l : List S.Pr) (es : Array MapEntry) (E : S.Mm) (O : List S.Pr) (seen : Array Nat) : Prop := ∀ w : Nat, w < 2 * l.length → (∃ en ∈ es.toList, en.key = kvW (w : Int) ∧ en.born ∈ seen.toList) → S.at2 O (w : Int) = (find (w : Int) E).getD 0 - S.at2 l (w : Int)
theorem S.Wr.step {l O O' : List S.Pr} {es : Array MapEntry} {clock : Nat} {E : S.Mm} {seen : Array Nat} {e : MapEntry} {wn : Nat} {vn : Int} (h : S.Wr l es E O seen) (hE : Ents kvW vvI es clock E) (he : e ∈ es.toList) (hk : e.key = kvW (wn : Int)) (hf : find (wn : Int) E = some vn)
  (hO : ∀ x : Nat, S.at2 O' (x : Int) = if x = wn then vn - S.at2 l (wn : Int) else S.at2 O (x : Int)) : S.Wr l es E O' (seen.push e.born) := by
 rintro w hw ⟨en, hen, hkey, hb⟩
 rw [hO w]
 by_cases hx : w = wn
 ·subst hx; rw [if_pos rfl, hf]; rfl
 ·rw [if_neg hx]
  refine h w hw ⟨en, hen, hkey, ?_⟩
  simp at hb
  rcases hb with hb | hb
  ·simpa using hb
  ·have := hE.inj hen he hb
   subst this
   rw [hk] at hkey
   simp [kvW] at hkey
   omega
theorem S.Wr.over {l O : List S.Pr} {B U F : List Int} {es : Array MapEntry} {clock : Nat} {E : S.Mm} {seen : Array Nat} (h : S.Wr l es E O seen) (hE : Ents kvW vvI es clock E) (hOK : S.DayOK l B U F E) (hfull : 2 * l.length ≤ E.length)
  (hall : ∀ e ∈ es.toList, e.born ∈ seen.toList) : ∀ w : Nat, w < 2 * l.length → S.at2 O (w : Int) = (find (w : Int) E).getD 0 - S.at2 l (w : Int) := fun w hw => by
 obtain ⟨v, hv, _⟩ := hOK.full hfull hw
 obtain ⟨e, he, hk, _⟩ := hE.of_find hv
 exact h w hw ⟨e, he, hk, hall e he⟩
theorem S.pl_none {l : List S.Pr} {B T F : List Int} (h : S.checkOrder l B T F = 0) (h2 : ¬ ∃ s, S.SolF l B T F s) : S.play l B T F = ([], 13) := S.pl2 h (by rw [S.playOf_none h2]; rfl)
theorem S.pl_some {l p : List S.Pr} {B T F : List Int} (h : S.checkOrder l B T F = 0) (hj : S.Jobs l) (h2 : S.SolP l B T F p) : S.play l B T F = (p, 0) := by rw [S.pl3 h (by rw [S.playOf_some hj h2]; simp), S.playOf_some hj h2]; rfl
theorem c17 {v : Value} {js : List S.Pr} {vb vt vf : Value} {B U F : List Int} {w : World} (h0 : Rd encP 2 v js w) (hB : Rd encI 1 vb B w) (hT : Rd encI 1 vt U w) (hF : Rd encI 1 vf F w) (hn : js.length ≤ 1000000) (hBl : B.length ≤ 1000000) (hTl : U.length ≤ 1000000) (hFl : F.length ≤ 1000000)  :
  Fn Tryz.prog 17 [v, (.agg #[vb, vt, vf])].toArray w (fun u w => ∃ q, u = .tuple #[q, .int .i64 (S.play js B U F).2] ∧ Own 69 2 encP q (S.play js B U F).1 w) := by
 refine fz Tryz.func17 Z kz Z Z (fun hH => (zr (yY Z Z Z hH (fun b1 w2 hH3 => (oA hH3 Z (oA hH3 Z (zt (seq ?_))))))))
 by_cases hc4 : S.checkOrder js B U F = 0
 ·have hco : S.checkOrder js B U F = 0 := ‹_›
  obtain ⟨hj, hO⟩ := S.checkOrder_iff.1 hco
  have hO8 := hO
  obtain ⟨hlB, hlU, hlF, hOk⟩ := hO8
  have hl1 := hj.1
  have hl8 := hj.2.1
  refine region (oM hH3 Z (oY hH3 (zW (cs := [vb, vt, vf]) T.uF Z Z (fun _ hw => Heap.yH hw (n := 0) Z (k := 0) Z)) (yV Z Z Z hH3 (c36 (h0.now hH3 (n := 1) Z) (hB.now hH3 (n := 1) Z) (hT.now hH3 (n := 1) Z) (hF.now hH3 (n := 1) Z) om om om om hco) (fun u7 w5 lo8 hi9 hH6 hv10 => ?_))))
  obtain ⟨d, m, E, hu, hday, hOK⟩ := hv10
  subst hu
  obtain ⟨es, clock, hents, hH11⟩ := Heap.JL hH6 (n := 0) rfl (fun w' h => by obtain ⟨d', m', E', e, h, _⟩ := h; cases e; exact ⟨_, _, h⟩) hday
  refine oM hH11 Z (oY hH11 (zH Z Z) (oY hH11 (zH Z Z) (oA hH11 Z (oA hH11 Z (zt (seq (block (zr (oM hH11 Z (oY hH11 (yF Z Z) (oA hH11 Z (zt ?_))))))))))))
  have hc12 : ¬ (¬ ((0 : Int) = 0)) := fun h => h rfl
  refine zL Z (vC hc12) (zr (oM hH11 Z (oY hH11 (yQ Z) (oY hH11 (zI T.VZ Z) (oY hH11 (zE T.XW Z (fun _ hw => yM ((Heap.dr hw (n := 0) Z).1) Z)) (oY hH11 (VN T.m84 Z (fun _ hw => ((DayR.day (Heap.dr hw (n := 0) Z) hents).2))) (oM hH11 Z (oY hH11 (z8 T.xX Z (h0.now hH11 (n := 2) Z).is) (oY hH11 (xA Z Z om) (oY hH11 (yL Z Z) (oA hH11 Z (zt ?_))))))))))))
  by_cases hc13 : (E.length : Int) < (2 * (js.length : Int))
  ·have hnone := hOK.none hj hO (by omega)
   refine zO Z (dT hc13) (zr (oA hH11 Z (oA hH11 Z (zt (ret (yE (z6 (fin (hH11.sub (sC (sC sR))) (fun w' hf => (xI Z (rt Z) (rt Z))) (fun w' hf => ?_)))))))))
   first | (rw [S.pl1 hcn]; exact ⟨_, rfl, vT⟩) | (rw [S.pl_none hco hnone]; exact ⟨_, rfl, vT⟩) | (rw [S.pl_some hco hj hsol]; exact ⟨_, rfl, Heap.own hf (n := 0) rfl⟩)
  have hfull : 2 * js.length ≤ E.length := by omega
  refine zL Z (dF hc13) (skip (yC (zu (oM hH11 Z (oY hH11 (z8 T.xX Z (h0.now hH11 (n := 2) Z).is) (jA T.xT ((0, 0) : Int × Int) T.GH Z Z Z hH11 om om (fun u15 lo17 hi18 w16 hH19 => (oA hH19 Z (zs (oM hH19 Z (G1 (n := 0) T.xT ((0, 0) : Int × Int) T.GH Z Z hH19 Z (fun w20 hH21 => (zt (seq (zr (oM hH21 Z ?_))))))))))))))))
  refine oY hH21 (yQ Z) (oY hH21 (zI T.VZ Z) (oY hH21 (zE T.XW Z (fun _ hw => yM ((Heap.dr hw (n := 1) Z).1) Z)) (jG T.m84.und Z Z hH21 (Heap.dr hH21 (n := 1) Z).2 (fun r22 w23 hH24 => (zt (block (loop (S := Array Nat × List S.Pr × Value × Nat × Nat) (fun (seen, O, v_8, lo_8, hi_8) => [(8, v_8), (0, v), (4, (.slice none 0 0)), (5, (.int .i64 0)), (40, (.pointer (some ⟨r22, 0, none⟩)))]) (fun (seen, O, v_8, lo_8, hi_8) w1 => Heap [raw r22 (.mapIter (some m) clock seen clock), ow lo_8 hi_8 69 2 encP v_8 O, ⟨lo8, hi9, DayR d vb vt vf m es clock⟩, bx b1 48 [vb, vt, vf], base w] w1 ∧ O.length = js.length ∧ S.Wr js es E O seen) (fun (seen, O, v_8, lo_8, hi_8) => unseen es seen) (#[], (List.replicate (List.replicate (js.length : Int).toNat ((0, 0) : Int × Int)).length ((0, 0) : Int × Int)), u15, lo17, hi18) (uC Z (uC Z (uC Z (uC Z (uC Z (Sub.nil _)))))) ?_ ?_)))))))
  ·exact ⟨hH24, by simp, fun w hw h => by obtain ⟨_, _, _, h⟩ := h; simp at h⟩
  rintro ⟨seen, O, v_8, lo_8, hi_8⟩ w25 ⟨hH26, hOl, hWr⟩
  refine zr (kD Z Z hH26 (Heap.dr hH26 (n := 2) Z).2 (k := 0) Z hents.born (fun hall27 w31 hH32 => ?_) (fun e28 he29 hns30 w31 hH32 => ?_))
  ·have hsol := hOK.sol hO hfull hOl (hWr.over hents hOK hfull hall27)
   refine oY hH32 (zH Z Z) (zt (seq (zL Z Z (exit (yZ (xF (z7 (zu (oM hH32 Z (oA hH32 Z (oA hH32 Z (zt (ret (fin ((hH32.sub (sC (sK (sC (sC sR))))).front (n := 1) Z) (fun w' hf => (xI Z (rt Z) (rt Z))) (fun w' hf => ?_)))))))))))))))
   first | (rw [S.pl1 hcn]; exact ⟨_, rfl, vT⟩) | (rw [S.pl_none hco hnone]; exact ⟨_, rfl, vT⟩) | (rw [S.pl_some hco hj hsol]; exact ⟨_, rfl, Heap.own hf (n := 0) rfl⟩)
  obtain ⟨kn, vn, hkey, hval, hfind⟩ := hents.entry he29
  obtain ⟨wn, hwn, hkw⟩ := hOK.keys kn (by rw [hfind]; simp)
  subst hkw
  have hvb := hOK.bd _ _ hfind
  have hns := hns30
  have hen := he29
  refine oY hH32 (zH Z Z) (zt (seq (zO Z Z (skip (zN (block (zr (oY hH32 (qK hkey hval Z he29 hents.bornNd (fun _ hw => (Heap.dr hw (n := 2) Z).2) (fun _ hw => Heap.jK hw (n := 0) Z)) (oY hH32 (zH Z Z) (oY hH32 (zH Z Z) (yD (z := (.agg #[(.int .i64 0)])) (fun _ => by kernel_rfl) Z Z hH32 (fun b34 w35 hH36 => (zS (n := 0) (j := 0) Z Z hH36 Z T.zE5 Z Z Z (by rfl) (fun w37 hH38 => (oA hH38 Z (zt (seq ?_)))))))))))))))))
  have hmw := hj.at2 (w := (wn : Int)) (by omega) (by omega)
  refine region (oM hH38 Z (oM hH38 Z (oY hH38 (zI T.JO Z) (oY hH38 (zE T.yU Z (cw (n := 0) Z Z)) (zM Z Z Z hH38 (c32 (h0.now hH38 (n := 5) Z) om om om) (fun w39 hH40 => (oY hH40 (y8 Z Z om) (oA hH40 Z (zs (oY hH40 (zI T.JO Z) (oY hH40 (zE T.yU Z (cw (n := 0) Z Z)) (oY hH40 (xO Z Z om om) (oY hH40 (y5 Z Z) (zt ?_))))))))))))))
  by_cases hc41 : ((wn : Int) % 2) = 0
  ·have heven : (wn : Int) % 2 = 0 := ‹_›
   refine zO Z (dT hc41) (region (oM hH40 Z (oY hH40 (zI T.JO Z) (oY hH40 (zE T.yU Z (cw (n := 0) Z Z)) (oY hH40 (xU Z Z om om om) (oM hH40 Z (oY hH40 (zP T.j0 Z Z (Heap.yI T.xT hH40 (n := 2) Z).is om) (oY hH40 (zI T.VR Z) (x4 (n := 2) (i := (wn : Int) / 2) (k := 0) (us := [(.int .i64 (vn - (S.at2 js (wn : Int))))]) (z := (vn - (S.at2 js (wn : Int)), (nth O ((wn : Int) / 2)).2)) T.xT Z Z hH40 Z om T.sz2 Z Z Z (Nat.le_of_ble_eq_true Z) (fun w42 hH43 => (zC (yC ?_))))))))))))
   have hH44 := (hH43.sub (sC sR))
   refine y0 ((seen.push e28.born), (O.set ((wn : Int) / 2).toNat (vn - (S.at2 js (wn : Int)), (nth O ((wn : Int) / 2)).2)), v_8, lo_8, hi_8) (uC Z (uC Z (uC Z (uC Z (uC Z (Sub.nil _)))))) ?_ ?_
   ·exact ⟨hH44, by rw [List.length_set]; exact hOl, hWr.step hents hen hkey hfind (S.set_even om ‹_›)⟩
   ·show _ < _; exact vI hen hns
  refine zL Z (dF hc41) (region (oM hH40 Z (oY hH40 (zI T.JO Z) (oY hH40 (zE T.yU Z (cw (n := 0) Z Z)) (oY hH40 (xU Z Z om om om) (oM hH40 Z (oY hH40 (zP T.j0 Z Z (Heap.yI T.xT hH40 (n := 2) Z).is om) (oY hH40 (zI T.VX Z) (x4 (n := 2) (i := (wn : Int) / 2) (k := 1) (us := [(.int .i64 (vn - (S.at2 js (wn : Int))))]) (z := ((nth O ((wn : Int) / 2)).1, vn - (S.at2 js (wn : Int)))) T.xT Z Z hH40 Z om T.sz2 Z Z Z (Nat.le_of_ble_eq_true Z) (fun w45 hH46 => (zC (yC ?_))))))))))))
  have hH47 := (hH46.sub (sC sR))
  refine y0 ((seen.push e28.born), (O.set ((wn : Int) / 2).toNat ((nth O ((wn : Int) / 2)).1, vn - (S.at2 js (wn : Int)))), v_8, lo_8, hi_8) (uC Z (uC Z (uC Z (uC Z (uC Z (Sub.nil _)))))) ?_ ?_
  ·exact ⟨hH47, by rw [List.length_set]; exact hOl, hWr.step hents hen hkey hfind (S.set_odd om ‹_›)⟩
  ·show _ < _; exact vI hen hns
 have hcn : ¬ S.checkOrder js B U F = 0 := ‹_›
 refine region (oM hH3 Z (oY hH3 (zW (cs := [vb, vt, vf]) T.uF Z Z (fun _ hw => Heap.yH hw (n := 0) Z (k := 0) Z)) (zM Z Z Z hH3 (zB8 (h0.now hH3 (n := 1) Z) (hB.now hH3 (n := 1) Z) (hT.now hH3 (n := 1) Z) (hF.now hH3 (n := 1) Z) om om om om hcn) (fun w48 hH49 => (oM hH49 Z (oY hH49 (zH Z Z) (oY hH49 (zH Z Z) (oA hH49 Z (oA hH49 Z (zt (seq (block (zr (oM hH49 Z (oY hH49 (yF Z Z) (oA hH49 Z (zt ?_)))))))))))))))))
 have hc50 : ¬ ((S.checkOrder js B U F) = 0) := hcn
 refine zO Z (zF hc50) (zr (oM hH49 Z (oA hH49 Z (oA hH49 Z (zt (ret (yE (z6 (fin (hH49.sub (sC sR)) (fun w' hf => (xI Z (rt Z) (rt Z))) (fun w' hf => ?_))))))))))
 first | (rw [S.pl1 hcn]; exact ⟨_, rfl, vT⟩) | (rw [S.pl_none hco hnone]; exact ⟨_, rfl, vT⟩) | (rw [S.pl_some hco hj hsol]; exact ⟨_, rfl, Heap.own hf (n := 0) rfl⟩)
end Go.Fip
namespace Go.Fip
open Go.Proofs Go.RowKit
theorem zEs {vj : Value} {js : List S.Pr} {x : Int} {b1 : Nat} {w : World} (k1 : Bx b1 24 [vj] w) (h1 : Rd encP 2 vj js w) (hn : js.length ≤ 1000000)  :
  Fn Tryz.prog 127 [(.int .i64 x), (.pointer (some ⟨b1, 0, none⟩))].toArray w (fun u _ => u = .bool (!decide (0 ≤ x ∧ x ≤ 2 * (js.length : Int) - 1))) := by
 refine fz Tryz.func127 Z kz Z Z (fun hH => (zr (oA hH Z (zs (oY hH (zE T.jD Z (fun _ hw => yM (k1.now hw (n := 0) Z) Z)) (oY hH (z8 T.xX Z (h1.now hH (n := 0) Z).is) (oY hH (xA Z Z om) (oY hH (y8 Z Z om) (oM hH Z (z2 T.zR [x] Z (fun w => by kernel_rfl) hH (fun u1 lo3 hi4 w2 hH5 => (zM Z Z Z hH5 (X9 (Heap.yI T.zR hH5 (n := 0) Z)) (fun w6 hH7 => (oY hH7 (y6 Z) (oA hH7 Z (zt (ret (fin (hH7.sub (sC sR)) (fun w' hf => (yN Z (rt Z))) (fun w' hf => Z)))))))))))))))))))
theorem zFy {v vj : Value} {l : List Int} {js : List S.Pr} {b1 : Nat} {w : World} (h0 : Rd encI 1 v l w) (k1 : Bx b1 24 [vj] w) (h1 : Rd encP 2 vj js w) (hn : js.length ≤ 1000000) (hl : l.length ≤ 1000000)  :
  Fn Tryz.prog 148 [v, (.func (.func 127) #[] #[(.pointer (some ⟨b1, 0, none⟩))])].toArray w (fun u _ => u = .int .i64 (idx (fun x : Int => !decide (0 ≤ x ∧ x ≤ 2 * (js.length : Int) - 1)) l)) := by
 refine fz Tryz.func148 Z kz Z Z (fun hH => (zr (oA hH Z (zt (seq (zr (oM hH Z (oY hH (z8 T.yS Z (h0.now hH (n := 0) Z).is) (oM hH Z (zt (block (loop (S := Nat) (fun k => [(8, (.int .i64 (k : Int))), (0, v), (1, (.func (.func 127) #[] #[(.pointer (some ⟨b1, 0, none⟩))])), (7, (.int .i64 (l.length : Int)))]) (fun k w1 => Heap [base w] w1 ∧ k ≤ l.length ∧ ∀ i, i < k → (fun x : Int => !decide (0 ≤ x ∧ x ≤ 2 * (js.length : Int) - 1)) (nth l (i : Int)) = false) (fun k => l.length - k) (0) (uC Z (uC Z (uC Z (uC Z (Sub.nil _))))) ?_ ?_))))))))))))
 ·exact ⟨hH, om, S.all_zero⟩
 rintro k w1 ⟨hH2, hk, hall⟩
 refine zr (oY hH2 (yL Z Z) (zt (seq ?_)))
 by_cases hc3 : (k : Int) < (l.length : Int)
 ·refine zO Z (dT hc3) (skip (zN (seq (block (zr (oM hH2 Z (oA hH2 Z (zs (oM hH2 Z (oM hH2 Z (oM hH2 Z (oY hH2 (zP T.yS Z Z (h0.now hH2 (n := 0) Z).is om) (oY hH2 (zE T.yU Z (fun _ hw => Rd.at (h0.now hw (n := 0) Z) (i := (k : Int)) om (j := 0) Z)) (zM Z Z Z hH2 (zEs (k1.now hH2 (n := 0) Z) (h1.now hH2 (n := 0) Z) om) (fun w4 hH5 => (zt ?_))))))))))))))))
  by_cases hc6 : 0 ≤ nth l (k : Int) ∧ nth l (k : Int) ≤ 2 * (js.length : Int) - 1
  ·have hp : (fun x : Int => !decide (0 ≤ x ∧ x ≤ 2 * (js.length : Int) - 1)) (nth l (k : Int)) = false := (zG hc6)
   refine zL Z (zG hc6) (skip (yC (zN (region (oY hH5 (zV Z Z om) (oM hH5 Z (zC (y0 (k + 1) (uC Z (uC Z (uC Z (uC Z (Sub.nil _))))) (⟨hH5, om, S.all_snoc hall hp⟩) om3))))))))
  have hp : (fun x : Int => !decide (0 ≤ x ∧ x ≤ 2 * (js.length : Int) - 1)) (nth l (k : Int)) = true := (zF hc6)
  refine zO Z (zF hc6) (zr (oM hH5 Z (oA hH5 Z (zt (ret (yE (z6 (xY (yE (z6 (fin hH5 (fun w' hf => (yN Z (rt Z))) (fun w' hf => ?_))))))))))))
  first | exact congrArg (Value.int .i64) (x5 (k := k) (by omega) hall hp).symm | exact congrArg (Value.int .i64) (xP (fun i hi => hall i (by omega))).symm
 refine zL Z (dF hc3) (exit (yZ (xF (z7 (zu (oA hH2 Z (zt (ret (fin hH2 (fun w' hf => (yN Z (rt Z))) (fun w' hf => ?_))))))))))
 first | exact congrArg (Value.int .i64) (x5 (k := k) (by omega) hall hp).symm | exact congrArg (Value.int .i64) (xP (fun i hi => hall i (by omega))).symm
theorem zEj {v vj : Value} {l : List Int} {js : List S.Pr} {b1 : Nat} {w : World} (h0 : Rd encI 1 v l w) (k1 : Bx b1 24 [vj] w) (h1 : Rd encP 2 vj js w) (hn : js.length ≤ 1000000) (hl : l.length ≤ 1000000)  :
  Fn Tryz.prog 128 [v, (.func (.func 127) #[] #[(.pointer (some ⟨b1, 0, none⟩))])].toArray w (fun u _ => u = .bool (has (fun x : Int => !decide (0 ≤ x ∧ x ≤ 2 * (js.length : Int) - 1)) l)) := by
 refine fz Tryz.func128 Z kz Z Z (fun hH => (zr (oA hH Z (zs (oM hH Z (oM hH Z (zM Z Z Z hH (zFy (h0.now hH (n := 0) Z) (k1.now hH (n := 0) Z) (h1.now hH (n := 0) Z) om om) (fun w1 hH2 => (oY hH2 (vH Z Z) (oA hH2 Z (zt (ret (fin hH2 (fun w' hf => (yN Z (rt Z))) (fun w' hf => Z))))))))))))))
theorem zEw {gf : FuncId} {cap : List Value} {D : World → Prop} {l : List Int} {w : World} (hit : Iter Tryz.prog gf cap D (l.map (Value.int .i64))) (hst : ∀ w', Below w.heap.size w w' → D w') (hn : l.length ≤ 1000)  :
  Fn Tryz.prog 162 [(.slice none 0 0), (.func (.func gf) #[] cap.toArray)].toArray w (fun u w => Own 3 1 encI u l w) := by
 refine fz Tryz.func162 Z kz Z Z (fun hH => (zr (yY Z Z Z hH (fun b1 w2 hH3 => (oA hH3 Z (zt (seq (zr (oM hH3 Z (zt (block (rangeFunc (xs := (l.map (Value.int .i64))) Z hit Z (v8 (enc := encI) 3 1 hH3) (fun i H => ∃ v_a : Value, ∃ lo_a : Nat, ∃ hi_a : Nat, H = [ow lo_a hi_a 3 1 encI v_a (l.take i), bx b1 46 [v_a], base w] ∧ True) (fun c H => False) ⟨(.slice none 0 0), w2.heap.size, w2.heap.size, Z, trivial⟩ (fun i H w hI hw => ?_) (fun l5 D6 i7 x8 H w10 rc hx9 hI hH11 => ?_) (fun D6 H w10 hI hH11 => ?_) (fun D6 c H w10 hI hH11 => ?_)))))))))))))
 ·obtain ⟨_, _, _, rfl, _⟩ := hI
  exact hst _ (hw.get (n := 2) Z)
 ·obtain ⟨v_a, lo_a, hi_a, rfl, _⟩ := hI
  obtain ⟨hlt, hxe⟩ := j6 hx9
  subst hxe
  refine region (oA hH11 Z (zC (⟨_, hH11, fun w14 hH15 => (block (region (oY hH15 (zE T.xB Z (cw (n := 3) Z Z)) (oM hH15 Z (z2 T.zA [nth l (i7 : Int)] Z (fun w => by kernel_rfl) hH15 (fun u16 lo18 hi19 w17 hH20 => (yB (n := 3) T.zA Z Z Z hH20 Z (Heap.yI T.zA hH20 (n := 0) Z) (by rw [List.length_take]; simp only [List.length_cons, List.length_nil]; omega) (fun u21 lo23 hi24 w22 hH25 => (zS (n := 4) (j := 0) Z Z hH25 Z T.ZK (SliceIs.cells (Heap.yI T.zA hH25 (n := 3) Z).is) Z Z (SliceIs.one (Heap.yI T.zA hH25 (n := 3) Z).is) (fun w26 hH27 => (zC (yC ?_))))))))))))⟩)))
  exact ⟨_, ⟨_, ⟨u21, lo23, hi24, Z, trivial⟩, Z⟩, (Heap.y1 (n := 2) (hH27.sub (sC sR)) Z ((qJ hlt)))⟩
 ·obtain ⟨v_a, lo_a, hi_a, rfl, _⟩ := hI
  have hH29 := hH11.perm (List.perm_append_comm (l₁ := [_]))
  refine yC (zu (oY hH29 (zE T.xB Z (cw (n := 1) Z Z)) (oA hH29 Z (zt (ret (kY (H := [ow lo_a hi_a 3 1 encI v_a (l.take ((l.map (Value.int .i64))).length)]) [D6] ((hH29.sub (sK (sC sR))).front (n := 1) Z) (fun w' hf => (yN Z (rt Z))) (fun w' hf => ?_)))))))
  exact (by have h := Heap.own hf (n := 0) rfl; rw [List.length_map, List.take_length] at h; exact h)
 exact hI.elim
theorem zEx {gf : FuncId} {cap : List Value} {D : World → Prop} {l : List Int} {w : World} (hit : Iter Tryz.prog gf cap D (l.map (Value.int .i64))) (hst : ∀ w', Below w.heap.size w w' → D w') (hn : l.length ≤ 1000)  :
  Fn Tryz.prog 130 [(.func (.func gf) #[] cap.toArray)].toArray w (fun u w => Own 3 1 encI u l w) := by
 refine fz Tryz.func130 Z kz Z Z (fun hH => (zr (oA hH Z (zs (oM hH Z (yV Z Z Z hH (zEw hit (fun w' hb => hst w' ((show Below w.heap.size w _ from hH.get (n := 0) Z).trans (hb.mono (show Below w.heap.size w _ from hH.get (n := 0) Z).size))) hn) (fun u3 w1 lo4 hi5 hH2 hv6 => ?_)))))))
 have hH7 := Heap.xZ hH2 (n := 0) Z
 refine oA hH7 Z (zt (ret (fin (hH7.front (n := 1) Z) (fun w' hf => (yN Z (rt Z))) (fun w' hf => ?_))))
 exact Heap.own hf (n := 0) Z
theorem DW.below {b5 b3 b2 d m : Nat} {rv vb vt vf : Value} {x : Int} {L F : List Int} {w w' : World} (h : DW b5 b3 b2 d m rv vb vt vf x L F w) (hb : Below w.heap.size w w') : DW b5 b3 b2 d m rv vb vt vf x L F w' :=
 ⟨⟨h.1.1.below hb, h.1.2.1.below hb, h.1.2.2.below hb⟩, h.2.1.below hb, h.2.2.1.below hb, h.2.2.2.below hb⟩
theorem zCm {c : List Int} {n : Nat} (h : has (fun x : Int => !decide (0 ≤ x ∧ x ≤ 2 * (n : Int) - 1)) c = true) : ¬ S.InC n c := by
 obtain ⟨i, hi, hp⟩ := YQ.1 h
 intro h2
 have := h2 i hi
 simp at hp
 omega
theorem KJ {c : List Int} {n : Nat} (h : ¬ has (fun x : Int => !decide (0 ≤ x ∧ x ≤ 2 * (n : Int) - 1)) c = true) : S.InC n c := by
 have h := kS.1 (Bool.eq_false_iff.2 h)
 intro i hi
 have := h i hi
 simp at this
 omega
theorem c66 {v vc : Value} {js : List S.Pr} {c : List Int} {vb vt vf : Value} {B U F : List Int} {w : World} (h0 : Rd encP 2 v js w) (hB : Rd encI 1 vb B w) (hT : Rd encI 1 vt U w) (hF : Rd encI 1 vf F w) (hC : Rd encI 1 vc c w) (hn : js.length ≤ 1000000) (hBl : B.length ≤ 1000000) (hTl : U.length ≤ 1000000) (hFl : F.length ≤ 1000000) (hcl : c.length ≤ 1000000)  :
  Fn Tryz.prog 66 [v, (.agg #[vb, vt, vf]), vc].toArray w (fun u _ => u = .int .i64 (S.checkCircle js B U F c)) := by
 refine fz Tryz.func66 Z kz Z Z (fun hH => (zr (yY (us := [v]) Z (SliceIs.cells (h0.now hH (n := 0) Z).is) Z hH (fun b1 w2 hH3 => (yY Z Z Z hH3 (fun b4 w5 hH6 => (oA hH6 Z (zt (seq ?_)))))))))
 by_cases hc7 : S.checkOrder js B U F = 0
 ·have hco : S.checkOrder js B U F = 0 := ‹_›
  obtain ⟨hj, hO⟩ := S.checkOrder_iff.1 hco
  have hO8 := hO
  obtain ⟨hlB, hlU, hlF, hOk⟩ := hO8
  have hl1 := hj.1
  have hl8 := hj.2.1
  refine region (oY hH6 (zE T.jD Z (cw (n := 1) Z Z)) (oY hH6 (zW (cs := [vb, vt, vf]) T.uF Z Z (fun _ hw => Heap.yH hw (n := 0) Z (k := 0) Z)) (yV Z Z Z hH6 (c36 (h0.now hH6 (n := 2) Z) (hB.now hH6 (n := 2) Z) (hT.now hH6 (n := 2) Z) (hF.now hH6 (n := 2) Z) om om om om hco) (fun u10 w8 lo11 hi12 hH9 hv13 => ?_))))
  obtain ⟨d, m, E, hu, hday, hOK⟩ := hv13
  subst hu
  obtain ⟨es, clock, hents, hH14⟩ := Heap.JL hH9 (n := 0) rfl (fun w' h => by obtain ⟨d', m', E', e, h, _⟩ := h; cases e; exact ⟨_, _, h⟩) hday
  refine oM hH14 Z (oY hH14 (zH Z Z) (oY hH14 (zH Z Z) (oA hH14 Z (oA hH14 Z (zs (oY hH14 (vF Z Z) (oA hH14 Z (zt (seq (block (zr (oM hH14 Z (oY hH14 (yF Z Z) (oA hH14 Z (zt ?_)))))))))))))))
  have hc15 : ¬ (¬ ((0 : Int) = 0)) := fun h => h rfl
  refine zL Z (vC hc15) (zr (oY hH14 (zE T.jD Z (cw (n := 2) Z Z)) (oY hH14 (z8 T.xX Z (h0.now hH14 (n := 3) Z).is) (oY hH14 (xA Z Z om) (oM hH14 Z (oY hH14 (z8 T.yS Z (hC.now hH14 (n := 3) Z).is) (z2 T.zR [(c.length : Int)] Z (fun w => by kernel_rfl) hH14 (fun u16 lo18 hi19 w17 hH20 => (zM Z Z Z hH20 (X9 (Heap.yI T.zR hH20 (n := 0) Z)) (fun w21 hH22 => (oY hH22 (y6 Z) (oA hH22 Z (zt ?_)))))))))))))
  by_cases hc23 : 2 ≤ (c.length : Int) ∧ (c.length : Int) ≤ 2 * (js.length : Int)
  ·refine zL Z (zG hc23) (zr (oM hH22 Z (oM hH22 Z (zM Z Z Z hH22 (zEj (hC.now hH22 (n := 4) Z) (Heap.xV hH22 (n := 3) Z) (h0.now hH22 (n := 4) Z) om om) (fun w24 hH25 => (oA hH25 Z (zt ?_)))))))
   by_cases hc26 : has (fun x : Int => !decide (0 ≤ x ∧ x ≤ 2 * (js.length : Int) - 1)) c = true
   ·have hbad := zCm ‹_›
    refine zO Z hc26 (zr (oA hH25 Z (zt (ret (yE (z6 (fin (hH25.sub (sC (sC (sC (sC sR))))) (fun w' hf => (yN Z (rt Z))) (fun w' hf => ?_))))))))
    first | exact congrArg (Value.int .i64) (S.cc1 hcn).symm | exact congrArg (Value.int .i64) (S.cc2 hco (by omega)).symm | exact congrArg (Value.int .i64) (S.cc3 hco (by omega) hbad).symm | exact congrArg (Value.int .i64) (S.cc4 hco (by omega) hin hbad).symm | exact congrArg (Value.int .i64) (S.cc5 hco (by omega) hin (fun i hi => hcirc i (by omega))).symm
   have hin : S.InC js.length c := KJ ‹_›
   refine zL Z (Bool.eq_false_iff.2 hc26) (skip (yC (zu (oM hH25 Z (oM hH25 Z (oY hH25 (z8 T.yS Z (hC.now hH25 (n := 4) Z).is) (oY hH25 (y8 Z Z om) (oY hH25 (zP T.yS Z Z (hC.now hH25 (n := 4) Z).is om) (oY hH25 (zE T.yU Z (fun _ hw => Rd.at (hC.now hw (n := 4) Z) (i := (c.length : Int) - 1) om (j := 0) Z)) (oA hH25 Z (zt (seq (zr (oM hH25 Z (oY hH25 (z8 T.yS Z (hC.now hH25 (n := 4) Z).is) (oM hH25 Z (zC ?_)))))))))))))))))
   refine zN (block (loop (S := Nat) (fun k => [(45, (.int .i64 (k : Int))), (10, (.int .i64 (S.prev c k))), (7, (.pointer (some ⟨d, 0, none⟩))), (43, vc), (44, (.int .i64 (c.length : Int)))]) (fun k w1 => Heap [ow lo18 hi19 2 1 encI u16 [(c.length : Int)], ⟨lo11, hi12, DayR d vb vt vf m es clock⟩, bx b4 48 [vb, vt, vf], bx b1 24 [v], base w] w1 ∧ k ≤ c.length ∧ ∀ i, i < k → S.Waits B U F (nth c (i : Int)) (S.prev c i)) (fun k => c.length - k) (0) (uC Z (uC Z (uC Z (uC Z (uC Z (Sub.nil _)))))) ?_ ?_))
   ·exact ⟨hH25, om, S.all_zero⟩
   rintro k w28 ⟨hH29, hk, hcirc⟩
   refine zr (oY hH29 (yL Z Z) (zt (seq ?_)))
   by_cases hc30 : (k : Int) < (c.length : Int)
   ·refine zO Z (dT hc30) (skip (zN (seq (block (zr (oY hH29 (zP T.yS Z Z (hC.now hH29 (n := 4) Z).is om) (oY hH29 (zE T.yU Z (fun _ hw => Rd.at (hC.now hw (n := 4) Z) (i := (k : Int)) om (j := 0) Z)) (oA hH29 Z (zt (seq (seq ?_)))))))))))
    have hpi := S.prev_in hin (by omega) (i := k) (by omega)
    have hci := hin k (by omega)
    obtain ⟨hr1, hr2, hr3, hr4⟩ := hO.row (nth c (k : Int) % 2)
    have hpl := S.pre_length B U F (nth c (k : Int))
    have hpw := S.pre_waits hO hci.1 hci.2 hpi.1 hpi.2
    refine region (oM hH29 Z (oM hH29 Z (yV Z Z Z hH29 (zCf (DayR.day (Heap.dr hH29 (n := 1) Z) hents) (hB.now hH29 (n := 4) Z) (hT.now hH29 (n := 4) Z) om om) (fun u36 w34 lo37 hi38 hH35 hv39 => ?_))))
    obtain ⟨c31, c32, c33, hu, -⟩ := hv39
    subst hu
    have hH40 := Heap.cap hH35 (n := 0) Z
    refine yV Z Z Z hH40 (zEx (l := (S.pre B U F (nth c (k : Int)))) (zA5 (d := d) (m := m) (vb := vb) (vt := vt) (vf := vf) (rv := (if (nth c (k : Int)) % 2 = 1 then vt else vb)) (L := S.row B U (nth c (k : Int) % 2)) (F := F) (x := nth c (k : Int)) om om om om (fun i h0 h1 => by have := (hO.row (nth c (k : Int) % 2)).2.1 i h0 om; omega)) (fun w' hb => DW.below ⟨hH40.get (n := 0) Z, (DayR.day (Heap.dr hH40 (n := 2) Z) hents).1, K2 (hB.now hH40 (n := 5) Z) (hT.now hH40 (n := 5) Z), (hF.now hH40 (n := 5) Z)⟩ hb) (by have := S.pre_length B U F (nth c (k : Int)); omega)) (fun u43 w41 lo44 hi45 hH42 hv46 => ?_)
    have hH47 := Heap.xZ hH42 (n := 0) Z
    refine oM hH47 Z (zM Z Z Z hH47 (zBo (Heap.yI T.zA hH47 (n := 0) Z) om) (fun w48 hH49 => (oY hH49 (y6 Z) (zt ?_))))
    by_cases hc50 : 0 ≤ S.place (S.pre B U F (nth c (k : Int))) (S.prev c k)
    ·have hWt := hpw.1 ‹_›
     refine zL Z (zG hc50) (skip (zN (region (oM hH49 Z (oA hH49 Z (zC (yC (zN (region (oY hH49 (zV Z Z om) (oM hH49 Z (zC (y0 (k + 1) (uC Z (Sub.cons (by rw [S.prev_succ]; rfl) (uC Z (uC Z (uC Z (Sub.nil _)))))) (⟨(hH49.sub (sC (sC sR))), om, S.all_snoc hcirc hWt⟩) om3)))))))))))))
    have hbad : ¬ S.Circ B U F c := fun h => absurd (h k (by omega)) (fun h2 => absurd (hpw.2 h2) ‹_›)
    refine zO Z (zF hc50) (zr (oA hH49 Z (zt (ret (z6 (yE (z6 (xY (yE (z6 (fin (hH49.sub (sC (sC (sC (sC (sC (sC sR))))))) (fun w' hf => (yN Z (rt Z))) (fun w' hf => ?_))))))))))))
    first | exact congrArg (Value.int .i64) (S.cc1 hcn).symm | exact congrArg (Value.int .i64) (S.cc2 hco (by omega)).symm | exact congrArg (Value.int .i64) (S.cc3 hco (by omega) hbad).symm | exact congrArg (Value.int .i64) (S.cc4 hco (by omega) hin hbad).symm | exact congrArg (Value.int .i64) (S.cc5 hco (by omega) hin (fun i hi => hcirc i (by omega))).symm
   refine zL Z (dF hc30) (exit (yZ (xF (z7 (zu (oA hH29 Z (zt (ret (fin (hH29.sub (sC (sC (sC (sC sR))))) (fun w' hf => (yN Z (rt Z))) (fun w' hf => ?_))))))))))
   first | exact congrArg (Value.int .i64) (S.cc1 hcn).symm | exact congrArg (Value.int .i64) (S.cc2 hco (by omega)).symm | exact congrArg (Value.int .i64) (S.cc3 hco (by omega) hbad).symm | exact congrArg (Value.int .i64) (S.cc4 hco (by omega) hin hbad).symm | exact congrArg (Value.int .i64) (S.cc5 hco (by omega) hin (fun i hi => hcirc i (by omega))).symm
  refine zO Z (zF hc23) (zr (oA hH22 Z (zt (ret (yE (z6 (fin (hH22.sub (sC (sC (sC (sC sR))))) (fun w' hf => (yN Z (rt Z))) (fun w' hf => ?_))))))))
  first | exact congrArg (Value.int .i64) (S.cc1 hcn).symm | exact congrArg (Value.int .i64) (S.cc2 hco (by omega)).symm | exact congrArg (Value.int .i64) (S.cc3 hco (by omega) hbad).symm | exact congrArg (Value.int .i64) (S.cc4 hco (by omega) hin hbad).symm | exact congrArg (Value.int .i64) (S.cc5 hco (by omega) hin (fun i hi => hcirc i (by omega))).symm
 have hcn : ¬ S.checkOrder js B U F = 0 := ‹_›
 refine region (oY hH6 (zE T.jD Z (cw (n := 1) Z Z)) (oY hH6 (zW (cs := [vb, vt, vf]) T.uF Z Z (fun _ hw => Heap.yH hw (n := 0) Z (k := 0) Z)) (zM Z Z Z hH6 (zB8 (h0.now hH6 (n := 2) Z) (hB.now hH6 (n := 2) Z) (hT.now hH6 (n := 2) Z) (hF.now hH6 (n := 2) Z) om om om om hcn) (fun w55 hH56 => (oM hH56 Z (oY hH56 (zH Z Z) (oY hH56 (zH Z Z) (oA hH56 Z (oA hH56 Z (zs (oY hH56 (vF Z Z) (oA hH56 Z (zt (seq (block (zr (oM hH56 Z ?_)))))))))))))))))
 refine oY hH56 (yF Z Z) (oA hH56 Z (zt ?_))
 have hc57 : ¬ ((S.checkOrder js B U F) = 0) := hcn
 refine zO Z (zF hc57) (zr (oM hH56 Z (oA hH56 Z (zt (ret (yE (z6 (fin (hH56.sub (sC (sC sR))) (fun w' hf => (yN Z (rt Z))) (fun w' hf => ?_)))))))))
 first | exact congrArg (Value.int .i64) (S.cc1 hcn).symm | exact congrArg (Value.int .i64) (S.cc2 hco (by omega)).symm | exact congrArg (Value.int .i64) (S.cc3 hco (by omega) hbad).symm | exact congrArg (Value.int .i64) (S.cc4 hco (by omega) hin hbad).symm | exact congrArg (Value.int .i64) (S.cc5 hco (by omega) hin (fun i hi => hcirc i (by omega))).symm
end Go.Fip
namespace Go.Fip
open Go.Proofs Go.RowKit
theorem c86 {v : Value} {l : List Int} {w : World} (h0 : Rd encI 1 v l w) (hn : l.length ≤ 1000000)  :
  Fn Tryz.prog 86 [v].toArray w (fun u w => Own 3 1 encI u l w) := by
 refine fz Tryz.func86 Z kz Z Z (fun hH => (zr (oA hH Z (zt (seq (zr (oM hH Z (oY hH (zAi T.yS.1 Z (h0.now hH (n := 0) Z).is) (zt ?_)))))))))
 by_cases hc1 : isNilS v = true
 ·have hl : l = [] := List.eq_nil_of_length_eq_zero (KR h0.is ‹_›)
  refine zO Z hc1 (zr (oA hH Z (zt (ret (z6 (fin hH (fun w' hf => (yN Z (rt Z))) (fun w' hf => ?_)))))))
  first | exact (by rw [hl]; exact vT) | exact (by have h := Heap.own hf (n := 0) rfl; simpa using h)
 refine zL Z (Bool.eq_false_iff.2 hc1) (skip (zu (z2 T.zA ([] : List Int) Z (fun w => by kernel_rfl) hH (fun u2 lo4 hi5 w3 hH6 => (oM hH6 Z (yB (n := 0) T.zA Z Z Z hH6 Z (h0.now hH6 (n := 1) Z) om2 (fun u7 lo9 hi10 w8 hH11 => (oA hH11 Z (zt (ret (fin (hH11.front (n := 1) Z) (fun w' hf => (yN Z (rt Z))) (fun w' hf => ?_))))))))))))
 first | exact (by rw [hl]; exact vT) | exact (by have h := Heap.own hf (n := 0) rfl; simpa using h)
theorem zDv {x n : Int} {b1 : Nat} {w : World} (k1 : Bx b1 3 [.int .i64 n] w)  :
  Fn Tryz.prog 141 [(.int .i64 x), (.pointer (some ⟨b1, 0, none⟩))].toArray w (fun u _ => u = .bool (decide (x = n))) := by
 refine fz Tryz.func141 Z kz Z Z (fun hH => (zr (oA hH Z (zs (oM hH Z (oY hH (zE T.yU Z (fun _ hw => yM (k1.now hw (n := 0) Z) Z)) (oY hH (y5 Z Z) (oA hH Z (zt (ret (fin hH (fun w' hf => (yN Z (rt Z))) (fun w' hf => Z))))))))))))
theorem zDs {v : Value} {l : List Int} {n : Int} {b1 : Nat} {w : World} (h0 : Rd encI 1 v l w) (k1 : Bx b1 3 [.int .i64 n] w) (hl : l.length ≤ 1000000)  :
  Fn Tryz.prog 148 [v, (.func (.func 141) #[] #[(.pointer (some ⟨b1, 0, none⟩))])].toArray w (fun u _ => u = .int .i64 (idx (fun x : Int => decide (x = n)) l)) := by
 refine fz Tryz.func148 Z kz Z Z (fun hH => (zr (oA hH Z (zt (seq (zr (oM hH Z (oY hH (z8 T.yS Z (h0.now hH (n := 0) Z).is) (oM hH Z (zt (block (loop (S := Nat) (fun k => [(8, (.int .i64 (k : Int))), (0, v), (1, (.func (.func 141) #[] #[(.pointer (some ⟨b1, 0, none⟩))])), (7, (.int .i64 (l.length : Int)))]) (fun k w1 => Heap [base w] w1 ∧ k ≤ l.length ∧ ∀ i, i < k → (fun x : Int => decide (x = n)) (nth l (i : Int)) = false) (fun k => l.length - k) (0) (uC Z (uC Z (uC Z (uC Z (Sub.nil _))))) ?_ ?_))))))))))))
 ·exact ⟨hH, om, S.all_zero⟩
 rintro k w1 ⟨hH2, hk, hall⟩
 refine zr (oY hH2 (yL Z Z) (zt (seq ?_)))
 by_cases hc3 : (k : Int) < (l.length : Int)
 ·refine zO Z (dT hc3) (skip (zN (seq (block (zr (oM hH2 Z (oA hH2 Z (zs (oM hH2 Z (oM hH2 Z (oM hH2 Z (oY hH2 (zP T.yS Z Z (h0.now hH2 (n := 0) Z).is om) (oY hH2 (zE T.yU Z (fun _ hw => Rd.at (h0.now hw (n := 0) Z) (i := (k : Int)) om (j := 0) Z)) (zM Z Z Z hH2 (zDv (k1.now hH2 (n := 0) Z)) (fun w4 hH5 => (zt ?_))))))))))))))))
  by_cases hc6 : nth l (k : Int) = n
  ·have hp : (fun x : Int => decide (x = n)) (nth l (k : Int)) = true := (decide_eq_true hc6)
   refine zO Z (dT hc6) (zr (oM hH5 Z (oA hH5 Z (zt (ret (yE (z6 (xY (yE (z6 (fin hH5 (fun w' hf => (yN Z (rt Z))) (fun w' hf => ?_))))))))))))
   first | exact congrArg (Value.int .i64) (x5 (k := k) (by omega) hall hp).symm | exact congrArg (Value.int .i64) (xP (fun i hi => hall i (by omega))).symm
  have hp : (fun x : Int => decide (x = n)) (nth l (k : Int)) = false := (decide_eq_false hc6)
  refine zL Z (dF hc6) (skip (yC (zN (region (oY hH5 (zV Z Z om) (oM hH5 Z (zC (y0 (k + 1) (uC Z (uC Z (uC Z (uC Z (Sub.nil _))))) (⟨hH5, om, S.all_snoc hall hp⟩) om3))))))))
 refine zL Z (dF hc3) (exit (yZ (xF (z7 (zu (oA hH2 Z (zt (ret (fin hH2 (fun w' hf => (yN Z (rt Z))) (fun w' hf => ?_))))))))))
 first | exact congrArg (Value.int .i64) (x5 (k := k) (by omega) hall hp).symm | exact congrArg (Value.int .i64) (xP (fun i hi => hall i (by omega))).symm
theorem c98 {v : Value} {l : List Int} {n : Int} {b1 g : Nat} {w : World} (h0 : Own 3 1 encI v l w) (hg : v.ownBlock = some g) (k1 : Bx b1 3 [.int .i64 n] w) (hne : b1 ≠ g) (hn : l.length ≤ 1000000) :
  FnM Tryz.prog 98 [v, (.func (.func 141) #[] #[(.pointer (some ⟨b1, 0, none⟩))])].toArray w g (fun u w => Own 3 1 encI u (l.filter fun y => !decide (y = n)) w) := by
 refine uQ (args := [v, (.func (.func 141) #[] #[(.pointer (some ⟨b1, 0, none⟩))])]) Tryz.func98 Z (ent Tryz.func98 kz Z) Z Z (qF h0 hg) (fun hH => ?_)
 have hlen : l.length ≤ 1000000 := hn
 refine zr (oA hH Z (zs (oM hH Z (oM hH Z (zM Z Z Z hH (zDs (Heap.yI T.zA hH (n := 0) Z) (Bx.nowM k1 hne hH (n := 1) (m := 2) Z Z) om) (fun w1 hH2 => (oA hH2 Z (zt (seq (zr (oM hH2 Z (oY hH2 (y5 Z Z) (zt ?_)))))))))))))
 by_cases hc3 : (idx (fun x : Int => decide (x = n)) l) = (-1)
 ·have hall := ((qP (fun y : Int => decide (y = n)) l).resolve_right (fun h => by obtain ⟨k, _, h2, _⟩ := h; omega)).2
  refine zO Z (dT hc3) (zr (oM hH2 Z (oA hH2 Z (zt (ret (z6 (finM hH2 (yN Z (rt Z)) (fun w' hf => ?_))))))))
  first | exact (congrArg (fun q => Own 3 1 encI v q w') (XE hall)).mp hf.1 | exact (congrArg (fun q => Own 3 1 encI (cutv v 1 0 i) q w') (hD.done (by omega) 0)).mp (Own.upto (q := i) (fun _ => rfl) hf.1 (by simp; omega))
 obtain ⟨k, hk, hke, hkp, hkf⟩ := (qP (fun y : Int => decide (y = n)) l).resolve_left (fun h => absurd h.1 ‹_›)
 refine zL Z (dF hc3) (skip (zN (seq (zr (oM hH2 Z (oY hH2 (zV Z Z om) (oA hH2 Z (zt (block (loop (S := Nat × Nat × List Int) (fun (i, j, L) => [(5, (.int .i64 (i : Int))), (6, (.int .i64 (j : Int))), (0, v), (1, (.func (.func 141) #[] #[(.pointer (some ⟨b1, 0, none⟩))])), (4, (.slice none 0 0))]) (fun (i, j, L) w1 => Heap [ow g (g + 1) 3 1 encI v L, restL w g, restR w g] w1 ∧ DelAt (fun y : Int => decide (y = n)) l L i j) (fun (i, j, L) => l.length - j) (k, (k + 1), l) (Sub.cons (show some (Value.int .i64 (idx (fun y : Int => decide (y = n)) l)) = some (Value.int .i64 ((k : Nat) : Int)) from by rw [hke]) (Sub.cons (show some (Value.int .i64 (idx (fun y : Int => decide (y = n)) l + 1)) = some (Value.int .i64 ((k + 1 : Nat) : Int)) from by rw [hke]; rfl) (uC Z (uC Z (uC Z (Sub.nil _)))))) ?_ ?_))))))))))
 ·exact ⟨hH2, ⟨om, hk, Z, WE hk hkf hkp, Z⟩⟩
 rintro ⟨i, j, L⟩ w4 ⟨hH5, hD⟩
 have hD8 := hD
 obtain ⟨hij, hjl0, hLl, _, _⟩ := hD8
 refine seq (zr (oM hH5 Z (oM hH5 Z (oY hH5 (z8 T.yS Z (Heap.yI T.zA hH5 (n := 0) Z).is) (oY hH5 (yL Z Z) (zt ?_))))))
 by_cases hc6 : (j : Int) < (L.length : Int)
 ·have hjl : j < l.length := by omega
  refine zO Z (dT hc6) (skip (zN (seq (block (zr (oM hH5 Z (oM hH5 Z (oY hH5 (zP T.yS Z Z (Heap.yI T.zA hH5 (n := 0) Z).is om) (oY hH5 (zE T.yU Z (fun _ hw => Rd.at (Heap.yI T.zA hw (n := 0) Z) (i := (j : Int)) om (j := 0) Z)) (oA hH5 Z (zs (oM hH5 Z (oM hH5 Z (zM Z Z Z hH5 (zDv (Bx.nowM k1 hne hH5 (n := 1) (m := 2) Z Z)) (fun w7 hH8 => (oY hH8 (y6 Z) (zt ?_)))))))))))))))))
  by_cases hc9 : nth L (j : Int) = n
  ·have hdrop : (fun y : Int => decide (y = n)) (nth l (j : Int)) = true := by rw [← hD.nth hjl]; exact decide_eq_true ‹_›
   refine zL Z (zG hc9) (skip (yC (zN (region (oM hH8 Z (oY hH8 (zV Z Z om) (oA hH8 Z (zC (y0 (i, j + 1, L) (uC Z (uC Z (uC Z (uC Z (uC Z (Sub.nil _)))))) (⟨hH8, hD.drop hjl hdrop⟩) om3)))))))))
  have hkeep : (fun y : Int => decide (y = n)) (nth l (j : Int)) = false := by rw [← hD.nth hjl]; exact decide_eq_false ‹_›
  refine zO Z (zF hc9) (zr (oM hH8 Z (oM hH8 Z (oM hH8 Z (oY hH8 (zP T.yS Z Z (Heap.yI T.zA hH8 (n := 0) Z).is om) (x4 (n := 0) (i := (i : Int)) (k := 0) (us := [(.int .i64 (nth L (j : Int)))]) (z := nth L (j : Int)) T.zA Z Z hH8 Z om T.sz3 Z Z Z (Nat.le_of_ble_eq_true Z) (fun w10 hH11 => (zq (oM hH11 Z (oY hH11 (zV Z Z om) (oA hH11 Z (zC (yC (zN (region (oM hH11 Z (oY hH11 (zV Z Z om) (oA hH11 Z (zC ?_)))))))))))))))))))
  refine y0 (i + 1, j + 1, (L.set (i : Int).toNat (nth L (j : Int)))) (uC Z (uC Z (uC Z (uC Z (uC Z (Sub.nil _)))))) (⟨hH11, (by have h := hD.keep hjl hkeep; rw [← hD.nth hjl] at h; exact h)⟩) om3
 refine zL Z (dF hc6) (exit (yZ (xF (z7 (zu (oM hH5 Z (oM hH5 Z (oY hH5 (x6 T.yS Z Z (Heap.yI T.zA hH5 (n := 0) Z).is om) (qY (n := 0) (q := (i : Int).toNat) T.zA (0 : Int) T.uU Z Z hH5 Z om (fun w12 hH13 => (zs (oM hH13 Z (oM hH13 Z (oY hH13 (qT T.yS Z Z (Heap.yI T.zA hH13 (n := 0) Z).is (by simp; omega)) (oA hH13 Z (zt ?_))))))))))))))))
 refine ret (finM hH13 (yN Z (rt Z)) (fun w' hf => ?_))
 first | exact (congrArg (fun q => Own 3 1 encI v q w') (XE hall)).mp hf.1 | exact (congrArg (fun q => Own 3 1 encI (cutv v 1 0 i) q w') (hD.done (by omega) 0)).mp (Own.upto (q := i) (fun _ => rfl) hf.1 (by simp; omega))
theorem c84 {v : Value} {l : List Int} {n : Int} {w : World} (h0 : Rd encI 1 v l w) (hl1 : 1 ≤ l.length) (hn : l.length ≤ 1000000)  :
  Fn Tryz.prog 84 [v, (.int .i64 n)].toArray w (fun u w => Own 3 1 encI u (l.filter fun y => !decide (y = n)) w) := by
 refine fz Tryz.func84 Z kz Z Z (fun hH => (zr (yY Z Z Z hH (fun b1 w2 hH3 => (oA hH3 Z (zs (oM hH3 Z (yV Z Z Z hH3 (c86 (h0.now hH3 (n := 1) Z) om) (fun u6 w4 lo7 hi8 hH5 hv9 => ?_)))))))))
 have hH10 := Heap.xZ hH5 (n := 0) Z
 refine oY hH10 (vF Z Z) ?_
 obtain ⟨g11, hgb12, hgl13⟩ := Ow.blk (show Ow _ _ _ _ _ _ _ _ from hH10.get (n := 0) rfl) (by first | assumption | omega)
 refine vB (g := g11) (n := 0) Z Z Z hH10 Z hgl13 (c98 (Heap.own hH10 (n := 0) Z) hgb12 (Heap.xV hH10 (n := 1) Z) (Heap.ne hH10 (n := 0) (m := 1) Z Z hgl13 (by decide)) om) (fun u16 w14 hH15 hv17 => ?_)
 have hH18 := Heap.xZ hH15 (n := 0) Z
 refine oA hH18 Z (zt (ret (fin ((hH18.sub (sK (sC sR))).front (n := 1) Z) (fun w' hf => (yN Z (rt Z))) (fun w' hf => ?_))))
 exact Heap.own hf (n := 0) Z
theorem c81 {vj : Value} {js : List S.Pr} {x y : Int} {b1 : Nat} {w : World} (k1 : Bx b1 24 [vj] w) (h1 : Rd encP 2 vj js w) (hx : 0 ≤ x ∧ x < (js.length : Int)) (hy : 0 ≤ y ∧ y < (js.length : Int))  :
  Fn Tryz.prog 81 [(.int .i64 x), (.int .i64 y), (.pointer (some ⟨b1, 0, none⟩))].toArray w (fun u _ => u = .bool (S.longer1 js x y)) := by
 refine fz Tryz.func81 Z kz Z Z (fun hH => (zr (oA hH Z (zt (seq (zY (fun w' => Heap [base w] w') T.mixed (fun w1 hr2 => ?_)))))))
 have hH3 := hH.redrawn hr2
 refine zK [0, 1, 2, 3, 4, 5, 6, 7, 8, 9, 10, 11] kz hH3 _ _ _ kz (zJ Z Z (zE T.jD Z (fun _ hw => yM (k1.now hw (n := 0) Z) Z)) (qM Z Z Z (zJ Z Z (zP T.xX Z Z (h1.now hH3 (n := 0) Z).is om) (zJ Z Z (zI T.uW Z) (zJ Z Z (zE T.yT Z (fun _ hw => Rd.at (h1.now hw (n := 0) Z) (i := x) om (j := 0) Z)) (zJ Z Z (zE T.jD Z (fun _ hw => yM (k1.now hw (n := 0) Z) Z)) (qM Z Z Z (zJ Z Z (zP T.xX Z Z (h1.now hH3 (n := 0) Z).is om) (zJ Z Z (zI T.uW Z) (zJ Z Z (zE T.yT Z (fun _ hw => Rd.at (h1.now hw (n := 0) Z) (i := y) om (j := 0) Z)) (zJ Z Z (xJ Z Z) (zJ Z Z (yK Z) (zQ (zX kz (zN (ret (fin hH3 (fun w' hf => (yN Z (rt Z))) (fun w' hf => Z))))))))))))))))))
theorem KC {v vj : Value} {l : List Int} {js : List S.Pr} {b1 : Nat} {w : World} (h0 : Rd encI 1 v l w) (k1 : Bx b1 24 [vj] w) (h1 : Rd encP 2 vj js w) (hn : 1 ≤ l.length) (hn2 : l.length ≤ 1000000) (hin : ∀ i, i < l.length → 0 ≤ nth l (i : Int) ∧ nth l (i : Int) < (js.length : Int))  :
  Fn Tryz.prog 83 [v, (.func (.func 81) #[] #[(.pointer (some ⟨b1, 0, none⟩))])].toArray w (fun u _ => u = .int .i64 (bestTo (S.longer1 js) l (l.length - 1))) := by
 refine fz Tryz.func83 Z kz Z Z (fun hH => ?_)
 have hd : (l.drop 1).length = l.length - 1 := List.length_drop
 refine zr (oA hH Z (zs (oM hH Z (oY hH (zP T.yS Z Z (h0.now hH (n := 0) Z).is om) (oY hH (zE T.yU Z (fun _ hw => Rd.at (h0.now hw (n := 0) Z) (i := 0) om (j := 0) Z)) (oA hH Z (zt (seq (zr (oM hH Z (oY hH (x6 T.yS Z Z (h0.now hH (n := 0) Z).is om) (oY hH (z8 T.yS Z (Rd.from (h0.now hH (n := 0) Z) (lo := 1) om).is) (oM hH Z (zt ?_))))))))))))))
 refine block (loop (S := Nat) (fun k => [(14, (.int .i64 (k : Int))), (5, (.int .i64 (bestTo (S.longer1 js) l k))), (1, (.func (.func 81) #[] #[(.pointer (some ⟨b1, 0, none⟩))])), (4, (.int .i64 0)), (12, (cutv v 1 1 l.length)), (13, (.int .i64 ((l.drop 1).length : Int)))]) (fun k w1 => Heap [base w] w1 ∧ k ≤ (l.drop 1).length) (fun k => (l.drop 1).length - k) (0) (uC Z (uC Z (uC Z (uC Z (uC Z (uC Z (Sub.nil _))))))) ?_ ?_)
 ·exact ⟨hH, om⟩
 rintro k w1 ⟨hH2, hk⟩
 refine zr (oY hH2 (yL Z Z) (zt (seq ?_)))
 by_cases hc3 : (k : Int) < ((l.drop 1).length : Int)
 ·refine zO Z (dT hc3) (skip (zN (seq (block (zr (oY hH2 (zP T.yS Z Z (Rd.from (h0.now hH2 (n := 0) Z) (lo := 1) om).is om) (oY hH2 (zE T.yU Z (fun _ hw => Rd.at (Rd.from (h0.now hw (n := 0) Z) (lo := 1) om) (i := (k : Int)) om (j := 0) Z)) (oA hH2 Z (zt (seq ?_))))))))))
  have hk1 := hin (1 + k) (by omega)
  rw [← uK l 1 k] at hk1
  have hb1 : 0 ≤ (bestTo (S.longer1 js) l k) ∧ (bestTo (S.longer1 js) l k) < (js.length : Int) := qS (l := l) (q := fun x : Int => 0 ≤ x ∧ x < (js.length : Int)) hin k (by omega)
  refine region (oM hH2 Z (oM hH2 Z (oM hH2 Z (zM Z Z Z hH2 (c81 (k1.now hH2 (n := 0) Z) (h1.now hH2 (n := 0) Z) om om) (fun w4 hH5 => (zt ?_))))))
  by_cases hc6 : S.longer1 js (nth (l.drop 1) (k : Int)) (bestTo (S.longer1 js) l k) = true
  ·have hp : S.longer1 js (nth (l.drop 1) (k : Int)) (bestTo (S.longer1 js) l k) = true := hc6
   refine zO Z hc6 (region (oM hH5 Z (oA hH5 Z (zC (yC (zN (region (oY hH5 (zV Z Z om) (oM hH5 Z (zC (y0 (k + 1) (uC Z (Sub.cons (by first | (rw [uV hp]; rfl) | (rw [vU hp]; rfl)) (uC Z (uC Z (uC Z (uC Z (Sub.nil _))))))) (⟨hH5, om⟩) om3)))))))))))
  have hp : S.longer1 js (nth (l.drop 1) (k : Int)) (bestTo (S.longer1 js) l k) = false := (Bool.eq_false_iff.2 hc6)
  refine zL Z (Bool.eq_false_iff.2 hc6) (skip (yC (zN (region (oY hH5 (zV Z Z om) (oM hH5 Z (zC (y0 (k + 1) (uC Z (Sub.cons (by first | (rw [uV hp]; rfl) | (rw [vU hp]; rfl)) (uC Z (uC Z (uC Z (uC Z (Sub.nil _))))))) (⟨hH5, om⟩) om3))))))))
 refine zL Z (dF hc3) (exit (yZ (xF (z7 (zu (oM hH2 Z (oA hH2 Z (zt (ret (fin hH2 (fun w' hf => (yN Z (rt Z))) (fun w' hf => ?_)))))))))))
 have hk2 : k = l.length - 1 := by omega
 subst hk2; rfl
theorem c82 {vj : Value} {js : List S.Pr} {x y : Int} {b1 : Nat} {w : World} (k1 : Bx b1 24 [vj] w) (h1 : Rd encP 2 vj js w) (hx : 0 ≤ x ∧ x < (js.length : Int)) (hy : 0 ≤ y ∧ y < (js.length : Int))  :
  Fn Tryz.prog 82 [(.int .i64 x), (.int .i64 y), (.pointer (some ⟨b1, 0, none⟩))].toArray w (fun u _ => u = .bool (S.longer2 js x y)) := by
 refine fz Tryz.func82 Z kz Z Z (fun hH => (zr (oA hH Z (zt (seq (zY (fun w' => Heap [base w] w') T.mixed (fun w1 hr2 => ?_)))))))
 have hH3 := hH.redrawn hr2
 refine zK [0, 1, 2, 3, 4, 5, 6, 7, 8, 9, 10, 11] kz hH3 _ _ _ kz (zJ Z Z (zE T.jD Z (fun _ hw => yM (k1.now hw (n := 0) Z) Z)) (qM Z Z Z (zJ Z Z (zP T.xX Z Z (h1.now hH3 (n := 0) Z).is om) (zJ Z Z (zI T.kL Z) (zJ Z Z (zE T.yT Z (fun _ hw => Rd.at (h1.now hw (n := 0) Z) (i := x) om (j := 1) Z)) (zJ Z Z (zE T.jD Z (fun _ hw => yM (k1.now hw (n := 0) Z) Z)) (qM Z Z Z (zJ Z Z (zP T.xX Z Z (h1.now hH3 (n := 0) Z).is om) (zJ Z Z (zI T.kL Z) (zJ Z Z (zE T.yT Z (fun _ hw => Rd.at (h1.now hw (n := 0) Z) (i := y) om (j := 1) Z)) (zJ Z Z (xJ Z Z) (zJ Z Z (yK Z) (zQ (zX kz (zN (ret (fin hH3 (fun w' hf => (yN Z (rt Z))) (fun w' hf => Z))))))))))))))))))
theorem KW {v vj : Value} {l : List Int} {js : List S.Pr} {b1 : Nat} {w : World} (h0 : Rd encI 1 v l w) (k1 : Bx b1 24 [vj] w) (h1 : Rd encP 2 vj js w) (hn : 1 ≤ l.length) (hn2 : l.length ≤ 1000000) (hin : ∀ i, i < l.length → 0 ≤ nth l (i : Int) ∧ nth l (i : Int) < (js.length : Int))  :
  Fn Tryz.prog 83 [v, (.func (.func 82) #[] #[(.pointer (some ⟨b1, 0, none⟩))])].toArray w (fun u _ => u = .int .i64 (bestTo (S.longer2 js) l (l.length - 1))) := by
 refine fz Tryz.func83 Z kz Z Z (fun hH => ?_)
 have hd : (l.drop 1).length = l.length - 1 := List.length_drop
 refine zr (oA hH Z (zs (oM hH Z (oY hH (zP T.yS Z Z (h0.now hH (n := 0) Z).is om) (oY hH (zE T.yU Z (fun _ hw => Rd.at (h0.now hw (n := 0) Z) (i := 0) om (j := 0) Z)) (oA hH Z (zt (seq (zr (oM hH Z (oY hH (x6 T.yS Z Z (h0.now hH (n := 0) Z).is om) (oY hH (z8 T.yS Z (Rd.from (h0.now hH (n := 0) Z) (lo := 1) om).is) (oM hH Z (zt ?_))))))))))))))
 refine block (loop (S := Nat) (fun k => [(14, (.int .i64 (k : Int))), (5, (.int .i64 (bestTo (S.longer2 js) l k))), (1, (.func (.func 82) #[] #[(.pointer (some ⟨b1, 0, none⟩))])), (4, (.int .i64 0)), (12, (cutv v 1 1 l.length)), (13, (.int .i64 ((l.drop 1).length : Int)))]) (fun k w1 => Heap [base w] w1 ∧ k ≤ (l.drop 1).length) (fun k => (l.drop 1).length - k) (0) (uC Z (uC Z (uC Z (uC Z (uC Z (uC Z (Sub.nil _))))))) ?_ ?_)
 ·exact ⟨hH, om⟩
 rintro k w1 ⟨hH2, hk⟩
 refine zr (oY hH2 (yL Z Z) (zt (seq ?_)))
 by_cases hc3 : (k : Int) < ((l.drop 1).length : Int)
 ·refine zO Z (dT hc3) (skip (zN (seq (block (zr (oY hH2 (zP T.yS Z Z (Rd.from (h0.now hH2 (n := 0) Z) (lo := 1) om).is om) (oY hH2 (zE T.yU Z (fun _ hw => Rd.at (Rd.from (h0.now hw (n := 0) Z) (lo := 1) om) (i := (k : Int)) om (j := 0) Z)) (oA hH2 Z (zt (seq ?_))))))))))
  have hk1 := hin (1 + k) (by omega)
  rw [← uK l 1 k] at hk1
  have hb1 : 0 ≤ (bestTo (S.longer2 js) l k) ∧ (bestTo (S.longer2 js) l k) < (js.length : Int) := qS (l := l) (q := fun x : Int => 0 ≤ x ∧ x < (js.length : Int)) hin k (by omega)
  refine region (oM hH2 Z (oM hH2 Z (oM hH2 Z (zM Z Z Z hH2 (c82 (k1.now hH2 (n := 0) Z) (h1.now hH2 (n := 0) Z) om om) (fun w4 hH5 => (zt ?_))))))
  by_cases hc6 : S.longer2 js (nth (l.drop 1) (k : Int)) (bestTo (S.longer2 js) l k) = true
  ·have hp : S.longer2 js (nth (l.drop 1) (k : Int)) (bestTo (S.longer2 js) l k) = true := hc6
   refine zO Z hc6 (region (oM hH5 Z (oA hH5 Z (zC (yC (zN (region (oY hH5 (zV Z Z om) (oM hH5 Z (zC (y0 (k + 1) (uC Z (Sub.cons (by first | (rw [uV hp]; rfl) | (rw [vU hp]; rfl)) (uC Z (uC Z (uC Z (uC Z (Sub.nil _))))))) (⟨hH5, om⟩) om3)))))))))))
  have hp : S.longer2 js (nth (l.drop 1) (k : Int)) (bestTo (S.longer2 js) l k) = false := (Bool.eq_false_iff.2 hc6)
  refine zL Z (Bool.eq_false_iff.2 hc6) (skip (yC (zN (region (oY hH5 (zV Z Z om) (oM hH5 Z (zC (y0 (k + 1) (uC Z (Sub.cons (by first | (rw [uV hp]; rfl) | (rw [vU hp]; rfl)) (uC Z (uC Z (uC Z (uC Z (Sub.nil _))))))) (⟨hH5, om⟩) om3))))))))
 refine zL Z (dF hc3) (exit (yZ (xF (z7 (zu (oM hH2 Z (oA hH2 Z (zt (ret (fin hH2 (fun w' hf => (yN Z (rt Z))) (fun w' hf => ?_)))))))))))
 have hk2 : k = l.length - 1 := by omega
 subst hk2; rfl
theorem c85 {v vb vt : Value} {js : List S.Pr} {B U : List Int} {one b : Int} {w : World} (h0 : Rd encP 2 v js w) (hB : Rd encI 1 vb B w) (hT : Rd encI 1 vt U w) (hn : js.length ≤ 1000) (hb : 0 ≤ b ∧ b ≤ 1)  :
  Fn Tryz.prog 85 [v, vb, vt, (.int .i64 one), (.int .i64 b)].toArray w (fun u w => ∃ f, u = .agg #[vb, vt, f] ∧ Own 3 1 encI f (S.firstsTo one b js.length) w) := by
 refine fz Tryz.func85 Z kz Z Z (fun hH => ?_)
 obtain ⟨ab, cb, hvb, _⟩ := hB.is
 obtain ⟨at_, ct, hvt, _⟩ := hT.is
 refine zr (yD (z := (.agg #[(.slice none 0 0), (.slice none 0 0), (.slice none 0 0)])) (fun _ => by kernel_rfl) Z Z hH (fun b1 w2 hH3 => (zs (oM hH3 Z (oM hH3 Z (oY hH3 (yR (v := (.agg #[vb, vt, (.slice none 0 0)])) Z (fun w => by rw [hvb, hvt]; kernel_rfl)) (yD (z := (.agg #[(.slice none 0 0), (.slice none 0 0), (.slice none 0 0)])) (fun _ => by kernel_rfl) Z Z hH3 (fun b4 w5 hH6 => (zS (n := 0) (j := 0) Z Z hH6 Z T.VL Z Z Z (xK (SliceIs.uT (hB.now hH6 (n := 2) Z).is) (xK (SliceIs.uT (hT.now hH6 (n := 2) Z).is) (xK Z Z))) (fun w7 hH8 => (zt (seq (zr (oM hH8 Z (oY hH8 (z8 T.xX Z (h0.now hH8 (n := 2) Z).is) (oM hH8 Z (zt ?_)))))))))))))))))
 refine block ?_
 have hH9 := v8 (enc := encI) 3 1 hH8
 refine loop (S := Nat × Value × Nat × Nat) (fun (k, v_b11, lo_b11, hi_b11) => [(19, (.int .i64 (k : Int))), (3, (.int .i64 one)), (4, (.int .i64 b)), (10, (.pointer (some ⟨b1, 0, none⟩))), (11, (.pointer (some ⟨b4, 0, none⟩))), (18, (.int .i64 (js.length : Int)))]) (fun (k, v_b11, lo_b11, hi_b11) w1 => Heap [ow lo_b11 hi_b11 3 1 encI v_b11 (S.firstsTo one b k), bx b4 48 [vb, vt, v_b11], bx b1 48 [(.slice none 0 0), (.slice none 0 0), (.slice none 0 0)], base w] w1 ∧ k ≤ js.length) (fun (k, v_b11, lo_b11, hi_b11) => js.length - k) (0, (.slice none 0 0), w7.heap.size, w7.heap.size) (uC Z (uC Z (uC Z (uC Z (uC Z (uC Z (Sub.nil _))))))) ?_ ?_
 ·exact ⟨hH9, om⟩
 rintro ⟨k, v_b11, lo_b11, hi_b11⟩ w10 ⟨hH11, hk⟩
 refine zr (oY hH11 (yL Z Z) (zt (seq ?_)))
 by_cases hc12 : (k : Int) < (js.length : Int)
 ·refine zO Z (dT hc12) (skip (zN (seq (block (zr (oM hH11 Z (oA hH11 Z (zs (oM hH11 Z (oY hH11 (y8 Z Z om) (oA hH11 Z (zt (seq (zr (oM hH11 Z ?_)))))))))))))))
  refine oM hH11 Z (oY hH11 (y5 Z Z) (zt ?_))
  by_cases hc13 : (k : Int) = one
  ·refine zO Z (dT hc13) (region (oM hH11 Z (oA hH11 Z (zt ?_))))
   have hfl := S.firstsTo_length one b k
   refine region (oY hH11 (zI T.qI Z) (oY hH11 (zE T.xB Z (cw (n := 1) Z Z)) (oM hH11 Z (z2 T.zA [b] Z (fun w => by kernel_rfl) hH11 (fun u14 lo16 hi17 w15 hH18 => (yB (n := 1) T.zA Z Z Z hH18 Z (Heap.yI T.zA hH18 (n := 0) Z) om2 (fun u19 lo21 hi22 w20 hH23 => (oY hH23 (zI T.qI Z) (zS (n := 2) (j := 2) Z Z hH23 Z T.ZK (SliceIs.cells (Heap.yI T.zA hH23 (n := 1) Z).is) Z Z (SliceIs.one (Heap.yI T.zA hH23 (n := 1) Z).is) (fun w24 hH25 => (zC (yC (zN (region (oY hH25 (zV Z Z om) (oM hH25 Z (zC (y0 (k + 1, u19, lo21, hi22) (uC Z (uC Z (uC Z (uC Z (uC Z (uC Z (Sub.nil _))))))) (⟨(Heap.y1 (n := 0) (hH25.sub (sC sR)) Z (by first | (rw [S.firsts_t ‹_›]; done) | (rw [S.firsts_f ‹_›]; done))), om⟩) om3))))))))))))))))))
  refine zL Z (dF hc13) (skip (zN ?_))
  have hfl := S.firstsTo_length one b k
  refine region (oY hH11 (zI T.qI Z) (oY hH11 (zE T.xB Z (cw (n := 1) Z Z)) (oM hH11 Z (z2 T.zA [1 - b] Z (fun w => by kernel_rfl) hH11 (fun u27 lo29 hi30 w28 hH31 => (yB (n := 1) T.zA Z Z Z hH31 Z (Heap.yI T.zA hH31 (n := 0) Z) om2 (fun u32 lo34 hi35 w33 hH36 => (oY hH36 (zI T.qI Z) (zS (n := 2) (j := 2) Z Z hH36 Z T.ZK (SliceIs.cells (Heap.yI T.zA hH36 (n := 1) Z).is) Z Z (SliceIs.one (Heap.yI T.zA hH36 (n := 1) Z).is) (fun w37 hH38 => (zC (yC (zN (region (oY hH38 (zV Z Z om) (oM hH38 Z (zC (y0 (k + 1, u32, lo34, hi35) (uC Z (uC Z (uC Z (uC Z (uC Z (uC Z (Sub.nil _))))))) (⟨(Heap.y1 (n := 0) (hH38.sub (sC sR)) Z (by first | (rw [S.firsts_t ‹_›]; done) | (rw [S.firsts_f ‹_›]; done))), om⟩) om3))))))))))))))))))
 refine zL Z (dF hc12) (exit (yZ (xF (z7 (zu (oY hH11 (zW (cs := [vb, vt, v_b11]) T.uF Z Z (fun _ hw => Heap.yH hw (n := 1) Z (k := 0) Z)) (zS (n := 2) (j := 0) Z Z hH11 Z T.VL Z Z Z (xK (SliceIs.uT (hB.now hH11 (n := 3) Z).is) (xK (SliceIs.uT (hT.now hH11 (n := 3) Z).is) (xK (SliceIs.uT (Heap.yI T.zA hH11 (n := 0) Z).is) Z))) (fun w40 hH41 => (zt (ret (fin ((hH41.sub (sK (sC sR))).front (n := 2) Z) (fun w' hf => (yN Z (rvA (cs := [vb, vt, v_b11]) Z T.uF Z (y3 (Heap.xV hf (n := 2) Z) (k := 0) Z)))) (fun w' hf => ?_))))))))))))
 have hk2 : k = js.length := by omega
 subst hk2; exact ⟨_, rfl, Heap.own hf (n := 0) rfl⟩
end Go.Fip
