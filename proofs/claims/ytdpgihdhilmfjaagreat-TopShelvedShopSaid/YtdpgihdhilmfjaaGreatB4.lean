/- Joined texts: what the statement needs, walks by program (wip/tools). -/
import Derived.Test.YtdpgihdhilmfjaaGreatB3
import Derived.Test.YtdpgihdhilmfjaaGreatB2
import Derived.Test.YtdpgihdhilmfjaaGreatB1
import Derived.Laws.Entries
set_option linter.unusedVariables false
set_option linter.unusedSimpArgs false
set_option linter.unusedSectionVars false
set_option linter.unnecessarySimpa false
namespace Go.Fip
open Go.Proofs Go.RowKit
theorem Heap.zBs {E sz n lo hi : Nat} {b t f : Value} {xs : List Int} {enc : Int → List Value} {H : List Item} {w : World} (hH : Heap H w)
  (hn : H[n]? = some ⟨lo, hi, fun w => ∃ q, (Value.agg #[b, t, f] : Value) = .agg #[b, t, q] ∧ Own E sz enc q xs w⟩) : Heap (H.set n (ow lo hi E sz enc f xs)) w := by
 have h1 := hH.weaken hn (φ := Own E sz enc f xs) (fun w' h => by
  obtain ⟨q, e, h⟩ := h
  cases e
  exact h)
 have hlt : n < H.length := (List.getElem?_eq_some_iff.1 hn).1
 have h2 := Heap.xZ (n := n) h1 (by rw [List.getElem?_set_self hlt])
 rwa [List.set_set] at h2
def Rd3 (b t f : Value) (B U F : List Int) (w : World) : Prop := Rd encI 1 b B w ∧ Rd encI 1 t U w ∧ Rd encI 1 f F w
theorem Heap.rd3 {n lo hi : Nat} {b t f : Value} {B U F : List Int} {H : List Item} {w : World} (hH : Heap H w)
  (hn : H[n]? = some ⟨lo, hi, fun w => ∃ b' t' f', (Value.agg #[b, t, f] : Value) = .agg #[b', t', f'] ∧ Rd3 b' t' f' B U F w⟩) : Heap (H.set n ⟨lo, hi, Rd3 b t f B U F⟩) w :=
 hH.weaken hn (φ := Rd3 b t f B U F) (fun w' h => by
  obtain ⟨b', t', f', e, h⟩ := h
  cases e
  exact h)
theorem Heap.xM {n lo hi : Nat} {b t f : Value} {B U F : List Int} {H : List Item} {w : World} (hH : Heap H w) (hn : H[n]? = some ⟨lo, hi, Rd3 b t f B U F⟩) : Rd3 b t f B U F w := hH.get hn
theorem c27 {v : Value} {js : List S.Pr} {w : World} (h0 : Rd encP 2 v js w) (hj : S.Jobs js)  :
  Fn Tryz.prog 27 [v].toArray w (fun u w => ∃ b t f, u = .agg #[b, t, f] ∧ Rd3 b t f (S.planOrd js).1 (S.planOrd js).2.1 (S.planOrd js).2.2 w) := by
 refine fz Tryz.func27 Z kz Z Z (fun hH => ?_)
 have hl1 := hj.1
 have hl8 := hj.2.1
 refine zr (yY (us := [v]) Z (SliceIs.cells (h0.now hH (n := 0) Z).is) Z hH (fun b1 w2 hH3 => (yD (z := (.agg #[(.slice none 0 0), (.slice none 0 0), (.slice none 0 0)])) (fun _ => by kernel_rfl) Z Z hH3 (fun b4 w5 hH6 => (zs (oA hH6 Z (oA hH6 Z (zt (seq (zr (oY hH6 (zE T.jD Z (cw (n := 1) Z Z)) (oY hH6 (z8 T.xX Z (h0.now hH6 (n := 2) Z).is) (oM hH6 Z (zt (block ?_)))))))))))))))
 have hH8 := v8 (enc := encI) 3 1 (v8 (enc := encI) 3 1 hH6)
 refine loop (S := Nat × Value × Nat × Nat × Value × Nat × Nat) (fun (k, v_3, lo_3, hi_3, v_4, lo_4, hi_4) => [(15, (.int .i64 (k : Int))), (3, v_3), (4, v_4), (1, (.pointer (some ⟨b1, 0, none⟩))), (2, (.pointer (some ⟨b4, 0, none⟩))), (13, v), (14, (.int .i64 (js.length : Int)))]) (fun (k, v_3, lo_3, hi_3, v_4, lo_4, hi_4) w1 => Heap [ow lo_4 hi_4 3 1 encI v_4 (S.longsTo js k), ow lo_3 hi_3 3 1 encI v_3 (S.shortsTo js k), bx b4 48 [(.slice none 0 0), (.slice none 0 0), (.slice none 0 0)], bx b1 24 [v], base w] w1 ∧ k ≤ js.length) (fun (k, v_3, lo_3, hi_3, v_4, lo_4, hi_4) => js.length - k) (0, (.slice none 0 0), w5.heap.size, w5.heap.size, (.slice none 0 0), w5.heap.size, w5.heap.size) (uC Z (uC Z (uC Z (uC Z (uC Z (uC Z (uC Z (Sub.nil _)))))))) ?_ ?_
 ·exact ⟨(Heap.y1 (n := 0) (Heap.y1 (n := 1) hH8 Z (Z)) Z (Z)), om⟩
 rintro ⟨k, v_3, lo_3, hi_3, v_4, lo_4, hi_4⟩ w9 ⟨hH10, hk⟩
 refine zr (oY hH10 (yL Z Z) (zt (seq ?_)))
 by_cases hc11 : (k : Int) < (js.length : Int)
 ·refine zO Z (dT hc11) (skip (zN (seq (block (zr (oM hH10 Z (oY hH10 (zP T.xX Z Z (h0.now hH10 (n := 4) Z).is om) (oY hH10 (zW (cs := [(.int .i64 ((nth js (k : Int)).1)), (.int .i64 ((nth js (k : Int)).2))]) T.zA2 Z Z (fun _ hw => Rd.KB (h0.now hw (n := 4) Z) (i := (k : Int)) om)) (yD (z := (.agg #[(.int .i64 0), (.int .i64 0)])) (fun _ => by kernel_rfl) Z Z hH10 (fun b12 w13 hH14 => (oA hH14 Z (zS (n := 0) (j := 0) Z Z hH14 Z T.zDd Z Z Z (by rfl) (fun w15 hH16 => (zt (seq ?_)))))))))))))))
  have hpk := S.parts_length (l := js) k
  refine region (oY hH16 (zI T.uW Z) (oY hH16 (zE T.yT Z (cw (n := 0) Z Z)) (oY hH16 (zI T.kL Z) (oY hH16 (zE T.yT Z (cw (n := 0) Z Z)) (oY hH16 (uS Z Z) (zt ?_))))))
  by_cases hc17 : ((nth js (k : Int)).1) ≤ ((nth js (k : Int)).2)
  ·refine zO Z (dT hc17) (region (oM hH16 Z (oM hH16 Z (z2 T.zA [(k : Int)] Z (fun w => by kernel_rfl) hH16 (fun u18 lo20 hi21 w19 hH22 => (yB (n := 3) T.zA Z Z Z hH22 Z (Heap.yI T.zA hH22 (n := 0) Z) om2 (fun u23 lo25 hi26 w24 hH27 => (oA hH27 Z (zC (yC (zN (region (oY hH27 (zV Z Z om) (oM hH27 Z (zC (y0 (k + 1, u23, lo25, hi26, v_4, lo_4, hi_4) (uC Z (uC Z (uC Z (uC Z (uC Z (uC Z (uC Z (Sub.nil _)))))))) (⟨(Heap.y1 (n := 0) (Heap.y1 (n := 1) (hH27.sub (sC (sC sR))) Z (by first | rw [(S.sh_t ‹_›).1] | rw [(S.sh_f ‹_›).1])) Z (by first | rw [(S.sh_t ‹_›).2] | rw [(S.sh_f ‹_›).2])), om⟩) om3))))))))))))))))
  refine zL Z (dF hc17) (region (oM hH16 Z (oM hH16 Z (z2 T.zA [(k : Int)] Z (fun w => by kernel_rfl) hH16 (fun u29 lo31 hi32 w30 hH33 => (yB (n := 2) T.zA Z Z Z hH33 Z (Heap.yI T.zA hH33 (n := 0) Z) om2 (fun u34 lo36 hi37 w35 hH38 => (oA hH38 Z (zC (yC (zN (region (oY hH38 (zV Z Z om) (oM hH38 Z (zC (y0 (k + 1, v_3, lo_3, hi_3, u34, lo36, hi37) (uC Z (uC Z (uC Z (uC Z (uC Z (uC Z (uC Z (Sub.nil _)))))))) (⟨(Heap.y1 (n := 0) (Heap.y1 (n := 1) (hH38.sub (sC (sC sR))) Z (by first | rw [(S.sh_t ‹_›).1] | rw [(S.sh_f ‹_›).1])) Z (by first | rw [(S.sh_t ‹_›).2] | rw [(S.sh_f ‹_›).2])), om⟩) om3))))))))))))))))
 have hk2 : k = js.length := by omega
 have hpk := S.parts_length (l := js) k
 refine zL Z (dF hc11) (exit (yZ (xF (z7 (zu (oY hH10 (vF Z Z) (oA hH10 Z (zs (oY hH10 (vF Z Z) (oA hH10 Z (zt (seq (seq ?_)))))))))))))
 have hs1 := S.shortR_in (l := js) (k := k)
 have hs2 := S.longR_in (l := js) (k := k)
 unfold S.shortR at hs1
 unfold S.longR at hs2
 refine zY (fun w' => Heap [ow lo_4 hi_4 3 1 encI v_4 (S.longsTo js k), ow lo_3 hi_3 3 1 encI v_3 (S.shortsTo js k), bx b4 48 [(.slice none 0 0), (.slice none 0 0), (.slice none 0 0)], bx b1 24 [v], base w] w') T.mixed (fun w40 hr41 => ?_)
 have hH42 := hH10.redrawn hr41
 refine zK [0, 1, 2, 3] kz hH42 _ _ _ kz (qM Z Z Z (zJ Z Z (z8 T.yS Z (Heap.yI T.zA hH42 (n := 0) Z).is) (zJ Z Z (y5 Z Z) (qM Z Z Z (zQ ?_)))))
 by_cases hc43 : ((S.longsTo js k).length : Int) = 0
 ·refine zK [4, 5, 6, 7, 8, 9, 10, 11, 12, 13, 14, 15, 16, 17, 18, 19, 20, 21, 22, 23, 24] kz hH42 _ _ _ kz (yO Z Z Z (dT hc43) Z (yO Z Z Z (dT hc43) Z (yO Z Z Z (dT hc43) Z (yO Z Z Z (dT hc43) Z (xC Z Z Z Z (xC Z Z Z Z (xC Z Z Z Z (xC Z Z Z Z (xC Z Z Z Z (xC Z Z Z Z (xC Z Z Z Z (xC Z Z Z Z (xC Z Z Z Z (xC Z Z Z Z (xC Z Z Z Z (xC Z Z Z Z (xC Z Z Z Z (xC Z Z Z Z (xC Z Z Z Z (yO Z Z Z (dT hc43) Z (zJ Z Z (zU Z (dT hc43) Z) ?_)))))))))))))))))))))
  refine zQ (zX kz (zN (zO Z Z (seq ?_))))
  have hus : S.useShort js k := by unfold S.useShort S.longR S.shortR; omega
  have hsr := S.shortR_in (l := js) (k := k) (by omega)
  have hfl := List.length_filter_le (fun y : Int => !decide (y = S.shortR js k)) (S.shortsTo js k)
  unfold S.shortR at hfl hsr
  refine region (oM hH42 Z (oM hH42 Z (zM Z Z Z hH42 (KC (Heap.yI T.zA hH42 (n := 1) Z) (Heap.xV hH42 (n := 3) Z) (h0.now hH42 (n := 4) Z) om om (fun i hi => by have := S.shorts_in i hi; omega)) (fun w44 hH45 => (oA hH45 Z (zs (oM hH45 Z (oM hH45 Z (yV Z Z Z hH45 (c84 (Heap.yI T.zA hH45 (n := 1) Z) om om) (fun u48 w46 lo49 hi50 hH47 hv51 => ?_))))))))))
  have hH52 := Heap.xZ hH47 (n := 0) Z
  refine oM hH52 Z (yB (n := 0) T.zA Z Z Z hH52 Z (Heap.yI T.zA hH52 (n := 1) Z) om2 (fun u53 lo55 hi56 w54 hH57 => (oA hH57 Z (zt (seq (zY (fun w' => Heap [ow lo55 hi56 3 1 encI u53 (((S.shortsTo js k).filter fun y => !decide (y = (bestTo (S.longer1 js) (S.shortsTo js k) ((S.shortsTo js k).length - 1)))) ++ (S.longsTo js k)), ow lo_4 hi_4 3 1 encI v_4 (S.longsTo js k), ow lo_3 hi_3 3 1 encI v_3 (S.shortsTo js k), bx b1 24 [v], base w] w') T.mixed (fun w58 hr59 => ?_)))))))
  have hH60 := hH57.redrawn hr59
  refine zK [0, 1, 3, 6, 8, 10] kz (hH60.sub (sK (sK (sK (sC sR))))) _ _ _ kz (zJ Z Z (zE T.jD Z (cw (n := 3) Z Z)) (qM Z Z Z (qM Z Z Z (qM Z Z Z (qM Z Z Z (qM Z Z Z (zQ (Y5 (Z := Value × Nat × Nat × Value × Nat × Nat) (fun (v_c74, lo_c74, hi_c74, v_c78, lo_c78, hi_c78) => [(74, v_c74), (78, v_c78), (1, (.pointer (some ⟨b1, 0, none⟩))), (2, (.pointer (some ⟨b4, 0, none⟩))), (3, v_3), (4, v_4), (8, (.func (.func 82) #[] #[(.pointer (some ⟨b1, 0, none⟩))])), (69, v), (79, (.int .i64 (bestTo (S.longer1 js) (S.shortsTo js k) ((S.shortsTo js k).length - 1))))]) (fun (v_c74, lo_c74, hi_c74, v_c78, lo_c78, hi_c78) w1 => Heap [ow lo_c74 hi_c74 3 1 encI v_c74 ((((S.shortsTo js k).filter fun y => !decide (y = (bestTo (S.longer1 js) (S.shortsTo js k) ((S.shortsTo js k).length - 1)))) ++ (S.longsTo js k)) ++ [(bestTo (S.longer1 js) (S.shortsTo js k) ((S.shortsTo js k).length - 1))]), ow lo_c78 hi_c78 3 1 encI v_c78 ([(bestTo (S.longer1 js) (S.shortsTo js k) ((S.shortsTo js k).length - 1))] ++ (((S.shortsTo js k).filter fun y => !decide (y = (bestTo (S.longer1 js) (S.shortsTo js k) ((S.shortsTo js k).length - 1)))) ++ (S.longsTo js k))), ow lo55 hi56 3 1 encI u53 (((S.shortsTo js k).filter fun y => !decide (y = (bestTo (S.longer1 js) (S.shortsTo js k) ((S.shortsTo js k).length - 1)))) ++ (S.longsTo js k)), ow lo_4 hi_4 3 1 encI v_4 (S.longsTo js k), ow lo_3 hi_3 3 1 encI v_3 (S.shortsTo js k), bx b4 48 [(.slice none 0 0), (.slice none 0 0), (.slice none 0 0)], bx b1 24 [v], base w] w1) 2 #[true, true, true, true, true, true, true, true, true, true, true, false, false] ?_ (fun hM => ?_)))))))))
  ·rintro ⟨v_c74, lo_c74, hi_c74, v_c78, lo_c78, hi_c78⟩ w61 hH62
   refine z1 11 kz Z (yV Z Z Z hH62 (c85 (h0.now hH62 (n := 7) Z) (Heap.yI T.zA hH62 (n := 0) Z) (Heap.yI T.zA hH62 (n := 1) Z) om om) (fun u65 w63 lo66 hi67 hH64 hv68 => ?_))
   obtain ⟨f70, hu, -⟩ := hv68
   subst hu
   have hH69 := Heap.zBs hH64 (n := 0) Z
   refine zC (⟨(hH69.sub (sC (sC (sC (sK (sK (sK (sC sR)))))))), (z1 12 kz Z (zS (n := 6) (j := 0) Z Z hH69 Z T.VL Z Z Z (xK (SliceIs.uT (Heap.yI T.zA hH69 (n := 1) Z).is) (xK (SliceIs.uT (Heap.yI T.zA hH69 (n := 2) Z).is) (xK (SliceIs.uT (Heap.yI T.zA hH69 (n := 0) Z).is) Z))) (fun w71 hH72 => (zC (⟨(hH72.sub (sC (sC (sC (sK (sK (sK (sC sR)))))))), (zX kz (zN (ret (z6 (fin ((hH72.sub (sK (sK (sK (sC (sC (sC (sK (sC sR))))))))).front (n := 4) Z) (fun w' hf => (yN Z (rvA (cs := [v_c74, v_c78, f70]) Z T.uF Z (y3 (Heap.xV hf (n := 4) Z) (k := 0) Z)))) (fun w' hf => ?_))))))⟩)))))⟩)
   rw [S.planOrd_t hk2 hus]; exact ⟨_, _, _, rfl, Heap.yI T.zA hf (n := 1) rfl, Heap.yI T.zA hf (n := 2) rfl, Heap.yI T.zA hf (n := 0) rfl⟩
  refine xH [2, 4, 7] kz Z (⟨⟨_, Z, ?_⟩, ⟨_, Z, ?_⟩, ⟨_, Z, ?_⟩, trivial⟩)
  ·refine yV Z Z Z hH60 (c86 (Heap.yI T.zA hH60 (n := 0) Z) (by rw [List.length_append]; omega)) (fun u76 w74 lo77 hi78 hH75 hv79 => ?_)
   have hH80 := Heap.xZ hH75 (n := 0) Z
   refine zC (⟨(hH80.sub (sC (sK (sK (sK (sC sR)))))), (xH [4, 7] kz Z (⟨⟨_, Z, ?_⟩, ⟨_, Z, ?_⟩, trivial⟩))⟩)
   ·refine z2 T.zA [(bestTo (S.longer1 js) (S.shortsTo js k) ((S.shortsTo js k).length - 1))] Z (fun w => by kernel_rfl) hH80 (fun u81 lo83 hi84 w82 hH85 => (zC (⟨(hH85.sub (sC (sC (sK (sK (sK (sC sR))))))), (xH [5, 7] kz Z (⟨⟨_, Z, ?_⟩, ⟨_, Z, ?_⟩, trivial⟩))⟩)))
    ·refine yB (n := 1) T.zA Z Z Z hH85 Z (Heap.yI T.zA hH85 (n := 0) Z) om2 (fun u86 lo88 hi89 w87 hH90 => (zC (⟨(hH90.sub (sC (sC (sK (sK (sK (sC sR))))))), (z1 7 kz Z (z2 T.zA [(bestTo (S.longer1 js) (S.shortsTo js k) ((S.shortsTo js k).length - 1))] Z (fun w => by kernel_rfl) hH90 (fun u91 lo93 hi94 w92 hH95 => (zC (⟨(hH95.sub (sC (sC (sC (sK (sK (sK (sC sR)))))))), (z1 9 kz Z (yB (n := 0) T.zA Z Z Z hH95 Z (Heap.yI T.zA hH95 (n := 3) Z) om2 (fun u96 lo98 hi99 w97 hH100 => (zC (⟨(hH100.sub (sC (sC (sC (sK (sK (sK (sC sR)))))))), ?_⟩)))))⟩)))))⟩)))
     exact hM (u86, lo88, hi89, u96, lo98, hi99) _ _ (uC Z (uC Z (uC Z (uC Z (uC Z (uC Z (uC Z (uC Z (uC Z (Sub.nil _)))))))))) ((hH100.front (n := 2) Z).sub (sK (sK (sC sR))))
    refine z2 T.zA [(bestTo (S.longer1 js) (S.shortsTo js k) ((S.shortsTo js k).length - 1))] Z (fun w => by kernel_rfl) hH85 (fun u103 lo105 hi106 w104 hH107 => (zC (⟨(hH107.sub (sC (sC (sC (sK (sK (sK (sC sR)))))))), (z1 5 kz Z (yB (n := 2) T.zA Z Z Z hH107 Z (Heap.yI T.zA hH107 (n := 1) Z) om2 (fun u108 lo110 hi111 w109 hH112 => (zC (⟨(hH112.sub (sC (sC (sC (sK (sK (sK (sC sR)))))))), (z1 9 kz Z (yB (n := 0) T.zA Z Z Z hH112 Z (Heap.yI T.zA hH112 (n := 3) Z) om2 (fun u113 lo115 hi116 w114 hH117 => (zC (⟨(hH117.sub (sC (sC (sC (sK (sK (sK (sC sR)))))))), ?_⟩)))))⟩)))))⟩)))
    exact hM (u108, lo110, hi111, u113, lo115, hi116) _ _ (uC Z (uC Z (uC Z (uC Z (uC Z (uC Z (uC Z (uC Z (uC Z (Sub.nil _)))))))))) ((hH117.front (n := 2) Z).sub (sK (sK (sC sR))))
   refine z2 T.zA [(bestTo (S.longer1 js) (S.shortsTo js k) ((S.shortsTo js k).length - 1))] Z (fun w => by kernel_rfl) hH80 (fun u120 lo122 hi123 w121 hH124 => (zC (⟨(hH124.sub (sC (sC (sK (sK (sK (sC sR))))))), (z1 4 kz Z (z2 T.zA [(bestTo (S.longer1 js) (S.shortsTo js k) ((S.shortsTo js k).length - 1))] Z (fun w => by kernel_rfl) hH124 (fun u125 lo127 hi128 w126 hH129 => (zC (⟨(hH129.sub (sC (sC (sC (sK (sK (sK (sC sR)))))))), (z1 5 kz Z (yB (n := 2) T.zA Z Z Z hH129 Z (Heap.yI T.zA hH129 (n := 0) Z) om2 (fun u130 lo132 hi133 w131 hH134 => (zC (⟨(hH134.sub (sC (sC (sC (sK (sK (sK (sC sR)))))))), (z1 9 kz Z (yB (n := 1) T.zA Z Z Z hH134 Z (Heap.yI T.zA hH134 (n := 3) Z) om2 (fun u135 lo137 hi138 w136 hH139 => (zC (⟨(hH139.sub (sC (sC (sC (sK (sK (sK (sC sR)))))))), ?_⟩)))))⟩)))))⟩)))))⟩)))
   exact hM (u130, lo132, hi133, u135, lo137, hi138) _ _ (uC Z (uC Z (uC Z (uC Z (uC Z (uC Z (uC Z (uC Z (uC Z (Sub.nil _)))))))))) ((hH139.front (n := 2) Z).sub (sK (sC sR)))
  ·refine z2 T.zA [(bestTo (S.longer1 js) (S.shortsTo js k) ((S.shortsTo js k).length - 1))] Z (fun w => by kernel_rfl) hH60 (fun u142 lo144 hi145 w143 hH146 => (zC (⟨(hH146.sub (sC (sK (sK (sK (sC sR)))))), (xH [2, 7] kz Z (⟨⟨_, Z, ?_⟩, ⟨_, Z, ?_⟩, trivial⟩))⟩)))
   ·refine yV Z Z Z hH146 (c86 (Heap.yI T.zA hH146 (n := 1) Z) (by rw [List.length_append]; omega)) (fun u149 w147 lo150 hi151 hH148 hv152 => ?_)
    have hH153 := Heap.xZ hH148 (n := 0) Z
    refine zC (⟨(hH153.sub (sC (sC (sK (sK (sK (sC sR))))))), (xH [5, 7] kz Z (⟨⟨_, Z, ?_⟩, ⟨_, Z, ?_⟩, trivial⟩))⟩)
    ·refine yB (n := 0) T.zA Z Z Z hH153 Z (Heap.yI T.zA hH153 (n := 1) Z) om2 (fun u154 lo156 hi157 w155 hH158 => (zC (⟨(hH158.sub (sC (sC (sK (sK (sK (sC sR))))))), (z1 7 kz Z (z2 T.zA [(bestTo (S.longer1 js) (S.shortsTo js k) ((S.shortsTo js k).length - 1))] Z (fun w => by kernel_rfl) hH158 (fun u159 lo161 hi162 w160 hH163 => (zC (⟨(hH163.sub (sC (sC (sC (sK (sK (sK (sC sR)))))))), (z1 9 kz Z (yB (n := 0) T.zA Z Z Z hH163 Z (Heap.yI T.zA hH163 (n := 3) Z) om2 (fun u164 lo166 hi167 w165 hH168 => (zC (⟨(hH168.sub (sC (sC (sC (sK (sK (sK (sC sR)))))))), ?_⟩)))))⟩)))))⟩)))
     exact hM (u154, lo156, hi157, u164, lo166, hi167) _ _ (uC Z (uC Z (uC Z (uC Z (uC Z (uC Z (uC Z (uC Z (uC Z (Sub.nil _)))))))))) ((hH168.front (n := 1) Z).sub (sK (sK (sC sR))))
    refine z2 T.zA [(bestTo (S.longer1 js) (S.shortsTo js k) ((S.shortsTo js k).length - 1))] Z (fun w => by kernel_rfl) hH153 (fun u171 lo173 hi174 w172 hH175 => (zC (⟨(hH175.sub (sC (sC (sC (sK (sK (sK (sC sR)))))))), (z1 5 kz Z (yB (n := 1) T.zA Z Z Z hH175 Z (Heap.yI T.zA hH175 (n := 2) Z) om2 (fun u176 lo178 hi179 w177 hH180 => (zC (⟨(hH180.sub (sC (sC (sC (sK (sK (sK (sC sR)))))))), (z1 9 kz Z (yB (n := 0) T.zA Z Z Z hH180 Z (Heap.yI T.zA hH180 (n := 3) Z) om2 (fun u181 lo183 hi184 w182 hH185 => (zC (⟨(hH185.sub (sC (sC (sC (sK (sK (sK (sC sR)))))))), ?_⟩)))))⟩)))))⟩)))
    exact hM (u176, lo178, hi179, u181, lo183, hi184) _ _ (uC Z (uC Z (uC Z (uC Z (uC Z (uC Z (uC Z (uC Z (uC Z (Sub.nil _)))))))))) ((hH185.front (n := 1) Z).sub (sK (sK (sC sR))))
   refine z2 T.zA [(bestTo (S.longer1 js) (S.shortsTo js k) ((S.shortsTo js k).length - 1))] Z (fun w => by kernel_rfl) hH146 (fun u188 lo190 hi191 w189 hH192 => (zC (⟨(hH192.sub (sC (sC (sK (sK (sK (sC sR))))))), (z1 2 kz Z (yV Z Z Z hH192 (c86 (Heap.yI T.zA hH192 (n := 2) Z) (by rw [List.length_append]; omega)) (fun u195 w193 lo196 hi197 hH194 hv198 => ?_)))⟩)))
   have hH199 := Heap.xZ hH194 (n := 0) Z
   refine zC (⟨(hH199.sub (sC (sC (sC (sK (sK (sK (sC sR)))))))), (z1 5 kz Z (yB (n := 0) T.zA Z Z Z hH199 Z (Heap.yI T.zA hH199 (n := 2) Z) om2 (fun u200 lo202 hi203 w201 hH204 => (zC (⟨(hH204.sub (sC (sC (sC (sK (sK (sK (sC sR)))))))), (z1 9 kz Z (yB (n := 1) T.zA Z Z Z hH204 Z (Heap.yI T.zA hH204 (n := 3) Z) om2 (fun u205 lo207 hi208 w206 hH209 => (zC (⟨(hH209.sub (sC (sC (sC (sK (sK (sK (sC sR)))))))), ?_⟩)))))⟩)))))⟩)
   exact hM (u200, lo202, hi203, u205, lo207, hi208) _ _ (uC Z (uC Z (uC Z (uC Z (uC Z (uC Z (uC Z (uC Z (uC Z (Sub.nil _)))))))))) (hH209.sub (sK (sK (sC sR))))
  refine z2 T.zA [(bestTo (S.longer1 js) (S.shortsTo js k) ((S.shortsTo js k).length - 1))] Z (fun w => by kernel_rfl) hH60 (fun u211 lo213 hi214 w212 hH215 => (zC (⟨(hH215.sub (sC (sK (sK (sK (sC sR)))))), (xH [2, 4] kz Z (⟨⟨_, Z, ?_⟩, ⟨_, Z, ?_⟩, trivial⟩))⟩)))
  ·refine yV Z Z Z hH215 (c86 (Heap.yI T.zA hH215 (n := 1) Z) (by rw [List.length_append]; omega)) (fun u218 w216 lo219 hi220 hH217 hv221 => ?_)
   have hH222 := Heap.xZ hH217 (n := 0) Z
   refine zC (⟨(hH222.sub (sC (sC (sK (sK (sK (sC sR))))))), (z1 4 kz Z (z2 T.zA [(bestTo (S.longer1 js) (S.shortsTo js k) ((S.shortsTo js k).length - 1))] Z (fun w => by kernel_rfl) hH222 (fun u223 lo225 hi226 w224 hH227 => (zC (⟨(hH227.sub (sC (sC (sC (sK (sK (sK (sC sR)))))))), (z1 5 kz Z (yB (n := 1) T.zA Z Z Z hH227 Z (Heap.yI T.zA hH227 (n := 0) Z) om2 (fun u228 lo230 hi231 w229 hH232 => (zC (⟨(hH232.sub (sC (sC (sC (sK (sK (sK (sC sR)))))))), (z1 9 kz Z (yB (n := 2) T.zA Z Z Z hH232 Z (Heap.yI T.zA hH232 (n := 3) Z) om2 (fun u233 lo235 hi236 w234 hH237 => (zC (⟨(hH237.sub (sC (sC (sC (sK (sK (sK (sC sR)))))))), ?_⟩)))))⟩)))))⟩)))))⟩)
   exact hM (u228, lo230, hi231, u233, lo235, hi236) _ _ (uC Z (uC Z (uC Z (uC Z (uC Z (uC Z (uC Z (uC Z (uC Z (Sub.nil _)))))))))) (hH237.sub (sC sR))
  refine z2 T.zA [(bestTo (S.longer1 js) (S.shortsTo js k) ((S.shortsTo js k).length - 1))] Z (fun w => by kernel_rfl) hH215 (fun u239 lo241 hi242 w240 hH243 => (zC (⟨(hH243.sub (sC (sC (sK (sK (sK (sC sR))))))), (z1 2 kz Z (yV Z Z Z hH243 (c86 (Heap.yI T.zA hH243 (n := 2) Z) (by rw [List.length_append]; omega)) (fun u246 w244 lo247 hi248 hH245 hv249 => ?_)))⟩)))
  have hH250 := Heap.xZ hH245 (n := 0) Z
  refine zC (⟨(hH250.sub (sC (sC (sC (sK (sK (sK (sC sR)))))))), (z1 5 kz Z (yB (n := 0) T.zA Z Z Z hH250 Z (Heap.yI T.zA hH250 (n := 1) Z) om2 (fun u251 lo253 hi254 w252 hH255 => (zC (⟨(hH255.sub (sC (sC (sC (sK (sK (sK (sC sR)))))))), (z1 9 kz Z (yB (n := 2) T.zA Z Z Z hH255 Z (Heap.yI T.zA hH255 (n := 3) Z) om2 (fun u256 lo258 hi259 w257 hH260 => (zC (⟨(hH260.sub (sC (sC (sC (sK (sK (sK (sC sR)))))))), ?_⟩)))))⟩)))))⟩)
  exact hM (u251, lo253, hi254, u256, lo258, hi259) _ _ (uC Z (uC Z (uC Z (uC Z (uC Z (uC Z (uC Z (uC Z (uC Z (Sub.nil _)))))))))) (hH260.sub (sK (sC sR)))
 refine zK [4, 5, 6, 7] kz hH42 _ _ _ kz (zZ Z Z Z (dF hc43) Z (yX Z) (zZ Z Z Z (dF hc43) Z (z8 T.yS Z (Heap.yI T.zA hH42 (n := 1) Z).is) (zZ Z Z Z (dF hc43) Z (xJ Z Z) (zZ Z Z Z (dF hc43) Z (yX Z) (zQ ?_)))))
 by_cases hc262 : 0 < ((S.shortsTo js k).length : Int)
 ·refine zK [8, 9, 10, 15, 16, 17] kz hH42 _ _ _ kz (zZ Z Z Z (dT hc262) Z (zE T.jD Z (cw (n := 3) Z Z)) (zZ Z Z Z (dT hc262) Z (yX Z) (zZ Z Z Z (dT hc262) Z (yX Z) (zZ Z Z Z (dT hc262) Z (zE T.jD Z (cw (n := 3) Z Z)) (zZ Z Z Z (dT hc262) Z (yX Z) (zZ Z Z Z (dT hc262) Z (yX Z) (zQ (z1 11 kz Z (zB Z Z (dT hc262) (zM Z Z Z hH42 (KC (Heap.yI T.zA hH42 (n := 1) Z) (Heap.xV hH42 (n := 3) Z) (h0.now hH42 (n := 4) Z) om om (fun i hi => by have := S.shorts_in i hi; omega)) (fun w263 hH264 => (zC (⟨hH264, (zK [12, 13, 14] kz hH264 _ _ _ kz (zZ Z Z Z (dT hc262) Z (zP T.xX Z Z (h0.now hH264 (n := 4) Z).is om) (zZ Z Z Z (dT hc262) Z (zI T.uW Z) (zZ Z Z Z (dT hc262) Z (zE T.yT Z (fun _ hw => Rd.at (h0.now hw (n := 4) Z) (i := (bestTo (S.longer1 js) (S.shortsTo js k) ((S.shortsTo js k).length - 1))) om (j := 0) Z)) (zQ (z1 18 kz Z (zB Z Z (dT hc262) ?_)))))))⟩)))))))))))))
  refine zM Z Z Z hH264 (KW (Heap.yI T.zA hH264 (n := 0) Z) (Heap.xV hH264 (n := 3) Z) (h0.now hH264 (n := 4) Z) om om (fun i hi => by have := S.longs_in i hi; omega)) (fun w265 hH266 => (zC (⟨hH266, (zK [19, 20, 21, 22, 23, 24] kz hH266 _ _ _ kz (zZ Z Z Z (dT hc262) Z (zP T.xX Z Z (h0.now hH266 (n := 4) Z).is om) (zZ Z Z Z (dT hc262) Z (zI T.kL Z) (zZ Z Z Z (dT hc262) Z (zE T.yT Z (fun _ hw => Rd.at (h0.now hw (n := 4) Z) (i := (bestTo (S.longer2 js) (S.longsTo js k) ((S.longsTo js k).length - 1))) om (j := 1) Z)) (zZ Z Z Z (dT hc262) Z (vH Z Z) (zZ Z Z Z (dF hc43) Z (zU Z (dT hc262) Z) (zJ Z Z (zT Z (dF hc43) Z) (zQ (zX kz (zN ?_))))))))))⟩)))
  by_cases hc267 : ((nth js (bestTo (S.longer2 js) (S.longsTo js k) ((S.longsTo js k).length - 1))).2) ≤ ((nth js (bestTo (S.longer1 js) (S.shortsTo js k) ((S.shortsTo js k).length - 1))).1)
  ·refine zO Z (dT hc267) (seq ?_)
   have hus : S.useShort js k := by unfold S.useShort S.longR S.shortR; omega
   have hsr := S.shortR_in (l := js) (k := k) (by omega)
   have hfl := List.length_filter_le (fun y : Int => !decide (y = S.shortR js k)) (S.shortsTo js k)
   unfold S.shortR at hfl hsr
   refine region (oM hH266 Z (oM hH266 Z (zM Z Z Z hH266 (KC (Heap.yI T.zA hH266 (n := 1) Z) (Heap.xV hH266 (n := 3) Z) (h0.now hH266 (n := 4) Z) om om (fun i hi => by have := S.shorts_in i hi; omega)) (fun w268 hH269 => (oA hH269 Z (zs (oM hH269 Z (oM hH269 Z (yV Z Z Z hH269 (c84 (Heap.yI T.zA hH269 (n := 1) Z) om om) (fun u272 w270 lo273 hi274 hH271 hv275 => ?_))))))))))
   have hH276 := Heap.xZ hH271 (n := 0) Z
   refine oM hH276 Z (yB (n := 0) T.zA Z Z Z hH276 Z (Heap.yI T.zA hH276 (n := 1) Z) om2 (fun u277 lo279 hi280 w278 hH281 => (oA hH281 Z (zt (seq (zY (fun w' => Heap [ow lo279 hi280 3 1 encI u277 (((S.shortsTo js k).filter fun y => !decide (y = (bestTo (S.longer1 js) (S.shortsTo js k) ((S.shortsTo js k).length - 1)))) ++ (S.longsTo js k)), ow lo_4 hi_4 3 1 encI v_4 (S.longsTo js k), ow lo_3 hi_3 3 1 encI v_3 (S.shortsTo js k), bx b1 24 [v], base w] w') T.mixed (fun w282 hr283 => ?_)))))))
   have hH284 := hH281.redrawn hr283
   refine zK [0, 1, 3, 6, 8, 10] kz (hH284.sub (sK (sK (sK (sC sR))))) _ _ _ kz (zJ Z Z (zE T.jD Z (cw (n := 3) Z Z)) (qM Z Z Z (qM Z Z Z (qM Z Z Z (qM Z Z Z (qM Z Z Z (zQ (Y5 (Z := Value × Nat × Nat × Value × Nat × Nat) (fun (v_c74, lo_c74, hi_c74, v_c78, lo_c78, hi_c78) => [(74, v_c74), (78, v_c78), (1, (.pointer (some ⟨b1, 0, none⟩))), (2, (.pointer (some ⟨b4, 0, none⟩))), (3, v_3), (4, v_4), (8, (.func (.func 82) #[] #[(.pointer (some ⟨b1, 0, none⟩))])), (69, v), (79, (.int .i64 (bestTo (S.longer1 js) (S.shortsTo js k) ((S.shortsTo js k).length - 1))))]) (fun (v_c74, lo_c74, hi_c74, v_c78, lo_c78, hi_c78) w1 => Heap [ow lo_c74 hi_c74 3 1 encI v_c74 ((((S.shortsTo js k).filter fun y => !decide (y = (bestTo (S.longer1 js) (S.shortsTo js k) ((S.shortsTo js k).length - 1)))) ++ (S.longsTo js k)) ++ [(bestTo (S.longer1 js) (S.shortsTo js k) ((S.shortsTo js k).length - 1))]), ow lo_c78 hi_c78 3 1 encI v_c78 ([(bestTo (S.longer1 js) (S.shortsTo js k) ((S.shortsTo js k).length - 1))] ++ (((S.shortsTo js k).filter fun y => !decide (y = (bestTo (S.longer1 js) (S.shortsTo js k) ((S.shortsTo js k).length - 1)))) ++ (S.longsTo js k))), ow lo279 hi280 3 1 encI u277 (((S.shortsTo js k).filter fun y => !decide (y = (bestTo (S.longer1 js) (S.shortsTo js k) ((S.shortsTo js k).length - 1)))) ++ (S.longsTo js k)), ow lo_4 hi_4 3 1 encI v_4 (S.longsTo js k), ow lo_3 hi_3 3 1 encI v_3 (S.shortsTo js k), bx b4 48 [(.slice none 0 0), (.slice none 0 0), (.slice none 0 0)], bx b1 24 [v], base w] w1) 2 #[true, true, true, true, true, true, true, true, true, true, true, false, false] ?_ (fun hM => ?_)))))))))
   ·rintro ⟨v_c74, lo_c74, hi_c74, v_c78, lo_c78, hi_c78⟩ w285 hH286
    refine z1 11 kz Z (yV Z Z Z hH286 (c85 (h0.now hH286 (n := 7) Z) (Heap.yI T.zA hH286 (n := 0) Z) (Heap.yI T.zA hH286 (n := 1) Z) om om) (fun u289 w287 lo290 hi291 hH288 hv292 => ?_))
    obtain ⟨f294, hu, -⟩ := hv292
    subst hu
    have hH293 := Heap.zBs hH288 (n := 0) Z
    refine zC (⟨(hH293.sub (sC (sC (sC (sK (sK (sK (sC sR)))))))), (z1 12 kz Z (zS (n := 6) (j := 0) Z Z hH293 Z T.VL Z Z Z (xK (SliceIs.uT (Heap.yI T.zA hH293 (n := 1) Z).is) (xK (SliceIs.uT (Heap.yI T.zA hH293 (n := 2) Z).is) (xK (SliceIs.uT (Heap.yI T.zA hH293 (n := 0) Z).is) Z))) (fun w295 hH296 => (zC (⟨(hH296.sub (sC (sC (sC (sK (sK (sK (sC sR)))))))), (zX kz (zN (ret (z6 (fin ((hH296.sub (sK (sK (sK (sC (sC (sC (sK (sC sR))))))))).front (n := 4) Z) (fun w' hf => (yN Z (rvA (cs := [v_c74, v_c78, f294]) Z T.uF Z (y3 (Heap.xV hf (n := 4) Z) (k := 0) Z)))) (fun w' hf => ?_))))))⟩)))))⟩)
    rw [S.planOrd_t hk2 hus]; exact ⟨_, _, _, rfl, Heap.yI T.zA hf (n := 1) rfl, Heap.yI T.zA hf (n := 2) rfl, Heap.yI T.zA hf (n := 0) rfl⟩
   refine xH [2, 4, 7] kz Z (⟨⟨_, Z, ?_⟩, ⟨_, Z, ?_⟩, ⟨_, Z, ?_⟩, trivial⟩)
   ·refine yV Z Z Z hH284 (c86 (Heap.yI T.zA hH284 (n := 0) Z) (by rw [List.length_append]; omega)) (fun u300 w298 lo301 hi302 hH299 hv303 => ?_)
    have hH304 := Heap.xZ hH299 (n := 0) Z
    refine zC (⟨(hH304.sub (sC (sK (sK (sK (sC sR)))))), (xH [4, 7] kz Z (⟨⟨_, Z, ?_⟩, ⟨_, Z, ?_⟩, trivial⟩))⟩)
    ·refine z2 T.zA [(bestTo (S.longer1 js) (S.shortsTo js k) ((S.shortsTo js k).length - 1))] Z (fun w => by kernel_rfl) hH304 (fun u305 lo307 hi308 w306 hH309 => (zC (⟨(hH309.sub (sC (sC (sK (sK (sK (sC sR))))))), (xH [5, 7] kz Z (⟨⟨_, Z, ?_⟩, ⟨_, Z, ?_⟩, trivial⟩))⟩)))
     ·refine yB (n := 1) T.zA Z Z Z hH309 Z (Heap.yI T.zA hH309 (n := 0) Z) om2 (fun u310 lo312 hi313 w311 hH314 => (zC (⟨(hH314.sub (sC (sC (sK (sK (sK (sC sR))))))), (z1 7 kz Z (z2 T.zA [(bestTo (S.longer1 js) (S.shortsTo js k) ((S.shortsTo js k).length - 1))] Z (fun w => by kernel_rfl) hH314 (fun u315 lo317 hi318 w316 hH319 => (zC (⟨(hH319.sub (sC (sC (sC (sK (sK (sK (sC sR)))))))), (z1 9 kz Z (yB (n := 0) T.zA Z Z Z hH319 Z (Heap.yI T.zA hH319 (n := 3) Z) om2 (fun u320 lo322 hi323 w321 hH324 => (zC (⟨(hH324.sub (sC (sC (sC (sK (sK (sK (sC sR)))))))), ?_⟩)))))⟩)))))⟩)))
      exact hM (u310, lo312, hi313, u320, lo322, hi323) _ _ (uC Z (uC Z (uC Z (uC Z (uC Z (uC Z (uC Z (uC Z (uC Z (Sub.nil _)))))))))) ((hH324.front (n := 2) Z).sub (sK (sK (sC sR))))
     refine z2 T.zA [(bestTo (S.longer1 js) (S.shortsTo js k) ((S.shortsTo js k).length - 1))] Z (fun w => by kernel_rfl) hH309 (fun u327 lo329 hi330 w328 hH331 => (zC (⟨(hH331.sub (sC (sC (sC (sK (sK (sK (sC sR)))))))), (z1 5 kz Z (yB (n := 2) T.zA Z Z Z hH331 Z (Heap.yI T.zA hH331 (n := 1) Z) om2 (fun u332 lo334 hi335 w333 hH336 => (zC (⟨(hH336.sub (sC (sC (sC (sK (sK (sK (sC sR)))))))), (z1 9 kz Z (yB (n := 0) T.zA Z Z Z hH336 Z (Heap.yI T.zA hH336 (n := 3) Z) om2 (fun u337 lo339 hi340 w338 hH341 => (zC (⟨(hH341.sub (sC (sC (sC (sK (sK (sK (sC sR)))))))), ?_⟩)))))⟩)))))⟩)))
     exact hM (u332, lo334, hi335, u337, lo339, hi340) _ _ (uC Z (uC Z (uC Z (uC Z (uC Z (uC Z (uC Z (uC Z (uC Z (Sub.nil _)))))))))) ((hH341.front (n := 2) Z).sub (sK (sK (sC sR))))
    refine z2 T.zA [(bestTo (S.longer1 js) (S.shortsTo js k) ((S.shortsTo js k).length - 1))] Z (fun w => by kernel_rfl) hH304 (fun u344 lo346 hi347 w345 hH348 => (zC (⟨(hH348.sub (sC (sC (sK (sK (sK (sC sR))))))), (z1 4 kz Z (z2 T.zA [(bestTo (S.longer1 js) (S.shortsTo js k) ((S.shortsTo js k).length - 1))] Z (fun w => by kernel_rfl) hH348 (fun u349 lo351 hi352 w350 hH353 => (zC (⟨(hH353.sub (sC (sC (sC (sK (sK (sK (sC sR)))))))), (z1 5 kz Z (yB (n := 2) T.zA Z Z Z hH353 Z (Heap.yI T.zA hH353 (n := 0) Z) om2 (fun u354 lo356 hi357 w355 hH358 => (zC (⟨(hH358.sub (sC (sC (sC (sK (sK (sK (sC sR)))))))), (z1 9 kz Z (yB (n := 1) T.zA Z Z Z hH358 Z (Heap.yI T.zA hH358 (n := 3) Z) om2 (fun u359 lo361 hi362 w360 hH363 => (zC (⟨(hH363.sub (sC (sC (sC (sK (sK (sK (sC sR)))))))), ?_⟩)))))⟩)))))⟩)))))⟩)))
    exact hM (u354, lo356, hi357, u359, lo361, hi362) _ _ (uC Z (uC Z (uC Z (uC Z (uC Z (uC Z (uC Z (uC Z (uC Z (Sub.nil _)))))))))) ((hH363.front (n := 2) Z).sub (sK (sC sR)))
   ·refine z2 T.zA [(bestTo (S.longer1 js) (S.shortsTo js k) ((S.shortsTo js k).length - 1))] Z (fun w => by kernel_rfl) hH284 (fun u366 lo368 hi369 w367 hH370 => (zC (⟨(hH370.sub (sC (sK (sK (sK (sC sR)))))), (xH [2, 7] kz Z (⟨⟨_, Z, ?_⟩, ⟨_, Z, ?_⟩, trivial⟩))⟩)))
    ·refine yV Z Z Z hH370 (c86 (Heap.yI T.zA hH370 (n := 1) Z) (by rw [List.length_append]; omega)) (fun u373 w371 lo374 hi375 hH372 hv376 => ?_)
     have hH377 := Heap.xZ hH372 (n := 0) Z
     refine zC (⟨(hH377.sub (sC (sC (sK (sK (sK (sC sR))))))), (xH [5, 7] kz Z (⟨⟨_, Z, ?_⟩, ⟨_, Z, ?_⟩, trivial⟩))⟩)
     ·refine yB (n := 0) T.zA Z Z Z hH377 Z (Heap.yI T.zA hH377 (n := 1) Z) om2 (fun u378 lo380 hi381 w379 hH382 => (zC (⟨(hH382.sub (sC (sC (sK (sK (sK (sC sR))))))), (z1 7 kz Z (z2 T.zA [(bestTo (S.longer1 js) (S.shortsTo js k) ((S.shortsTo js k).length - 1))] Z (fun w => by kernel_rfl) hH382 (fun u383 lo385 hi386 w384 hH387 => (zC (⟨(hH387.sub (sC (sC (sC (sK (sK (sK (sC sR)))))))), (z1 9 kz Z (yB (n := 0) T.zA Z Z Z hH387 Z (Heap.yI T.zA hH387 (n := 3) Z) om2 (fun u388 lo390 hi391 w389 hH392 => (zC (⟨(hH392.sub (sC (sC (sC (sK (sK (sK (sC sR)))))))), ?_⟩)))))⟩)))))⟩)))
      exact hM (u378, lo380, hi381, u388, lo390, hi391) _ _ (uC Z (uC Z (uC Z (uC Z (uC Z (uC Z (uC Z (uC Z (uC Z (Sub.nil _)))))))))) ((hH392.front (n := 1) Z).sub (sK (sK (sC sR))))
     refine z2 T.zA [(bestTo (S.longer1 js) (S.shortsTo js k) ((S.shortsTo js k).length - 1))] Z (fun w => by kernel_rfl) hH377 (fun u395 lo397 hi398 w396 hH399 => (zC (⟨(hH399.sub (sC (sC (sC (sK (sK (sK (sC sR)))))))), (z1 5 kz Z (yB (n := 1) T.zA Z Z Z hH399 Z (Heap.yI T.zA hH399 (n := 2) Z) om2 (fun u400 lo402 hi403 w401 hH404 => (zC (⟨(hH404.sub (sC (sC (sC (sK (sK (sK (sC sR)))))))), (z1 9 kz Z (yB (n := 0) T.zA Z Z Z hH404 Z (Heap.yI T.zA hH404 (n := 3) Z) om2 (fun u405 lo407 hi408 w406 hH409 => (zC (⟨(hH409.sub (sC (sC (sC (sK (sK (sK (sC sR)))))))), ?_⟩)))))⟩)))))⟩)))
     exact hM (u400, lo402, hi403, u405, lo407, hi408) _ _ (uC Z (uC Z (uC Z (uC Z (uC Z (uC Z (uC Z (uC Z (uC Z (Sub.nil _)))))))))) ((hH409.front (n := 1) Z).sub (sK (sK (sC sR))))
    refine z2 T.zA [(bestTo (S.longer1 js) (S.shortsTo js k) ((S.shortsTo js k).length - 1))] Z (fun w => by kernel_rfl) hH370 (fun u412 lo414 hi415 w413 hH416 => (zC (⟨(hH416.sub (sC (sC (sK (sK (sK (sC sR))))))), (z1 2 kz Z (yV Z Z Z hH416 (c86 (Heap.yI T.zA hH416 (n := 2) Z) (by rw [List.length_append]; omega)) (fun u419 w417 lo420 hi421 hH418 hv422 => ?_)))⟩)))
    have hH423 := Heap.xZ hH418 (n := 0) Z
    refine zC (⟨(hH423.sub (sC (sC (sC (sK (sK (sK (sC sR)))))))), (z1 5 kz Z (yB (n := 0) T.zA Z Z Z hH423 Z (Heap.yI T.zA hH423 (n := 2) Z) om2 (fun u424 lo426 hi427 w425 hH428 => (zC (⟨(hH428.sub (sC (sC (sC (sK (sK (sK (sC sR)))))))), (z1 9 kz Z (yB (n := 1) T.zA Z Z Z hH428 Z (Heap.yI T.zA hH428 (n := 3) Z) om2 (fun u429 lo431 hi432 w430 hH433 => (zC (⟨(hH433.sub (sC (sC (sC (sK (sK (sK (sC sR)))))))), ?_⟩)))))⟩)))))⟩)
    exact hM (u424, lo426, hi427, u429, lo431, hi432) _ _ (uC Z (uC Z (uC Z (uC Z (uC Z (uC Z (uC Z (uC Z (uC Z (Sub.nil _)))))))))) (hH433.sub (sK (sK (sC sR))))
   refine z2 T.zA [(bestTo (S.longer1 js) (S.shortsTo js k) ((S.shortsTo js k).length - 1))] Z (fun w => by kernel_rfl) hH284 (fun u435 lo437 hi438 w436 hH439 => (zC (⟨(hH439.sub (sC (sK (sK (sK (sC sR)))))), (xH [2, 4] kz Z (⟨⟨_, Z, ?_⟩, ⟨_, Z, ?_⟩, trivial⟩))⟩)))
   ·refine yV Z Z Z hH439 (c86 (Heap.yI T.zA hH439 (n := 1) Z) (by rw [List.length_append]; omega)) (fun u442 w440 lo443 hi444 hH441 hv445 => ?_)
    have hH446 := Heap.xZ hH441 (n := 0) Z
    refine zC (⟨(hH446.sub (sC (sC (sK (sK (sK (sC sR))))))), (z1 4 kz Z (z2 T.zA [(bestTo (S.longer1 js) (S.shortsTo js k) ((S.shortsTo js k).length - 1))] Z (fun w => by kernel_rfl) hH446 (fun u447 lo449 hi450 w448 hH451 => (zC (⟨(hH451.sub (sC (sC (sC (sK (sK (sK (sC sR)))))))), (z1 5 kz Z (yB (n := 1) T.zA Z Z Z hH451 Z (Heap.yI T.zA hH451 (n := 0) Z) om2 (fun u452 lo454 hi455 w453 hH456 => (zC (⟨(hH456.sub (sC (sC (sC (sK (sK (sK (sC sR)))))))), (z1 9 kz Z (yB (n := 2) T.zA Z Z Z hH456 Z (Heap.yI T.zA hH456 (n := 3) Z) om2 (fun u457 lo459 hi460 w458 hH461 => (zC (⟨(hH461.sub (sC (sC (sC (sK (sK (sK (sC sR)))))))), ?_⟩)))))⟩)))))⟩)))))⟩)
    exact hM (u452, lo454, hi455, u457, lo459, hi460) _ _ (uC Z (uC Z (uC Z (uC Z (uC Z (uC Z (uC Z (uC Z (uC Z (Sub.nil _)))))))))) (hH461.sub (sC sR))
   refine z2 T.zA [(bestTo (S.longer1 js) (S.shortsTo js k) ((S.shortsTo js k).length - 1))] Z (fun w => by kernel_rfl) hH439 (fun u463 lo465 hi466 w464 hH467 => (zC (⟨(hH467.sub (sC (sC (sK (sK (sK (sC sR))))))), (z1 2 kz Z (yV Z Z Z hH467 (c86 (Heap.yI T.zA hH467 (n := 2) Z) (by rw [List.length_append]; omega)) (fun u470 w468 lo471 hi472 hH469 hv473 => ?_)))⟩)))
   have hH474 := Heap.xZ hH469 (n := 0) Z
   refine zC (⟨(hH474.sub (sC (sC (sC (sK (sK (sK (sC sR)))))))), (z1 5 kz Z (yB (n := 0) T.zA Z Z Z hH474 Z (Heap.yI T.zA hH474 (n := 1) Z) om2 (fun u475 lo477 hi478 w476 hH479 => (zC (⟨(hH479.sub (sC (sC (sC (sK (sK (sK (sC sR)))))))), (z1 9 kz Z (yB (n := 2) T.zA Z Z Z hH479 Z (Heap.yI T.zA hH479 (n := 3) Z) om2 (fun u480 lo482 hi483 w481 hH484 => (zC (⟨(hH484.sub (sC (sC (sC (sK (sK (sK (sC sR)))))))), ?_⟩)))))⟩)))))⟩)
   exact hM (u475, lo477, hi478, u480, lo482, hi483) _ _ (uC Z (uC Z (uC Z (uC Z (uC Z (uC Z (uC Z (uC Z (uC Z (Sub.nil _)))))))))) (hH484.sub (sK (sC sR)))
  refine zL Z (dF hc267) (skip (zN (seq ?_)))
  have hnu : ¬ S.useShort js k := by unfold S.useShort S.longR S.shortR; omega
  have hsr := S.longR_in (l := js) (k := k) (by omega)
  have hfl := List.length_filter_le (fun y : Int => !decide (y = S.longR js k)) (S.longsTo js k)
  unfold S.longR at hfl hsr
  refine region (oM hH266 Z (oM hH266 Z (zM Z Z Z hH266 (KW (Heap.yI T.zA hH266 (n := 0) Z) (Heap.xV hH266 (n := 3) Z) (h0.now hH266 (n := 4) Z) om om (fun i hi => by have := S.longs_in i hi; omega)) (fun w486 hH487 => (oA hH487 Z (zs (oM hH487 Z (oM hH487 Z (yV Z Z Z hH487 (c84 (Heap.yI T.zA hH487 (n := 0) Z) om om) (fun u490 w488 lo491 hi492 hH489 hv493 => ?_))))))))))
  have hH494 := Heap.xZ hH489 (n := 0) Z
  refine oM hH494 Z (yB (n := 0) T.zA Z Z Z hH494 Z (Heap.yI T.zA hH494 (n := 2) Z) om2 (fun u495 lo497 hi498 w496 hH499 => (oA hH499 Z (zt (seq (zY (fun w' => Heap [ow lo497 hi498 3 1 encI u495 (((S.longsTo js k).filter fun y => !decide (y = (bestTo (S.longer2 js) (S.longsTo js k) ((S.longsTo js k).length - 1)))) ++ (S.shortsTo js k)), ow lo_4 hi_4 3 1 encI v_4 (S.longsTo js k), ow lo_3 hi_3 3 1 encI v_3 (S.shortsTo js k), bx b1 24 [v], base w] w') T.mixed (fun w500 hr501 => ?_)))))))
  have hH502 := hH499.redrawn hr501
  refine zK [0, 1, 3, 5, 7, 10] kz (hH502.sub (sK (sK (sK (sC sR))))) _ _ _ kz (zJ Z Z (zE T.jD Z (cw (n := 3) Z Z)) (qM Z Z Z (qM Z Z Z (qM Z Z Z (qM Z Z Z (qM Z Z Z (zQ (Y5 (Z := Value × Nat × Nat × Value × Nat × Nat) (fun (v_c93, lo_c93, hi_c93, v_c98, lo_c98, hi_c98) => [(93, v_c93), (98, v_c98), (2, (.pointer (some ⟨b4, 0, none⟩))), (89, v), (99, (.int .i64 (bestTo (S.longer2 js) (S.longsTo js k) ((S.longsTo js k).length - 1))))]) (fun (v_c93, lo_c93, hi_c93, v_c98, lo_c98, hi_c98) w1 => Heap [ow lo_c93 hi_c93 3 1 encI v_c93 ([(bestTo (S.longer2 js) (S.longsTo js k) ((S.longsTo js k).length - 1))] ++ (((S.longsTo js k).filter fun y => !decide (y = (bestTo (S.longer2 js) (S.longsTo js k) ((S.longsTo js k).length - 1)))) ++ (S.shortsTo js k))), ow lo_c98 hi_c98 3 1 encI v_c98 ((((S.longsTo js k).filter fun y => !decide (y = (bestTo (S.longer2 js) (S.longsTo js k) ((S.longsTo js k).length - 1)))) ++ (S.shortsTo js k)) ++ [(bestTo (S.longer2 js) (S.longsTo js k) ((S.longsTo js k).length - 1))]), ow lo497 hi498 3 1 encI u495 (((S.longsTo js k).filter fun y => !decide (y = (bestTo (S.longer2 js) (S.longsTo js k) ((S.longsTo js k).length - 1)))) ++ (S.shortsTo js k)), ow lo_4 hi_4 3 1 encI v_4 (S.longsTo js k), ow lo_3 hi_3 3 1 encI v_3 (S.shortsTo js k), bx b4 48 [(.slice none 0 0), (.slice none 0 0), (.slice none 0 0)], bx b1 24 [v], base w] w1) 2 #[true, true, true, true, true, true, true, true, true, true, true, false, false] ?_ (fun hM => ?_)))))))))
  ·rintro ⟨v_c93, lo_c93, hi_c93, v_c98, lo_c98, hi_c98⟩ w503 hH504
   refine z1 11 kz Z (yV Z Z Z hH504 (c85 (h0.now hH504 (n := 7) Z) (Heap.yI T.zA hH504 (n := 0) Z) (Heap.yI T.zA hH504 (n := 1) Z) om om) (fun u507 w505 lo508 hi509 hH506 hv510 => ?_))
   obtain ⟨f512, hu, -⟩ := hv510
   subst hu
   have hH511 := Heap.zBs hH506 (n := 0) Z
   refine zC (⟨(hH511.sub (sC (sC (sC (sK (sK (sK (sC sR)))))))), (z1 12 kz Z (zS (n := 6) (j := 0) Z Z hH511 Z T.VL Z Z Z (xK (SliceIs.uT (Heap.yI T.zA hH511 (n := 1) Z).is) (xK (SliceIs.uT (Heap.yI T.zA hH511 (n := 2) Z).is) (xK (SliceIs.uT (Heap.yI T.zA hH511 (n := 0) Z).is) Z))) (fun w513 hH514 => (zC (⟨(hH514.sub (sC (sC (sC (sK (sK (sK (sC sR)))))))), (zX kz (zN (ret (fin ((hH514.sub (sK (sK (sK (sC (sC (sC (sK (sC sR))))))))).front (n := 4) Z) (fun w' hf => (yN Z (rvA (cs := [v_c93, v_c98, f512]) Z T.uF Z (y3 (Heap.xV hf (n := 4) Z) (k := 0) Z)))) (fun w' hf => ?_)))))⟩)))))⟩)
   rw [S.planOrd_f hk2 hnu]; exact ⟨_, _, _, rfl, Heap.yI T.zA hf (n := 1) rfl, Heap.yI T.zA hf (n := 2) rfl, Heap.yI T.zA hf (n := 0) rfl⟩
  refine xH [2, 8] kz Z (⟨⟨_, Z, ?_⟩, ⟨_, Z, ?_⟩, trivial⟩)
  ·refine z2 T.zA [(bestTo (S.longer2 js) (S.longsTo js k) ((S.longsTo js k).length - 1))] Z (fun w => by kernel_rfl) hH502 (fun u516 lo518 hi519 w517 hH520 => (zC (⟨(hH520.sub (sC (sK (sK (sK (sC sR)))))), (xH [4, 8] kz Z (⟨⟨_, Z, ?_⟩, ⟨_, Z, ?_⟩, trivial⟩))⟩)))
   ·refine yB (n := 0) T.zA Z Z Z hH520 Z (Heap.yI T.zA hH520 (n := 1) Z) om2 (fun u521 lo523 hi524 w522 hH525 => (zC (⟨(hH525.sub (sC (sK (sK (sK (sC sR)))))), (xH [6, 8] kz Z (⟨⟨_, Z, ?_⟩, ⟨_, Z, ?_⟩, trivial⟩))⟩)))
    ·refine yV Z Z Z hH525 (c86 (Heap.yI T.zA hH525 (n := 1) Z) (by rw [List.length_append]; omega)) (fun u528 w526 lo529 hi530 hH527 hv531 => ?_)
     have hH532 := Heap.xZ hH527 (n := 0) Z
     refine zC (⟨(hH532.sub (sC (sC (sK (sK (sK (sC sR))))))), (z1 8 kz Z (z2 T.zA [(bestTo (S.longer2 js) (S.longsTo js k) ((S.longsTo js k).length - 1))] Z (fun w => by kernel_rfl) hH532 (fun u533 lo535 hi536 w534 hH537 => (zC (⟨(hH537.sub (sC (sC (sC (sK (sK (sK (sC sR)))))))), (z1 9 kz Z (yB (n := 1) T.zA Z Z Z hH537 Z (Heap.yI T.zA hH537 (n := 0) Z) om2 (fun u538 lo540 hi541 w539 hH542 => (zC (⟨(hH542.sub (sC (sC (sC (sK (sK (sK (sC sR)))))))), ?_⟩)))))⟩)))))⟩)
     exact hM (u521, lo523, hi524, u538, lo540, hi541) _ _ (uC Z (uC Z (uC Z (uC Z (uC Z (Sub.nil _)))))) ((hH542.front (n := 2) Z).sub (sK (sC sR)))
    refine z2 T.zA [(bestTo (S.longer2 js) (S.longsTo js k) ((S.longsTo js k).length - 1))] Z (fun w => by kernel_rfl) hH525 (fun u545 lo547 hi548 w546 hH549 => (zC (⟨(hH549.sub (sC (sC (sK (sK (sK (sC sR))))))), (z1 6 kz Z (yV Z Z Z hH549 (c86 (Heap.yI T.zA hH549 (n := 2) Z) (by rw [List.length_append]; omega)) (fun u552 w550 lo553 hi554 hH551 hv555 => ?_)))⟩)))
    have hH556 := Heap.xZ hH551 (n := 0) Z
    refine zC (⟨(hH556.sub (sC (sC (sC (sK (sK (sK (sC sR)))))))), (z1 9 kz Z (yB (n := 0) T.zA Z Z Z hH556 Z (Heap.yI T.zA hH556 (n := 1) Z) om2 (fun u557 lo559 hi560 w558 hH561 => (zC (⟨(hH561.sub (sC (sC (sC (sK (sK (sK (sC sR)))))))), ?_⟩)))))⟩)
    exact hM (u521, lo523, hi524, u557, lo559, hi560) _ _ (uC Z (uC Z (uC Z (uC Z (uC Z (Sub.nil _)))))) ((hH561.front (n := 2) Z).sub (sK (sK (sC sR))))
   refine z2 T.zA [(bestTo (S.longer2 js) (S.longsTo js k) ((S.longsTo js k).length - 1))] Z (fun w => by kernel_rfl) hH520 (fun u564 lo566 hi567 w565 hH568 => (zC (⟨(hH568.sub (sC (sC (sK (sK (sK (sC sR))))))), (z1 4 kz Z (yB (n := 1) T.zA Z Z Z hH568 Z (Heap.yI T.zA hH568 (n := 2) Z) om2 (fun u569 lo571 hi572 w570 hH573 => (zC (⟨(hH573.sub (sC (sC (sK (sK (sK (sC sR))))))), (z1 6 kz Z (yV Z Z Z hH573 (c86 (Heap.yI T.zA hH573 (n := 2) Z) (by rw [List.length_append]; omega)) (fun u576 w574 lo577 hi578 hH575 hv579 => ?_)))⟩)))))⟩)))
   have hH580 := Heap.xZ hH575 (n := 0) Z
   refine zC (⟨(hH580.sub (sC (sC (sC (sK (sK (sK (sC sR)))))))), (z1 9 kz Z (yB (n := 0) T.zA Z Z Z hH580 Z (Heap.yI T.zA hH580 (n := 1) Z) om2 (fun u581 lo583 hi584 w582 hH585 => (zC (⟨(hH585.sub (sC (sC (sC (sK (sK (sK (sC sR)))))))), ?_⟩)))))⟩)
   exact hM (u569, lo571, hi572, u581, lo583, hi584) _ _ (uC Z (uC Z (uC Z (uC Z (uC Z (Sub.nil _)))))) ((hH585.front (n := 2) Z).sub (sK (sK (sC sR))))
  refine z2 T.zA [(bestTo (S.longer2 js) (S.longsTo js k) ((S.longsTo js k).length - 1))] Z (fun w => by kernel_rfl) hH502 (fun u588 lo590 hi591 w589 hH592 => (zC (⟨(hH592.sub (sC (sK (sK (sK (sC sR)))))), (z1 2 kz Z (z2 T.zA [(bestTo (S.longer2 js) (S.longsTo js k) ((S.longsTo js k).length - 1))] Z (fun w => by kernel_rfl) hH592 (fun u593 lo595 hi596 w594 hH597 => (zC (⟨(hH597.sub (sC (sC (sK (sK (sK (sC sR))))))), (z1 4 kz Z (yB (n := 0) T.zA Z Z Z hH597 Z (Heap.yI T.zA hH597 (n := 2) Z) om2 (fun u598 lo600 hi601 w599 hH602 => (zC (⟨(hH602.sub (sC (sC (sK (sK (sK (sC sR))))))), (z1 6 kz Z (yV Z Z Z hH602 (c86 (Heap.yI T.zA hH602 (n := 2) Z) (by rw [List.length_append]; omega)) (fun u605 w603 lo606 hi607 hH604 hv608 => ?_)))⟩)))))⟩)))))⟩)))
  have hH609 := Heap.xZ hH604 (n := 0) Z
  refine zC (⟨(hH609.sub (sC (sC (sC (sK (sK (sK (sC sR)))))))), (z1 9 kz Z (yB (n := 0) T.zA Z Z Z hH609 Z (Heap.yI T.zA hH609 (n := 2) Z) om2 (fun u610 lo612 hi613 w611 hH614 => (zC (⟨(hH614.sub (sC (sC (sC (sK (sK (sK (sC sR)))))))), ?_⟩)))))⟩)
  exact hM (u598, lo600, hi601, u610, lo612, hi613) _ _ (uC Z (uC Z (uC Z (uC Z (uC Z (Sub.nil _)))))) ((hH614.front (n := 1) Z).sub (sK (sK (sC sR))))
 refine zK [8, 9, 10, 11, 12, 13, 14, 15, 16, 17, 18, 19, 20, 21, 22, 23, 24] kz hH42 _ _ _ kz (yO Z Z Z (dF hc262) Z (yO Z Z Z (dF hc262) Z (yO Z Z Z (dF hc262) Z (yO Z Z Z (dF hc262) Z (yO Z Z Z (dF hc262) Z (yO Z Z Z (dF hc262) Z (yO Z Z Z (dF hc262) Z (yO Z Z Z (dF hc262) Z (yO Z Z Z (dF hc262) Z (yO Z Z Z (dF hc262) Z (yO Z Z Z (dF hc262) Z (yO Z Z Z (dF hc262) Z (yO Z Z Z (dF hc262) Z (yO Z Z Z (dF hc262) Z (yO Z Z Z (dF hc262) Z (zZ Z Z Z (dF hc43) Z (zT Z (dF hc262) Z) (zJ Z Z (zT Z (dF hc43) Z) (zQ (zX kz (zN (zL Z Z ?_)))))))))))))))))))))
 refine skip (zN (seq ?_))
 have hnu : ¬ S.useShort js k := by unfold S.useShort S.longR S.shortR; omega
 have hsr := S.longR_in (l := js) (k := k) (by omega)
 have hfl := List.length_filter_le (fun y : Int => !decide (y = S.longR js k)) (S.longsTo js k)
 unfold S.longR at hfl hsr
 refine region (oM hH42 Z (oM hH42 Z (zM Z Z Z hH42 (KW (Heap.yI T.zA hH42 (n := 0) Z) (Heap.xV hH42 (n := 3) Z) (h0.now hH42 (n := 4) Z) om om (fun i hi => by have := S.longs_in i hi; omega)) (fun w617 hH618 => (oA hH618 Z (zs (oM hH618 Z (oM hH618 Z (yV Z Z Z hH618 (c84 (Heap.yI T.zA hH618 (n := 0) Z) om om) (fun u621 w619 lo622 hi623 hH620 hv624 => ?_))))))))))
 have hH625 := Heap.xZ hH620 (n := 0) Z
 refine oM hH625 Z (yB (n := 0) T.zA Z Z Z hH625 Z (Heap.yI T.zA hH625 (n := 2) Z) om2 (fun u626 lo628 hi629 w627 hH630 => (oA hH630 Z (zt (seq (zY (fun w' => Heap [ow lo628 hi629 3 1 encI u626 (((S.longsTo js k).filter fun y => !decide (y = (bestTo (S.longer2 js) (S.longsTo js k) ((S.longsTo js k).length - 1)))) ++ (S.shortsTo js k)), ow lo_4 hi_4 3 1 encI v_4 (S.longsTo js k), ow lo_3 hi_3 3 1 encI v_3 (S.shortsTo js k), bx b1 24 [v], base w] w') T.mixed (fun w631 hr632 => ?_)))))))
 have hH633 := hH630.redrawn hr632
 refine zK [0, 1, 3, 5, 7, 10] kz (hH633.sub (sK (sK (sK (sC sR))))) _ _ _ kz (zJ Z Z (zE T.jD Z (cw (n := 3) Z Z)) (qM Z Z Z (qM Z Z Z (qM Z Z Z (qM Z Z Z (qM Z Z Z (zQ (Y5 (Z := Value × Nat × Nat × Value × Nat × Nat) (fun (v_c93, lo_c93, hi_c93, v_c98, lo_c98, hi_c98) => [(93, v_c93), (98, v_c98), (2, (.pointer (some ⟨b4, 0, none⟩))), (89, v), (99, (.int .i64 (bestTo (S.longer2 js) (S.longsTo js k) ((S.longsTo js k).length - 1))))]) (fun (v_c93, lo_c93, hi_c93, v_c98, lo_c98, hi_c98) w1 => Heap [ow lo_c93 hi_c93 3 1 encI v_c93 ([(bestTo (S.longer2 js) (S.longsTo js k) ((S.longsTo js k).length - 1))] ++ (((S.longsTo js k).filter fun y => !decide (y = (bestTo (S.longer2 js) (S.longsTo js k) ((S.longsTo js k).length - 1)))) ++ (S.shortsTo js k))), ow lo_c98 hi_c98 3 1 encI v_c98 ((((S.longsTo js k).filter fun y => !decide (y = (bestTo (S.longer2 js) (S.longsTo js k) ((S.longsTo js k).length - 1)))) ++ (S.shortsTo js k)) ++ [(bestTo (S.longer2 js) (S.longsTo js k) ((S.longsTo js k).length - 1))]), ow lo628 hi629 3 1 encI u626 (((S.longsTo js k).filter fun y => !decide (y = (bestTo (S.longer2 js) (S.longsTo js k) ((S.longsTo js k).length - 1)))) ++ (S.shortsTo js k)), ow lo_4 hi_4 3 1 encI v_4 (S.longsTo js k), ow lo_3 hi_3 3 1 encI v_3 (S.shortsTo js k), bx b4 48 [(.slice none 0 0), (.slice none 0 0), (.slice none 0 0)], bx b1 24 [v], base w] w1) 2 #[true, true, true, true, true, true, true, true, true, true, true, false, false] ?_ (fun hM => ?_)))))))))
 ·rintro ⟨v_c93, lo_c93, hi_c93, v_c98, lo_c98, hi_c98⟩ w634 hH635
  refine z1 11 kz Z (yV Z Z Z hH635 (c85 (h0.now hH635 (n := 7) Z) (Heap.yI T.zA hH635 (n := 0) Z) (Heap.yI T.zA hH635 (n := 1) Z) om om) (fun u638 w636 lo639 hi640 hH637 hv641 => ?_))
  obtain ⟨f643, hu, -⟩ := hv641
  subst hu
  have hH642 := Heap.zBs hH637 (n := 0) Z
  refine zC (⟨(hH642.sub (sC (sC (sC (sK (sK (sK (sC sR)))))))), (z1 12 kz Z (zS (n := 6) (j := 0) Z Z hH642 Z T.VL Z Z Z (xK (SliceIs.uT (Heap.yI T.zA hH642 (n := 1) Z).is) (xK (SliceIs.uT (Heap.yI T.zA hH642 (n := 2) Z).is) (xK (SliceIs.uT (Heap.yI T.zA hH642 (n := 0) Z).is) Z))) (fun w644 hH645 => (zC (⟨(hH645.sub (sC (sC (sC (sK (sK (sK (sC sR)))))))), (zX kz (zN (ret (fin ((hH645.sub (sK (sK (sK (sC (sC (sC (sK (sC sR))))))))).front (n := 4) Z) (fun w' hf => (yN Z (rvA (cs := [v_c93, v_c98, f643]) Z T.uF Z (y3 (Heap.xV hf (n := 4) Z) (k := 0) Z)))) (fun w' hf => ?_)))))⟩)))))⟩)
  rw [S.planOrd_f hk2 hnu]; exact ⟨_, _, _, rfl, Heap.yI T.zA hf (n := 1) rfl, Heap.yI T.zA hf (n := 2) rfl, Heap.yI T.zA hf (n := 0) rfl⟩
 refine xH [2, 8] kz Z (⟨⟨_, Z, ?_⟩, ⟨_, Z, ?_⟩, trivial⟩)
 ·refine z2 T.zA [(bestTo (S.longer2 js) (S.longsTo js k) ((S.longsTo js k).length - 1))] Z (fun w => by kernel_rfl) hH633 (fun u647 lo649 hi650 w648 hH651 => (zC (⟨(hH651.sub (sC (sK (sK (sK (sC sR)))))), (xH [4, 8] kz Z (⟨⟨_, Z, ?_⟩, ⟨_, Z, ?_⟩, trivial⟩))⟩)))
  ·refine yB (n := 0) T.zA Z Z Z hH651 Z (Heap.yI T.zA hH651 (n := 1) Z) om2 (fun u652 lo654 hi655 w653 hH656 => (zC (⟨(hH656.sub (sC (sK (sK (sK (sC sR)))))), (xH [6, 8] kz Z (⟨⟨_, Z, ?_⟩, ⟨_, Z, ?_⟩, trivial⟩))⟩)))
   ·refine yV Z Z Z hH656 (c86 (Heap.yI T.zA hH656 (n := 1) Z) (by rw [List.length_append]; omega)) (fun u659 w657 lo660 hi661 hH658 hv662 => ?_)
    have hH663 := Heap.xZ hH658 (n := 0) Z
    refine zC (⟨(hH663.sub (sC (sC (sK (sK (sK (sC sR))))))), (z1 8 kz Z (z2 T.zA [(bestTo (S.longer2 js) (S.longsTo js k) ((S.longsTo js k).length - 1))] Z (fun w => by kernel_rfl) hH663 (fun u664 lo666 hi667 w665 hH668 => (zC (⟨(hH668.sub (sC (sC (sC (sK (sK (sK (sC sR)))))))), (z1 9 kz Z (yB (n := 1) T.zA Z Z Z hH668 Z (Heap.yI T.zA hH668 (n := 0) Z) om2 (fun u669 lo671 hi672 w670 hH673 => (zC (⟨(hH673.sub (sC (sC (sC (sK (sK (sK (sC sR)))))))), ?_⟩)))))⟩)))))⟩)
    exact hM (u652, lo654, hi655, u669, lo671, hi672) _ _ (uC Z (uC Z (uC Z (uC Z (uC Z (Sub.nil _)))))) ((hH673.front (n := 2) Z).sub (sK (sC sR)))
   refine z2 T.zA [(bestTo (S.longer2 js) (S.longsTo js k) ((S.longsTo js k).length - 1))] Z (fun w => by kernel_rfl) hH656 (fun u676 lo678 hi679 w677 hH680 => (zC (⟨(hH680.sub (sC (sC (sK (sK (sK (sC sR))))))), (z1 6 kz Z (yV Z Z Z hH680 (c86 (Heap.yI T.zA hH680 (n := 2) Z) (by rw [List.length_append]; omega)) (fun u683 w681 lo684 hi685 hH682 hv686 => ?_)))⟩)))
   have hH687 := Heap.xZ hH682 (n := 0) Z
   refine zC (⟨(hH687.sub (sC (sC (sC (sK (sK (sK (sC sR)))))))), (z1 9 kz Z (yB (n := 0) T.zA Z Z Z hH687 Z (Heap.yI T.zA hH687 (n := 1) Z) om2 (fun u688 lo690 hi691 w689 hH692 => (zC (⟨(hH692.sub (sC (sC (sC (sK (sK (sK (sC sR)))))))), ?_⟩)))))⟩)
   exact hM (u652, lo654, hi655, u688, lo690, hi691) _ _ (uC Z (uC Z (uC Z (uC Z (uC Z (Sub.nil _)))))) ((hH692.front (n := 2) Z).sub (sK (sK (sC sR))))
  refine z2 T.zA [(bestTo (S.longer2 js) (S.longsTo js k) ((S.longsTo js k).length - 1))] Z (fun w => by kernel_rfl) hH651 (fun u695 lo697 hi698 w696 hH699 => (zC (⟨(hH699.sub (sC (sC (sK (sK (sK (sC sR))))))), (z1 4 kz Z (yB (n := 1) T.zA Z Z Z hH699 Z (Heap.yI T.zA hH699 (n := 2) Z) om2 (fun u700 lo702 hi703 w701 hH704 => (zC (⟨(hH704.sub (sC (sC (sK (sK (sK (sC sR))))))), (z1 6 kz Z (yV Z Z Z hH704 (c86 (Heap.yI T.zA hH704 (n := 2) Z) (by rw [List.length_append]; omega)) (fun u707 w705 lo708 hi709 hH706 hv710 => ?_)))⟩)))))⟩)))
  have hH711 := Heap.xZ hH706 (n := 0) Z
  refine zC (⟨(hH711.sub (sC (sC (sC (sK (sK (sK (sC sR)))))))), (z1 9 kz Z (yB (n := 0) T.zA Z Z Z hH711 Z (Heap.yI T.zA hH711 (n := 1) Z) om2 (fun u712 lo714 hi715 w713 hH716 => (zC (⟨(hH716.sub (sC (sC (sC (sK (sK (sK (sC sR)))))))), ?_⟩)))))⟩)
  exact hM (u700, lo702, hi703, u712, lo714, hi715) _ _ (uC Z (uC Z (uC Z (uC Z (uC Z (Sub.nil _)))))) ((hH716.front (n := 2) Z).sub (sK (sK (sC sR))))
 refine z2 T.zA [(bestTo (S.longer2 js) (S.longsTo js k) ((S.longsTo js k).length - 1))] Z (fun w => by kernel_rfl) hH633 (fun u719 lo721 hi722 w720 hH723 => (zC (⟨(hH723.sub (sC (sK (sK (sK (sC sR)))))), (z1 2 kz Z (z2 T.zA [(bestTo (S.longer2 js) (S.longsTo js k) ((S.longsTo js k).length - 1))] Z (fun w => by kernel_rfl) hH723 (fun u724 lo726 hi727 w725 hH728 => (zC (⟨(hH728.sub (sC (sC (sK (sK (sK (sC sR))))))), (z1 4 kz Z (yB (n := 0) T.zA Z Z Z hH728 Z (Heap.yI T.zA hH728 (n := 2) Z) om2 (fun u729 lo731 hi732 w730 hH733 => (zC (⟨(hH733.sub (sC (sC (sK (sK (sK (sC sR))))))), (z1 6 kz Z (yV Z Z Z hH733 (c86 (Heap.yI T.zA hH733 (n := 2) Z) (by rw [List.length_append]; omega)) (fun u736 w734 lo737 hi738 hH735 hv739 => ?_)))⟩)))))⟩)))))⟩)))
 have hH740 := Heap.xZ hH735 (n := 0) Z
 refine zC (⟨(hH740.sub (sC (sC (sC (sK (sK (sK (sC sR)))))))), (z1 9 kz Z (yB (n := 0) T.zA Z Z Z hH740 Z (Heap.yI T.zA hH740 (n := 2) Z) om2 (fun u741 lo743 hi744 w742 hH745 => (zC (⟨(hH745.sub (sC (sC (sC (sK (sK (sK (sC sR)))))))), ?_⟩)))))⟩)
 exact hM (u729, lo731, hi732, u741, lo743, hi744) _ _ (uC Z (uC Z (uC Z (uC Z (uC Z (Sub.nil _)))))) ((hH745.front (n := 1) Z).sub (sK (sK (sC sR))))
end Go.Fip
namespace Go.Fip
open Go.Proofs Go.RowKit
theorem c10 {v : Value} {js : List S.Pr} {w : World} (h0 : Rd encP 2 v js w) (hn : js.length ≤ 1000000)  :
  Fn Tryz.prog 10 [v].toArray w (fun u w => ∃ q, u = .tuple #[q, .int .i64 (S.plan js).2] ∧ Own 69 2 encP q (S.plan js).1 w) := by
 refine fz Tryz.func10 Z kz Z Z (fun hH => (zr (oA hH Z (oA hH Z (zt (seq (zr (oM hH Z (zM Z Z Z hH (c26 (h0.now hH (n := 0) Z) om) (fun w1 hH2 => (oA hH2 Z (zs (oM hH2 Z (oY hH2 (yF Z Z) (zt ?_)))))))))))))))
 by_cases hc3 : (S.checkJobs js) = 0
 ·have hc0 : S.checkJobs js = 0 := by omega
  have hj := S.checkJobs_iff.1 hc0
  have hl1 := hj.1
  have hl8 := hj.2.1
  have hpo := S.planOrd_len (l := js)
  refine zL Z (zG hc3) (skip (zu (oM hH2 Z (oM hH2 Z (yV Z Z Z hH2 (c27 (h0.now hH2 (n := 0) Z) hj) (fun u6 w4 lo7 hi8 hH5 hv9 => ?_))))))
  obtain ⟨ob10, ot11, of12, hu, -⟩ := hv9
  subst hu
  have hH13 := Heap.rd3 hH5 (n := 0) Z
  refine yV Z Z Z hH13 (c17 (h0.now hH13 (n := 1) Z) ((Heap.xM hH13 (n := 0) Z).1) ((Heap.xM hH13 (n := 0) Z).2.1) ((Heap.xM hH13 (n := 0) Z).2.2) om om om om) (fun u16 w14 lo17 hi18 hH15 hv19 => ?_)
  obtain ⟨p21, hu, -⟩ := hv19
  subst hu
  have hH20 := Heap.tup2 hH15 (n := 0) Z
  refine oY hH20 (zH Z Z) (oY hH20 (zH Z Z) (oA hH20 Z (oA hH20 Z (zt (ret (fin ((hH20.sub (sK (sC sR))).front (n := 1) Z) (fun w' hf => (xI Z (rt Z) (rt Z))) (fun w' hf => ?_)))))))
  first | (rw [S.plan1 (by assumption)]; exact ⟨_, rfl, vT⟩) | (rw [S.plan2 hc0]; exact ⟨_, rfl, Heap.own hf (n := 0) rfl⟩)
 refine zO Z (zF hc3) (zr (oM hH2 Z (oA hH2 Z (oA hH2 Z (zt (ret (z6 (fin hH2 (fun w' hf => (xI Z (rt Z) (rt Z))) (fun w' hf => ?_)))))))))
 first | (rw [S.plan1 (by assumption)]; exact ⟨_, rfl, vT⟩) | (rw [S.plan2 hc0]; exact ⟨_, rfl, Heap.own hf (n := 0) rfl⟩)
theorem c70 {v u : Value} {js ps : List S.Pr} {w : World} (h0 : Rd encP 2 v js w) (h1 : Rd encP 2 u ps w) (hn : js.length ≤ 1000000) (hn2 : ps.length ≤ 1000000)  :
  Fn Tryz.prog 70 [v, u].toArray w (fun u _ => u = .bool (decide (js = ps))) := by
 refine fz Tryz.func70 Z kz Z Z (fun hH => (zr (oA hH Z (zt (seq (zr (oM hH Z (oY hH (z8 T.j0 Z (h0.now hH (n := 0) Z).is) (oM hH Z (oY hH (z8 T.j0 Z (h1.now hH (n := 0) Z).is) (oY hH (yF Z Z) (zt ?_))))))))))))
 by_cases hc1 : (js.length : Int) = (ps.length : Int)
 ·refine zL Z (zG hc1) (skip (zN (seq (zr (oA hH Z (zt (block (loop (S := Nat) (fun k => [(5, (.int .i64 (k : Int))), (0, v), (1, u)]) (fun k w1 => Heap [base w] w1 ∧ k ≤ js.length ∧ ∀ i, i < k → nth js (i : Int) = nth ps (i : Int)) (fun k => js.length - k) (0) (uC Z (uC Z (uC Z (Sub.nil _)))) ?_ ?_))))))))
  ·exact ⟨hH, om, S.all_zero⟩
  rintro k w2 ⟨hH3, hk, hall⟩
  refine seq (zr (oM hH3 Z (oM hH3 Z (oY hH3 (z8 T.j0 Z (h0.now hH3 (n := 0) Z).is) (oY hH3 (yL Z Z) (zt ?_))))))
  by_cases hc4 : (k : Int) < (js.length : Int)
  ·refine zO Z (dT hc4) (skip (zN (seq (block (seq (zY (fun w' => Heap [base w] w') T.mixed (fun w5 hr6 => ?_)))))))
   have hH7 := hH3.redrawn hr6
   refine zK [0, 1, 2, 3, 4, 5, 6, 7, 8] kz hH7 _ _ _ kz (qM Z Z Z (qM Z Z Z (zJ Z Z (zP T.j0 Z Z (h0.now hH7 (n := 0) Z).is om) (zJ Z Z (zW (cs := [(.int .i64 ((nth js (k : Int)).1)), (.int .i64 ((nth js (k : Int)).2))]) T.zAd Z Z (fun _ hw => Rd.KB (h0.now hw (n := 0) Z) (i := (k : Int)) om)) (qM Z Z Z (qM Z Z Z (zJ Z Z (zP T.j0 Z Z (h1.now hH7 (n := 0) Z).is om) (zJ Z Z (zW (cs := [(.int .i64 ((nth ps (k : Int)).1)), (.int .i64 ((nth ps (k : Int)).2))]) T.zAd Z Z (fun _ hw => Rd.KB (h1.now hw (n := 0) Z) (i := (k : Int)) om)) (zJ Z Z (WV (a := [(nth js (k : Int)).1, (nth js (k : Int)).2]) (b := [(nth ps (k : Int)).1, (nth ps (k : Int)).2]) T.zD0 Z Z Z Z) (zQ (zX kz (zN ?_))))))))))))
   by_cases hc8 : [(nth js (k : Int)).1, (nth js (k : Int)).2] = [(nth ps (k : Int)).1, (nth ps (k : Int)).2]
   ·refine zL Z (zG hc8) (skip (yC (zN (region (oM hH7 Z (oY hH7 (zV Z Z om) (oA hH7 Z (zC (y0 (k + 1) (uC Z (uC Z (uC Z (Sub.nil _)))) (⟨hH7, om, S.all_snoc hall (S.of_pair ‹_›)⟩) om3)))))))))
   have hne : ¬ nth js (k : Int) = nth ps (k : Int) := fun h => absurd (S.to_pair h) ‹_›
   refine zO Z (zF hc8) (zr (oA hH7 Z (zt (ret (yE (z6 (xY (yE (z6 (fin hH7 (fun w' hf => (yN Z (rt Z))) (fun w' hf => ?_)))))))))))
   first | exact congrArg Value.bool (decide_eq_false (fun h => by subst h; first | omega | exact hne rfl)).symm | exact congrArg Value.bool (decide_eq_true (S.same_ext (by omega) (fun i hi => hall i (by omega)))).symm
  refine zL Z (dF hc4) (exit (yZ (xF (z7 (zu (oA hH3 Z (zt (ret (fin hH3 (fun w' hf => (yN Z (rt Z))) (fun w' hf => ?_))))))))))
  first | exact congrArg Value.bool (decide_eq_false (fun h => by subst h; first | omega | exact hne rfl)).symm | exact congrArg Value.bool (decide_eq_true (S.same_ext (by omega) (fun i hi => hall i (by omega)))).symm
 refine zO Z (zF hc1) (zr (oA hH Z (zt (ret (z6 (fin hH (fun w' hf => (yN Z (rt Z))) (fun w' hf => ?_)))))))
 first | exact congrArg Value.bool (decide_eq_false (fun h => by subst h; first | omega | exact hne rfl)).symm | exact congrArg Value.bool (decide_eq_true (S.same_ext (by omega) (fun i hi => hall i (by omega)))).symm
theorem c67 {v : Value} {w : World}  :
  Fn Tryz.prog 67 [v].toArray w (fun u _ => u = v) := by
 refine fz Tryz.func67 Z kz Z Z (fun hH => (zr (oA hH Z (zs (oM hH Z (oA hH Z (zt (ret (fin hH (fun w' hf => (yN Z (rt Z))) (fun w' hf => Z))))))))))
theorem c61 {v : Value} {l : List Int} {w : World} (h0 : Rd encI 1 v l w) (hn : l.length ≤ 1000000)  :
  Fn Tryz.prog 61 [v].toArray w (fun u w => Own 36 2 encP u (S.pairsTo l (l.length / 2)) w) := by
 refine fz Tryz.func61 Z kz Z Z (fun hH => (zr (oA hH Z (zs (oA hH Z (zt (seq (zr (oA hH Z (zt (block ?_)))))))))))
 have hH1 := v8 (enc := encP) 36 2 hH
 refine loop (S := Nat × Value × Nat × Nat) (fun (k, v_3, lo_3, hi_3) => [(4, (.int .i64 (2 * (k : Int)))), (3, v_3), (0, v), (2, (.slice none 0 0))]) (fun (k, v_3, lo_3, hi_3) w1 => Heap [ow lo_3 hi_3 36 2 encP v_3 (S.pairsTo l k), base w] w1 ∧ k ≤ l.length / 2) (fun (k, v_3, lo_3, hi_3) => l.length / 2 - k) (0, (.slice none 0 0), w.heap.size, w.heap.size) (uC Z (uC Z (uC Z (uC Z (Sub.nil _))))) ?_ ?_
 ·exact ⟨(Heap.y1 (n := 0) hH1 Z (Z)), om⟩
 rintro ⟨k, v_3, lo_3, hi_3⟩ w2 ⟨hH3, hk⟩
 refine seq (zr (oM hH3 Z (oY hH3 (zV Z Z om) (oM hH3 Z (oY hH3 (z8 T.xR Z (h0.now hH3 (n := 1) Z).is) (oY hH3 (yL Z Z) (zt ?_)))))))
 by_cases hc4 : ((2 * (k : Int)) + 1) < (l.length : Int)
 ·refine zO Z (dT hc4) (skip (zN (seq (block ?_))))
  have hpl := S.pairsTo_length l k
  refine zY (fun w' => True) T.mixed (fun w5 hr6 => ?_)
  have hH7 := hH3.redrawn hr6
  refine zK [0, 1, 2, 3, 5, 6, 7, 8] kz trivial _ _ _ kz (qM Z Z Z (qM Z Z Z (qM Z Z Z (zJ Z Z (zP T.xR Z Z (h0.now hH7 (n := 1) Z).is om) (qM Z Z Z (qM Z Z Z (zJ Z Z (zV Z Z om) (zJ Z Z (zP T.xR Z Z (h0.now hH7 (n := 1) Z).is om) (zQ (xH [4, 9] kz Z (⟨⟨_, Z, ?_⟩, ⟨_, Z, ?_⟩, trivial⟩)))))))))))
  ·refine oY hH7 (zE T.yT Z (fun _ hw => Rd.at (h0.now hw (n := 1) Z) (i := (2 * (k : Int))) om (j := 0) Z)) (zC (⟨trivial, (z1 9 kz Z (oY hH7 (zE T.yT Z (fun _ hw => Rd.at (h0.now hw (n := 1) Z) (i := (2 * (k : Int)) + 1) om (j := 0) Z)) (zC (⟨trivial, (zK [10] kz trivial _ _ _ kz (zJ Z Z (yR (v := (.agg #[(.int .i64 (nth l (2 * (k : Int)))), (.int .i64 (nth l ((2 * (k : Int)) + 1)))])) Z (fun w => by kernel_rfl)) (zQ (z1 11 kz Z (z2 T.yW [(nth l (2 * (k : Int)), nth l ((2 * (k : Int)) + 1))] Z (fun w => by kernel_rfl) hH7 (fun u8 lo10 hi11 w9 hH12 => (zC (⟨trivial, (z1 12 kz Z (yB (n := 1) T.yW Z Z Z hH12 Z (Heap.yI T.yW hH12 (n := 0) Z) om2 (fun u13 lo15 hi16 w14 hH17 => (zC (⟨trivial, (zK [13] kz trivial _ _ _ kz ?_)⟩)))))⟩))))))))⟩))))⟩))
   refine zJ Z Z (yK Z) (zQ (zX kz (yC (zN (region (oM hH17 Z (oY hH17 (zV Z Z om) (oA hH17 Z (zC (y0 (k + 1, u13, lo15, hi16) (Sub.cons (congrArg (fun z => some (Value.int .i64 z)) om) (uC Z (uC Z (uC Z (Sub.nil _))))) (⟨(Heap.y1 (n := 0) (hH17.sub (sC sR)) Z (Z)), om⟩) om3))))))))))
  refine oY hH7 (zE T.yT Z (fun _ hw => Rd.at (h0.now hw (n := 1) Z) (i := (2 * (k : Int)) + 1) om (j := 0) Z)) (zC (⟨trivial, (z1 4 kz Z (oY hH7 (zE T.yT Z (fun _ hw => Rd.at (h0.now hw (n := 1) Z) (i := (2 * (k : Int))) om (j := 0) Z)) (zC (⟨trivial, (zK [10] kz trivial _ _ _ kz (zJ Z Z (yR (v := (.agg #[(.int .i64 (nth l (2 * (k : Int)))), (.int .i64 (nth l ((2 * (k : Int)) + 1)))])) Z (fun w => by kernel_rfl)) (zQ (z1 11 kz Z (z2 T.yW [(nth l (2 * (k : Int)), nth l ((2 * (k : Int)) + 1))] Z (fun w => by kernel_rfl) hH7 (fun u19 lo21 hi22 w20 hH23 => (zC (⟨trivial, (z1 12 kz Z (yB (n := 1) T.yW Z Z Z hH23 Z (Heap.yI T.yW hH23 (n := 0) Z) om2 (fun u24 lo26 hi27 w25 hH28 => (zC (⟨trivial, (zK [13] kz trivial _ _ _ kz ?_)⟩)))))⟩))))))))⟩))))⟩))
  refine zJ Z Z (yK Z) (zQ (zX kz (yC (zN (region (oM hH28 Z (oY hH28 (zV Z Z om) (oA hH28 Z (zC (y0 (k + 1, u24, lo26, hi27) (Sub.cons (congrArg (fun z => some (Value.int .i64 z)) om) (uC Z (uC Z (uC Z (Sub.nil _))))) (⟨(Heap.y1 (n := 0) (hH28.sub (sC sR)) Z (Z)), om⟩) om3))))))))))
 refine zL Z (dF hc4) (exit (yZ (xF (z7 (zu (oM hH3 Z (oA hH3 Z (zt (ret (fin (hH3.front (n := 1) Z) (fun w' hf => (yN Z (rt Z))) (fun w' hf => ?_)))))))))))
 have hk2 : k = l.length / 2 := by omega
 subst hk2; exact Heap.own hf (n := 0) rfl
theorem c62 {v : Value} {l : List Int} {w : World} (h0 : Rd encI 1 v l w) (hn : l.length ≤ 1000000)  :
  Fn Tryz.prog 62 [v].toArray w (fun u w => Own 69 2 encP u (S.pairsTo l (l.length / 2)) w) := by
 refine fz Tryz.func62 Z kz Z Z (fun hH => (zr (oA hH Z (zs (oA hH Z (zt (seq (zr (oA hH Z (zt (block ?_)))))))))))
 have hH1 := v8 (enc := encP) 69 2 hH
 refine loop (S := Nat × Value × Nat × Nat) (fun (k, v_3, lo_3, hi_3) => [(4, (.int .i64 (2 * (k : Int)))), (3, v_3), (0, v), (2, (.slice none 0 0))]) (fun (k, v_3, lo_3, hi_3) w1 => Heap [ow lo_3 hi_3 69 2 encP v_3 (S.pairsTo l k), base w] w1 ∧ k ≤ l.length / 2) (fun (k, v_3, lo_3, hi_3) => l.length / 2 - k) (0, (.slice none 0 0), w.heap.size, w.heap.size) (uC Z (uC Z (uC Z (uC Z (Sub.nil _))))) ?_ ?_
 ·exact ⟨(Heap.y1 (n := 0) hH1 Z (Z)), om⟩
 rintro ⟨k, v_3, lo_3, hi_3⟩ w2 ⟨hH3, hk⟩
 refine seq (zr (oM hH3 Z (oY hH3 (zV Z Z om) (oM hH3 Z (oY hH3 (z8 T.xR Z (h0.now hH3 (n := 1) Z).is) (oY hH3 (yL Z Z) (zt ?_)))))))
 by_cases hc4 : ((2 * (k : Int)) + 1) < (l.length : Int)
 ·refine zO Z (dT hc4) (skip (zN (seq (block ?_))))
  have hpl := S.pairsTo_length l k
  refine zY (fun w' => True) T.mixed (fun w5 hr6 => ?_)
  have hH7 := hH3.redrawn hr6
  refine zK [0, 1, 2, 3, 5, 6, 7, 8] kz trivial _ _ _ kz (qM Z Z Z (qM Z Z Z (qM Z Z Z (zJ Z Z (zP T.xR Z Z (h0.now hH7 (n := 1) Z).is om) (qM Z Z Z (qM Z Z Z (zJ Z Z (zV Z Z om) (zJ Z Z (zP T.xR Z Z (h0.now hH7 (n := 1) Z).is om) (zQ (xH [4, 9] kz Z (⟨⟨_, Z, ?_⟩, ⟨_, Z, ?_⟩, trivial⟩)))))))))))
  ·refine oY hH7 (zE T.yT Z (fun _ hw => Rd.at (h0.now hw (n := 1) Z) (i := (2 * (k : Int))) om (j := 0) Z)) (zC (⟨trivial, (z1 9 kz Z (oY hH7 (zE T.yT Z (fun _ hw => Rd.at (h0.now hw (n := 1) Z) (i := (2 * (k : Int)) + 1) om (j := 0) Z)) (zC (⟨trivial, (zK [10] kz trivial _ _ _ kz (zJ Z Z (yR (v := (.agg #[(.int .i64 (nth l (2 * (k : Int)))), (.int .i64 (nth l ((2 * (k : Int)) + 1)))])) Z (fun w => by kernel_rfl)) (zQ (z1 11 kz Z (z2 T.xT [(nth l (2 * (k : Int)), nth l ((2 * (k : Int)) + 1))] Z (fun w => by kernel_rfl) hH7 (fun u8 lo10 hi11 w9 hH12 => (zC (⟨trivial, (z1 12 kz Z (yB (n := 1) T.xT Z Z Z hH12 Z (Heap.yI T.xT hH12 (n := 0) Z) om2 (fun u13 lo15 hi16 w14 hH17 => (zC (⟨trivial, (zK [13] kz trivial _ _ _ kz ?_)⟩)))))⟩))))))))⟩))))⟩))
   refine zJ Z Z (yK Z) (zQ (zX kz (yC (zN (region (oM hH17 Z (oY hH17 (zV Z Z om) (oA hH17 Z (zC (y0 (k + 1, u13, lo15, hi16) (Sub.cons (congrArg (fun z => some (Value.int .i64 z)) om) (uC Z (uC Z (uC Z (Sub.nil _))))) (⟨(Heap.y1 (n := 0) (hH17.sub (sC sR)) Z (Z)), om⟩) om3))))))))))
  refine oY hH7 (zE T.yT Z (fun _ hw => Rd.at (h0.now hw (n := 1) Z) (i := (2 * (k : Int)) + 1) om (j := 0) Z)) (zC (⟨trivial, (z1 4 kz Z (oY hH7 (zE T.yT Z (fun _ hw => Rd.at (h0.now hw (n := 1) Z) (i := (2 * (k : Int))) om (j := 0) Z)) (zC (⟨trivial, (zK [10] kz trivial _ _ _ kz (zJ Z Z (yR (v := (.agg #[(.int .i64 (nth l (2 * (k : Int)))), (.int .i64 (nth l ((2 * (k : Int)) + 1)))])) Z (fun w => by kernel_rfl)) (zQ (z1 11 kz Z (z2 T.xT [(nth l (2 * (k : Int)), nth l ((2 * (k : Int)) + 1))] Z (fun w => by kernel_rfl) hH7 (fun u19 lo21 hi22 w20 hH23 => (zC (⟨trivial, (z1 12 kz Z (yB (n := 1) T.xT Z Z Z hH23 Z (Heap.yI T.xT hH23 (n := 0) Z) om2 (fun u24 lo26 hi27 w25 hH28 => (zC (⟨trivial, (zK [13] kz trivial _ _ _ kz ?_)⟩)))))⟩))))))))⟩))))⟩))
  refine zJ Z Z (yK Z) (zQ (zX kz (yC (zN (region (oM hH28 Z (oY hH28 (zV Z Z om) (oA hH28 Z (zC (y0 (k + 1, u24, lo26, hi27) (Sub.cons (congrArg (fun z => some (Value.int .i64 z)) om) (uC Z (uC Z (uC Z (Sub.nil _))))) (⟨(Heap.y1 (n := 0) (hH28.sub (sC sR)) Z (Z)), om⟩) om3))))))))))
 refine zL Z (dF hc4) (exit (yZ (xF (z7 (zu (oM hH3 Z (oA hH3 Z (zt (ret (fin (hH3.front (n := 1) Z) (fun w' hf => (yN Z (rt Z))) (fun w' hf => ?_)))))))))))
 have hk2 : k = l.length / 2 := by omega
 subst hk2; exact Heap.own hf (n := 0) rfl
theorem c65 {w : World}  :
  Fn Tryz.prog 65 [].toArray w (fun u w => ∃ b t f, u = .agg #[b, t, f] ∧ Rd3 b t f [0, 1] [1, 0] [1, 0] w) := by
 refine fz Tryz.func65 Z kz Z Z (fun hH => (zr (yD (z := (.agg #[(.slice none 0 0), (.slice none 0 0), (.slice none 0 0)])) (fun _ => by kernel_rfl) Z Z hH (fun b1 w2 hH3 => (zs (z2 T.zA [0, 1] Z (fun w => by kernel_rfl) hH3 (fun u4 lo6 hi7 w5 hH8 => (zM Z Z Z hH8 (c67) (fun w9 hH10 => (z2 T.zA [1, 0] Z (fun w => by kernel_rfl) hH10 (fun u11 lo13 hi14 w12 hH15 => (zM Z Z Z hH15 (c67) (fun w16 hH17 => (z2 T.zA [1, 0] Z (fun w => by kernel_rfl) hH17 (fun u18 lo20 hi21 w19 hH22 => (zM Z Z Z hH22 (c67) (fun w23 hH24 => ?_)))))))))))))))))
 obtain ⟨_, _, hb25, _⟩ := (Heap.yI T.zA hH24 (n := 2) rfl).is
 obtain ⟨_, _, hb26, _⟩ := (Heap.yI T.zA hH24 (n := 1) rfl).is
 obtain ⟨_, _, hb27, _⟩ := (Heap.yI T.zA hH24 (n := 0) rfl).is
 refine oY hH24 (yR (v := (.agg #[u4, u11, u18])) Z (fun w => by rw [hb25, hb26, hb27]; kernel_rfl)) (zS (n := 3) (j := 0) Z Z hH24 Z T.VL Z Z Z (xK (SliceIs.uT (Heap.yI T.zA hH24 (n := 2) Z).is) (xK (SliceIs.uT (Heap.yI T.zA hH24 (n := 1) Z).is) (xK (SliceIs.uT (Heap.yI T.zA hH24 (n := 0) Z).is) Z))) (fun w28 hH29 => (zt (ret (fin (hH29.front (n := 4) Z) (fun w' hf => (yN Z (rvA (cs := [u4, u11, u18]) Z T.uF Z (y3 (Heap.xV hf (n := 4) Z) (k := 0) Z)))) (fun w' hf => ?_))))))
 exact ⟨_, _, _, Z, Heap.yI T.zA hf (n := 2) Z, Heap.yI T.zA hf (n := 1) Z, Heap.yI T.zA hf (n := 0) Z⟩
theorem c64 {w : World}  :
  Fn Tryz.prog 64 [].toArray w (fun u w => ∃ b t f, u = .agg #[b, t, f] ∧ Rd3 b t f [0, 1, 2] [2, 0, 1] [0, 0, 1] w) := by
 refine fz Tryz.func64 Z kz Z Z (fun hH => (zr (yD (z := (.agg #[(.slice none 0 0), (.slice none 0 0), (.slice none 0 0)])) (fun _ => by kernel_rfl) Z Z hH (fun b1 w2 hH3 => (zs (z2 T.zA [0, 1, 2] Z (fun w => by kernel_rfl) hH3 (fun u4 lo6 hi7 w5 hH8 => (zM Z Z Z hH8 (c67) (fun w9 hH10 => (z2 T.zA [2, 0, 1] Z (fun w => by kernel_rfl) hH10 (fun u11 lo13 hi14 w12 hH15 => (zM Z Z Z hH15 (c67) (fun w16 hH17 => (z2 T.zA [0, 0, 1] Z (fun w => by kernel_rfl) hH17 (fun u18 lo20 hi21 w19 hH22 => (zM Z Z Z hH22 (c67) (fun w23 hH24 => ?_)))))))))))))))))
 obtain ⟨_, _, hb25, _⟩ := (Heap.yI T.zA hH24 (n := 2) rfl).is
 obtain ⟨_, _, hb26, _⟩ := (Heap.yI T.zA hH24 (n := 1) rfl).is
 obtain ⟨_, _, hb27, _⟩ := (Heap.yI T.zA hH24 (n := 0) rfl).is
 refine oY hH24 (yR (v := (.agg #[u4, u11, u18])) Z (fun w => by rw [hb25, hb26, hb27]; kernel_rfl)) (zS (n := 3) (j := 0) Z Z hH24 Z T.VL Z Z Z (xK (SliceIs.uT (Heap.yI T.zA hH24 (n := 2) Z).is) (xK (SliceIs.uT (Heap.yI T.zA hH24 (n := 1) Z).is) (xK (SliceIs.uT (Heap.yI T.zA hH24 (n := 0) Z).is) Z))) (fun w28 hH29 => (zt (ret (fin (hH29.front (n := 4) Z) (fun w' hf => (yN Z (rvA (cs := [u4, u11, u18]) Z T.uF Z (y3 (Heap.xV hf (n := 4) Z) (k := 0) Z)))) (fun w' hf => ?_))))))
 exact ⟨_, _, _, Z, Heap.yI T.zA hf (n := 2) Z, Heap.yI T.zA hf (n := 1) Z, Heap.yI T.zA hf (n := 0) Z⟩
end Go.Fip
namespace Go.Fip
open Go.Proofs Go.RowKit
theorem zC0 {g off m c n cap : Nat} {xs : List Int} {w : World} (h0 : Own 3 1 encI (.slice (some ⟨g, 0, none⟩) n cap) xs w) (hm : off + m = xs.length) (hc : m ≤ c) (hx : n = xs.length) (hn : xs.length ≤ 1000000) :
  FnM Tryz.prog 160 [(.slice (some ⟨g, off, none⟩) m c)].toArray w g (fun _ w => Rd encI 1 (.slice (some ⟨g, off, none⟩) m c) (xs.drop off).reverse w) := by
 refine uQ (args := [(.slice (some ⟨g, off, none⟩) m c)]) Tryz.func160 Z (ent Tryz.func160 kz Z) Z Z (qF h0 Z) (fun hH => ?_)
 have hdl : (xs.drop off).length = m := by rw [List.length_drop]; omega
 refine zr (oM hH Z (oY hH (z8 T.yS Z (vQ (Heap.yI T.zA hH (n := 0) Z) (by first | omega | (simp only [List.length_set]; omega)) (by first | omega | (simp only [List.length_set]; omega)) hc).is) (oY hH (y8 Z Z om) (oA hH Z (oA hH Z (zt (block (loop (S := Nat × List Int) (fun (i, L) => [(2, (.int .i64 (i : Int))), (3, (.int .i64 ((m : Int) - 1 - (i : Int)))), (0, (.slice (some ⟨g, off, none⟩) m c))]) (fun (i, L) w1 => Heap [ow g (g + 1) 3 1 encI (.slice (some ⟨g, 0, none⟩) n cap) L, restL w g, restR w g] w1 ∧ L.length = xs.length ∧ i ≤ m ∧ RevAt (xs.drop off) (L.drop off) i) (fun (i, L) => m - i) (0, xs) (uC Z (Sub.cons (congrArg (fun z => some (Value.int .i64 z)) om) (uC Z (Sub.nil _)))) ?_ ?_))))))))
 ·exact ⟨hH, Z, om, RevAt.start _⟩
 rintro ⟨i, L⟩ w1 ⟨hH2, hL, him, hR⟩
 have hLd : (L.drop off).length = m := by rw [List.length_drop]; omega
 refine seq (zr (oM hH2 Z (oM hH2 Z (oY hH2 (yL Z Z) (zt ?_)))))
 by_cases hc3 : (i : Int) < ((m : Int) - 1 - (i : Int))
 ·have hij : i < (xs.drop off).length - 1 - i := by omega
  have hstep0 := hR.step hij
  have hstep := zBk (L := L) (off := off) (i := i) (j := (m : Int) - 1 - (i : Int)) (by omega) (by rw [hdl]; omega) hstep0
  refine zO Z (dT hc3) (skip (zN (seq (block (zY (fun w' => True) T.mixed (fun w4 hr5 => ?_))))))
  have hH6 := hH2.redrawn hr5
  refine zK [0, 1, 2, 3, 4, 5, 6, 8, 9, 10] kz trivial _ _ _ kz (qM Z Z Z (qM Z Z Z (qM Z Z Z (qM Z Z Z (qM Z Z Z (qM Z Z Z (zJ Z Z (zP T.yS Z Z (vQ (Heap.yI T.zA hH6 (n := 0) Z) (by first | omega | (simp only [List.length_set]; omega)) (by first | omega | (simp only [List.length_set]; omega)) hc).is om) (qM Z Z Z (qM Z Z Z (zJ Z Z (zP T.yS Z Z (vQ (Heap.yI T.zA hH6 (n := 0) Z) (by first | omega | (simp only [List.length_set]; omega)) (by first | omega | (simp only [List.length_set]; omega)) hc).is om) (zQ (xH [7, 11] kz Z (⟨⟨_, Z, ?_⟩, ⟨_, Z, ?_⟩, trivial⟩)))))))))))))
  ·refine oY hH6 (zE T.yU Z (fun _ hw => Rd.at (vQ (Heap.yI T.zA hw (n := 0) Z) (by first | omega | (simp only [List.length_set]; omega)) (by first | omega | (simp only [List.length_set]; omega)) hc) (i := ((m : Int) - 1 - (i : Int))) om (j := 0) Z)) (zC (⟨trivial, (z1 11 kz Z (oY hH6 (zE T.yU Z (fun _ hw => Rd.at (vQ (Heap.yI T.zA hw (n := 0) Z) (by first | omega | (simp only [List.length_set]; omega)) (by first | omega | (simp only [List.length_set]; omega)) hc) (i := (i : Int)) om (j := 0) Z)) (zC (⟨trivial, (zK [12] kz trivial _ _ _ kz (zJ Z Z (zP T.yS Z Z (vQ (Heap.yI T.zA hH6 (n := 0) Z) (by first | omega | (simp only [List.length_set]; omega)) (by first | omega | (simp only [List.length_set]; omega)) hc).is om) (zQ (z1 13 kz Z (x4 (s := (.slice (some ⟨g, 0, none⟩) n cap)) (n := 0) (i := ((off : Int) + (i : Int))) (k := 0) (us := [(.int .i64 (nth (L.drop off) ((m : Int) - 1 - (i : Int))))]) (z := nth (L.drop off) ((m : Int) - 1 - (i : Int))) T.zA (Eq.trans (show ev _ _ = some (Value.pointer (some ⟨g, off + (i : Int).toNat * 1, none⟩)) from Z) (congrArg (fun o => some (Value.pointer (some ⟨g, o, none⟩))) (show off + (i : Int).toNat * 1 = 0 + ((off : Int) + (i : Int)).toNat * 1 + 0 by omega))) Z hH6 Z (by first | omega | (simp only [List.length_set]; omega)) T.sz3 Z Z Z (Nat.le_of_ble_eq_true Z) (fun w7 hH8 => (zC (⟨trivial, (zK [14] kz trivial _ _ _ kz (zJ Z Z (zP T.yS Z Z (vQ (Heap.yI T.zA hH8 (n := 0) Z) (by first | omega | (simp only [List.length_set]; omega)) (by first | omega | (simp only [List.length_set]; omega)) hc).is (by simp only [List.length_drop, List.length_set]; omega)) (zQ (z1 15 kz Z (x4 (s := (.slice (some ⟨g, 0, none⟩) n cap)) (n := 0) (i := ((off : Int) + ((m : Int) - 1 - (i : Int)))) (k := 0) (us := [(.int .i64 (nth (L.drop off) (i : Int)))]) (z := nth (L.drop off) (i : Int)) T.zA (Eq.trans (show ev _ _ = some (Value.pointer (some ⟨g, off + ((m : Int) - 1 - (i : Int)).toNat * 1, none⟩)) from Z) (congrArg (fun o => some (Value.pointer (some ⟨g, o, none⟩))) (show off + ((m : Int) - 1 - (i : Int)).toNat * 1 = 0 + ((off : Int) + ((m : Int) - 1 - (i : Int))).toNat * 1 + 0 by omega))) Z hH8 Z (by first | omega | (simp only [List.length_set]; omega)) T.sz3 Z Z Z (Nat.le_of_ble_eq_true Z) (fun w9 hH10 => ?_))))))⟩))))))))⟩))))⟩))
   refine zC (⟨trivial, (zX kz (yC (zN (region (oM hH10 Z (oY hH10 (zV Z Z om) (oM hH10 Z (oY hH10 (y8 Z Z om) (oA hH10 Z (oA hH10 Z (zC (y0 (i + 1, ((L.set ((off : Int) + (i : Int)).toNat (nth (L.drop off) ((m : Int) - 1 - (i : Int)))).set ((off : Int) + ((m : Int) - 1 - (i : Int))).toNat (nth (L.drop off) (i : Int)))) (uC Z (Sub.cons (congrArg (fun z => some (Value.int .i64 z)) om) (uC Z (Sub.nil _)))) (⟨hH10, by simp; omega, om, hstep⟩) om3))))))))))))⟩)
  refine oY hH6 (zE T.yU Z (fun _ hw => Rd.at (vQ (Heap.yI T.zA hw (n := 0) Z) (by first | omega | (simp only [List.length_set]; omega)) (by first | omega | (simp only [List.length_set]; omega)) hc) (i := (i : Int)) om (j := 0) Z)) (zC (⟨trivial, (z1 7 kz Z (oY hH6 (zE T.yU Z (fun _ hw => Rd.at (vQ (Heap.yI T.zA hw (n := 0) Z) (by first | omega | (simp only [List.length_set]; omega)) (by first | omega | (simp only [List.length_set]; omega)) hc) (i := ((m : Int) - 1 - (i : Int))) om (j := 0) Z)) (zC (⟨trivial, (zK [12] kz trivial _ _ _ kz (zJ Z Z (zP T.yS Z Z (vQ (Heap.yI T.zA hH6 (n := 0) Z) (by first | omega | (simp only [List.length_set]; omega)) (by first | omega | (simp only [List.length_set]; omega)) hc).is om) (zQ (z1 13 kz Z (x4 (s := (.slice (some ⟨g, 0, none⟩) n cap)) (n := 0) (i := ((off : Int) + (i : Int))) (k := 0) (us := [(.int .i64 (nth (L.drop off) ((m : Int) - 1 - (i : Int))))]) (z := nth (L.drop off) ((m : Int) - 1 - (i : Int))) T.zA (Eq.trans (show ev _ _ = some (Value.pointer (some ⟨g, off + (i : Int).toNat * 1, none⟩)) from Z) (congrArg (fun o => some (Value.pointer (some ⟨g, o, none⟩))) (show off + (i : Int).toNat * 1 = 0 + ((off : Int) + (i : Int)).toNat * 1 + 0 by omega))) Z hH6 Z (by first | omega | (simp only [List.length_set]; omega)) T.sz3 Z Z Z (Nat.le_of_ble_eq_true Z) (fun w11 hH12 => (zC (⟨trivial, (zK [14] kz trivial _ _ _ kz (zJ Z Z (zP T.yS Z Z (vQ (Heap.yI T.zA hH12 (n := 0) Z) (by first | omega | (simp only [List.length_set]; omega)) (by first | omega | (simp only [List.length_set]; omega)) hc).is (by simp only [List.length_drop, List.length_set]; omega)) (zQ (z1 15 kz Z (x4 (s := (.slice (some ⟨g, 0, none⟩) n cap)) (n := 0) (i := ((off : Int) + ((m : Int) - 1 - (i : Int)))) (k := 0) (us := [(.int .i64 (nth (L.drop off) (i : Int)))]) (z := nth (L.drop off) (i : Int)) T.zA (Eq.trans (show ev _ _ = some (Value.pointer (some ⟨g, off + ((m : Int) - 1 - (i : Int)).toNat * 1, none⟩)) from Z) (congrArg (fun o => some (Value.pointer (some ⟨g, o, none⟩))) (show off + ((m : Int) - 1 - (i : Int)).toNat * 1 = 0 + ((off : Int) + ((m : Int) - 1 - (i : Int))).toNat * 1 + 0 by omega))) Z hH12 Z (by first | omega | (simp only [List.length_set]; omega)) T.sz3 Z Z Z (Nat.le_of_ble_eq_true Z) (fun w13 hH14 => ?_))))))⟩))))))))⟩))))⟩))
  refine zC (⟨trivial, (zX kz (yC (zN (region (oM hH14 Z (oY hH14 (zV Z Z om) (oM hH14 Z (oY hH14 (y8 Z Z om) (oA hH14 Z (oA hH14 Z (zC (y0 (i + 1, ((L.set ((off : Int) + (i : Int)).toNat (nth (L.drop off) ((m : Int) - 1 - (i : Int)))).set ((off : Int) + ((m : Int) - 1 - (i : Int))).toNat (nth (L.drop off) (i : Int)))) (uC Z (Sub.cons (congrArg (fun z => some (Value.int .i64 z)) om) (uC Z (Sub.nil _)))) (⟨hH14, by simp; omega, om, hstep⟩) om3))))))))))))⟩)
 refine zL Z (dF hc3) (exit (yZ (xF (z7 (jT hH2 (kF Z ) (fun w' hf => ?_))))))
 have hd := hR.done (by omega)
 rw [← hd]; exact vQ (Own.rd (fun _ => rfl) hf.1) (by omega) (by omega) hc
end Go.Fip
namespace Go.Fip
open Go.Proofs Go.RowKit
theorem Rd.K7 {α : Type} {enc : α → List Value} {sz : Nat} {v : Value} {xs : List α} {w : World} (h : Rd enc sz v xs w) : Rd enc sz (ZA v sz 0 xs.length xs.length) xs w := by
 have h2 := h.cut3 (lo := 0) (hi := xs.length) (m := xs.length) (Nat.zero_le _) (Nat.le_refl _) (Nat.le_refl _) (fun a n c e => by
  obtain ⟨a', c', e', hc, _⟩ := h.is
  rw [e'] at e
  cases e
  exact hc)
 simpa using h2
theorem kC {v : Value} {sz n : Nat} (h : SliceIs v n) : ∃ a, ZA v sz 0 n n = .slice a n n := by
 obtain ⟨a, c, rfl, _⟩ := h
 exact ⟨_, Z⟩
theorem zEf {d m : Nat} {vb vt vf : Value} {js : List S.Pr} {B U F : List Int} {E : List (Int × Int)} {w : World} (hd : Day d vb vt vf m E w) (hB : Rd encI 1 vb B w) (hT : Rd encI 1 vt U w) (hF : Rd encI 1 vf F w) (hj : S.Jobs js) (hO : S.Ord js.length B U F) (hOK : S.DayOK js B U F E) (hp : E.length < 2 * js.length)  :
  Fn Tryz.prog 132 [(.pointer (some ⟨d, 0, none⟩))].toArray w (fun u w => ∃ c : List Int, Rd encI 1 u c w ∧ (2 ≤ c.length ∧ c.length ≤ 2 * js.length ∧ S.InC js.length c ∧ S.Circ B U F c)) := by
 refine fz Tryz.func132 Z kz Z Z (fun hH => ?_)
 have hO8 := hO
 obtain ⟨hlB, hlU, hlF, hOk⟩ := hO8
 have hl1 := hj.1
 have hl8 := hj.2.1
 obtain ⟨w0, hw0, hwn, hwr⟩ := hOK.part hp
 refine zr (yY Z Z Z hH (fun b1 w2 hH3 => (oA hH3 Z (zt (scope (zr (oA hH3 Z (zs (oY hH3 (zE T.kN Z (cw (n := 0) Z Z)) (oY hH3 (vF Z Z) (oA hH3 Z (zs (yD (z := (.int .i64 0)) (fun _ => by kernel_rfl) Z Z hH3 (fun b4 w5 hH6 => ?_))))))))))))))
 refine zS (n := 0) (j := 0) Z Z hH6 Z T.sz3 Z Z Z (by rfl) (fun w7 hH8 => (zt (seq (block ?_))))
 have hH9 := v8 (enc := encI) 3 1 hH8
 refine loop (S := Nat) (fun a => [(1, (.pointer (some ⟨b1, 0, none⟩))), (2, (.slice none 0 0)), (3, (.slice none 0 0)), (4, (.func (.func 149) #[(.pointer (some ⟨d, 0, none⟩))] #[])), (5, (.pointer (some ⟨b4, 0, none⟩)))]) (fun a w1 => Heap [ow w7.heap.size w7.heap.size 3 1 encI (.slice none 0 0) ([] : List Int), bx b4 3 [(.int .i64 (a : Int))], bx b1 81 [(.pointer (some ⟨d, 0, none⟩))], base w] w1 ∧ a ≤ w0) (fun a => w0 - a) (0) (uC Z (uC Z (uC Z (uC Z (uC Z (Sub.nil _)))))) ?_ ?_
 ·exact ⟨hH9, om⟩
 rintro a w10 ⟨hH11, ha⟩
 refine block (seq (zr (oM hH11 Z (oY hH11 (zE T.yU Z (cw (n := 1) Z Z)) (zM Z Z Z hH11 (zDz (hd.now hH11 (n := 3) Z) (hB.now hH11 (n := 3) Z) (hT.now hH11 (n := 3) Z) (hF.now hH11 (n := 3) Z) hO om om om hOK.hE) (fun w12 hH13 => (oM hH13 Z (oY hH13 (zH Z Z) (oY hH13 (zH Z Z) (oA hH13 Z (oA hH13 Z (zs (oM hH13 Z (oY hH13 (y6 Z) (zt ?_)))))))))))))))
 by_cases hc14 : (!((S.ready E B U F (a : Int)).2)) = true
 ·have hna : (S.ready E B U F (a : Int)).2 = false := by simpa using hc14
  refine zO Z hc14 (exit (yZ (YN Z (xF (z7 (zN (seq (label (zN (seq (block (loopD (S := List Int × Int × List Nat × Value × Nat × Nat) (fun (Q, x, Ds, v_3, lo_3, hi_3) => [(3, v_3), (1, (.pointer (some ⟨b1, 0, none⟩))), (2, (.slice none 0 0)), (5, (.pointer (some ⟨b4, 0, none⟩)))]) (fun (Q, x, Ds, v_3, lo_3, hi_3) => Ds.map isMark) (fun (Q, x, Ds, v_3, lo_3, hi_3) w1 => Heap ([ow lo_3 hi_3 3 1 encI v_3 Q, bx b4 3 [(.int .i64 x)], bx b1 81 [(.pointer (some ⟨d, 0, none⟩))], base w] ++ Ds.map markItem) w1 ∧ S.Walk js B U F E Q x) (fun (Q, x, Ds, v_3, lo_3, hi_3) => 2 * js.length - Q.length) ([], (a : Int), [], (.slice none 0 0), w7.heap.size, w7.heap.size) Z (uC Z (uC Z (uC Z (uC Z (Sub.nil _))))) ?_ ?_))))))))))))
  ·exact ⟨(Heap.y1 (n := 0) hH13 Z (Z)), S.Walk.start hOK om hna⟩
  rintro ⟨Q, x, Ds, v_3, lo_3, hi_3⟩ w15 ⟨hH16, hW⟩
  obtain ⟨hr1, hr2, hr3, hr4⟩ := hO.row (x % 2)
  have hQl := hW.len
  have hx0 := hW.at0
  have hx1 := hW.at1
  refine block (seq (zr (oM hH16 Z (oY hH16 (zE T.yU Z (cw (n := 1) Z Z)) (zM Z Z Z hH16 (c93 (Heap.yI T.zA hH16 (n := 0) Z) om) (fun w17 hH18 => (oA hH18 Z (zs (oM hH18 Z (oY hH18 (vH Z Z) (zt ?_)))))))))))
  by_cases hc19 : 0 ≤ (S.place Q x)
  ·obtain ⟨k, hk, hkp⟩ := S.place_nat (show 0 ≤ S.place Q x from ‹_›)
   refine zO Z (dT hc19) (zr (oM hH18 Z (oM hH18 Z (oY hH18 (x6 T.yS Z Z (Heap.yI T.zA hH18 (n := 0) Z).is om) (oA hH18 Z (zt (exit (yZ (YN Z (xF (z7 (zu (oM hH18 Z ?_)))))))))))))
   obtain ⟨g20, cap21, ev22, hc23, ec24, hin25⟩ := Ow.cut (q := k) (show Ow _ _ _ _ _ _ _ _ from hH18.get (n := 0) rfl) hk
   refine vB (g := g20) (n := 0) Z Z Z hH18 Z hin25 ((show FnM _ _ [cutv v_3 1 (S.place Q x).toNat Q.length].toArray _ _ _ from by rw [show (S.place Q x).toNat = k by omega, ec24]; exact zC0 (n := Q.length) (cap := cap21) (by have h := Heap.own hH18 (n := 0) rfl; rwa [ev22] at h) om om rfl om)) (fun u28 w26 hH27 hv29 => ?_)
   refine zs (oM hH27 Z (oA hH27 Z (zt (ret (zBf (kY (H := [⟨lo_3, hi_3, fun w => Rd encI 1 (.slice (some ⟨g20, k, none⟩) (Q.length - k) (cap21 - k)) (Q.drop k).reverse w⟩]) Ds ((hH27.sub (sK (sC (sC sR)))).front (n := 1) Z) (fun w' hf => (yN Z (rt Z))) (fun w' hf => ?_)))))))
   exact ⟨_, by rw [show (S.place Q x).toNat = k by omega, ec24]; exact hf.get (n := 0) rfl, hW.circle hkp⟩
  have hnp : S.place Q x < 0 := by omega
  refine zL Z (dF hc19) (skip (zN (seq ?_)))
  obtain ⟨ac, hce⟩ := kC (sz := 1) (Heap.yI T.zA hH18 (n := 0) rfl).is
  refine zY (fun w' => True) T.mixed (fun w31 hr32 => ?_)
  have hH33 := hH18.redrawn hr32
  refine zK [0, 1, 2, 3, 4, 5] kz trivial _ _ _ kz (qM Z Z Z (qM Z Z Z (zJ Z Z (z8 T.yS Z (Heap.yI T.zA hH33 (n := 0) Z).is) (qM Z Z Z (zJ Z Z (z8 T.yS Z (Heap.yI T.zA hH33 (n := 0) Z).is) (zJ Z Z (XF T.yS Z Z Z (Heap.yI T.zA hH33 (n := 0) Z).is om) (zQ (z1 6 kz Z (oY hH33 (zE T.yU Z (cw (n := 1) Z Z)) (zC (⟨trivial, (z1 7 kz Z (z2 T.zA [x] Z (fun w => by kernel_rfl) hH33 (fun u34 lo36 hi37 w35 hH38 => (zC (⟨trivial, (z1 8 kz Z (qX T.zA Z hce Z Z hH38 (Rd.K7 (Heap.yI T.zA hH38 (n := 1) Z) ) (Heap.yI T.zA hH38 (n := 0) Z) (by simp) om2 (fun u39 lo41 hi42 w40 hH43 => (zC ?_))))⟩)))))⟩)))))))))))
  refine ⟨trivial, (zK [9] kz trivial _ _ _ kz (zJ Z Z (yK Z) (zQ (zX kz (zu (oY hH43 (zE T.kN Z (cw (n := 4) Z Z)) (oY hH43 (zE T.yU Z (cw (n := 3) Z Z)) (yV Z Z Z hH43 (zCf (hd.now hH43 (n := 5) Z) (hB.now hH43 (n := 5) Z) (hT.now hH43 (n := 5) Z) om om) (fun u49 w47 lo50 hi51 hH48 hv52 => ?_)))))))))⟩
  obtain ⟨c44, c45, c46, hu, -⟩ := hv52
  subst hu
  have hH53 := Heap.cap hH48 (n := 0) Z
  refine zt (block (rangeFunc (xs := ((S.pre B U F x).map (Value.int .i64))) Z (zA5 (d := d) (m := m) (vb := vb) (vt := vt) (vf := vf) (rv := (if x % 2 = 1 then vt else vb)) (L := S.row B U (x % 2)) (F := F) (x := x) om om om om (fun i h0 h1 => by have := (hO.row (x % 2)).2.1 i h0 om; omega)) Z hH53 (fun i H => H = [⟨lo50, hi51, Cap c44 c45 c46 d (if x % 2 = 1 then vt else vb) x⟩, ow lo41 hi42 3 1 encI u39 (Q ++ [x]), ow lo36 hi37 3 1 encI u34 [x], ow lo_3 hi_3 3 1 encI v_3 Q, bx b4 3 [(.int .i64 x)], bx b1 81 [(.pointer (some ⟨d, 0, none⟩))], base w] ++ Ds.map markItem ∧ ∀ j, j < i → ¬ find (nth (S.pre B U F x) (j : Int)) E = none) (fun c H => ∃ y : Int, c = (.exit 3) ∧ H = [⟨lo50, hi51, Cap c44 c45 c46 d (if x % 2 = 1 then vt else vb) x⟩, ow lo41 hi42 3 1 encI u39 (Q ++ [x]), ow lo36 hi37 3 1 encI u34 [x], ow lo_3 hi_3 3 1 encI v_3 Q, bx b4 3 [(.int .i64 y)], bx b1 81 [(.pointer (some ⟨d, 0, none⟩))], base w] ++ Ds.map markItem ∧ y ∈ (S.pre B U F x) ∧ find y E = none) ⟨Z, S.all_zero⟩ (fun i H w hI hw => ?_) (fun l54 D55 i56 x57 H w59 rc hx58 hI hH60 => ?_) (fun D55 H w59 hI hH60 => ?_) (fun D55 c H w59 hI hH60 => ?_)))
  ·obtain ⟨rfl, _⟩ := hI
   exact ⟨hw.get (n := 0) Z, (hd.now hw (n := 6) Z).1, K2 (hB.now hw (n := 6) Z) (hT.now hw (n := 6) Z), (hF.now hw (n := 6) Z)⟩
  ·obtain ⟨rfl, hall⟩ := hI
   obtain ⟨hlt, hxe⟩ := j6 hx58
   subst hxe
   refine region (oA hH60 Z (zC (⟨_, hH60, fun w63 hH64 => (block (zr (oY hH64 (zE T.kN Z (cw (n := 7) Z Z)) (oY hH64 (yQ Z) (oY hH64 (zI T.VZ Z) (oY hH64 (zE T.XW Z (fun _ hw => yM ((hd.now hw (n := 8) Z).1) Z)) (oM hH64 Z (oY hH64 (yR (v := (.agg #[(.int .i64 (nth (S.pre B U F x) (i56 : Int)))])) Z (fun w => by kernel_rfl)) (oY hH64 (YK (k := nth (S.pre B U F x) (i56 : Int)) T.m84 Z Z (fun _ hw => ((hd.now hw (n := 8) Z).2))) (oM hH64 Z (oY hH64 (zH Z Z) (oY hH64 (zH Z Z) (oA hH64 Z (oA hH64 Z (zt (seq ?_))))))))))))))))⟩)))
   refine region (oM hH64 Z (oY hH64 (y6 Z) (zt ?_)))
   by_cases hc65 : (!((find (nth (S.pre B U F x) (i56 : Int)) E).isSome)) = true
   ·refine zO Z hc65 (zr (oM hH64 Z (zS (n := 6) (j := 0) Z Z hH64 Z T.sz3 Z Z Z (by rfl) (fun w66 hH67 => (zt (exit (YN Z ?_)))))))
    exact ⟨_, ⟨_, ⟨nth (S.pre B U F x) (i56 : Int), Z, Z, ⟨S.nth_mem hlt, S.isnone ‹_›⟩⟩, Z⟩, hH67⟩
   refine zL Z (Bool.eq_false_iff.2 hc65) (skip (yC ?_))
   exact ⟨_, ⟨_, ⟨Z, S.all_snoc hall (S.notnone ‹_›)⟩, Z⟩, hH64⟩
  ·obtain ⟨rfl, hall⟩ := hI
   have hH68 := (show Heap (_ :: (_ ++ _)) _ from hH60).mark
   exact (hW.stuck hOK hO (by rw [List.length_map] at hall; exact hall)).elim
  obtain ⟨y, rfl, rfl, ⟨hym, hyn⟩⟩ := hI
  have hH69 := (show Heap (_ :: (_ ++ _)) _ from hH60).mark
  have hwk := hW.next hnp hO hym hyn
  refine exit (YN Z (z7 ?_))
  have hH70 := (hH69.sub (sC (sK (sC (sC sR)))))
  refine y0 (Q ++ [x], y, (D55 :: Ds), u39, lo41, hi42) (uC Z (uC Z (uC Z (uC Z (Sub.nil _))))) ?_ ?_
  ·exact ⟨hH70, hwk⟩
  ·(show _ < _; have := hwk.len; simp only [List.length_append, List.length_singleton] at this ⊢; omega)
 have hra : (S.ready E B U F (a : Int)).2 = true := by simpa using (Bool.eq_false_iff.2 hc14)
 have hne : a + 1 ≤ w0 := Nat.lt_of_le_of_ne ha (fun h => by subst h; rw [hra] at hwr; cases hwr)
 refine zL Z (Bool.eq_false_iff.2 hc14) (skip (zN (region (oY hH13 (zE T.yU Z (cw (n := 1) Z Z)) (oY hH13 (zV Z Z om) (zS (n := 1) (j := 0) Z Z hH13 Z T.sz3 Z Z Z (by rfl) (fun w71 hH72 => (zC (yC (y0 (a + 1) (uC Z (uC Z (uC Z (uC Z (uC Z (Sub.nil _)))))) (⟨hH72, hne⟩) om3))))))))))
end Go.Fip
namespace Go.Fip
open Go.Proofs Go.RowKit
theorem c45 {v : Value} {l : List Int} {w : World} (h0 : Rd encI 1 v l w) (h40 : l.length ≤ 40) (hall : ∀ x ∈ l, 0 ≤ x ∧ x ≤ 10000) (hno : ¬ 0 ≤ S.place (l.drop (min (1 : Int) (l.length : Int)).toNat) 0) (hz : ¬ (l.length = 1 ∧ nth l 0 = 0)) (hfew : ∀ k, k ≤ l.length → Pt.Few (Pt.wst l k)) (hok : (1 ≤ (Pt.wst l l.length).1 + (Pt.wst l l.length).2.2.1 ∧ (Pt.wst l l.length).1 + (Pt.wst l l.length).2.2.1 ≤ 10000) ∧ (1 ≤ (Pt.wst l l.length).2.1 + (Pt.wst l l.length).2.2.2 ∧ (Pt.wst l l.length).2.1 + (Pt.wst l l.length).2.2.2 ≤ 10000))  :
  Fn Tryz.prog 45 [v].toArray w (fun u _ => u = .tuple #[.agg #[.int .i64 ((Pt.wst l l.length).1 + (Pt.wst l l.length).2.2.1), .int .i64 ((Pt.wst l l.length).2.1 + (Pt.wst l l.length).2.2.2)], .int .i64 0]) := by
 refine fz Tryz.func45 Z kz Z Z (fun hH => ?_)
 have hin : ∀ i, i < l.length → 0 ≤ nth l (i : Int) ∧ nth l (i : Int) ≤ 10000 := fun i hi => hall _ (by rw [yG hi]; exact List.getElem_mem hi)
 refine zr (yD (z := (.agg #[(.int .i64 0), (.int .i64 0)])) (fun _ => by kernel_rfl) Z Z hH (fun b1 w2 hH3 => (oA hH3 Z (zt (seq (block (zr (oM hH3 Z (oY hH3 (z8 T.xR Z (h0.now hH3 (n := 1) Z).is) (oY hH3 (xJ Z Z) (oA hH3 Z (zt ?_))))))))))))
 by_cases hc4 : 40 < (l.length : Int)
 ·refine zO Z (dT hc4) (zr (oY hH3 (yR (v := (.agg #[(.int .i64 0), (.int .i64 0)])) Z (fun w => by kernel_rfl)) (zS (n := 0) (j := 0) Z Z hH3 Z T.x9 Z Z Z (by rfl) (fun w5 hH6 => (oA hH6 Z (zt (ret (yE (z6 (fin (hH6.front (n := 1) Z) (fun w' hf => (xI Z (rvA (cs := [(.int .i64 0), (.int .i64 0)]) Z T.y4 Z (y3 (Heap.xV hf (n := 1) Z) (k := 0) Z)) (rt Z))) (fun w' hf => ?_)))))))))))
  first | (exfalso; first | exact hno ‹_› | exact ‹¬ ∀ x ∈ l, 0 ≤ x ∧ x ≤ 10000› hall | omega) | rfl
 refine zL Z (dF hc4) (zr (oM hH3 Z (zM Z Z Z hH3 (c73 (h0.now hH3 (n := 1) Z) om) (fun w7 hH8 => (oY hH8 (y6 Z) (oM hH8 Z ?_))))))
 by_cases hc9 : ∀ x ∈ l, 0 ≤ x ∧ x ≤ 10000
 ·refine zB Z Z (zG hc9) (oM hH8 Z (zB Z Z (zG hc9) (oM hH8 Z (zB Z Z (zG hc9) (oY hH8 (z8 T.xR Z (h0.now hH8 (n := 1) Z).is) (zB Z Z (zG hc9) (oY hH8 (j5 Z Z) (zB Z Z (zG hc9) (oY hH8 (x6 T.xR Z Z (h0.now hH8 (n := 1) Z).is om) (zB Z Z (zG hc9) (zM Z Z Z hH8 (zDe (Rd.from (h0.now hH8 (n := 1) Z) (lo := (min 1 (l.length : Int)).toNat) om) (by first | omega | (simp; done) | (simp only [List.length_drop]; omega))) (fun w10 hH11 => (oY hH11 (zT Z (zG hc9) Z) (oM hH11 Z ?_))))))))))))))
  by_cases hc12 : 0 ≤ S.place (l.drop (min 1 (l.length : Int)).toNat) 0
  ·refine zD Z Z (dT hc12) Z (zD Z Z (dT hc12) Z (zD Z Z (dT hc12) Z (zD Z Z (dT hc12) Z (xD Z Z Z (xD Z Z Z (xD Z Z Z (xD Z Z Z (zD Z Z (dT hc12) Z (oY hH11 (zU Z (dT hc12) Z) (oA hH11 Z (zt (zO Z Z (zr (oY hH11 (yR (v := (.agg #[(.int .i64 0), (.int .i64 0)])) Z (fun w => by kernel_rfl)) (zS (n := 0) (j := 0) Z Z hH11 Z T.x9 Z Z Z (by rfl) (fun w13 hH14 => (oA hH14 Z (zt (ret ?_)))))))))))))))))))
   refine yE (z6 (fin (hH14.front (n := 1) Z) (fun w' hf => (xI Z (rvA (cs := [(.int .i64 0), (.int .i64 0)]) Z T.y4 Z (y3 (Heap.xV hf (n := 1) Z) (k := 0) Z)) (rt Z))) (fun w' hf => ?_)))
   first | (exfalso; first | exact hno ‹_› | exact ‹¬ ∀ x ∈ l, 0 ≤ x ∧ x ≤ 10000› hall | omega) | rfl
  refine zB Z Z (dF hc12) (oM hH11 Z (zB Z Z (dF hc12) (oY hH11 (z8 T.xR Z (h0.now hH11 (n := 1) Z).is) (zB Z Z (dF hc12) (oY hH11 (y5 Z Z) (zB Z Z (dF hc12) (oM hH11 Z ?_)))))))
  by_cases hc15 : (l.length : Int) = 1
  ·refine zB Z Z (dT hc15) (oM hH11 Z (zB Z Z (dT hc15) (oY hH11 (zP T.xR Z Z (h0.now hH11 (n := 1) Z).is om) (zB Z Z (dT hc15) (oY hH11 (zE T.yT Z (fun _ hw => Rd.at (h0.now hw (n := 1) Z) (i := 0) om (j := 0) Z)) (zB Z Z (dT hc15) (oY hH11 (y5 Z Z) (zB Z Z (dF hc12) (oY hH11 (zU Z (dT hc15) Z) (oY hH11 (zT Z (dF hc12) Z) (oA hH11 Z (zt ?_))))))))))))
   by_cases hc16 : (nth l 0) = 0
   ·refine zO Z (dT hc16) (zr (oY hH11 (yR (v := (.agg #[(.int .i64 0), (.int .i64 0)])) Z (fun w => by kernel_rfl)) (zS (n := 0) (j := 0) Z Z hH11 Z T.x9 Z Z Z (by rfl) (fun w17 hH18 => (oA hH18 Z (zt (ret (yE (z6 (fin (hH18.front (n := 1) Z) (fun w' hf => (xI Z (rvA (cs := [(.int .i64 0), (.int .i64 0)]) Z T.y4 Z (y3 (Heap.xV hf (n := 1) Z) (k := 0) Z)) (rt Z))) (fun w' hf => ?_)))))))))))
    first | (exfalso; first | exact hno ‹_› | exact ‹¬ ∀ x ∈ l, 0 ≤ x ∧ x ≤ 10000› hall | omega) | rfl
   refine zL Z (dF hc16) (skip (yC (zu (oM hH11 Z (zM Z Z Z hH11 (zBy (h0.now hH11 (n := 1) Z) om hin hfew) (fun w19 hH20 => (oM hH20 Z (oY hH20 (zH Z Z) (oY hH20 (zH Z Z) (yD (z := (.agg #[(.int .i64 0), (.int .i64 0)])) (fun _ => by kernel_rfl) Z Z hH20 (fun b21 w22 hH23 => (zS (n := 0) (j := 0) Z Z hH23 Z T.x9 Z Z Z (by rfl) (fun w24 hH25 => (oA hH25 Z (zt (seq (zr (oM hH25 Z (oY hH25 (y6 Z) (zC ?_))))))))))))))))))))
   refine zN ?_
   by_cases hc26 : (1 ≤ (Pt.wst l l.length).1 + (Pt.wst l l.length).2.2.1 ∧ (Pt.wst l l.length).1 + (Pt.wst l l.length).2.2.1 ≤ 10000) ∧ (1 ≤ (Pt.wst l l.length).2.1 + (Pt.wst l l.length).2.2.2 ∧ (Pt.wst l l.length).2.1 + (Pt.wst l l.length).2.2.2 ≤ 10000)
   ·refine zL Z (zG hc26) (skip (zu (oY hH25 (zW (cs := [(.int .i64 ((Pt.wst l l.length).1 + (Pt.wst l l.length).2.2.1)), (.int .i64 ((Pt.wst l l.length).2.1 + (Pt.wst l l.length).2.2.2))]) T.y4 Z Z (fun _ hw => Heap.yH hw (n := 0) Z (k := 0) Z)) (zS (n := 1) (j := 0) Z Z hH25 Z T.x9 Z Z Z (by rfl) (fun w27 hH28 => (oA hH28 Z (zt (ret (fin ((hH28.sub (sC sR)).front (n := 1) Z) (fun w' hf => (xI Z (rvA (cs := [(.int .i64 ((Pt.wst l l.length).1 + (Pt.wst l l.length).2.2.1)), (.int .i64 ((Pt.wst l l.length).2.1 + (Pt.wst l l.length).2.2.2))]) Z T.y4 Z (y3 (Heap.xV hf (n := 1) Z) (k := 0) Z)) (rt Z))) (fun w' hf => ?_))))))))))
    first | (exfalso; first | exact hno ‹_› | exact ‹¬ ∀ x ∈ l, 0 ≤ x ∧ x ≤ 10000› hall | omega) | rfl
   refine zO Z (zF hc26) (zr (oY hH25 (yR (v := (.agg #[(.int .i64 0), (.int .i64 0)])) Z (fun w => by kernel_rfl)) (zS (n := 1) (j := 0) Z Z hH25 Z T.x9 Z Z Z (by rfl) (fun w30 hH31 => (oA hH31 Z (zt (ret (z6 (fin ((hH31.sub (sC sR)).front (n := 1) Z) (fun w' hf => (xI Z (rvA (cs := [(.int .i64 0), (.int .i64 0)]) Z T.y4 Z (y3 (Heap.xV hf (n := 1) Z) (k := 0) Z)) (rt Z))) (fun w' hf => ?_))))))))))
   first | (exfalso; first | exact hno ‹_› | exact ‹¬ ∀ x ∈ l, 0 ≤ x ∧ x ≤ 10000› hall | omega) | rfl
  refine zD Z Z (dF hc15) Z (zD Z Z (dF hc15) Z (zD Z Z (dF hc15) Z (zD Z Z (dF hc15) Z (zB Z Z (dF hc12) (oY hH11 (zT Z (dF hc15) Z) (oY hH11 (zT Z (dF hc12) Z) (oA hH11 Z (zt (zL Z Z (skip (yC (zu (oM hH11 Z (zM Z Z Z hH11 (zBy (h0.now hH11 (n := 1) Z) om hin hfew) (fun w33 hH34 => (oM hH34 Z (oY hH34 (zH Z Z) (oY hH34 (zH Z Z) (yD (z := (.agg #[(.int .i64 0), (.int .i64 0)])) (fun _ => by kernel_rfl) Z Z hH34 (fun b35 w36 hH37 => ?_))))))))))))))))))))
  refine zS (n := 0) (j := 0) Z Z hH37 Z T.x9 Z Z Z (by rfl) (fun w38 hH39 => (oA hH39 Z (zt (seq (zr (oM hH39 Z (oY hH39 (y6 Z) (zt ?_))))))))
  by_cases hc40 : (1 ≤ (Pt.wst l l.length).1 + (Pt.wst l l.length).2.2.1 ∧ (Pt.wst l l.length).1 + (Pt.wst l l.length).2.2.1 ≤ 10000) ∧ (1 ≤ (Pt.wst l l.length).2.1 + (Pt.wst l l.length).2.2.2 ∧ (Pt.wst l l.length).2.1 + (Pt.wst l l.length).2.2.2 ≤ 10000)
  ·refine zL Z (zG hc40) (skip (zu (oY hH39 (zW (cs := [(.int .i64 ((Pt.wst l l.length).1 + (Pt.wst l l.length).2.2.1)), (.int .i64 ((Pt.wst l l.length).2.1 + (Pt.wst l l.length).2.2.2))]) T.y4 Z Z (fun _ hw => Heap.yH hw (n := 0) Z (k := 0) Z)) (zS (n := 1) (j := 0) Z Z hH39 Z T.x9 Z Z Z (by rfl) (fun w41 hH42 => (oA hH42 Z (zt (ret (fin ((hH42.sub (sC sR)).front (n := 1) Z) (fun w' hf => (xI Z (rvA (cs := [(.int .i64 ((Pt.wst l l.length).1 + (Pt.wst l l.length).2.2.1)), (.int .i64 ((Pt.wst l l.length).2.1 + (Pt.wst l l.length).2.2.2))]) Z T.y4 Z (y3 (Heap.xV hf (n := 1) Z) (k := 0) Z)) (rt Z))) (fun w' hf => ?_))))))))))
   first | (exfalso; first | exact hno ‹_› | exact ‹¬ ∀ x ∈ l, 0 ≤ x ∧ x ≤ 10000› hall | omega) | rfl
  refine zO Z (zF hc40) (zr (oY hH39 (yR (v := (.agg #[(.int .i64 0), (.int .i64 0)])) Z (fun w => by kernel_rfl)) (zS (n := 1) (j := 0) Z Z hH39 Z T.x9 Z Z Z (by rfl) (fun w44 hH45 => (oA hH45 Z (zt (ret (z6 (fin ((hH45.sub (sC sR)).front (n := 1) Z) (fun w' hf => (xI Z (rvA (cs := [(.int .i64 0), (.int .i64 0)]) Z T.y4 Z (y3 (Heap.xV hf (n := 1) Z) (k := 0) Z)) (rt Z))) (fun w' hf => ?_))))))))))
  first | (exfalso; first | exact hno ‹_› | exact ‹¬ ∀ x ∈ l, 0 ≤ x ∧ x ≤ 10000› hall | omega) | rfl
 refine zD Z Z (zF hc9) Z (zD Z Z (zF hc9) Z (zD Z Z (zF hc9) Z (zD Z Z (zF hc9) Z (zD Z Z (zF hc9) Z (zD Z Z (zF hc9) Z (oY hH8 (zU Z (zF hc9) Z) (oM hH8 Z (zD Z Z Z Z (zD Z Z Z Z (zD Z Z Z Z (zD Z Z Z Z (xD Z Z Z (xD Z Z Z (xD Z Z Z (xD Z Z Z (zD Z Z Z Z (oY hH8 (zU Z Z Z) (oA hH8 Z (zt (zO Z Z ?_))))))))))))))))))))
 refine zr (oY hH8 (yR (v := (.agg #[(.int .i64 0), (.int .i64 0)])) Z (fun w => by kernel_rfl)) (zS (n := 0) (j := 0) Z Z hH8 Z T.x9 Z Z Z (by rfl) (fun w47 hH48 => (oA hH48 Z (zt (ret (yE (z6 (fin (hH48.front (n := 1) Z) (fun w' hf => (xI Z (rvA (cs := [(.int .i64 0), (.int .i64 0)]) Z T.y4 Z (y3 (Heap.xV hf (n := 1) Z) (k := 0) Z)) (rt Z))) (fun w' hf => ?_))))))))))
 first | (exfalso; first | exact hno ‹_› | exact ‹¬ ∀ x ∈ l, 0 ≤ x ∧ x ≤ 10000› hall | omega) | rfl
theorem zEv {v : Value} {l : List Int} {w : World} (h0 : Rd encI 1 v l w) (h40 : l.length ≤ 40) (hall : ∀ x ∈ l, 0 ≤ x ∧ x ≤ 10000) (hno : ¬ 0 ≤ S.place (l.drop (min (1 : Int) (l.length : Int)).toNat) 0) (hz : l.length = 1 ∧ nth l 0 = 0) (hfew : ∀ k, k ≤ l.length → Pt.Few (Pt.wst l k))  :
  Fn Tryz.prog 45 [v].toArray w (fun u _ => u = .tuple #[.agg #[.int .i64 0, .int .i64 0], .int .i64 3]) := by
 refine fz Tryz.func45 Z kz Z Z (fun hH => ?_)
 have hin : ∀ i, i < l.length → 0 ≤ nth l (i : Int) ∧ nth l (i : Int) ≤ 10000 := fun i hi => hall _ (by rw [yG hi]; exact List.getElem_mem hi)
 refine zr (yD (z := (.agg #[(.int .i64 0), (.int .i64 0)])) (fun _ => by kernel_rfl) Z Z hH (fun b1 w2 hH3 => (oA hH3 Z (zt (seq (block (zr (oM hH3 Z (oY hH3 (z8 T.xR Z (h0.now hH3 (n := 1) Z).is) (oY hH3 (xJ Z Z) (oA hH3 Z (zt ?_))))))))))))
 by_cases hc4 : 40 < (l.length : Int)
 ·refine zO Z (dT hc4) (zr (oY hH3 (yR (v := (.agg #[(.int .i64 0), (.int .i64 0)])) Z (fun w => by kernel_rfl)) (zS (n := 0) (j := 0) Z Z hH3 Z T.x9 Z Z Z (by rfl) (fun w5 hH6 => (oA hH6 Z (zt (ret (yE (z6 (fin (hH6.front (n := 1) Z) (fun w' hf => (xI Z (rvA (cs := [(.int .i64 0), (.int .i64 0)]) Z T.y4 Z (y3 (Heap.xV hf (n := 1) Z) (k := 0) Z)) (rt Z))) (fun w' hf => ?_)))))))))))
  first | (exfalso; first | exact hno ‹_› | exact ‹¬ ∀ x ∈ l, 0 ≤ x ∧ x ≤ 10000› hall | omega) | rfl
 refine zL Z (dF hc4) (zr (oM hH3 Z (zM Z Z Z hH3 (c73 (h0.now hH3 (n := 1) Z) om) (fun w7 hH8 => (oY hH8 (y6 Z) (oM hH8 Z ?_))))))
 by_cases hc9 : ∀ x ∈ l, 0 ≤ x ∧ x ≤ 10000
 ·refine zB Z Z (zG hc9) (oM hH8 Z (zB Z Z (zG hc9) (oM hH8 Z (zB Z Z (zG hc9) (oY hH8 (z8 T.xR Z (h0.now hH8 (n := 1) Z).is) (zB Z Z (zG hc9) (oY hH8 (j5 Z Z) (zB Z Z (zG hc9) (oY hH8 (x6 T.xR Z Z (h0.now hH8 (n := 1) Z).is om) (zB Z Z (zG hc9) (zM Z Z Z hH8 (zDe (Rd.from (h0.now hH8 (n := 1) Z) (lo := (min 1 (l.length : Int)).toNat) om) (by first | omega | (simp; done) | (simp only [List.length_drop]; omega))) (fun w10 hH11 => (oY hH11 (zT Z (zG hc9) Z) (oM hH11 Z ?_))))))))))))))
  by_cases hc12 : 0 ≤ S.place (l.drop (min 1 (l.length : Int)).toNat) 0
  ·refine zD Z Z (dT hc12) Z (zD Z Z (dT hc12) Z (zD Z Z (dT hc12) Z (zD Z Z (dT hc12) Z (xD Z Z Z (xD Z Z Z (xD Z Z Z (xD Z Z Z (zD Z Z (dT hc12) Z (oY hH11 (zU Z (dT hc12) Z) (oA hH11 Z (zt (zO Z Z (zr (oY hH11 (yR (v := (.agg #[(.int .i64 0), (.int .i64 0)])) Z (fun w => by kernel_rfl)) (zS (n := 0) (j := 0) Z Z hH11 Z T.x9 Z Z Z (by rfl) (fun w13 hH14 => (oA hH14 Z (zt (ret ?_)))))))))))))))))))
   refine yE (z6 (fin (hH14.front (n := 1) Z) (fun w' hf => (xI Z (rvA (cs := [(.int .i64 0), (.int .i64 0)]) Z T.y4 Z (y3 (Heap.xV hf (n := 1) Z) (k := 0) Z)) (rt Z))) (fun w' hf => ?_)))
   first | (exfalso; first | exact hno ‹_› | exact ‹¬ ∀ x ∈ l, 0 ≤ x ∧ x ≤ 10000› hall | omega) | rfl
  refine zB Z Z (dF hc12) (oM hH11 Z (zB Z Z (dF hc12) (oY hH11 (z8 T.xR Z (h0.now hH11 (n := 1) Z).is) (zB Z Z (dF hc12) (oY hH11 (y5 Z Z) (zB Z Z (dF hc12) (oM hH11 Z ?_)))))))
  by_cases hc15 : (l.length : Int) = 1
  ·refine zB Z Z (dT hc15) (oM hH11 Z (zB Z Z (dT hc15) (oY hH11 (zP T.xR Z Z (h0.now hH11 (n := 1) Z).is om) (zB Z Z (dT hc15) (oY hH11 (zE T.yT Z (fun _ hw => Rd.at (h0.now hw (n := 1) Z) (i := 0) om (j := 0) Z)) (zB Z Z (dT hc15) (oY hH11 (y5 Z Z) (zB Z Z (dF hc12) (oY hH11 (zU Z (dT hc15) Z) (oY hH11 (zT Z (dF hc12) Z) (oA hH11 Z (zt ?_))))))))))))
   by_cases hc16 : (nth l 0) = 0
   ·refine zO Z (dT hc16) (zr (oY hH11 (yR (v := (.agg #[(.int .i64 0), (.int .i64 0)])) Z (fun w => by kernel_rfl)) (zS (n := 0) (j := 0) Z Z hH11 Z T.x9 Z Z Z (by rfl) (fun w17 hH18 => (oA hH18 Z (zt (ret (yE (z6 (fin (hH18.front (n := 1) Z) (fun w' hf => (xI Z (rvA (cs := [(.int .i64 0), (.int .i64 0)]) Z T.y4 Z (y3 (Heap.xV hf (n := 1) Z) (k := 0) Z)) (rt Z))) (fun w' hf => ?_)))))))))))
    first | (exfalso; first | exact hno ‹_› | exact ‹¬ ∀ x ∈ l, 0 ≤ x ∧ x ≤ 10000› hall | omega) | rfl
   refine zL Z (dF hc16) (skip (yC (zu (oM hH11 Z (zM Z Z Z hH11 (zBy (h0.now hH11 (n := 1) Z) om hin hfew) (fun w19 hH20 => (oM hH20 Z (oY hH20 (zH Z Z) (oY hH20 (zH Z Z) (yD (z := (.agg #[(.int .i64 0), (.int .i64 0)])) (fun _ => by kernel_rfl) Z Z hH20 (fun b21 w22 hH23 => (zS (n := 0) (j := 0) Z Z hH23 Z T.x9 Z Z Z (by rfl) (fun w24 hH25 => (oA hH25 Z (zt (seq (zr (oM hH25 Z (oY hH25 (y6 Z) (zC ?_))))))))))))))))))))
   refine zN ?_
   by_cases hc26 : (1 ≤ (Pt.wst l l.length).1 + (Pt.wst l l.length).2.2.1 ∧ (Pt.wst l l.length).1 + (Pt.wst l l.length).2.2.1 ≤ 10000) ∧ (1 ≤ (Pt.wst l l.length).2.1 + (Pt.wst l l.length).2.2.2 ∧ (Pt.wst l l.length).2.1 + (Pt.wst l l.length).2.2.2 ≤ 10000)
   ·refine zL Z (zG hc26) (skip (zu (oY hH25 (zW (cs := [(.int .i64 ((Pt.wst l l.length).1 + (Pt.wst l l.length).2.2.1)), (.int .i64 ((Pt.wst l l.length).2.1 + (Pt.wst l l.length).2.2.2))]) T.y4 Z Z (fun _ hw => Heap.yH hw (n := 0) Z (k := 0) Z)) (zS (n := 1) (j := 0) Z Z hH25 Z T.x9 Z Z Z (by rfl) (fun w27 hH28 => (oA hH28 Z (zt (ret (fin ((hH28.sub (sC sR)).front (n := 1) Z) (fun w' hf => (xI Z (rvA (cs := [(.int .i64 ((Pt.wst l l.length).1 + (Pt.wst l l.length).2.2.1)), (.int .i64 ((Pt.wst l l.length).2.1 + (Pt.wst l l.length).2.2.2))]) Z T.y4 Z (y3 (Heap.xV hf (n := 1) Z) (k := 0) Z)) (rt Z))) (fun w' hf => ?_))))))))))
    first | (exfalso; first | exact hno ‹_› | exact ‹¬ ∀ x ∈ l, 0 ≤ x ∧ x ≤ 10000› hall | omega) | rfl
   refine zO Z (zF hc26) (zr (oY hH25 (yR (v := (.agg #[(.int .i64 0), (.int .i64 0)])) Z (fun w => by kernel_rfl)) (zS (n := 1) (j := 0) Z Z hH25 Z T.x9 Z Z Z (by rfl) (fun w30 hH31 => (oA hH31 Z (zt (ret (z6 (fin ((hH31.sub (sC sR)).front (n := 1) Z) (fun w' hf => (xI Z (rvA (cs := [(.int .i64 0), (.int .i64 0)]) Z T.y4 Z (y3 (Heap.xV hf (n := 1) Z) (k := 0) Z)) (rt Z))) (fun w' hf => ?_))))))))))
   first | (exfalso; first | exact hno ‹_› | exact ‹¬ ∀ x ∈ l, 0 ≤ x ∧ x ≤ 10000› hall | omega) | rfl
  refine zD Z Z (dF hc15) Z (zD Z Z (dF hc15) Z (zD Z Z (dF hc15) Z (zD Z Z (dF hc15) Z (zB Z Z (dF hc12) (oY hH11 (zT Z (dF hc15) Z) (oY hH11 (zT Z (dF hc12) Z) (oA hH11 Z (zt (zL Z Z (skip (yC (zu (oM hH11 Z (zM Z Z Z hH11 (zBy (h0.now hH11 (n := 1) Z) om hin hfew) (fun w33 hH34 => (oM hH34 Z (oY hH34 (zH Z Z) (oY hH34 (zH Z Z) (yD (z := (.agg #[(.int .i64 0), (.int .i64 0)])) (fun _ => by kernel_rfl) Z Z hH34 (fun b35 w36 hH37 => ?_))))))))))))))))))))
  refine zS (n := 0) (j := 0) Z Z hH37 Z T.x9 Z Z Z (by rfl) (fun w38 hH39 => (oA hH39 Z (zt (seq (zr (oM hH39 Z (oY hH39 (y6 Z) (zt ?_))))))))
  by_cases hc40 : (1 ≤ (Pt.wst l l.length).1 + (Pt.wst l l.length).2.2.1 ∧ (Pt.wst l l.length).1 + (Pt.wst l l.length).2.2.1 ≤ 10000) ∧ (1 ≤ (Pt.wst l l.length).2.1 + (Pt.wst l l.length).2.2.2 ∧ (Pt.wst l l.length).2.1 + (Pt.wst l l.length).2.2.2 ≤ 10000)
  ·refine zL Z (zG hc40) (skip (zu (oY hH39 (zW (cs := [(.int .i64 ((Pt.wst l l.length).1 + (Pt.wst l l.length).2.2.1)), (.int .i64 ((Pt.wst l l.length).2.1 + (Pt.wst l l.length).2.2.2))]) T.y4 Z Z (fun _ hw => Heap.yH hw (n := 0) Z (k := 0) Z)) (zS (n := 1) (j := 0) Z Z hH39 Z T.x9 Z Z Z (by rfl) (fun w41 hH42 => (oA hH42 Z (zt (ret (fin ((hH42.sub (sC sR)).front (n := 1) Z) (fun w' hf => (xI Z (rvA (cs := [(.int .i64 ((Pt.wst l l.length).1 + (Pt.wst l l.length).2.2.1)), (.int .i64 ((Pt.wst l l.length).2.1 + (Pt.wst l l.length).2.2.2))]) Z T.y4 Z (y3 (Heap.xV hf (n := 1) Z) (k := 0) Z)) (rt Z))) (fun w' hf => ?_))))))))))
   first | (exfalso; first | exact hno ‹_› | exact ‹¬ ∀ x ∈ l, 0 ≤ x ∧ x ≤ 10000› hall | omega) | rfl
  refine zO Z (zF hc40) (zr (oY hH39 (yR (v := (.agg #[(.int .i64 0), (.int .i64 0)])) Z (fun w => by kernel_rfl)) (zS (n := 1) (j := 0) Z Z hH39 Z T.x9 Z Z Z (by rfl) (fun w44 hH45 => (oA hH45 Z (zt (ret (z6 (fin ((hH45.sub (sC sR)).front (n := 1) Z) (fun w' hf => (xI Z (rvA (cs := [(.int .i64 0), (.int .i64 0)]) Z T.y4 Z (y3 (Heap.xV hf (n := 1) Z) (k := 0) Z)) (rt Z))) (fun w' hf => ?_))))))))))
  first | (exfalso; first | exact hno ‹_› | exact ‹¬ ∀ x ∈ l, 0 ≤ x ∧ x ≤ 10000› hall | omega) | rfl
 refine zD Z Z (zF hc9) Z (zD Z Z (zF hc9) Z (zD Z Z (zF hc9) Z (zD Z Z (zF hc9) Z (zD Z Z (zF hc9) Z (zD Z Z (zF hc9) Z (oY hH8 (zU Z (zF hc9) Z) (oM hH8 Z (zD Z Z Z Z (zD Z Z Z Z (zD Z Z Z Z (zD Z Z Z Z (xD Z Z Z (xD Z Z Z (xD Z Z Z (xD Z Z Z (zD Z Z Z Z (oY hH8 (zU Z Z Z) (oA hH8 Z (zt (zO Z Z ?_))))))))))))))))))))
 refine zr (oY hH8 (yR (v := (.agg #[(.int .i64 0), (.int .i64 0)])) Z (fun w => by kernel_rfl)) (zS (n := 0) (j := 0) Z Z hH8 Z T.x9 Z Z Z (by rfl) (fun w47 hH48 => (oA hH48 Z (zt (ret (yE (z6 (fin (hH48.front (n := 1) Z) (fun w' hf => (xI Z (rvA (cs := [(.int .i64 0), (.int .i64 0)]) Z T.y4 Z (y3 (Heap.xV hf (n := 1) Z) (k := 0) Z)) (rt Z))) (fun w' hf => ?_))))))))))
 first | (exfalso; first | exact hno ‹_› | exact ‹¬ ∀ x ∈ l, 0 ≤ x ∧ x ≤ 10000› hall | omega) | rfl
theorem zFw {bf : Nat} {a b : Int} {w : World} (kf : Bx bf 119 [.int .i64 a, .int .i64 b] w) (hck : Pt.chk (a, b) = 0)  :
  Fn Tryz.prog 107 [(.pointer (some ⟨bf, 0, none⟩))].toArray w (fun u w => Own 2 1 encI u (Pt.pth a b) w) := by
 refine fz Tryz.func107 Z kz Z Z (fun hH => ?_)
 obtain ⟨hra, hrb⟩ := Pt.chk_rg hck
 refine zr (oA hH Z (zs (oA hH Z (zt (seq (zY (fun w' => Heap [base w] w') T.mixed (fun w1 hr2 => ?_)))))))
 have hH3 := hH.redrawn hr2
 refine zK [0, 1, 2, 3, 4, 5, 6, 7, 8, 9, 10, 11] kz hH3 _ _ _ kz (qM Z Z Z (zJ Z Z (yQ Z) (zJ Z Z (zI T.vW Z) (zJ Z Z (zI T.uI Z) (zJ Z Z (zE T.yT Z (fun _ hw => yM (kf.now hw (n := 0) Z) Z)) (qM Z Z Z (zJ Z Z (yQ Z) (zJ Z Z (zI T.vW Z) (zJ Z Z (zI T.vR Z) (zJ Z Z (zE T.yT Z (fun _ hw => yM (kf.now hw (n := 0) Z) Z)) (zJ Z Z (yK Z) (zJ Z Z (yK Z) (zQ (zX kz (zN (seq (block ?_)))))))))))))))))
 have hH4 := v8 (enc := encI) 2 1 hH3
 refine loop (S := Nat × Int × Int × List Int × Value × Nat × Nat) (fun (j, x, y, o, v_3, lo_3, hi_3) => [(4, (.int .i64 x)), (5, (.int .i64 y)), (3, v_3), (2, (.slice none 0 0))]) (fun (j, x, y, o, v_3, lo_3, hi_3) w1 => Heap [ow lo_3 hi_3 2 1 encI v_3 o, base w] w1 ∧ o ++ Pt.pq j x y = Pt.pq (b + 1).toNat a b ∧ (0 ≤ x ∧ x ≤ 10000) ∧ (0 ≤ y ∧ y ≤ 10000) ∧ y < j ∧ o.length + j ≤ 10001 ∧ (1 ≤ o.length ∨ 1 ≤ y) ∧ Ps.All (fun z : Int => 0 ≤ z ∧ z ≤ 10000) o) (fun (j, x, y, o, v_3, lo_3, hi_3) => j) ((b + 1).toNat, a, b, [], (.slice none 0 0), w1.heap.size, w1.heap.size) (uC Z (uC Z (uC Z (uC Z (Sub.nil _))))) ?_ ?_
 ·exact ⟨(Heap.y1 (n := 0) hH4 Z (Z)), Z, om, om, om, by simp; omega, om, by intro z hz; cases hz⟩
 rintro ⟨j, x, y, o, v_3, lo_3, hi_3⟩ w5 ⟨hH6, hpq, hx, hy, hyj, hol, hne, hal⟩
 refine seq (zr (oM hH6 Z (oY hH6 (yF Z Z) (zt ?_))))
 by_cases hc7 : y = 0
 ·have hy0 : y = 0 := by omega
  have hoe : o = Pt.pq (b + 1).toNat a b := by rw [Pt.pq_0 hy0, List.append_nil] at hpq; exact hpq
  refine zL Z (zG hc7) (exit (yZ (xF (z7 (zN (seq ?_))))))
  have hla := hal.nth (j := (o.length : Int) - 1) (by omega) (by omega)
  have hsl : (o.set ((o.length : Int) - 1).toNat (nth o ((o.length : Int) - 1) - 1)).length = o.length := List.length_set
  refine region (oM hH6 Z (oM hH6 Z (oY hH6 (z8 T.xR Z (Heap.yI T.zR hH6 (n := 0) Z).is) (oY hH6 (y8 Z Z om) (oY hH6 (zP T.xR Z Z (Heap.yI T.zR hH6 (n := 0) Z).is om) (oY hH6 (zE T.yT Z (fun _ hw => Rd.at (Heap.yI T.zR hw (n := 0) Z) (i := (o.length : Int) - 1) om (j := 0) Z)) (oY hH6 (y8 Z Z om) (oY hH6 (zP T.xR Z Z (Heap.yI T.zR hH6 (n := 0) Z).is om) (x4 (n := 0) (i := (o.length : Int) - 1) (k := 0) (us := [(.int .i64 ((nth o ((o.length : Int) - 1)) - 1))]) (z := (nth o ((o.length : Int) - 1)) - 1) T.zR Z Z hH6 Z om T.sz2 Z Z Z (Nat.le_of_ble_eq_true Z) (fun w8 hH9 => (zt (seq (zr (oM hH9 Z (oM hH9 Z (oY hH9 (z8 T.xR Z (Heap.yI T.zR hH9 (n := 0) Z).is) (oY hH9 (y8 Z Z om) (oY hH9 (zP T.xR Z Z (Heap.yI T.zR hH9 (n := 0) Z).is om) (oY hH9 (zE T.yT Z (fun _ hw => Rd.at (Heap.yI T.zR hw (n := 0) Z) (i := ((o.set ((o.length : Int) - 1).toNat ((nth o ((o.length : Int) - 1)) - 1)).length : Int) - 1) om (j := 0) Z)) (oY hH9 (y5 Z Z) ?_))))))))))))))))))))
  refine zt ?_
  by_cases hc10 : (nth (o.set ((o.length : Int) - 1).toNat ((nth o ((o.length : Int) - 1)) - 1)) (((o.set ((o.length : Int) - 1).toNat ((nth o ((o.length : Int) - 1)) - 1)).length : Int) - 1)) = 0
  ·have hz := of_decide_eq_true (decide_eq_true hc10)
   refine zO Z (dT hc10) (region (oM hH9 Z (oM hH9 Z (oY hH9 (z8 T.xR Z (Heap.yI T.zR hH9 (n := 0) Z).is) (oY hH9 (y8 Z Z om) (oY hH9 (qT T.xR Z Z (Heap.yI T.zR hH9 (n := 0) Z).is om) (oA hH9 Z (zs (oM hH9 Z (oA hH9 Z (zt (ret (fin (hH9.front (n := 1) Z) (fun w' hf => (yN Z (rt Z))) (fun w' hf => ?_))))))))))))))
   first | (rw [← Pt.pth_t hoe rfl (by omega) hz]; exact Own.upto (fun _ => rfl) (Heap.own hf (n := 0) rfl) (by omega)) | (rw [← Pt.pth_f hoe rfl (by omega) hz]; exact Heap.own hf (n := 0) rfl)
  have hz := of_decide_eq_false (decide_eq_false hc10)
  refine zL Z (dF hc10) (skip (zu (oM hH9 Z (oA hH9 Z (zt (ret (fin (hH9.front (n := 1) Z) (fun w' hf => (yN Z (rt Z))) (fun w' hf => ?_))))))))
  first | (rw [← Pt.pth_t hoe rfl (by omega) hz]; exact Own.upto (fun _ => rfl) (Heap.own hf (n := 0) rfl) (by omega)) | (rw [← Pt.pth_f hoe rfl (by omega) hz]; exact Heap.own hf (n := 0) rfl)
 have hyn : ¬ y = 0 := by omega
 have hxy := Pt.mod_lt (a := x) (b := y) (by omega)
 have hdv := Int.ediv_nonneg (show 0 ≤ x by omega) (show 0 ≤ y by omega)
 have hdv2 := Int.ediv_le_self y (show 0 ≤ x by omega)
 have hnx : (o ++ [x / y]) ++ Pt.pq (j - 1) y (x % y) = Pt.pq (b + 1).toNat a b := by rw [List.append_assoc, List.singleton_append, ← Pt.pq_s hyn (by omega)]; exact hpq
 refine zO Z (zF hc7) (skip (zN (block (seq ?_))))
 obtain ⟨ac, hce⟩ := kC (sz := 1) (Heap.yI T.zR hH6 (n := 0) rfl).is
 refine zY (fun w' => True) T.mixed (fun w11 hr12 => ?_)
 have hH13 := hH6.redrawn hr12
 refine zK [0, 1, 2, 3, 4, 5, 6, 7, 8] kz trivial _ _ _ kz (qM Z Z Z (qM Z Z Z (zJ Z Z (z8 T.xR Z (Heap.yI T.zR hH13 (n := 0) Z).is) (qM Z Z Z (zJ Z Z (z8 T.xR Z (Heap.yI T.zR hH13 (n := 0) Z).is) (zJ Z Z (XF T.xR Z Z Z (Heap.yI T.zR hH13 (n := 0) Z).is om) (qM Z Z Z (qM Z Z Z (zJ Z Z (xU Z Z om om om) (zQ (z1 9 kz Z (z2 T.zR [x / y] Z (fun w => by kernel_rfl) hH13 (fun u14 lo16 hi17 w15 hH18 => (zC (⟨trivial, (z1 10 kz Z (qX T.zR Z hce Z Z hH18 (Rd.K7 (Heap.yI T.zR hH18 (n := 1) Z) ) (Heap.yI T.zR hH18 (n := 0) Z) (by simp) om2 (fun u19 lo21 hi22 w20 hH23 => (zC (⟨trivial, (zK [11] kz trivial _ _ _ kz ?_)⟩)))))⟩)))))))))))))))
 refine zJ Z Z (yK Z) (zQ (zX kz (zN (zY (fun w' => Heap [ow lo21 hi22 2 1 encI u19 (o ++ [x / y]), ow lo16 hi17 2 1 encI u14 [x / y], ow lo_3 hi_3 2 1 encI v_3 o, base w] w') T.mixed (fun w24 hr25 => ?_)))))
 have hH26 := hH23.redrawn hr25
 refine zK [0, 1, 2, 3, 4, 5] kz hH26 _ _ _ kz (qM Z Z Z (qM Z Z Z (qM Z Z Z (zJ Z Z (xO Z Z om om) (zJ Z Z (yK Z) (zJ Z Z (yK Z) (zQ (zX kz (yC ?_)))))))))
 have hH27 := (hH26.sub (sK (sC (sC sR))))
 refine y0 (j - 1, y, (x % y), (o ++ [x / y]), u19, lo21, hi22) (uC Z (uC Z (uC Z (uC Z (Sub.nil _))))) ?_ ?_
 ·exact ⟨(Heap.y1 (n := 0) hH27 Z (Z)), hnx, om, om, om, by simp only [List.length_append, List.length_singleton]; omega, .inl (by simp), (fun z hz => by rcases List.mem_append.1 hz with h | h; exact hal z h; simp only [List.mem_singleton] at h; subst h; omega)⟩
 ·(simp only; omega)
end Go.Fip
namespace Go.Fip
open Go.Proofs Go.RowKit
theorem c44 {a b : Int} {w : World} (hck : Pt.chk (a, b) = 0)  :
  Fn Tryz.prog 44 [(.agg #[(.int .i64 a), (.int .i64 b)])].toArray w (fun u w => ∃ q, u = .tuple #[q, .int .i64 0] ∧ Own 2 1 encI q (Pt.pth a b) w) := by
 refine fz Tryz.func44 Z kz Z Z (fun hH => ?_)
 obtain ⟨hra, hrb⟩ := Pt.chk_rg hck
 have hpl := Pt.pth_len (a := a) (b := b)
 refine zr (yY Z Z Z hH (fun b1 w2 hH3 => (oA hH3 Z (oA hH3 Z (zt (seq ?_))))))
 have hck : Pt.chk (a, b) = 0 := hck
 refine region (oY hH3 (zW (cs := [(.int .i64 a), (.int .i64 b)]) T.y4 Z Z (fun _ hw => Heap.yH hw (n := 0) Z (k := 0) Z)) (z2 T.xG [(a, b)] Z (fun w => by kernel_rfl) hH3 (fun u4 lo6 hi7 w5 hH8 => (yV Z Z Z hH8 (c72 (Heap.yI T.xG hH8 (n := 0) Z) (by simp) (by simp) (by rw [Pt.chkL_1]; exact hck)) (fun u11 w9 lo12 hi13 hH10 hv14 => ?_)))))
 obtain ⟨b15, hu, hb16⟩ := hv14
 subst hu
 have hH17 := Heap.weaken hH10 (n := 0) (φ := Bx b15 119 [.int .i64 a, .int .i64 b]) Z (fun w' h => by obtain ⟨b', e, h⟩ := h; cases e; exact h)
 refine oM hH17 Z (oY hH17 (zH Z Z) (oY hH17 (zH Z Z) (oA hH17 Z (oA hH17 Z (zt (seq (zr (oM hH17 Z (oY hH17 (yF Z Z) (zt (zL Z Z (skip (zu (oM hH17 Z (yV Z Z Z hH17 (zFw ((show Bx b15 119 [.int .i64 a, .int .i64 b] _ from hH17.get (n := 0) Z)) hck) (fun u20 w18 lo21 hi22 hH19 hv23 => ?_))))))))))))))))
 have hH24 := Heap.xZ hH19 (n := 0) Z
 refine oA hH24 Z (zs (oM hH24 Z (oY hH24 (z8 T.xR Z (Heap.yI T.zR hH24 (n := 0) Z).is) (jA T.zR (0 : Int) T.YZ Z Z Z hH24 om om (fun u25 lo27 hi28 w26 hH29 => (oA hH29 Z (zs (oM hH29 Z (oM hH29 Z (WT (n := 0) T.zR Z Z Z hH29 Z (Heap.yI T.zR hH29 (n := 1) Z) (by rw [List.length_replicate]; omega) (fun w30 hH31 => (zs (oM hH31 Z (oA hH31 Z ?_))))))))))))))
 refine oA hH31 Z (zt (ret (fin ((hH31.sub (sK (sC (sC (sC (sC sR)))))).front (n := 1) Z) (fun w' hf => (xI Z (rt Z) (rt Z))) (fun w' hf => ?_))))
 exact ⟨_, Z, by have h := Heap.own hf (n := 0) rfl; simpa using h⟩
end Go.Fip
namespace Go.Fip
namespace Pt
def nums (d : Int) : Nat → List Pr
 | 0 => []
 | j + 1 => nums d j ++ (if gcd (j : Int) d = 1 then [((j : Int), d)] else [])
def dens : Nat → List Pr
 | 0 => []
 | k + 1 => dens k ++ nums ((k + 1 : Nat) : Int) (4 * (k + 1) + 1)
abbrev frv (x : Pr) : Value := .agg #[.int .i64 x.1, .int .i64 x.2]
theorem nums_t {d : Int} {j : Nat} (h : gcd (j : Int) d = 1) : nums d (j + 1) = nums d j ++ [((j : Int), d)] := by simp only [nums]; rw [if_pos h]
theorem nums_f {d : Int} {j : Nat} (h : ¬ gcd (j : Int) d = 1) : nums d (j + 1) = nums d j := by simp only [nums]; rw [if_neg h, List.append_nil]
theorem G6 {d : Int} {i : Nat} : ∀ {j : Nat}, i ≤ j → nums d i <+: nums d j
 | 0, h => by rw [Nat.le_zero.1 h]; exact List.prefix_rfl
 | j + 1, h => by
  rcases Nat.lt_or_eq_of_le h with h | rfl
  ·exact (G6 (Nat.le_of_lt_succ h)).trans ⟨_, rfl⟩
  ·exact List.prefix_rfl
theorem KA {i : Nat} : ∀ {j : Nat}, i ≤ j → dens i <+: dens j
 | 0, h => by rw [Nat.le_zero.1 h]; exact List.prefix_rfl
 | j + 1, h => by
  rcases Nat.lt_or_eq_of_le h with h | rfl
  ·exact (KA (Nat.le_of_lt_succ h)).trans ⟨_, rfl⟩
  ·exact List.prefix_rfl
theorem zCr {k m j : Nat} (hk : k < m) (hj : j ≤ 4 * (k + 1) + 1) : dens k ++ nums ((k + 1 : Nat) : Int) j <+: dens m := by
 refine List.IsPrefix.trans ?_ (KA (show k + 1 ≤ m by omega))
 show _ <+: dens k ++ nums ((k + 1 : Nat) : Int) (4 * (k + 1) + 1)
 exact (List.prefix_append_right_inj _).2 (G6 hj)
theorem up_at {k m j : Nat} (hk : k < m) (hj : j < 4 * (k + 1) + 1) (h : gcd (j : Int) ((k + 1 : Nat) : Int) = 1) : ((dens m).map frv)[(dens k ++ nums ((k + 1 : Nat) : Int) j).length]? = some (frv ((j : Int), ((k + 1 : Nat) : Int))) := by
 have hp := zCr (j := j + 1) hk hj
 rw [nums_t h, ← List.append_assoc] at hp
 obtain ⟨t, ht⟩ := hp
 rw [← ht]
 simp
def upl (m : Int) : List Pr := dens m.toNat
theorem JF {d : Int} : ∀ {j : Nat} {x : Pr}, x ∈ nums d j → 0 ≤ x.1 ∧ x.1 < (j : Int) ∧ x.2 = d
 | 0, x, h => by simp [nums] at h
 | j + 1, x, h => by
  simp only [nums] at h
  rcases List.mem_append.1 h with h | h
  ·have := JF h; omega
  ·split at h
   ·simp only [List.mem_singleton] at h; subst h; exact ⟨by simp only; omega, by simp only; omega, rfl⟩
   ·simp at h
theorem JB : ∀ {k : Nat} {x : Pr}, x ∈ dens k → 0 ≤ x.1 ∧ x.1 ≤ 4 * (k : Int) ∧ 1 ≤ x.2 ∧ x.2 ≤ (k : Int)
 | 0, x, h => by simp [dens] at h
 | k + 1, x, h => by
  simp only [dens] at h
  rcases List.mem_append.1 h with h | h
  ·have := JB h; omega
  ·have := JF h; omega
theorem W0 : ∀ (k : Nat), k ≤ 50 → (dens k).length ≤ k * 201
 | 0, _ => by simp [dens]
 | k + 1, h => by
  have h1 : ∀ (d : Int) (j : Nat), (nums d j).length ≤ j := fun d j => by
   induction j with
   | zero => simp [nums]
   | succ j ih => simp only [nums, List.length_append]; split <;> simp <;> omega
  have := h1 ((k + 1 : Nat) : Int) (4 * (k + 1) + 1)
  have := W0 k (by omega)
  simp only [dens, List.length_append]
  omega
def betw (a b c d : Int) (x : Pr) : Bool := decide (0 ≤ gap (a, b) x) && decide (0 ≤ gap x (c, d))
def cnt (a b c d m : Int) : Int := (((upl m).filter (betw a b c d)).length : Int)
theorem cnt_t {p : Pr → Bool} {l : List Pr} {i : Nat} (hi : i < l.length) (h : p (nth l (i : Int)) = true) : (((l.take (i + 1)).filter p).length : Int) = ((l.take i).filter p).length + 1 := by
 rw [yG hi] at h
 rw [List.take_succ_eq_append_getElem hi, List.filter_append, List.length_append]
 simp [h]
theorem cnt_f {p : Pr → Bool} {l : List Pr} {i : Nat} (hi : i < l.length) (h : p (nth l (i : Int)) = false) : (((l.take (i + 1)).filter p).length : Int) = ((l.take i).filter p).length := by
 rw [yG hi] at h
 rw [List.take_succ_eq_append_getElem hi, List.filter_append, List.length_append]
 simp [h]
end Pt
end Go.Fip
namespace Go.Fip
namespace Pt
theorem upl_at {m : Int} (hm : 1 ≤ m ∧ m ≤ 50) {i : Nat} (hi : i < (upl m).length) : (0 ≤ (nth (upl m) (i : Int)).1 ∧ (nth (upl m) (i : Int)).1 ≤ 200) ∧ (1 ≤ (nth (upl m) (i : Int)).2 ∧ (nth (upl m) (i : Int)).2 ≤ 50) := by
 have h := JB (k := m.toNat) (x := nth (upl m) (i : Int)) (by rw [yG hi]; exact List.getElem_mem hi)
 omega
theorem upl_len {m : Int} (hm : 1 ≤ m ∧ m ≤ 50) : (upl m).length ≤ 10050 := by
 have := W0 m.toNat (by omega)
 unfold upl; omega
theorem betw_t {a b c d : Int} {x : Pr} (h1 : 0 ≤ gap (a, b) x) (h2 : 0 ≤ gap x (c, d)) : betw a b c d x = true := by unfold betw; simp [h1, h2]
theorem betw_f1 {a b c d : Int} {x : Pr} (h1 : ¬ 0 ≤ gap (a, b) x) : betw a b c d x = false := by unfold betw; simp [h1]
theorem betw_f2 {a b c d : Int} {x : Pr} (h2 : ¬ 0 ≤ gap x (c, d)) : betw a b c d x = false := by unfold betw; simp [h2]
end Pt
end Go.Fip
namespace Go.Fip
open Go.Proofs Go.RowKit
theorem zD5 {b1 : Nat} {m : Int} (hm : 1 ≤ m ∧ m ≤ 50) :
  Iter Tryz.prog 154 [(.pointer (some ⟨b1, 0, none⟩))] (Bx b1 2 [.int .i64 m]) (((Pt.upl m).map Pt.frv)) := by
 refine WS (N := 26) Tryz.func154 Z (ent Tryz.func154 kz Z) Z Z Z (fun yl J Jx hJ hJx hD hY w hH => (zr (oA hH Z (zt (block (loop (S := Nat × Nat × World) (fun (k, q, wj) => [(3, (.int .i64 ((k + 1 : Nat) : Int))), (0, (.func (.yield yl) #[] #[])), (1, (.pointer (some ⟨b1, 0, none⟩)))]) (fun (k, q, wj) w1 => Heap [jItem wj (J q)] w1 ∧ k ≤ m.toNat ∧ q = (Pt.dens k).length) (fun (k, q, wj) => m.toNat - k) (0, 0, w) (Sub.cons (congrArg (fun z : Int => some (Value.int .i64 z)) om) (uC Z (uC Z (Sub.nil _)))) ?_ ?_))))))
 ·exact ⟨hH, om, Z⟩
 rintro ⟨k, q, wj⟩ w1 ⟨hH2, hk, hq⟩
 refine seq (zr (oM hH2 Z (oY hH2 (zE T.yT Z (fun _ hw => yM ((hD _ _ (hw.get (n := 0) Z))) Z)) (oY hH2 (uS Z Z) (zt ?_)))))
 by_cases hc3 : ((k + 1 : Nat) : Int) ≤ m
 ·refine zO Z (dT hc3) (skip (zN (seq (block (scope (seq (label (zu (oA hH2 Z (zt (block (loop (S := Nat × Nat × World) (fun (j, q2, wj2) => [(4, (.int .i64 (j : Int))), (0, (.func (.yield yl) #[] #[])), (1, (.pointer (some ⟨b1, 0, none⟩))), (3, (.int .i64 ((k + 1 : Nat) : Int)))]) (fun (j, q2, wj2) w1 => Heap [jItem wj2 (J q2)] w1 ∧ j ≤ 4 * (k + 1) + 1 ∧ q2 = (Pt.dens k ++ Pt.nums ((k + 1 : Nat) : Int) j).length) (fun (j, q2, wj2) => 4 * (k + 1) + 1 - j) (0, q, wj) (Sub.cons (congrArg (fun z : Int => some (Value.int .i64 z)) om) (uC Z (uC Z (uC Z (Sub.nil _))))) ?_ ?_))))))))))))
  ·exact ⟨hH2, om, by rw [hq]; simp [Pt.nums]⟩
  rintro ⟨j, q2, wj2⟩ w4 ⟨hH5, hj, hq2⟩
  refine seq (zr (oM hH5 Z (oM hH5 Z (oY hH5 (xA Z Z om) (oY hH5 (uS Z Z) (zt ?_))))))
  by_cases hc6 : (j : Int) ≤ (4 * ((k + 1 : Nat) : Int))
  ·refine zO Z (dT hc6) (skip (zN (seq (block (seq (zr (oM hH5 Z (oM hH5 Z (zM Z Z Z hH5 (zD2 om om) (fun w7 hH8 => (oY hH8 (yF Z Z) (zt ?_))))))))))))
   by_cases hc9 : (Pt.gcd (j : Int) ((k + 1 : Nat) : Int)) = 1
   ·have hgt : (Pt.gcd (j : Int) ((k + 1 : Nat) : Int)) = 1 := by have hq9 := (zG hc9); simpa using hq9
    refine zL Z (zG hc9) (skip (zu (oM hH8 Z (oM hH8 Z (oM hH8 Z (oY hH8 (yR (v := (.agg #[(.int .i64 (j : Int)), (.int .i64 ((k + 1 : Nat) : Int))])) Z (fun w => by kernel_rfl)) (uM Z Z Z (hY q2 _ (by rw [hq2]; exact Pt.up_at om om hgt) _ (hH8.get (n := 0) Z)) (fun w10 hA11 => ?_) (fun w10 hA11 => ?_))))))))
    ·have hH12 := xL (J := J (q2 + 1)) (hJ (q2 + 1)) hA11
     refine oY hH12 (y6 Z) (zt (zL Z Z (skip (yC (zN (region (oM hH12 Z (oY hH12 (zV Z Z om) (oA hH12 Z (zC (y0 (j + 1, q2 + 1, w10) (Sub.cons (congrArg (fun z : Int => some (Value.int .i64 z)) om) (uC Z (uC Z (uC Z (Sub.nil _))))) (⟨hH12, om, by rw [Pt.nums_t hgt, ← List.append_assoc, List.length_append, ← hq2]; rfl⟩) om3)))))))))))
    have hH12 := xL (J := Jx) hJx hA11
    refine oY hH12 (y6 Z) (zt (zO Z Z (ret (yE (z6 (xY (yE (zBf (yE (z6 (xY (yE ?_))))))))))))
    exact ⟨Z, .inr (hH12.get (n := 0) Z)⟩
   have hgf : ¬ (Pt.gcd (j : Int) ((k + 1 : Nat) : Int)) = 1 := by have hq9 := (zF hc9); simpa using hq9
   refine zO Z (zF hc9) (exit (yZ (z7 (zN (region (oM hH8 Z (oY hH8 (zV Z Z om) (oA hH8 Z (zC (y0 (j + 1, q2, wj2) (Sub.cons (congrArg (fun z : Int => some (Value.int .i64 z)) om) (uC Z (uC Z (uC Z (Sub.nil _))))) (⟨hH8, om, by rw [Pt.nums_f hgf]; exact hq2⟩) om3))))))))))
  refine zL Z (dF hc6) (exit (yZ (xF (z7 (zDu (yC (zN (region (oM hH5 Z (oY hH5 (zV Z Z om) (oA hH5 Z (zC (y0 (k + 1, q2, wj2) (Sub.cons (congrArg (fun z : Int => some (Value.int .i64 z)) om) (uC Z (uC Z (Sub.nil _)))) (⟨hH5, om, by rw [hq2, show j = 4 * (k + 1) + 1 by omega]; rfl⟩) om3)))))))))))))
 refine zL Z (dF hc3) (exit (yZ (xF (z7 ?_))))
 have hke : k = m.toNat := by omega
 have hql : q = ((Pt.upl m).map Pt.frv).length := by rw [hq, List.length_map, hke]; rfl
 exact ⟨Z, .inl (by rw [← hql]; exact hH2.get (n := 0) rfl)⟩
end Go.Fip
namespace Go.Fip
open Go.Proofs Go.RowKit
theorem Heap.zEg {b1 lo hi n : Nat} {m : Int} {H : List Item} {w : World} (hH : Heap H w)
  (hn : H[n]? = some ⟨lo, hi, fun w => ∃ c1 : Nat, (Value.func (.func 154) #[] #[.pointer (some ⟨b1, 0, none⟩)] : Value) = .func (.func 154) #[] #[.pointer (some ⟨c1, 0, none⟩)] ∧ Bx c1 2 [.int .i64 m] w⟩) :
  Heap (H.set n ⟨lo, hi, Bx b1 2 [.int .i64 m]⟩) w := hH.weaken hn (φ := Bx b1 2 [.int .i64 m]) (fun w' h => by
 obtain ⟨c1, e, h⟩ := h
 cases e
 exact h)
theorem zE7 {m : Int} {w : World}  :
  Fn Tryz.prog 106 [(.int .i64 m)].toArray w (fun u w => ∃ c1 : Nat, u = .func (.func 154) #[] #[.pointer (some ⟨c1, 0, none⟩)] ∧ Bx c1 2 [.int .i64 m] w) := by
 refine fz Tryz.func106 Z kz Z Z (fun hH => (zr (yY Z Z Z hH (fun b1 w2 hH3 => (oA hH3 Z (zs (oY hH3 (vF Z Z) (oA hH3 Z (zt (ret (fin (hH3.front (n := 1) Z) (fun w' hf => (yN Z (rt Z))) (fun w' hf => ?_))))))))))))
 exact ⟨_, Z, Heap.xV hf (n := 0) Z⟩
theorem c43 {a b c d m : Int} {w : World} (hck : Pt.chk (a, b) = 0) (hck2 : Pt.chk (c, d) = 0) (hm : 1 ≤ m ∧ m ≤ 50) (hh : c ≤ 4 * d)  :
  Fn Tryz.prog 43 [(.agg #[(.int .i64 a), (.int .i64 b)]), (.agg #[(.int .i64 c), (.int .i64 d)]), (.int .i64 m)].toArray w (fun u _ => u = .tuple #[.int .i64 (Pt.cnt a b c d m), .int .i64 0]) := by
 refine fz Tryz.func43 Z kz Z Z (fun hH => ?_)
 obtain ⟨hra, hrb⟩ := Pt.chk_rg hck
 obtain ⟨hrc, hrd⟩ := Pt.chk_rg hck2
 have hul := Pt.upl_len hm
 refine zr (yY Z Z Z hH (fun b1 w2 hH3 => (yY Z Z Z hH3 (fun b4 w5 hH6 => (oA hH6 Z (oA hH6 Z (zt (seq ?_))))))))
 have hck : Pt.chk (a, b) = 0 := hck
 refine region (oY hH6 (zW (cs := [(.int .i64 a), (.int .i64 b)]) T.y4 Z Z (fun _ hw => Heap.yH hw (n := 1) Z (k := 0) Z)) (oY hH6 (zW (cs := [(.int .i64 c), (.int .i64 d)]) T.y4 Z Z (fun _ hw => Heap.yH hw (n := 0) Z (k := 0) Z)) (z2 T.xG [(a, b), (c, d)] Z (fun w => by kernel_rfl) hH6 (fun u7 lo9 hi10 w8 hH11 => (yV Z Z Z hH11 (c72 (Heap.yI T.xG hH11 (n := 0) Z) (by simp) (by simp) (Pt.chkL_2 hck hck2)) (fun u14 w12 lo15 hi16 hH13 hv17 => ?_))))))
 obtain ⟨b18, hu, hb19⟩ := hv17
 subst hu
 have hH20 := Heap.weaken hH13 (n := 0) (φ := Bx b18 119 [.int .i64 a, .int .i64 b]) Z (fun w' h => by obtain ⟨b', e, h⟩ := h; cases e; exact h)
 refine oM hH20 Z (oY hH20 (zH Z Z) (oY hH20 (zH Z Z) (yD (z := (.pointer none)) (fun _ => by kernel_rfl) Z Z hH20 (fun b21 w22 hH23 => (zS (n := 0) (j := 0) Z Z hH23 Z T.zFo Z Z Z (by rfl) (fun w24 hH25 => (oA hH25 Z (zt (seq (block (zr (oM hH25 Z (oY hH25 (yF Z Z) (oA hH25 Z (zt (zL Z Z (zr (oM hH25 Z (z2 T.zR [m] Z (fun w => by kernel_rfl) hH25 (fun u26 lo28 hi29 w27 hH30 => ?_))))))))))))))))))))
 refine zM Z Z Z hH30 (ZS (Heap.yI T.zR hH30 (n := 0) Z)) (fun w31 hH32 => (oY hH32 (y6 Z) (oA hH32 Z (zt ?_))))
 have hc33 : ¬ (¬ (1 ≤ m ∧ m ≤ 50)) := fun h => h hm
 refine zL Z (vC hc33) (zr (oY hH32 (zI T.uI Z) (oY hH32 (zE T.yT Z (cw (n := 4) Z Z)) (oY hH32 (zI T.vR Z) (oY hH32 (zE T.yT Z (cw (n := 4) Z Z)) (oY hH32 (xA Z Z om) (oY hH32 (xJ Z Z) (oA hH32 Z (zt ?_)))))))))
 have hc34 : ¬ ((4 * d) < c) := (show ¬ 4 * d < c by omega)
 refine zL Z (dF hc34) (skip (yC (zu (yD (z := (.int .i64 0)) (fun _ => by kernel_rfl) Z Z hH32 (fun b35 w36 hH37 => (zS (n := 0) (j := 0) Z Z hH37 Z T.sz3 Z Z Z (by rfl) (fun w38 hH39 => (zt (seq (zr (oM hH39 Z (yV Z Z Z hH39 (zE7) (fun u43 w41 lo44 hi45 hH42 hv46 => ?_)))))))))))))
 obtain ⟨c40, hu, -⟩ := hv46
 subst hu
 have hH47 := Heap.zEg hH42 (n := 0) Z
 refine zt (block (rangeFunc (xs := ((Pt.upl m).map Pt.frv)) Z (zD5 hm) Z hH47 (fun i H => H = [⟨lo44, hi45, Bx c40 2 [.int .i64 m]⟩, bx b35 3 [(.int .i64 ((((Pt.upl m).take i).filter (Pt.betw a b c d)).length : Int))], ow lo28 hi29 2 1 encI u26 [m], bx b21 60 [(.pointer (some ⟨b18, 0, none⟩))], ⟨lo15, hi16, Bx b18 119 [.int .i64 a, .int .i64 b]⟩, ow lo9 hi10 27 2 encP u7 [(a, b), (c, d)], bx b4 27 [(.int .i64 c), (.int .i64 d)], bx b1 27 [(.int .i64 a), (.int .i64 b)], base w] ∧ True) (fun c H => False) ⟨Z, trivial⟩ (fun i H w hI hw => ?_) (fun l48 D49 i50 x51 H w53 rc hx52 hI hH54 => ?_) (fun D49 H w53 hI hH54 => ?_) (fun D49 c H w53 hI hH54 => ?_)))
 ·obtain ⟨rfl, _⟩ := hI
  exact (show Bx c40 2 [.int .i64 m] _ from hw.get (n := 0) Z)
 ·obtain ⟨rfl, _⟩ := hI
  obtain ⟨hlt, hxe⟩ := j6 hx52
  subst hxe
  obtain ⟨⟨hu1, hu2⟩, hu3, hu4⟩ := Pt.upl_at hm hlt
  have g1 := Pt.mul_bd (a := (nth (Pt.upl m) (i50 : Int)).1) (b := b) (A := 200) (B := 10000) (by omega) (by omega) (by omega) (by omega)
  have g2 := Pt.mul_bd (a := a) (b := (nth (Pt.upl m) (i50 : Int)).2) (A := 10000) (B := 50) (by omega) (by omega) (by omega) (by omega)
  have g3 := Pt.mul_bd (a := c) (b := (nth (Pt.upl m) (i50 : Int)).2) (A := 10000) (B := 50) (by omega) (by omega) (by omega) (by omega)
  have g4 := Pt.mul_bd (a := (nth (Pt.upl m) (i50 : Int)).1) (b := d) (A := 200) (B := 10000) (by omega) (by omega) (by omega) (by omega)
  have hcl := List.length_filter_le (Pt.betw a b c d) ((Pt.upl m).take i50)
  have hcl2 := List.length_take_le i50 (Pt.upl m)
  refine region (yD (z := (.agg #[(.int .i64 0), (.int .i64 0)])) (fun _ => by kernel_rfl) Z Z hH54 (fun b57 w58 hH59 => (zS (n := 0) (j := 0) Z Z hH59 Z T.x9 Z Z Z (by rfl) (fun w60 hH61 => (zC (⟨_, (hH61.front (n := 1) Z), fun w62 hH63 => (block (zr (oY hH63 (zE T.zDj Z (cw (n := 6) Z Z)) (oY hH63 (zW (cs := [(.int .i64 ((nth (Pt.upl m) (i50 : Int)).1)), (.int .i64 ((nth (Pt.upl m) (i50 : Int)).2))]) T.y4 Z Z (fun _ hw => Heap.yH hw (n := 1) Z (k := 0) Z)) (zM Z Z Z hH63 (KY ((show Bx b18 119 [.int .i64 a, .int .i64 b] _ from hH63.get (n := 7) Z)) om om) (fun w65 hH66 => (oY hH66 (vH Z Z) (oM hH66 Z ?_))))))))⟩))))))
  by_cases hc67 : 0 ≤ (Pt.gap (a, b) ((nth (Pt.upl m) (i50 : Int)).1, (nth (Pt.upl m) (i50 : Int)).2))
  ·have hb1 : 0 ≤ Pt.gap (a, b) ((nth (Pt.upl m) (i50 : Int)).1, (nth (Pt.upl m) (i50 : Int)).2) := by omega
   refine zB Z Z (dT hc67) (oY hH66 (zW (cs := [(.int .i64 ((nth (Pt.upl m) (i50 : Int)).1)), (.int .i64 ((nth (Pt.upl m) (i50 : Int)).2))]) T.y4 Z Z (fun _ hw => Heap.yH hw (n := 1) Z (k := 0) Z)) (zB Z Z (dT hc67) (oY hH66 (yR (v := (.agg #[(.int .i64 ((nth (Pt.upl m) (i50 : Int)).1)), (.int .i64 ((nth (Pt.upl m) (i50 : Int)).2))])) Z (fun w => by kernel_rfl)) (zB Z Z (dT hc67) (yY Z Z Z hH66 (fun b68 w69 hH70 => (zB Z Z (dT hc67) (oY hH70 (zW (cs := [(.int .i64 c), (.int .i64 d)]) T.y4 Z Z (fun _ hw => Heap.yH hw (n := 10) Z (k := 0) Z)) (zB Z Z (dT hc67) (zM Z Z Z hH70 (KY (Heap.xV hH70 (n := 0) Z) om om) (fun w71 hH72 => (zB Z Z (dT hc67) (oY hH72 (vH Z Z) (oY hH72 (zU Z (dT hc67) Z) (zt ?_)))))))))))))))
   by_cases hc73 : 0 ≤ (Pt.gap ((nth (Pt.upl m) (i50 : Int)).1, (nth (Pt.upl m) (i50 : Int)).2) (c, d))
   ·have hbt : Pt.betw a b c d (nth (Pt.upl m) (i50 : Int)) = true := Pt.betw_t hb1 (show 0 ≤ Pt.gap ((nth (Pt.upl m) (i50 : Int)).1, (nth (Pt.upl m) (i50 : Int)).2) (c, d) by omega)
    refine zO Z (dT hc73) (region (oY hH72 (zE T.yU Z (cw (n := 5) Z Z)) (oY hH72 (zV Z Z om) (zS (n := 5) (j := 0) Z Z hH72 Z T.sz3 Z Z Z (by rfl) (fun w74 hH75 => (zC (yC ?_)))))))
    exact ⟨_, ⟨_, ⟨Z, trivial⟩, Z⟩, (Heap.y9 (n := 3) (hH75.sub (sC (sK (sC sR)))) Z (by first | exact congrArg (fun z => [Value.int .i64 z]) (Pt.cnt_t hlt hbt).symm | exact congrArg (fun z => [Value.int .i64 z]) (Pt.cnt_f hlt hbf).symm))⟩
   have hbf : Pt.betw a b c d (nth (Pt.upl m) (i50 : Int)) = false := Pt.betw_f2 (show ¬ 0 ≤ Pt.gap ((nth (Pt.upl m) (i50 : Int)).1, (nth (Pt.upl m) (i50 : Int)).2) (c, d) by omega)
   refine zL Z (dF hc73) (skip (yC ?_))
   exact ⟨_, ⟨_, ⟨Z, trivial⟩, Z⟩, (Heap.y9 (n := 3) (hH72.sub (sC (sK (sC sR)))) Z (by first | exact congrArg (fun z => [Value.int .i64 z]) (Pt.cnt_t hlt hbt).symm | exact congrArg (fun z => [Value.int .i64 z]) (Pt.cnt_f hlt hbf).symm))⟩
  have hbf : Pt.betw a b c d (nth (Pt.upl m) (i50 : Int)) = false := Pt.betw_f1 (show ¬ 0 ≤ Pt.gap (a, b) ((nth (Pt.upl m) (i50 : Int)).1, (nth (Pt.upl m) (i50 : Int)).2) by omega)
  refine zD Z Z (dF hc67) Z (zD Z Z (dF hc67) Z (zD Z Z (dF hc67) Z (zD Z Z (dF hc67) Z (zD Z Z (dF hc67) Z (zD Z Z (dF hc67) Z (oY hH66 (zT Z (dF hc67) Z) (zt (zL Z Z (skip (yC ?_))))))))))
  exact ⟨_, ⟨_, ⟨Z, trivial⟩, Z⟩, (Heap.y9 (n := 3) (hH66.sub (sK (sC sR))) Z (by first | exact congrArg (fun z => [Value.int .i64 z]) (Pt.cnt_t hlt hbt).symm | exact congrArg (fun z => [Value.int .i64 z]) (Pt.cnt_f hlt hbf).symm))⟩
 ·obtain ⟨rfl, _⟩ := hI
  have hH79 := hH54.perm (List.perm_append_comm (l₁ := [_]))
  refine yC (zu (oY hH79 (zE T.yU Z (cw (n := 1) Z Z)) (oA hH79 Z (oA hH79 Z (zt (ret (kY (H := []) [D49] (hH79.sub (sC (sC (sC (sC (sC (sC (sC (sC sR))))))))) (fun w' hf => (xI Z (rt Z) (rt Z))) (fun w' hf => ?_))))))))
  rw [List.length_map, List.take_length]; rfl
 exact hI.elim
end Go.Fip
namespace Go.Fip
namespace Ps
abbrev ltI : Int → Int → Bool := fun x y => decide (x < y)
theorem zA3 {α : Type} [Inhabited α] {l : List α} {j : Nat} (hj : 0 < j) (h : j < l.length) : (swp l j).Perm l := by
 unfold swp
 rw [show ((j : Int) - 1) = ((j - 1 : Nat) : Int) by omega, yG (show j - 1 < l.length by omega), yG h]
 exact List.set_set_perm h (by omega)
theorem VV {α : Type} [Inhabited α] {lt : α → α → Bool} : ∀ (j : Nat) (l : List α), j < l.length → (down lt j l).Perm l
 | 0, l, _ => List.Perm.refl _
 | j + 1, l, h => by
  simp only [down]
  split
  ·exact (VV j _ (by rw [XA]; omega)).trans (zA3 (by omega) h)
  ·exact List.Perm.refl _
theorem GB {α : Type} [Inhabited α] {lt : α → α → Bool} {l : List α} : ∀ k, k < l.length → (srt lt l k).Perm l
 | 0, _ => List.Perm.refl _
 | k + 1, h => (VV _ _ (by rw [srt_len]; exact h)).trans (GB k (by omega))
theorem sorted_perm {α : Type} [Inhabited α] {lt : α → α → Bool} {l : List α} : (sorted lt l).Perm l := by
 by_cases h : l = []
 ·subst h; exact List.Perm.refl _
 ·have : 0 < l.length := List.length_pos_iff.2 h
  exact GB _ (by omega)
def But (l : List Int) (n j : Nat) : Prop := ∀ a b, a < b → b < n → b ≠ j → nth l (a : Int) ≤ nth l (b : Int)
theorem JP {l : List Int} {j : Nat} (hj : 0 < j) (h : j < l.length) (i : Nat) (hi : i < l.length) : nth (swp l j) (i : Int) = if i = j - 1 then nth l (j : Int) else if i = j then nth l ((j - 1 : Nat) : Int) else nth l (i : Int) := by
 have e : swp l j = (l.set j (l[j - 1]'(by omega))).set (j - 1) (l[j]) := by
  unfold swp
  rw [show ((j : Int) - 1) = ((j - 1 : Nat) : Int) by omega, yG (show j - 1 < l.length by omega), yG h]
 rw [e, yG (show i < ((l.set j (l[j - 1]'(by omega))).set (j - 1) (l[j])).length by simp only [List.length_set]; exact hi), yG hi, yG h, yG (show j - 1 < l.length by omega), List.getElem_set, List.getElem_set]
 by_cases h1 : i = j - 1
 ·rw [if_pos h1, if_pos h1.symm]
 ·rw [if_neg h1, if_neg (fun e => h1 e.symm)]
  by_cases h2 : i = j
  ·rw [if_pos h2, if_pos h2.symm]
  ·rw [if_neg h2, if_neg (fun e => h2 e.symm)]
theorem ZQ {n : Nat} : ∀ (j : Nat) (l : List Int), j < n → n ≤ l.length → But l n j → ∀ a b, a < b → b < n → nth (down ltI j l) (a : Int) ≤ nth (down ltI j l) (b : Int)
 | 0, l, _, _, h, a, b, hab, hb => h a b hab hb (by omega)
 | j + 1, l, hj, hn, h, a, b, hab, hb => by
  have e1 : (((j + 1 : Nat) : Int) - 1) = (j : Int) := by omega
  simp only [down, e1]
  split
  ·rename_i hlt
   have hlt : nth l ((j + 1 : Nat) : Int) < nth l (j : Int) := by simpa [ltI] using hlt
   refine ZQ j _ (by omega) (by rw [XA]; exact hn) (fun a b hab hb hne => ?_) a b hab hb
   rw [JP (by omega) (by omega) a (by omega), JP (by omega) (by omega) b (by omega)]
   simp only [Nat.add_sub_cancel]
   rw [if_neg hne]
   by_cases h1 : b = j + 1
   ·rw [if_pos h1]
    by_cases h2 : a = j
    ·rw [if_pos h2]; omega
    ·rw [if_neg h2, if_neg (by omega)]; exact h a j (by omega) (by omega) (by omega)
   ·rw [if_neg h1]
    by_cases h2 : a = j
    ·rw [if_pos h2]; exact h (j + 1) b (by omega) hb h1
    ·rw [if_neg h2]
     by_cases h3 : a = j + 1
     ·rw [if_pos h3]; exact h j b (by omega) hb h1
     ·rw [if_neg h3]; exact h a b hab hb h1
  ·rename_i hlt
   have hlt : nth l (j : Int) ≤ nth l ((j + 1 : Nat) : Int) := by simpa [ltI] using hlt
   by_cases h1 : b = j + 1
   ·subst h1
    by_cases h2 : a = j
    ·subst h2; exact hlt
    ·exact Int.le_trans (h a j (by omega) (by omega) (by omega)) hlt
   ·exact h a b hab hb h1
theorem VG {l : List Int} : ∀ k, k < l.length → ∀ a b, a < b → b < k + 1 → nth (srt ltI l k) (a : Int) ≤ nth (srt ltI l k) (b : Int)
 | 0, _, a, b, hab, hb => by omega
 | k + 1, hk, a, b, hab, hb => by
  refine ZQ (n := k + 2) (k + 1) _ (by omega) (by rw [srt_len]; omega) (fun a b hab hb hne => ?_) a b hab hb
  exact VG k (by omega) a b hab (by omega)
theorem VW {l : List Int} : (sorted ltI l).Pairwise (· ≤ ·) := by
 by_cases h : l = []
 ·subst h; exact List.Pairwise.nil
 ·have hl : 0 < l.length := List.length_pos_iff.2 h
  refine List.pairwise_iff_getElem.2 (fun a b ha hb hab => ?_)
  have hlen : (sorted ltI l).length = l.length := sorted_len
  have := VG (l := l) (l.length - 1) (by omega) a b hab (by omega)
  have e : srt ltI l (l.length - 1) = sorted ltI l := rfl
  rw [e, yG ha, yG hb] at this
  exact this
theorem sorted_of_perm {l l' : List Int} (h : l.Perm l') : sorted ltI l = sorted ltI l' :=
 List.Perm.eq_of_pairwise (le := (· ≤ ·)) (fun a b _ _ h1 h2 => Int.le_antisymm h1 h2) VW VW ((sorted_perm.trans h).trans sorted_perm.symm)
end Ps
end Go.Fip
namespace Go.Fip
section
variable {K V : Type} [DecidableEq K] {kv : K → Value} {vv : V → Value} {es : Array MapEntry} {clock : Nat} {m : List (K × V)}
theorem Ents.key_inj (h : Ents kv vv es clock m) (hinj : ∀ a b, kv a = kv b → a = b) {e e' : MapEntry} (he : e ∈ es.toList) (he' : e' ∈ es.toList) (hk : e.key = e'.key) : e = e' := by
 obtain ⟨i, hi, rfl⟩ := List.getElem_of_mem he
 obtain ⟨j, hj, rfl⟩ := List.getElem_of_mem he'
 have hv := h.views
 unfold Views at hv
 have hl : es.toList.length = m.length := by have := congrArg List.length hv; simpa using this
 have e1 : kv (m[i]'(by omega)).1 = es.toList[i].key := by
  have := congrArg (fun l => l[i]?) hv
  simp only [List.getElem?_map, List.getElem?_eq_getElem hi, List.getElem?_eq_getElem (show i < m.length by omega), Option.map_some, Option.some.injEq, Prod.mk.injEq] at this
  exact this.1.symm
 have e2 : kv (m[j]'(by omega)).1 = es.toList[j].key := by
  have := congrArg (fun l => l[j]?) hv
  simp only [List.getElem?_map, List.getElem?_eq_getElem hj, List.getElem?_eq_getElem (show j < m.length by omega), Option.map_some, Option.some.injEq, Prod.mk.injEq] at this
  exact this.1.symm
 have e3 : (m[i]'(by omega)).1 = (m[j]'(by omega)).1 := hinj _ _ (by rw [e1, e2, hk])
 have hp := List.pairwise_iff_getElem.1 h.nd
 have : i = j := by
  rcases Nat.lt_trichotomy i j with hlt | heq | hgt
  ·exact absurd (by rw [List.getElem_map, List.getElem_map]; exact e3) (hp i j (by simp; omega) (by simp; omega) hlt)
  ·exact heq
  ·exact absurd (by rw [List.getElem_map, List.getElem_map]; exact e3.symm) (hp j i (by simp; omega) (by simp; omega) hgt)
 subst this
 rfl
structure Vis (kv : K → Value) (es : Array MapEntry) (seen : Array Nat) (ks : List K) : Prop where
 nd : ks.Nodup
 mem : ∀ x, x ∈ ks ↔ ∃ e ∈ es.toList, e.key = kv x ∧ e.born ∈ seen.toList
omit [DecidableEq K] in
theorem Vis.start : Vis kv es #[] ([] : List K) := ⟨List.nodup_nil, fun x => by simp⟩
theorem Vis.next {seen : Array Nat} {ks : List K} (h : Vis kv es seen ks) (hE : Ents kv vv es clock m) (hinj : ∀ a b, kv a = kv b → a = b) {e : MapEntry} (he : e ∈ es.toList) {x : K} (hk : e.key = kv x) (hn : e.born ∉ seen.toList) : Vis kv es (seen.push e.born) (ks ++ [x]) := by
 refine ⟨?_, fun y => ?_⟩
 ·rw [List.nodup_append]
  refine ⟨h.nd, by simp, fun a ha b hb hab => ?_⟩
  simp only [List.mem_singleton] at hb
  subst hb; subst hab
  obtain ⟨e', he', hk', hb'⟩ := (h.mem a).1 ha
  have := hE.key_inj hinj he he' (by rw [hk, hk'])
  subst this
  exact hn hb'
 ·rw [List.mem_append, h.mem y]
  simp only [List.mem_singleton, Array.toList_push, List.mem_append]
  constructor
  ·rintro (⟨e', h1, h2, h3⟩ | rfl)
   ·exact ⟨e', h1, h2, .inl h3⟩
   ·exact ⟨e, he, hk, .inr rfl⟩
  ·rintro ⟨e', h1, h2, h3 | h3⟩
   ·exact .inl ⟨e', h1, h2, h3⟩
   ·have := hE.inj h1 he h3
    subst this
    exact .inr (hinj _ _ (by rw [← h2, hk]))
theorem Vis.over {seen : Array Nat} {ks : List K} (h : Vis kv es seen ks) (hE : Ents kv vv es clock m) (hinj : ∀ a b, kv a = kv b → a = b) (hall : ∀ e ∈ es.toList, e.born ∈ seen.toList) : ks.Perm (m.map Prod.fst) := by
 refine (List.perm_ext_iff_of_nodup h.nd hE.nd).2 (fun x => ?_)
 rw [h.mem x]
 constructor
 ·rintro ⟨e, he, hk, -⟩
  obtain ⟨k, v, h1, h2, h3⟩ := hE.entry he
  have : x = k := hinj _ _ (by rw [← hk, h1])
  subst this
  exact List.mem_map.2 ⟨_, XV h3, rfl⟩
 ·intro hx
  obtain ⟨p, hp, rfl⟩ := List.mem_map.1 hx
  obtain ⟨e, he, hk, hv⟩ := hE.views.of_mem p.1 p.2 hp
  exact ⟨e, he, hk, hall e he⟩
end
end Go.Fip
namespace Go.Fip
theorem WQ (es : Array MapEntry) : unseen es #[] ≤ es.size := by
 unfold unseen
 have := List.length_filter_le (fun e : MapEntry => !(#[] : Array Nat).toList.contains e.born) es.toList
 simpa using this
theorem Ents.size {K V : Type} [DecidableEq K] {kv : K → Value} {vv : V → Value} {es : Array MapEntry} {clock : Nat} {m : List (K × V)} (h : Ents kv vv es clock m) : es.size = m.length := by
 have := congrArg List.length h.views
 simpa using this
end Go.Fip
namespace Go.Fip
namespace Pt
def pm (o s : Int) : Nat → List (Int × Int)
 | 0 => []
 | k + 1 => upd ((k : Int) * s % o) (k : Int) (pm o s k)
def keysOf (o s : Int) (n : Nat) : List Int := (del (0 : Int) (pm o s n)).map Prod.fst
def places (o s : Int) (n : Nat) : List Int := Ps.sorted Ps.ltI (0 :: keysOf o s n)
theorem zBx {m : List (Int × Int)} {k v : Int} : (upd k v m).length ≤ m.length + 1 := by
 induction m with
 | nil => simp [upd]
 | cons p m ih =>
  simp only [upd]
  split <;> simp <;> omega
theorem pm_len {o s : Int} : ∀ n, (pm o s n).length ≤ n
 | 0 => by simp [pm]
 | n + 1 => by have := zBx (m := pm o s n) (k := (n : Int) * s % o) (v := (n : Int)); have := pm_len (o := o) (s := s) n; simp only [pm]; omega
theorem del_len {m : List (Int × Int)} {k : Int} : (del k m).length ≤ m.length := by
 have h := (jW k m).length_le
 simpa using h
theorem keysOf_len {o s : Int} {n : Nat} : (keysOf o s n).length ≤ n := by
 have h := del_len (m := pm o s n) (k := 0)
 have := pm_len (o := o) (s := s) n
 unfold keysOf
 rw [List.length_map]
 omega
theorem places_of {o s : Int} {n : Nat} {ks : List Int} (h : ks.Perm (keysOf o s n)) : Ps.sorted (fun x y : Int => decide (x < y)) (0 :: ks) = places o s n := Ps.sorted_of_perm (h.cons 0)
theorem places_len {o s : Int} {n : Nat} : (places o s n).length = (keysOf o s n).length + 1 := by
 unfold places
 rw [Ps.sorted_len, List.length_cons]
end Pt
end Go.Fip
namespace Go.Fip
open Go.Proofs Go.RowKit
abbrev KZ (n : Int) : Value := .agg #[.int .i64 n]
abbrev zCv (n : Int) : Value := .int .i64 n
theorem GU : ∀ a b : Int, KZ a = KZ b → a = b := fun a b h => by simpa [KZ] using h
theorem zCz {o s n : Int} {w : World} (ho : 1 ≤ o ∧ o ≤ 2400) (hs : 0 ≤ s ∧ s ≤ o) (hn : 1 ≤ n ∧ n ≤ 60)  :
  Fn Tryz.prog 110 [(.int .i64 o), (.int .i64 s), (.int .i64 n)].toArray w (fun u _ => u = .int .i64 0) := by
 refine fz Tryz.func110 Z kz Z Z (fun hH => (zr (oA hH Z (zt (seq (block (zr (oM hH Z (z2 T.zR [o] Z (fun w => by kernel_rfl) hH (fun u1 lo3 hi4 w2 hH5 => (zM Z Z Z hH5 (ZS (Heap.yI T.zR hH5 (n := 0) Z)) (fun w6 hH7 => (oY hH7 (y6 Z) (oM hH7 Z ?_))))))))))))))
 by_cases hc8 : 1 ≤ o ∧ o ≤ 2400
 ·refine zB Z Z (zG hc8) (oM hH7 Z (zB Z Z (zG hc8) (oM hH7 Z (zB Z Z (zG hc8) (z2 T.zR [s] Z (fun w => by kernel_rfl) hH7 (fun u9 lo11 hi12 w10 hH13 => (zB Z Z (zG hc8) (zM Z Z Z hH13 (ZS (Heap.yI T.zR hH13 (n := 0) Z)) (fun w14 hH15 => (zB Z Z (zG hc8) (oY hH15 (y6 Z) (oY hH15 (zT Z (zG hc8) Z) (oA hH15 Z (zt ?_))))))))))))))
  by_cases hc16 : 0 ≤ s ∧ s ≤ o
  ·refine zL Z (zG hc16) (zr (oM hH15 Z (z2 T.zR [n] Z (fun w => by kernel_rfl) hH15 (fun u17 lo19 hi20 w18 hH21 => (zM Z Z Z hH21 (ZS (Heap.yI T.zR hH21 (n := 0) Z)) (fun w22 hH23 => (oY hH23 (y6 Z) (oA hH23 Z (zt ?_)))))))))
   by_cases hc24 : 1 ≤ n ∧ n ≤ 60
   ·refine zL Z (zG hc24) (skip (yC (zu (oA hH23 Z (zt (ret (fin (hH23.sub (sC (sC (sC sR)))) (fun w' hf => (yN Z (rt Z))) (fun w' hf => ?_))))))))
    first | rfl | (exfalso; omega)
   refine zO Z (zF hc24) (zr (oA hH23 Z (zt (ret (yE (z6 (fin (hH23.sub (sC (sC (sC sR)))) (fun w' hf => (yN Z (rt Z))) (fun w' hf => ?_))))))))
   first | rfl | (exfalso; omega)
  refine zO Z (zF hc16) (zr (oA hH15 Z (zt (ret (yE (z6 (fin (hH15.sub (sC (sC sR))) (fun w' hf => (yN Z (rt Z))) (fun w' hf => ?_))))))))
  first | rfl | (exfalso; omega)
 refine zD Z Z (zF hc8) Z (zD Z Z (zF hc8) Z (zD Z Z (zF hc8) Z (zD Z Z (zF hc8) Z (zD Z Z (zF hc8) Z (oY hH7 (zU Z (zF hc8) Z) (oA hH7 Z (zt (zO Z Z (zr (oA hH7 Z (zt (ret (yE (z6 (fin (hH7.sub (sC sR)) (fun w' hf => (yN Z (rt Z))) (fun w' hf => ?_))))))))))))))))
 first | rfl | (exfalso; omega)
theorem zEb {o s : Int} {n : Nat} {w : World} (ho : 1 ≤ o ∧ o ≤ 2400) (hs : 0 ≤ s ∧ s ≤ o) (hn : 1 ≤ n ∧ n ≤ 11)  :
  Fn Tryz.prog 111 [(.int .i64 o), (.int .i64 s), (.int .i64 (n : Int))].toArray w (fun u w => Own 2 1 encI u (Pt.places o s n) w) := by
 refine fz Tryz.func111 Z kz Z Z (fun hH => ?_)
 have hkl := Pt.keysOf_len (o := o) (s := s) (n := n)
 refine zr (oA hH Z (zs (uA KZ zCv Z hH (fun b1 w2 hH3 => (oA hH3 Z (zt (seq (zr (oM hH3 Z (oM hH3 Z (zt (block (loop (S := Nat) (fun k => [(13, (.int .i64 (k : Int))), (0, (.int .i64 o)), (1, (.int .i64 s)), (6, (.slice none 0 0)), (7, (.map (some b1))), (12, (.int .i64 (n : Int)))]) (fun k w1 => Heap [mp KZ zCv b1 (Pt.pm o s k), base w] w1 ∧ k ≤ n) (fun k => n - k) (0) (uC Z (uC Z (uC Z (uC Z (uC Z (uC Z (Sub.nil _))))))) ?_ ?_)))))))))))))
 ·exact ⟨(Heap.ZG (n := 0) hH3 Z (Z)), om⟩
 rintro k w4 ⟨hH5, hk⟩
 refine zr (oY hH5 (yL Z Z) (zt (seq ?_)))
 by_cases hc6 : (k : Int) < (n : Int)
 ·refine zO Z (dT hc6) (skip (zN (seq (block (zr (oM hH5 Z (oA hH5 Z (zt ?_))))))))
  have hm1 := Pt.mul_bd (a := (k : Int)) (b := s) (A := 60) (B := 2400) (by omega) (by omega) (by omega) (by omega)
  have hm2 := Int.emod_nonneg ((k : Int) * s) (show o ≠ 0 by omega)
  refine region (oM hH5 Z (oM hH5 Z (oM hH5 Z (oY hH5 (xA Z Z om) (oM hH5 Z (oY hH5 (xO Z Z om om) (oY hH5 (yR (v := (.agg #[(.int .i64 (((k : Int) * s) % o))])) Z (fun w => by kernel_rfl)) (oM hH5 Z (uO (n := 0) (k := ((k : Int) * s) % o) (v := (k : Int)) T.zCk Z Z Z hH5 Z (fun w7 hH8 => (zC (yC (zN (region (oY hH8 (zV Z Z om) (oM hH8 Z (zC (y0 (k + 1) (uC Z (uC Z (uC Z (uC Z (uC Z (uC Z (Sub.nil _))))))) (⟨(Heap.ZG (n := 0) hH8 Z (Z)), om⟩) om3))))))))))))))))))
 have hk2 : k = n := by omega
 refine zL Z (dF hc6) (exit (yZ (xF (z7 (zu (oM hH5 Z (oY hH5 (yR (v := (.agg #[(.int .i64 0)])) Z (fun w => by kernel_rfl)) (V7 (n := 0) (k := 0) T.zCk Z Z hH5 Z (fun w9 hH10 => (zs (z2 T.zR [0] Z (fun w => by kernel_rfl) hH10 (fun u11 lo13 hi14 w12 hH15 => (oA hH15 Z (zt (seq (zr ?_))))))))))))))))
 refine oM hH15 Z ?_
 obtain ⟨es, clock, hH16, hv1, hv2, hv3, hv4⟩ := Heap.Y3 hH15 (n := 1) rfl
 have hents : Ents KZ zCv es clock (del 0 (Pt.pm o s k)) := ⟨hv1, hv2, hv3, hv4⟩
 refine jG T.zCk.und Z Z hH16 (Heap.jK hH16 (n := 1) Z) (fun r17 w18 hH19 => (zt (block (loop (S := Array Nat × List Int × Value × Nat × Nat) (fun (seen, ks, v_9, lo_9, hi_9) => [(9, v_9), (6, (.slice none 0 0)), (29, (.pointer (some ⟨r17, 0, none⟩)))]) (fun (seen, ks, v_9, lo_9, hi_9) w1 => Heap [raw r17 (.mapIter (some b1) clock seen clock), ow lo_9 hi_9 2 1 encI v_9 (0 :: ks), raw b1 (.map es clock), base w] w1 ∧ Vis KZ es seen ks ∧ ks.length + unseen es seen ≤ es.size) (fun (seen, ks, v_9, lo_9, hi_9) => unseen es seen) (#[], [], u11, lo13, hi14) (uC Z (uC Z (uC Z (Sub.nil _)))) ?_ ?_))))
 ·exact ⟨(Heap.y1 (n := 1) hH19 Z (Z)), Vis.start, by have := WQ es; simp; omega⟩
 rintro ⟨seen, ks, v_9, lo_9, hi_9⟩ w20 ⟨hH21, hV, hsz⟩
 have hes := hents.size
 have hdl := Pt.del_len (m := Pt.pm o s k) (k := 0)
 have hpl := Pt.pm_len (o := o) (s := s) k
 refine zr (kD Z Z hH21 (Heap.jK hH21 (n := 2) Z) (k := 0) Z hents.born (fun hall22 w26 hH27 => ?_) (fun e23 he24 hns25 w26 hH27 => ?_))
 ·have hperm := hV.over hents GU hall22
  refine oY hH27 (zH Z Z) (zt (seq (zL Z Z (exit (yZ (xF (z7 (zN (seq ?_)))))))))
  have hkn : (0 :: ks).length ≤ 12 := by simp only [List.length_cons]; omega
  refine region (oM hH27 Z ?_)
  obtain ⟨g28, hgb29, hgl30⟩ := Ow.blk (show Ow _ _ _ _ _ _ _ _ from hH27.get (n := 1) rfl) (by first | assumption | omega | (simp; done) | decide)
  refine vB (g := g28) (n := 1) Z Z Z hH27 Z hgl30 (zD6 (Heap.own hH27 (n := 1) Z) hgb29 (by first | omega | (simp; done)) (by first | omega | (simp; done))) (fun u33 w31 hH32 hv34 => ?_)
  obtain ⟨rfl, -⟩ := hv34
  have hH35 := Heap.xZ (Heap.weaken hH32 (n := 1) Z (φ := Own 2 1 encI v_9 (Ps.sorted (fun x y : Int => decide (x < y)) (0 :: ks))) (fun w' h => h.2)) (n := 1) (by rfl)
  refine zs (oM hH35 Z (oA hH35 Z (zt (ret (fin ((hH35.sub (sC (sK (sC sR)))).front (n := 1) Z) (fun w' hf => (yN Z (rt Z))) (fun w' hf => ?_))))))
  rw [← hk2, ← Pt.places_of hperm]; exact Heap.own hf (n := 0) rfl
 obtain ⟨ak, xv, hkey, hval, hfind⟩ := hents.entry he24
 have hns := hns25
 have hen := he24
 refine oY hH27 (zH Z Z) (zt (seq (zO Z Z (skip (zN (block (zr (oY hH27 (qK hkey hval Z he24 hents.bornNd (fun _ hw => (Heap.jK hw (n := 2) Z)) (fun _ hw => Heap.jK hw (n := 0) Z)) (oY hH27 (zH Z Z) (yD (z := (.agg #[(.int .i64 0)])) (fun _ => by kernel_rfl) Z Z hH27 (fun b37 w38 hH39 => (zS (n := 0) (j := 0) Z Z hH39 Z T.zDw Z Z Z (by rfl) (fun w40 hH41 => (zq (oM hH41 Z (oY hH41 (zI T.zCx Z) (oY hH41 (zE T.yT Z (cw (n := 0) Z Z)) (z2 T.zR [ak] Z (fun w => by kernel_rfl) hH41 (fun u42 lo44 hi45 w43 hH46 => (yB (n := 3) T.zR Z Z Z hH46 Z (Heap.yI T.zR hH46 (n := 0) Z) (by simp only [List.length_cons, List.length_nil]; omega) (fun u47 lo49 hi50 w48 hH51 => ?_)))))))))))))))))))))
 refine oA hH51 Z (zC (yC ?_))
 have hH52 := (hH51.sub (sC (sC sR)))
 refine y0 ((seen.push e23.born), ks ++ [ak], u47, lo49, hi50) (uC Z (uC Z (uC Z (Sub.nil _)))) ?_ ?_
 ·exact ⟨(Heap.y1 (n := 1) hH52 Z (Z)), hV.next hents GU hen hkey hns, by have := vI hen hns; simp only [List.length_append, List.length_singleton]; omega⟩
 ·show _ < _; exact vI hen hns
theorem c47 {o s : Int} {n : Nat} {w : World} (ho : 1 ≤ o ∧ o ≤ 2400) (hs : 0 ≤ s ∧ s ≤ o) (hn : 1 ≤ n ∧ n ≤ 11)  :
  Fn Tryz.prog 47 [(.int .i64 o), (.int .i64 s), (.int .i64 (n : Int))].toArray w (fun u w => ∃ q, u = .tuple #[q, .int .i64 0] ∧ Own 2 1 encI q (Pt.places o s n) w) := by
 refine fz Tryz.func47 Z kz Z Z (fun hH => (zr (oA hH Z (oA hH Z (zt (seq (zr (oM hH Z (oM hH Z (oM hH Z (zM Z Z Z hH (zCz om om om) (fun w1 hH2 => (oA hH2 Z (zs (oM hH2 Z (oY hH2 (yF Z Z) (zC ?_)))))))))))))))))
 refine zN (zL Z Z (skip (zu (oM hH2 Z (oM hH2 Z (oM hH2 Z (yV Z Z Z hH2 (zEb (o := o) (s := s) (n := n) om om om) (fun u5 w3 lo6 hi7 hH4 hv8 => ?_))))))))
 have hH9 := Heap.xZ hH4 (n := 0) Z
 refine oA hH9 Z (oA hH9 Z (zt (ret (fin (hH9.front (n := 1) Z) (fun w' hf => (xI Z (rt Z) (rt Z))) (fun w' hf => ?_)))))
 exact ⟨_, Z, Heap.own hf (n := 0) Z⟩
end Go.Fip
namespace Go.Fip
namespace Pt
def dd (l : List Int) : Nat → List Int
 | 0 => []
 | j + 1 => if j = 0 then [nth l 0] else if nth l (j : Int) = nth l ((j : Int) - 1) then dd l j else dd l j ++ [nth l (j : Int)]
theorem dd_1 {l : List Int} (h : 1 ≤ l.length) : dd l 1 = l.take 1 := by
 match l, h with
 | a :: l, _ => rfl
theorem zEa {l : List Int} {j : Nat} (hj : 1 ≤ j) (h : nth l (j : Int) = nth l ((j : Int) - 1)) : dd l (j + 1) = dd l j := by
 simp only [dd]; rw [if_neg (by omega), if_pos h]
theorem zC4 {l : List Int} {j : Nat} (hj : 1 ≤ j) (h : ¬ nth l (j : Int) = nth l ((j : Int) - 1)) : dd l (j + 1) = dd l j ++ [nth l (j : Int)] := by
 conv => lhs; simp only [dd]
 rw [if_neg (by omega), if_neg h]
theorem dd_all {l : List Int} {k : Nat} (h1 : 1 ≤ k) (hk : k < l.length) (hd : dd l k = l.take k) (h : ¬ nth l (k : Int) = nth l ((k : Int) - 1)) : dd l (k + 1) = l.take (k + 1) := by
 rw [zC4 h1 h, hd, List.take_succ_eq_append_getElem hk, yG hk]
structure CpAt (l L : List Int) (a j : Nat) : Prop where
 len : L.length = l.length
 a1 : 1 ≤ a
 aj : a + 1 ≤ j
 jl : j ≤ l.length
 pre : L.take a = dd l j
 suf : L.drop a = l.drop a
theorem CpAt.start {l : List Int} {k : Nat} (h1 : 1 ≤ k) (hk : k < l.length) (hd : dd l k = l.take k) (h : nth l (k : Int) = nth l ((k : Int) - 1)) : CpAt l l k (k + 1) :=
 ⟨rfl, h1, Nat.le_refl _, hk, by rw [zEa h1 h, hd], rfl⟩
theorem CpAt.nth {l L : List Int} {a j : Nat} (h : CpAt l L a j) {i : Nat} (hi : a ≤ i) (hl : i < l.length) : Go.Fip.nth L (i : Int) = Go.Fip.nth l (i : Int) := by
 have := congrArg (fun q => q[i - a]?) h.suf
 simp only [List.getElem?_drop] at this
 rw [show a + (i - a) = i by omega, List.getElem?_eq_getElem hl, List.getElem?_eq_getElem (show i < L.length by rw [h.len]; exact hl)] at this
 rw [yG hl, yG (show i < L.length by rw [h.len]; exact hl)]
 exact Option.some.inj this
theorem CpAt.drop {l L : List Int} {a j : Nat} (h : CpAt l L a j) (hj : j < l.length) (he : Go.Fip.nth l (j : Int) = Go.Fip.nth l ((j : Int) - 1)) : CpAt l L a (j + 1) :=
 ⟨h.len, h.a1, by have := h.aj; omega, hj, by rw [zEa (by have := h.aj; omega) he]; exact h.pre, h.suf⟩
theorem CpAt.keep {l L : List Int} {a j : Nat} (h : CpAt l L a j) (hj : j < l.length) (he : ¬ Go.Fip.nth l (j : Int) = Go.Fip.nth l ((j : Int) - 1)) : CpAt l (L.set a (Go.Fip.nth l (j : Int))) (a + 1) (j + 1) := by
  have haj := h.aj
  have hal : a < L.length := by rw [h.len]; omega
  refine ⟨by rw [List.length_set, h.len], by omega, by omega, hj, ?_, ?_⟩
  · rw [zC4 (by omega) he, ← h.pre, List.take_succ_eq_append_getElem (by simpa using hal), List.getElem_set_self, List.take_set_of_le (Nat.le_refl _)]
  · have e : L.drop (a + 1) = l.drop (a + 1) := by
      have := congrArg (List.drop 1) h.suf
      rwa [List.drop_drop, List.drop_drop] at this
    rw [List.drop_set_of_lt (by omega), e]
theorem CpAt.done {l L M : List Int} {a : Nat} (h : CpAt l L a l.length) : (L.take a ++ M).take a = dd l l.length := by
 have : (L.take a).length = a := by rw [List.length_take, h.len]; have := h.aj; omega
 rw [List.take_append_of_le_length (by omega), List.take_take, Nat.min_self, h.pre]
def sizes (o s : Int) (n : Nat) : List Int :=
 let p := places o s n ++ [o]
 dd (Ps.sorted Ps.ltI ((List.range (p.length - 1)).map fun i : Nat => nth p ((i : Int) + 1) - nth p (i : Int))) (p.length - 1)
end Pt
end Go.Fip
namespace Go.Fip
namespace Pt
theorem zBa {m : List (Int × Int)} {k v x : Int} (h : x ∈ (upd k v m).map Prod.fst) : x = k ∨ x ∈ m.map Prod.fst := by
 induction m with
 | nil => simp [upd] at h; exact .inl h
 | cons p m ih =>
  simp only [upd] at h
  split at h
  ·simp at h
   rcases h with h | h
   ·first | exact .inl h | exact .inr (by simp [h])
   ·exact .inr (by simp; exact .inr h)
  ·rw [List.map_cons, List.mem_cons] at h
   rcases h with h | h
   ·exact .inr (by simp [h])
   ·rcases ih h with h | h
    ·exact .inl h
    ·exact .inr (by rw [List.map_cons]; exact List.mem_cons_of_mem _ h)
theorem JG {o s : Int} (ho : 1 ≤ o) : ∀ (n : Nat) (x : Int), x ∈ (pm o s n).map Prod.fst → 0 ≤ x ∧ x < o
 | 0, x, h => by simp [pm] at h
 | n + 1, x, h => by
  rcases zBa h with rfl | h
  ·exact ⟨Int.emod_nonneg _ (by omega), Int.emod_lt_of_pos _ (by omega)⟩
  ·exact JG ho n x h
theorem places_in {o s : Int} {n : Nat} (ho : 1 ≤ o ∧ o ≤ 2400) : ∀ x, x ∈ places o s n → 0 ≤ x ∧ x ≤ 2400 := fun x hx => by
 have h := (Ps.sorted_perm (lt := Ps.ltI)).mem_iff.1 hx
 rcases List.mem_cons.1 h with rfl | h
 ·omega
 ·have := JG ho.1 n x ((jW 0 (pm o s n)).subset h)
  omega
def diffs (p : List Int) (k : Nat) : List Int := (List.range k).map fun i : Nat => nth p ((i : Int) + 1) - nth p (i : Int)
theorem diffs_len {p : List Int} {k : Nat} : (diffs p k).length = k := by simp [diffs]
theorem diffs_snoc {p : List Int} {k : Nat} : diffs p k ++ [nth (p.drop 1) (k : Int) - nth p (k : Int)] = diffs p (k + 1) := by
 unfold diffs
 rw [List.range_succ, List.map_append, uK]
 simp [Int.add_comm]
theorem sizes_of {o s : Int} {n : Nat} : dd (Ps.sorted (fun x y : Int => decide (x < y)) (diffs (places o s n ++ [o]) (places o s n).length)) (Ps.sorted (fun x y : Int => decide (x < y)) (diffs (places o s n ++ [o]) (places o s n).length)).length = sizes o s n := by
 unfold sizes
 simp only
 rw [Ps.sorted_len, diffs_len, show (places o s n ++ [o]).length - 1 = (places o s n).length by simp]
 rfl
end Pt
end Go.Fip
namespace Go.Fip
namespace Pt
def far (o s : Int) (i : Nat) : Int := min ((i : Int) * s % o) (o - (i : Int) * s % o)
def farTo (o s : Int) (n k : Nat) : List Int := (List.range k).map (far o s) ++ List.replicate (n - k) 0
theorem farTo_len {o s : Int} {n k : Nat} (h : k ≤ n) : (farTo o s n k).length = n := by simp [farTo]; omega
theorem farTo_set {o s : Int} {n k : Nat} (h : k < n) : (farTo o s n k).set k (far o s k) = farTo o s n (k + 1) := by
 unfold farTo
 rw [List.set_append_right _ _ (by simp), List.length_map, List.length_range, Nat.sub_self, show n - k = (n - (k + 1)) + 1 by omega, List.replicate_succ, List.set_cons_zero, List.range_succ, List.map_append, List.append_assoc]
 rfl
def back (o s : Int) (n : Nat) : Int := 1 + S.place ((farTo o s n n).drop 1) (mnTo ((farTo o s n n).drop 1) (((farTo o s n n).drop 1).length - 1))
end Pt
end Go.Fip
namespace Go.Fip
open Go.Proofs Go.RowKit
theorem zE3 {g n cap : Nat} {l : List Int} {w : World} (h0 : Own 2 1 encI (.slice (some ⟨g, 0, none⟩) n cap) l w) (hx : n = l.length) (hcap : n ≤ cap) (h2 : 2 ≤ l.length) (hn : l.length ≤ 1000000) :
  FnM Tryz.prog 113 [(.slice (some ⟨g, 0, none⟩) n cap)].toArray w g (fun u w => Own 2 1 encI u (Pt.dd l l.length) w) := by
 refine uQ (args := [(.slice (some ⟨g, 0, none⟩) n cap)]) Tryz.func113 Z (ent Tryz.func113 kz Z) Z Z (qF h0 Z) (fun hH => (zr (oA hH Z (zt (seq (zr (oM hH Z (oY hH (z8 T.xR Z (Heap.yI T.zR hH (n := 0) Z).is) (oY hH (yL Z Z) (zt ?_))))))))))
 have hc1 : ¬ ((l.length : Int) < 2) := (show ¬ (l.length : Int) < 2 by omega)
 refine zL Z (dF hc1) (skip (zN (seq (zr (oA hH Z (zt (block (loop (S := Nat) (fun k => [(3, (.int .i64 (k : Int))), (0, (.slice (some ⟨g, 0, none⟩) n cap))]) (fun k w1 => Heap [ow g (g + 1) 2 1 encI (.slice (some ⟨g, 0, none⟩) n cap) l, restL w g, restR w g] w1 ∧ 1 ≤ k ∧ k ≤ l.length ∧ Pt.dd l k = l.take k) (fun k => l.length - k) (1) (uC Z (uC Z (Sub.nil _))) ?_ ?_))))))))
 ·exact ⟨hH, om, om, Pt.dd_1 om⟩
 rintro k w2 ⟨hH3, hk1, hkl, hdk⟩
 refine seq (zr (oM hH3 Z (oM hH3 Z (oY hH3 (z8 T.xR Z (Heap.yI T.zR hH3 (n := 0) Z).is) (oY hH3 (yL Z Z) (zt ?_))))))
 by_cases hc4 : (k : Int) < (l.length : Int)
 ·refine zO Z (dT hc4) (skip (zN (seq (block (seq (zY (fun w' => Heap [ow g (g + 1) 2 1 encI (.slice (some ⟨g, 0, none⟩) n cap) l, restL w g, restR w g] w') T.mixed (fun w5 hr6 => ?_)))))))
  have hH7 := hH3.redrawn hr6
  refine zK [0, 1, 2, 3, 4, 5, 6, 7, 8, 9] kz hH7 _ _ _ kz (qM Z Z Z (qM Z Z Z (zJ Z Z (zP T.xR Z Z (Heap.yI T.zR hH7 (n := 0) Z).is om) (zJ Z Z (zE T.yT Z (fun _ hw => Rd.at (Heap.yI T.zR hw (n := 0) Z) (i := (k : Int)) om (j := 0) Z)) (qM Z Z Z (qM Z Z Z (zJ Z Z (y8 Z Z om) (zJ Z Z (zP T.xR Z Z (Heap.yI T.zR hH7 (n := 0) Z).is om) (zJ Z Z (zE T.yT Z (fun _ hw => Rd.at (Heap.yI T.zR hw (n := 0) Z) (i := (k : Int) - 1) om (j := 0) Z)) (zJ Z Z (y5 Z Z) (zQ (zX kz (zN ?_)))))))))))))
  by_cases hc8 : (nth l (k : Int)) = (nth l ((k : Int) - 1))
  ·have heq : nth l (k : Int) = nth l ((k : Int) - 1) := by omega
   refine zO Z (dT hc8) (zr (oM hH7 Z (oM hH7 Z (oY hH7 (YR (show (cutv (.slice (some ⟨g, 0, none⟩) n cap) 1 (k : Int).toNat l.length) = (.slice (some ⟨g, k, none⟩) (n - k) (cap - k)) from by rw [show ((k : Int)).toNat = k by omega, ← hx]; simp only [cutv]; rw [if_neg (show ¬ cap = k by omega)]; simp [qD]) (x6 T.xR Z Z (Heap.yI T.zR hH7 (n := 0) Z).is om)) ?_))))
   refine oA hH7 Z (zt (seq (zr (oA hH7 Z (zt (block (loop (S := Nat × Nat × List Int) (fun (a, i, L) => [(3, (.int .i64 (a : Int))), (5, (.int .i64 (i : Int))), (0, (.slice (some ⟨g, 0, none⟩) n cap)), (4, (.slice (some ⟨g, k, none⟩) (n - k) (cap - k)))]) (fun (a, i, L) w1 => Heap [ow g (g + 1) 2 1 encI (.slice (some ⟨g, 0, none⟩) n cap) L, restL w g, restR w g] w1 ∧ 1 ≤ i ∧ Pt.CpAt l L a (k + i)) (fun (a, i, L) => l.length - k - i) (k, 1, l) (uC Z (uC Z (uC Z (uC Z (Sub.nil _))))) ?_ ?_)))))))
   ·exact ⟨hH7, Nat.le_refl _, Pt.CpAt.start hk1 om hdk heq⟩
   rintro ⟨a, i, L⟩ w9 ⟨hH10, hi1, hC⟩
   have hLl := hC.len
   have haj := hC.aj
   have hjl := hC.jl
   have hLd : (L.drop k).length = l.length - k := by rw [List.length_drop, hLl]
   refine seq (zr (oM hH10 Z (oM hH10 Z (oY hH10 (z8 T.xR Z (vQ (Heap.yI T.zR hH10 (n := 0) Z) (by first | omega | (simp only [List.length_set]; omega)) (by first | omega | (simp only [List.length_set]; omega)) om).is) (oY hH10 (yL Z Z) (zt ?_))))))
   by_cases hc11 : (i : Int) < ((L.drop k).length : Int)
   ·have hj1 : k + i < l.length := by omega
    have hnd1 : nth (L.drop k) (i : Int) = nth l ((k + i : Nat) : Int) := by rw [uK, ← hC.nth (i := k + i) (by omega) hj1]
    have hnd2 : nth (L.drop k) ((i : Int) - 1) = nth l (((k + i : Nat) : Int) - 1) := by rw [show ((i : Int) - 1) = ((i - 1 : Nat) : Int) by omega, uK, show (((k + i : Nat) : Int) - 1) = ((k + (i - 1) : Nat) : Int) by omega, hC.nth (i := k + (i - 1)) (by omega) (by omega)]
    refine zO Z (dT hc11) (skip (zN (seq (block (seq (zY (fun w' => Heap [ow g (g + 1) 2 1 encI (.slice (some ⟨g, 0, none⟩) n cap) L, restL w g, restR w g] w') T.mixed (fun w12 hr13 => ?_)))))))
    have hH14 := hH10.redrawn hr13
    refine zK [0, 1, 2, 3, 4, 5, 6, 7, 8, 9] kz hH14 _ _ _ kz (qM Z Z Z (qM Z Z Z (zJ Z Z (zP T.xR Z Z (vQ (Heap.yI T.zR hH14 (n := 0) Z) (by first | omega | (simp only [List.length_set]; omega)) (by first | omega | (simp only [List.length_set]; omega)) om).is om) (zJ Z Z (zE T.yT Z (fun _ hw => Rd.at (vQ (Heap.yI T.zR hw (n := 0) Z) (by first | omega | (simp only [List.length_set]; omega)) (by first | omega | (simp only [List.length_set]; omega)) om) (i := (i : Int)) om (j := 0) Z)) (qM Z Z Z (qM Z Z Z (zJ Z Z (y8 Z Z om) (zJ Z Z (zP T.xR Z Z (vQ (Heap.yI T.zR hH14 (n := 0) Z) (by first | omega | (simp only [List.length_set]; omega)) (by first | omega | (simp only [List.length_set]; omega)) om).is om) (zJ Z Z (zE T.yT Z (fun _ hw => Rd.at (vQ (Heap.yI T.zR hw (n := 0) Z) (by first | omega | (simp only [List.length_set]; omega)) (by first | omega | (simp only [List.length_set]; omega)) om) (i := (i : Int) - 1) om (j := 0) Z)) (zJ Z Z (yF Z Z) (zQ (zX kz (zN ?_)))))))))))))
    by_cases hc15 : (nth (L.drop k) (i : Int)) = (nth (L.drop k) ((i : Int) - 1))
    ·have hdrop : nth l ((k + i : Nat) : Int) = nth l (((k + i : Nat) : Int) - 1) := by rw [← hnd1, ← hnd2]; omega
     refine zL Z (zG hc15) (skip (yC (zN (region (oM hH14 Z (oY hH14 (zV Z Z om) (oA hH14 Z (zC (y0 (a, i + 1, L) (uC Z (uC Z (uC Z (uC Z (Sub.nil _))))) (⟨hH14, om, hC.drop hj1 hdrop⟩) om3)))))))))
    have hkeep : ¬ nth l ((k + i : Nat) : Int) = nth l (((k + i : Nat) : Int) - 1) := by rw [← hnd1, ← hnd2]; omega
    refine zO Z (zF hc15) (zr (oM hH14 Z (oM hH14 Z (oM hH14 Z (oM hH14 Z (oY hH14 (zP T.xR Z Z (vQ (Heap.yI T.zR hH14 (n := 0) Z) (by first | omega | (simp only [List.length_set]; omega)) (by first | omega | (simp only [List.length_set]; omega)) om).is om) (oY hH14 (zE T.yT Z (fun _ hw => Rd.at (vQ (Heap.yI T.zR hw (n := 0) Z) (by first | omega | (simp only [List.length_set]; omega)) (by first | omega | (simp only [List.length_set]; omega)) om) (i := (i : Int)) om (j := 0) Z)) (oY hH14 (zP T.xR Z Z (Heap.yI T.zR hH14 (n := 0) Z).is om) (x4 (n := 0) (i := (a : Int)) (k := 0) (us := [(.int .i64 (nth (L.drop k) (i : Int)))]) (z := nth (L.drop k) (i : Int)) T.zR Z Z hH14 Z om T.sz2 Z Z Z (Nat.le_of_ble_eq_true Z) (fun w16 hH17 => (zq (oM hH17 Z (oY hH17 (zV Z Z om) (oA hH17 Z (zC (yC (zN (region (oM hH17 Z ?_)))))))))))))))))))
    refine oY hH17 (zV Z Z om) (oA hH17 Z (zC (y0 (a + 1, i + 1, (L.set (a : Int).toNat (nth (L.drop k) (i : Int)))) (uC Z (uC Z (uC Z (uC Z (Sub.nil _))))) (⟨hH17, om, (show Pt.CpAt l (L.set a (nth (L.drop k) (i : Int))) (a + 1) (k + i + 1) by rw [hnd1]; exact hC.keep hj1 hkeep)⟩) om3)))
   have hje : k + i = l.length := by omega
   refine zL Z (dF hc11) (exit (yZ (xF (z7 (zu (oM hH10 Z (oM hH10 Z (oY hH10 (x6 T.xR Z Z (Heap.yI T.zR hH10 (n := 0) Z).is om) (qY (n := 0) (q := (a : Int).toNat) T.zR (0 : Int) T.YZ Z Z hH10 Z om (fun w18 hH19 => (zs (oM hH19 Z (oM hH19 Z (oY hH19 (qT T.xR Z Z (Heap.yI T.zR hH19 (n := 0) Z).is (by simp; omega)) (oA hH19 Z (zt ?_))))))))))))))))
   refine ret (yE (z6 (xY (yE (z6 (finM hH19 (yN Z (rt Z)) (fun w' hf => ?_)))))))
   rw [hje] at hC
   rw [← hC.done (M := List.replicate (L.length - a) 0)]
   exact Own.upto (q := a) (sz := 1) (enc := encI) (fun _ => Z) (show Own 2 1 encI (.slice (some ⟨g, 0, none⟩) n cap) (L.take a ++ List.replicate (L.length - a) 0) _ from hf.1) (by simp; omega)
  have hne : ¬ nth l (k : Int) = nth l ((k : Int) - 1) := by omega
  refine zL Z (dF hc8) (skip (yC (zN (region (oM hH7 Z (oY hH7 (zV Z Z om) (oA hH7 Z (zC (y0 (k + 1) (uC Z (uC Z (Sub.nil _))) (⟨hH7, om, om, Pt.dd_all hk1 om hdk hne⟩) om3)))))))))
 refine zL Z (dF hc4) (exit (yZ (xF (z7 (zu (oM hH3 Z (oA hH3 Z (zt (ret (finM hH3 (yN Z (rt Z)) (fun w' hf => ?_)))))))))))
 have hk2 : k = l.length := by omega
 rw [hk2] at hdk
 rw [hdk, List.take_length]; exact hf.1
end Go.Fip
namespace Go.Fip
open Go.Proofs Go.RowKit
theorem c48 {o s : Int} {n : Nat} {w : World} (ho : 1 ≤ o ∧ o ≤ 2400) (hs : 0 ≤ s ∧ s ≤ o) (hn : 1 ≤ n ∧ n ≤ 11) (h2 : 2 ≤ (Pt.places o s n).length)  :
  Fn Tryz.prog 48 [(.int .i64 o), (.int .i64 s), (.int .i64 (n : Int))].toArray w (fun u w => ∃ q, u = .tuple #[q, .int .i64 0] ∧ Own 2 1 encI q (Pt.sizes o s n) w) := by
 refine fz Tryz.func48 Z kz Z Z (fun hH => ?_)
 have hkl := Pt.keysOf_len (o := o) (s := s) (n := n)
 have hpl := Pt.places_len (o := o) (s := s) (n := n)
 have hPl : (Pt.places o s n ++ [o]).length = (Pt.places o s n).length + 1 := by simp
 have hPd : ((Pt.places o s n ++ [o]).drop 1).length = (Pt.places o s n).length := by rw [List.length_drop]; omega
 have hPin : Ps.All (fun z : Int => 0 ≤ z ∧ z ≤ 2400) (Pt.places o s n ++ [o]) := fun z hz => by rcases List.mem_append.1 hz with h | h; exact Pt.places_in ho z h; simp only [List.mem_singleton] at h; subst h; omega
 refine zr (oA hH Z (oA hH Z (zt (seq (zr (oM hH Z (oM hH Z (oM hH Z (zM Z Z Z hH (zCz om om om) (fun w1 hH2 => (oA hH2 Z (zs (oM hH2 Z (oY hH2 (yF Z Z) (zt ?_)))))))))))))))
 refine zL Z Z (skip (zu (oA hH2 Z (zs (oM hH2 Z (oM hH2 Z (oM hH2 Z (yV Z Z Z hH2 (zEb (o := o) (s := s) (n := n) om om om) (fun u5 w3 lo6 hi7 hH4 hv8 => ?_)))))))))
 have hH9 := Heap.xZ hH4 (n := 0) Z
 refine oM hH9 Z (z2 T.zR [o] Z (fun w => by kernel_rfl) hH9 (fun u10 lo12 hi13 w11 hH14 => (yB (n := 1) T.zR Z Z Z hH14 Z (Heap.yI T.zR hH14 (n := 0) Z) om2 (fun u15 lo17 hi18 w16 hH19 => (oA hH19 Z (zt (seq (zr (oM hH19 Z (oY hH19 (x6 T.xR Z Z (Heap.yI T.zR hH19 (n := 1) Z).is om) (oY hH19 (z8 T.xR Z (Rd.from (Heap.yI T.zR hH19 (n := 1) Z) (lo := 1) om).is) (oM hH19 Z (zt (block ?_))))))))))))))
 have hH20 := v8 (enc := encI) 2 1 hH19
 refine loop (S := Nat × Value × Nat × Nat) (fun (k, v_9, lo_9, hi_9) => [(30, (.int .i64 (k : Int))), (9, v_9), (6, (.slice none 0 0)), (7, (.int .i64 0)), (10, u15), (28, (cutv u15 1 1 ((Pt.places o s n) ++ [o]).length)), (29, (.int .i64 ((((Pt.places o s n) ++ [o]).drop 1).length : Int)))]) (fun (k, v_9, lo_9, hi_9) w1 => Heap [ow lo_9 hi_9 2 1 encI v_9 (Pt.diffs (Pt.places o s n ++ [o]) k), ow lo12 hi13 2 1 encI u10 [o], ow lo17 hi18 2 1 encI u15 ((Pt.places o s n) ++ [o]), base w] w1 ∧ k ≤ (Pt.places o s n).length) (fun (k, v_9, lo_9, hi_9) => (Pt.places o s n).length - k) (0, (.slice none 0 0), w16.heap.size, w16.heap.size) (uC Z (uC Z (uC Z (uC Z (uC Z (uC Z (uC Z (Sub.nil _)))))))) ?_ ?_
 ·exact ⟨(Heap.y1 (n := 0) hH20 Z (Z)), om⟩
 rintro ⟨k, v_9, lo_9, hi_9⟩ w21 ⟨hH22, hk⟩
 refine zr (oY hH22 (yL Z Z) (zt (seq ?_)))
 by_cases hc23 : (k : Int) < ((((Pt.places o s n) ++ [o]).drop 1).length : Int)
 ·refine zO Z (dT hc23) (skip (zN (seq (block (seq ?_)))))
  have hdl := Pt.diffs_len (p := (Pt.places o s n ++ [o])) (k := k)
  have hq1 := hPin.nth (j := (k : Int)) (by omega) (by omega)
  have hq2 : 0 ≤ nth ((Pt.places o s n ++ [o]).drop 1) (k : Int) ∧ nth ((Pt.places o s n ++ [o]).drop 1) (k : Int) ≤ 2400 := by rw [uK]; exact hPin.nth (by omega) (by omega)
  refine region (oM hH22 Z (oY hH22 (zP T.xR Z Z (Rd.from (Heap.yI T.zR hH22 (n := 2) Z) (lo := 1) om).is om) (oY hH22 (zE T.yT Z (fun _ hw => Rd.at (Rd.from (Heap.yI T.zR hw (n := 2) Z) (lo := 1) om) (i := (k : Int)) om (j := 0) Z)) (oA hH22 Z (oA hH22 Z (zt ?_))))))
  obtain ⟨ac, hce⟩ := kC (sz := 1) (Heap.yI T.zR hH22 (n := 0) rfl).is
  refine zY (fun w' => True) T.mixed (fun w24 hr25 => ?_)
  have hH26 := hH22.redrawn hr25
  refine zK [0, 1, 2, 3, 4, 5, 6, 7, 8, 9] kz trivial _ _ _ kz (qM Z Z Z (qM Z Z Z (zJ Z Z (z8 T.xR Z (Heap.yI T.zR hH26 (n := 0) Z).is) (qM Z Z Z (zJ Z Z (z8 T.xR Z (Heap.yI T.zR hH26 (n := 0) Z).is) (zJ Z Z (XF T.xR Z Z Z (Heap.yI T.zR hH26 (n := 0) Z).is om) (qM Z Z Z (qM Z Z Z (qM Z Z Z (zJ Z Z (zP T.xR Z Z (Heap.yI T.zR hH26 (n := 2) Z).is om) (zQ (z1 10 kz Z (oY hH26 (zE T.yT Z (fun _ hw => Rd.at (Heap.yI T.zR hw (n := 2) Z) (i := (k : Int)) om (j := 0) Z)) (zC (⟨trivial, (zK [11] kz trivial _ _ _ kz (zJ Z Z (y8 Z Z om) (zQ (z1 12 kz Z ?_))))⟩)))))))))))))))
  refine z2 T.zR [(nth (((Pt.places o s n) ++ [o]).drop 1) (k : Int)) - (nth ((Pt.places o s n) ++ [o]) (k : Int))] Z (fun w => by kernel_rfl) hH26 (fun u27 lo29 hi30 w28 hH31 => (zC (⟨trivial, (z1 13 kz Z (qX T.zR Z hce Z Z hH31 (Rd.K7 (Heap.yI T.zR hH31 (n := 1) Z) ) (Heap.yI T.zR hH31 (n := 0) Z) (by simp) om2 (fun u32 lo34 hi35 w33 hH36 => (zC (⟨trivial, (zK [14] kz trivial _ _ _ kz (zJ Z Z (yK Z) (zQ (zX kz (yC (zN (region (oY hH36 (zV Z Z om) (oM hH36 Z (zC (y0 (k + 1, u32, lo34, hi35) (uC Z (uC Z (uC Z (uC Z (uC Z (uC Z (uC Z (Sub.nil _)))))))) (⟨(Heap.y1 (n := 0) (hH36.sub (sK (sC (sC sR)))) Z (Pt.diffs_snoc)), om⟩) om3)))))))))))⟩)))))⟩)))
 have hk2 : k = (Pt.places o s n).length := by omega
 refine zL Z (dF hc23) (exit (yZ (xF (z7 (zN (seq ?_))))))
 have hdl2 := Pt.diffs_len (p := (Pt.places o s n ++ [o])) (k := k)
 refine region (oM hH22 Z ?_)
 obtain ⟨g38, hgb39, hgl40⟩ := Ow.blk (show Ow _ _ _ _ _ _ _ _ from hH22.get (n := 0) rfl) (by first | assumption | omega | (simp; done) | decide)
 refine vB (g := g38) (n := 0) Z Z Z hH22 Z hgl40 (zD6 (Heap.own hH22 (n := 0) Z) hgb39 (by rw [Pt.diffs_len]; omega) (by rw [Pt.diffs_len]; omega)) (fun u43 w41 hH42 hv44 => ?_)
 obtain ⟨rfl, -⟩ := hv44
 have hH45 := Heap.xZ (Heap.weaken hH42 (n := 0) Z (φ := Own 2 1 encI v_9 (Ps.sorted (fun x y : Int => decide (x < y)) (Pt.diffs (Pt.places o s n ++ [o]) k))) (fun w' h => h.2)) (n := 0) (by rfl)
 refine zs (oM hH45 Z ?_)
 obtain ⟨g46, cap47, ev48, hc49, ec50, hin51⟩ := Ow.cut (q := 0) (show Ow _ _ _ _ _ _ _ _ from hH45.get (n := 0) rfl) (by simp only [Ps.sorted_len, Pt.diffs_len]; omega)
 refine vB (g := g46) (n := 0) Z Z Z hH45 Z hin51 ((by rw [ev48]; exact zE3 (by have h := Heap.own hH45 (n := 0) rfl; rw [ev48] at h; exact h) rfl hc49 (by simp only [Ps.sorted_len, Pt.diffs_len]; omega) (by simp only [Ps.sorted_len, Pt.diffs_len]; omega))) (fun u55 w53 hH54 hv56 => ?_)
 have hH57 := Heap.xZ hH54 (n := 0) Z
 refine oA hH57 Z (oA hH57 Z (zt (ret (fin ((hH57.sub (sK (sC (sC sR)))).front (n := 1) Z) (fun w' hf => (xI Z (rt Z) (rt Z))) (fun w' hf => ?_)))))
 rw [hk2] at hf; exact ⟨_, rfl, by rw [← Pt.sizes_of]; exact Heap.own hf (n := 0) rfl⟩
end Go.Fip
namespace Go.Fip
open Go.Proofs Go.RowKit
theorem c49 {o s : Int} {n : Nat} {w : World} (ho : 1 ≤ o ∧ o ≤ 2400) (hs : 0 ≤ s ∧ s ≤ o) (hn : 2 ≤ n ∧ n ≤ 60)  :
  Fn Tryz.prog 49 [(.int .i64 o), (.int .i64 s), (.int .i64 (n : Int))].toArray w (fun u _ => u = .tuple #[.int .i64 (Pt.back o s n), .int .i64 0]) := by
 refine fz Tryz.func49 Z kz Z Z (fun hH => (zr (oA hH Z (oA hH Z (zs (oM hH Z (oM hH Z (oM hH Z (zM Z Z Z hH (zCz om om om) (fun w1 hH2 => (oA hH2 Z (zt (seq (block (zr (oM hH2 Z (oY hH2 (yF Z Z) ?_)))))))))))))))))
 refine oA hH2 Z (zt (zL Z Z (zr (oM hH2 Z (oY hH2 (y5 Z Z) (oA hH2 Z (zt ?_)))))))
 have hc3 : ¬ ((n : Int) = 1) := (show ¬ (n : Int) = 1 by omega)
 refine zL Z (dF hc3) (skip (yC (zu (oM hH2 Z (jA T.zR (0 : Int) T.YZ Z Z Z hH2 om om (fun u4 lo6 hi7 w5 hH8 => (oA hH8 Z (zs (oM hH8 Z (G1 (n := 0) T.zR (0 : Int) T.YZ Z Z hH8 Z (fun w9 hH10 => (zt (seq (zr (oM hH10 Z (oY hH10 (z8 T.xR Z (Heap.yI T.zR hH10 (n := 0) Z).is) ?_))))))))))))))))
 refine oM hH10 Z (zt (block (loop (S := Nat × Value × Nat × Nat) (fun (k, v_9, lo_9, hi_9) => [(28, (.int .i64 (k : Int))), (9, v_9), (0, (.int .i64 o)), (1, (.int .i64 s)), (6, (.int .i64 0)), (7, (.int .i64 0)), (27, (.int .i64 ((List.replicate (List.replicate (n : Int).toNat (0 : Int)).length (0 : Int)).length : Int)))]) (fun (k, v_9, lo_9, hi_9) w1 => Heap [ow lo_9 hi_9 2 1 encI v_9 (Pt.farTo o s n k), base w] w1 ∧ k ≤ n) (fun (k, v_9, lo_9, hi_9) => n - k) (0, u4, lo6, hi7) (uC Z (uC Z (uC Z (uC Z (uC Z (uC Z (uC Z (Sub.nil _)))))))) ?_ ?_)))
 ·exact ⟨(Heap.y1 (n := 0) hH10 Z (by simp [Pt.farTo])), om⟩
 rintro ⟨k, v_9, lo_9, hi_9⟩ w11 ⟨hH12, hk⟩
 have hrl : (List.replicate (List.replicate ((n : Int)).toNat (0 : Int)).length (0 : Int)).length = n := by simp
 have hfl := Pt.farTo_len (o := o) (s := s) hk
 refine zr (oY hH12 (yL Z Z) (zt (seq ?_)))
 by_cases hc13 : (k : Int) < ((List.replicate (List.replicate (n : Int).toNat (0 : Int)).length (0 : Int)).length : Int)
 ·refine zO Z (dT hc13) (skip (zN (seq (block (zr (oM hH12 Z (oA hH12 Z (zt (seq ?_)))))))))
  have hm1 := Pt.mul_bd (a := (k : Int)) (b := s) (A := 60) (B := 2400) (by omega) (by omega) (by omega) (by omega)
  have hm2 := Int.emod_nonneg ((k : Int) * s) (show o ≠ 0 by omega)
  have hm3 := Int.emod_lt_of_pos ((k : Int) * s) (show 0 < o by omega)
  refine region (oM hH12 Z (oM hH12 Z (oY hH12 (xA Z Z om) (oM hH12 Z (oY hH12 (xO Z Z om om) (oA hH12 Z (zq (oM hH12 Z (oM hH12 Z (oM hH12 Z (oM hH12 Z (oM hH12 Z (oY hH12 (y8 Z Z om) (oY hH12 (j5 Z Z) (oY hH12 (zP T.xR Z Z (Heap.yI T.zR hH12 (n := 0) Z).is om) (x4 (n := 0) (i := (k : Int)) (k := 0) (us := [(.int .i64 (min (((k : Int) * s) % o) (o - (((k : Int) * s) % o))))]) (z := min (((k : Int) * s) % o) (o - (((k : Int) * s) % o))) T.zR Z Z hH12 Z om T.sz2 Z Z Z (Nat.le_of_ble_eq_true Z) (fun w14 hH15 => (zC (yC (zN ?_))))))))))))))))))))
  refine region (oY hH15 (zV Z Z om) (oM hH15 Z (zC (y0 (k + 1, v_9, lo_9, hi_9) (uC Z (uC Z (uC Z (uC Z (uC Z (uC Z (uC Z (Sub.nil _)))))))) (⟨(Heap.y1 (n := 0) hH15 Z (Pt.farTo_set om)), om⟩) om3))))
 have hk2 : k = n := by omega
 refine zL Z (dF hc13) (exit (yZ (xF (z7 (zN (seq ?_))))))
 have hfd : ((Pt.farTo o s n k).drop 1).length = n - 1 := by rw [List.length_drop]; omega
 have hpl := S.place_lt ((Pt.farTo o s n k).drop 1) (Pt.mnTo ((Pt.farTo o s n k).drop 1) (((Pt.farTo o s n k).drop 1).length - 1))
 refine zY (fun w' => Heap [ow lo_9 hi_9 2 1 encI v_9 (Pt.farTo o s n k), base w] w') T.mixed (fun w16 hr17 => ?_)
 have hH18 := hH12.redrawn hr17
 refine zK [0, 1, 2, 3] kz hH18 _ _ _ kz (qM Z Z Z (zJ Z Z (x6 T.xR Z Z (Heap.yI T.zR hH18 (n := 0) Z).is om) (qM Z Z Z (zJ Z Z (x6 T.xR Z Z (Heap.yI T.zR hH18 (n := 0) Z).is om) (zQ (z1 4 kz Z (zM Z Z Z hH18 (zFl (Rd.from (Heap.yI T.zR hH18 (n := 0) Z) (lo := 1) om) (by first | omega | (simp; done) | (simp only [List.length_drop]; omega)) (by first | omega | (simp; done) | (simp only [List.length_drop]; omega))) (fun w19 hH20 => (zC (⟨hH20, (z1 5 kz Z (zM Z Z Z hH20 (zD7 (Rd.from (Heap.yI T.zR hH20 (n := 0) Z) (lo := 1) om) (by first | omega | (simp; done) | (simp only [List.length_drop]; omega))) (fun w21 hH22 => (zC (⟨hH22, (zK [6, 7, 8] kz hH22 _ _ _ kz (zJ Z Z (zV Z Z om) (zJ Z Z (yK Z) (zJ Z Z (yK Z) (zQ (zX kz ?_))))))⟩)))))⟩))))))))))
 refine zN (ret (fin (hH22.sub (sC sR)) (fun w' hf => (xI Z (rt Z) (rt Z))) (fun w' hf => ?_)))
 rw [hk2]; rfl
end Go.Fip
namespace Go.Fip
open Go.Proofs Go.RowKit
namespace KP
theorem kx : Pt.chk (117, 200) = 0 := by kernel_rfl
theorem k32 : Pt.chk (3, 2) = 0 := by kernel_rfl
theorem k85 : Pt.chk (8, 5) = 0 := by kernel_rfl
theorem k59 : Pt.chk (59, 100) = 0 := by kernel_rfl
theorem k12 : Pt.chk (1, 2) = 0 := by kernel_rfl
theorem k23 : Pt.chk (2, 3) = 0 := by kernel_rfl
theorem gp : Pt.gap (3, 2) (8, 5) = 1 := by kernel_rfl
theorem be : Pt.beside 117 200 50 = (7, 12, 24, 41) := by kernel_rfl
theorem ne : Pt.near 117 200 12 = (7, 12) := by kernel_rfl
theorem cn1 : (if Pt.gap (7, 12) (3, 5) = 1 ∧ ¬ (12 : Int) + 5 ≤ 12 then (0 : Int) else 14) = 0 := by decide
theorem cn2 : (if Pt.gap (7, 12) (3, 5) = 1 ∧ ¬ (12 : Int) + 5 ≤ 17 then (0 : Int) else 14) = 14 := by decide
theorem cr1 : (if Pt.nearer (117, 200) (Pt.near 117 200 12) (7, 12) = true then (17 : Int) else 0) = 0 := by kernel_rfl
theorem cr2 : (if Pt.nearer (117, 200) (Pt.near 117 200 50) (14, 24) = true then (17 : Int) else 0) = 17 := by kernel_rfl
theorem sm : Pt.sim 300 117 200 59 100 = (10, 17) := by kernel_rfl
theorem ct : Pt.cnt 1 2 2 3 5 = 3 := by kernel_rfl
theorem pt : Pt.pth 117 200 = [0, 1, 1, 2, 2, 3, 1, 2] := by kernel_rfl
theorem w13 : Pt.wst [1, 3] ([1, 3] : List Int).length = (1, 1, 4, 3) := by kernel_rfl
theorem pl : Pt.places 12 7 5 = [0, 2, 4, 7, 9] := by kernel_rfl
theorem sz : Pt.sizes 100 38 4 = [14, 24, 38] := by kernel_rfl
theorem bk : Pt.back 12 7 6 = 5 := by kernel_rfl
theorem fe1 : ∀ k, k ≤ ([1, 3] : List Int).length → Pt.Few (Pt.wst [1, 3] k) := by decide
theorem fe2 : ∀ k, k ≤ ([0] : List Int).length → Pt.Few (Pt.wst [0] k) := by decide
end KP
theorem c18 {w : World}  :
  Fn Tryz.prog 18 [].toArray w (fun u _ => u = .bool true) := by
 refine fz Tryz.func18 Z kz Z Z (fun hH => (zr (oA hH Z (zs (zM Z Z Z hH (c37) (fun w1 hH2 => (yD (z := (.agg #[(.int .i64 0), (.int .i64 0)])) (fun _ => by kernel_rfl) Z Z hH2 (fun b3 w4 hH5 => (zS (n := 0) (j := 0) Z Z hH5 Z T.x9 Z Z Z (by rfl) (fun w6 hH7 => (zs (zM Z Z Z hH7 (c37) (fun w8 hH9 => (zM Z Z Z hH9 (c37) (fun w10 hH11 => (zM Z Z Z hH11 ((by have h := c38 (a := 3) (b := 2) (c := 8) (d := 5) KP.k32 KP.k85 (w := w10); simp only [KP.gp] at h; exact h)) (fun w12 hH13 => (oM hH13 Z (oY hH13 (zH Z Z) (oY hH13 (zH Z Z) (oA hH13 Z ?_)))))))))))))))))))))
 refine oA hH13 Z (zs (oY hH13 (zW (cs := [(.int .i64 117), (.int .i64 200)]) T.y4 Z Z (fun _ hw => Heap.yH hw (n := 0) Z (k := 0) Z)) (zM Z Z Z hH13 ((by have h := c7 (a := 117) (b := 200) (m := 50) KP.kx om (w := w12); simp only [KP.be] at h; exact h)) (fun w14 hH15 => (oM hH15 Z (oY hH15 (zH Z Z) (oY hH15 (zH Z Z) (oY hH15 (zH Z Z) (yD (z := (.agg #[(.int .i64 0), (.int .i64 0)])) (fun _ => by kernel_rfl) Z Z hH15 (fun b16 w17 hH18 => (yD (z := (.agg #[(.int .i64 0), (.int .i64 0)])) (fun _ => by kernel_rfl) Z Z hH18 (fun b19 w20 hH21 => (zS (n := 1) (j := 0) Z Z hH21 Z T.x9 Z Z Z (by rfl) (fun w22 hH23 => (zS (n := 0) (j := 0) Z Z hH23 Z T.x9 Z Z Z (by rfl) (fun w24 hH25 => (oA hH25 Z (zs (zM Z Z Z hH25 (c37) (fun w26 hH27 => (zM Z Z Z hH27 (c37) (fun w28 hH29 => ?_))))))))))))))))))))))
 refine zM Z Z Z hH29 ((by have h := c39 (a := 7) (b := 12) (c := 3) (d := 5) (m := 12) om om (w := w28); simp only [KP.cn1] at h; exact h)) (fun w30 hH31 => (zM Z Z Z hH31 (c37) (fun w32 hH33 => (zM Z Z Z hH33 (c37) (fun w34 hH35 => (zM Z Z Z hH35 ((by have h := c39 (a := 7) (b := 12) (c := 3) (d := 5) (m := 17) om om (w := w34); simp only [KP.cn2] at h; exact h)) (fun w36 hH37 => (oA hH37 Z (oA hH37 Z (zs (oY hH37 (zW (cs := [(.int .i64 117), (.int .i64 200)]) T.y4 Z Z (fun _ hw => Heap.yH hw (n := 2) Z (k := 0) Z)) (zM Z Z Z hH37 ((by have h := c40 (a := 117) (b := 200) (m := 12) KP.kx om (w := w36); simp only [KP.ne] at h; exact h)) (fun w38 hH39 => (oM hH39 Z (oY hH39 (zH Z Z) (oY hH39 (zH Z Z) (yD (z := (.agg #[(.int .i64 0), (.int .i64 0)])) (fun _ => by kernel_rfl) Z Z hH39 (fun b40 w41 hH42 => (zS (n := 0) (j := 0) Z Z hH42 Z T.x9 Z Z Z (by rfl) (fun w43 hH44 => (oA hH44 Z (zt (seq (zY (fun w' => Heap [bx b40 27 [(.int .i64 7), (.int .i64 12)], bx b19 27 [(.int .i64 24), (.int .i64 41)], bx b16 27 [(.int .i64 7), (.int .i64 12)], bx b3 27 [(.int .i64 117), (.int .i64 200)], base w] w') T.mixed (fun w45 hr46 => ?_)))))))))))))))))))))))))
 have hH47 := hH44.redrawn hr46
 refine zK [0, 3] kz hH47 _ _ _ kz (zJ Z Z (zW (cs := [(.int .i64 117), (.int .i64 200)]) T.y4 Z Z (fun _ hw => Heap.yH hw (n := 3) Z (k := 0) Z)) (zJ Z Z (zW (cs := [(.int .i64 117), (.int .i64 200)]) T.y4 Z Z (fun _ hw => Heap.yH hw (n := 3) Z (k := 0) Z)) (zQ (z1 1 kz Z (zM Z Z Z hH47 (c37) (fun w48 hH49 => (zC (⟨hH49, (z1 2 kz Z (zM Z Z Z hH49 ((by have h := c41 (a := 117) (b := 200) (c := 7) (d := 12) (m := 12) KP.kx om om (w := w48); simp only [KP.cr1] at h; exact h)) (fun w50 hH51 => (zC (⟨hH51, (z1 4 kz Z (zM Z Z Z hH51 (c37) (fun w52 hH53 => (zC (⟨hH53, (z1 5 kz Z (zM Z Z Z hH53 ((by have h := c41 (a := 117) (b := 200) (c := 14) (d := 24) (m := 50) KP.kx om om (w := w52); simp only [KP.cr2] at h; exact h)) (fun w54 hH55 => ?_)))⟩)))))⟩)))))⟩))))))))
 refine zC (⟨hH55, (zK [6, 7] kz hH55 _ _ _ kz (zJ Z Z (yK Z) (zJ Z Z (yK Z) (zQ (zX kz (zN (cut (S := Nat) (fun bS => [(13, (.pointer (some ⟨bS, 0, none⟩))), (14, (.int .i64 0)), (0, (.bool false)), (1, (.pointer (some ⟨b3, 0, none⟩))), (2, (.int .i64 1)), (3, (.int .i64 0)), (4, (.pointer (some ⟨b16, 0, none⟩))), (5, (.pointer (some ⟨b19, 0, none⟩))), (6, (.int .i64 0)), (7, (.int .i64 0)), (8, (.int .i64 14)), (9, (.pointer (some ⟨b40, 0, none⟩))), (10, (.int .i64 0)), (11, (.int .i64 0)), (12, (.int .i64 17))]) (fun bS w1 => Heap [bx bS 27 [(.int .i64 10), (.int .i64 17)], bx b40 27 [(.int .i64 7), (.int .i64 12)], bx b19 27 [(.int .i64 24), (.int .i64 41)], bx b16 27 [(.int .i64 7), (.int .i64 12)], bx b3 27 [(.int .i64 117), (.int .i64 200)], base w] w1) ?_ ?_)))))))⟩)
 ·refine zY (fun w' => True) T.mixed (fun w56 hr57 => ?_)
  have hH58 := hH55.redrawn hr57
  refine xH [0, 1, 6] kz Z (⟨⟨_, Z, ?_⟩, ⟨_, Z, ?_⟩, ⟨_, Z, ?_⟩, trivial⟩)
  ·refine oY hH58 (zW (cs := [(.int .i64 117), (.int .i64 200)]) T.y4 Z Z (fun _ hw => Heap.yH hw (n := 3) Z (k := 0) Z)) (zC (⟨trivial, (xH [1, 6] kz Z (⟨⟨_, Z, ?_⟩, ⟨_, Z, ?_⟩, trivial⟩))⟩))
   ·refine zM Z Z Z hH58 (c37) (fun w59 hH60 => (zC (⟨trivial, (xH [2, 6] kz Z (⟨⟨_, Z, ?_⟩, ⟨_, Z, ?_⟩, trivial⟩))⟩)))
    ·refine zM Z Z Z hH60 ((by have h := c42 (k := 300) (a := 117) (b := 200) (c := 59) (d := 100) KP.kx KP.k59 (by decide) om (w := w59); simp only [KP.sm] at h; exact h)) (fun w61 hH62 => (zC (⟨trivial, (zK [3, 4, 5] kz trivial _ _ _ kz (qM Z Z Z (zJ Z Z (zH Z Z) (zJ Z Z (zH Z Z) (zQ (z1 6 kz Z (yD (z := (.agg #[(.int .i64 0), (.int .i64 0)])) (fun _ => by kernel_rfl) Z Z hH62 (fun b63 w64 hH65 => (zC (⟨trivial, (z1 7 kz Z (zS (n := 0) (j := 0) Z Z hH65 Z T.x9 Z Z Z (by rfl) (fun w66 hH67 => (zC (⟨trivial, (zK [8] kz trivial _ _ _ kz (zJ Z Z (yK Z) (zQ (zX kz ?_))))⟩)))))⟩))))))))))⟩)))
     refine kV (b63) (uC Z (uC Z (uC Z (uC Z (uC Z (uC Z (uC Z (uC Z (uC Z (uC Z (uC Z (uC Z (uC Z (uC Z (uC Z (Sub.nil _)))))))))))))))) ?_
     exact hH67
    refine yD (z := (.agg #[(.int .i64 0), (.int .i64 0)])) (fun _ => by kernel_rfl) Z Z hH60 (fun b68 w69 hH70 => (zC (⟨trivial, (z1 2 kz Z (zM Z Z Z hH70 ((by have h := c42 (k := 300) (a := 117) (b := 200) (c := 59) (d := 100) KP.kx KP.k59 (by decide) om (w := w69); simp only [KP.sm] at h; exact h)) (fun w71 hH72 => (zC (⟨trivial, (zK [3, 4, 5] kz trivial _ _ _ kz (qM Z Z Z (zJ Z Z (zH Z Z) (zJ Z Z (zH Z Z) (zQ (z1 7 kz Z (zS (n := 0) (j := 0) Z Z hH72 Z T.x9 Z Z Z (by rfl) (fun w73 hH74 => (zC (⟨trivial, (zK [8] kz trivial _ _ _ kz (zJ Z Z (yK Z) (zQ (zX kz ?_))))⟩))))))))))⟩)))))⟩)))
    refine kV (b68) (uC Z (uC Z (uC Z (uC Z (uC Z (uC Z (uC Z (uC Z (uC Z (uC Z (uC Z (uC Z (uC Z (uC Z (uC Z (Sub.nil _)))))))))))))))) ?_
    exact hH74
   refine yD (z := (.agg #[(.int .i64 0), (.int .i64 0)])) (fun _ => by kernel_rfl) Z Z hH58 (fun b75 w76 hH77 => (zC (⟨trivial, (z1 1 kz Z (zM Z Z Z hH77 (c37) (fun w78 hH79 => (zC (⟨trivial, (z1 2 kz Z (zM Z Z Z hH79 ((by have h := c42 (k := 300) (a := 117) (b := 200) (c := 59) (d := 100) KP.kx KP.k59 (by decide) om (w := w78); simp only [KP.sm] at h; exact h)) (fun w80 hH81 => (zC (⟨trivial, (zK [3, 4, 5] kz trivial _ _ _ kz (qM Z Z Z (zJ Z Z (zH Z Z) (zJ Z Z (zH Z Z) (zQ (z1 7 kz Z (zS (n := 0) (j := 0) Z Z hH81 Z T.x9 Z Z Z (by rfl) (fun w82 hH83 => (zC ?_)))))))))⟩)))))⟩)))))⟩)))
   refine ⟨trivial, (zK [8] kz trivial _ _ _ kz (zJ Z Z (yK Z) (zQ (zX kz (kV (b75) (uC Z (uC Z (uC Z (uC Z (uC Z (uC Z (uC Z (uC Z (uC Z (uC Z (uC Z (uC Z (uC Z (uC Z (uC Z (Sub.nil _)))))))))))))))) ?_)))))⟩
   exact hH83
  ·refine zM Z Z Z hH58 (c37) (fun w84 hH85 => (zC (⟨trivial, (xH [0, 6] kz Z (⟨⟨_, Z, ?_⟩, ⟨_, Z, ?_⟩, trivial⟩))⟩)))
   ·refine oY hH85 (zW (cs := [(.int .i64 117), (.int .i64 200)]) T.y4 Z Z (fun _ hw => Heap.yH hw (n := 3) Z (k := 0) Z)) (zC (⟨trivial, (xH [2, 6] kz Z (⟨⟨_, Z, ?_⟩, ⟨_, Z, ?_⟩, trivial⟩))⟩))
    ·refine zM Z Z Z hH85 ((by have h := c42 (k := 300) (a := 117) (b := 200) (c := 59) (d := 100) KP.kx KP.k59 (by decide) om (w := w84); simp only [KP.sm] at h; exact h)) (fun w86 hH87 => (zC (⟨trivial, (zK [3, 4, 5] kz trivial _ _ _ kz (qM Z Z Z (zJ Z Z (zH Z Z) (zJ Z Z (zH Z Z) (zQ (z1 6 kz Z (yD (z := (.agg #[(.int .i64 0), (.int .i64 0)])) (fun _ => by kernel_rfl) Z Z hH87 (fun b88 w89 hH90 => (zC (⟨trivial, (z1 7 kz Z (zS (n := 0) (j := 0) Z Z hH90 Z T.x9 Z Z Z (by rfl) (fun w91 hH92 => (zC (⟨trivial, (zK [8] kz trivial _ _ _ kz (zJ Z Z (yK Z) (zQ (zX kz ?_))))⟩)))))⟩))))))))))⟩)))
     refine kV (b88) (uC Z (uC Z (uC Z (uC Z (uC Z (uC Z (uC Z (uC Z (uC Z (uC Z (uC Z (uC Z (uC Z (uC Z (uC Z (Sub.nil _)))))))))))))))) ?_
     exact hH92
    refine yD (z := (.agg #[(.int .i64 0), (.int .i64 0)])) (fun _ => by kernel_rfl) Z Z hH85 (fun b93 w94 hH95 => (zC (⟨trivial, (z1 2 kz Z (zM Z Z Z hH95 ((by have h := c42 (k := 300) (a := 117) (b := 200) (c := 59) (d := 100) KP.kx KP.k59 (by decide) om (w := w94); simp only [KP.sm] at h; exact h)) (fun w96 hH97 => (zC (⟨trivial, (zK [3, 4, 5] kz trivial _ _ _ kz (qM Z Z Z (zJ Z Z (zH Z Z) (zJ Z Z (zH Z Z) (zQ (z1 7 kz Z (zS (n := 0) (j := 0) Z Z hH97 Z T.x9 Z Z Z (by rfl) (fun w98 hH99 => (zC (⟨trivial, (zK [8] kz trivial _ _ _ kz (zJ Z Z (yK Z) (zQ (zX kz ?_))))⟩))))))))))⟩)))))⟩)))
    refine kV (b93) (uC Z (uC Z (uC Z (uC Z (uC Z (uC Z (uC Z (uC Z (uC Z (uC Z (uC Z (uC Z (uC Z (uC Z (uC Z (Sub.nil _)))))))))))))))) ?_
    exact hH99
   refine yD (z := (.agg #[(.int .i64 0), (.int .i64 0)])) (fun _ => by kernel_rfl) Z Z hH85 (fun b100 w101 hH102 => (zC (⟨trivial, (z1 0 kz Z (oY hH102 (zW (cs := [(.int .i64 117), (.int .i64 200)]) T.y4 Z Z (fun _ hw => Heap.yH hw (n := 4) Z (k := 0) Z)) (zC (⟨trivial, (z1 2 kz Z (zM Z Z Z hH102 ((by have h := c42 (k := 300) (a := 117) (b := 200) (c := 59) (d := 100) KP.kx KP.k59 (by decide) om (w := w101); simp only [KP.sm] at h; exact h)) (fun w103 hH104 => (zC (⟨trivial, (zK [3, 4, 5] kz trivial _ _ _ kz (qM Z Z Z (zJ Z Z (zH Z Z) (zJ Z Z (zH Z Z) (zQ (z1 7 kz Z (zS (n := 0) (j := 0) Z Z hH104 Z T.x9 Z Z Z (by rfl) (fun w105 hH106 => (zC ?_)))))))))⟩)))))⟩))))⟩)))
   refine ⟨trivial, (zK [8] kz trivial _ _ _ kz (zJ Z Z (yK Z) (zQ (zX kz (kV (b100) (uC Z (uC Z (uC Z (uC Z (uC Z (uC Z (uC Z (uC Z (uC Z (uC Z (uC Z (uC Z (uC Z (uC Z (uC Z (Sub.nil _)))))))))))))))) ?_)))))⟩
   exact hH106
  refine yD (z := (.agg #[(.int .i64 0), (.int .i64 0)])) (fun _ => by kernel_rfl) Z Z hH58 (fun b107 w108 hH109 => (zC (⟨trivial, (xH [0, 1] kz Z (⟨⟨_, Z, ?_⟩, ⟨_, Z, ?_⟩, trivial⟩))⟩)))
  ·refine oY hH109 (zW (cs := [(.int .i64 117), (.int .i64 200)]) T.y4 Z Z (fun _ hw => Heap.yH hw (n := 4) Z (k := 0) Z)) (zC (⟨trivial, (z1 1 kz Z (zM Z Z Z hH109 (c37) (fun w110 hH111 => (zC (⟨trivial, (z1 2 kz Z (zM Z Z Z hH111 ((by have h := c42 (k := 300) (a := 117) (b := 200) (c := 59) (d := 100) KP.kx KP.k59 (by decide) om (w := w110); simp only [KP.sm] at h; exact h)) (fun w112 hH113 => (zC (⟨trivial, (zK [3, 4, 5] kz trivial _ _ _ kz (qM Z Z Z (zJ Z Z (zH Z Z) (zJ Z Z (zH Z Z) (zQ (z1 7 kz Z (zS (n := 0) (j := 0) Z Z hH113 Z T.x9 Z Z Z (by rfl) (fun w114 hH115 => (zC ?_)))))))))⟩)))))⟩)))))⟩))
   refine ⟨trivial, (zK [8] kz trivial _ _ _ kz (zJ Z Z (yK Z) (zQ (zX kz (kV (b107) (uC Z (uC Z (uC Z (uC Z (uC Z (uC Z (uC Z (uC Z (uC Z (uC Z (uC Z (uC Z (uC Z (uC Z (uC Z (Sub.nil _)))))))))))))))) ?_)))))⟩
   exact hH115
  refine zM Z Z Z hH109 (c37) (fun w116 hH117 => (zC (⟨trivial, (z1 0 kz Z (oY hH117 (zW (cs := [(.int .i64 117), (.int .i64 200)]) T.y4 Z Z (fun _ hw => Heap.yH hw (n := 4) Z (k := 0) Z)) (zC (⟨trivial, (z1 2 kz Z (zM Z Z Z hH117 ((by have h := c42 (k := 300) (a := 117) (b := 200) (c := 59) (d := 100) KP.kx KP.k59 (by decide) om (w := w116); simp only [KP.sm] at h; exact h)) (fun w118 hH119 => (zC (⟨trivial, (zK [3, 4, 5] kz trivial _ _ _ kz (qM Z Z Z (zJ Z Z (zH Z Z) (zJ Z Z (zH Z Z) (zQ (z1 7 kz Z (zS (n := 0) (j := 0) Z Z hH119 Z T.x9 Z Z Z (by rfl) (fun w120 hH121 => (zC ?_)))))))))⟩)))))⟩))))⟩)))
  refine ⟨trivial, (zK [8] kz trivial _ _ _ kz (zJ Z Z (yK Z) (zQ (zX kz (kV (b107) (uC Z (uC Z (uC Z (uC Z (uC Z (uC Z (uC Z (uC Z (uC Z (uC Z (uC Z (uC Z (uC Z (uC Z (uC Z (Sub.nil _)))))))))))))))) ?_)))))⟩
  exact hH121
 rintro bS w122 hH123
 refine zr (zM Z Z Z hH123 (c37) (fun w124 hH125 => (zM Z Z Z hH125 (c37) (fun w126 hH127 => (zM Z Z Z hH127 ((by have h := c43 (a := 1) (b := 2) (c := 2) (d := 3) (m := 5) KP.k12 KP.k23 om om (w := w126); simp only [KP.ct] at h; exact h)) (fun w128 hH129 => (oM hH129 Z (oY hH129 (zH Z Z) (oY hH129 (zH Z Z) (oA hH129 Z (oA hH129 Z (zs (oY hH129 (zW (cs := [(.int .i64 117), (.int .i64 200)]) T.y4 Z Z (fun _ hw => Heap.yH hw (n := 4) Z (k := 0) Z)) (yV Z Z Z hH129 ((by have h := c44 (a := 117) (b := 200) KP.kx (w := w128); simp only [KP.pt] at h; exact h)) (fun u132 w130 lo133 hi134 hH131 hv135 => ?_)))))))))))))))
 obtain ⟨p137, hu, -⟩ := hv135
 subst hu
 have hH136 := Heap.tup2 hH131 (n := 0) Z
 refine oM hH136 Z (oY hH136 (zH Z Z) (oY hH136 (zH Z Z) (oA hH136 Z (oA hH136 Z (zs (z2 T.zR [1, 3] Z (fun w => by kernel_rfl) hH136 (fun u138 lo140 hi141 w139 hH142 => (zM Z Z Z hH142 (c46) (fun w143 hH144 => (zM Z Z Z hH144 ((by have h := c45 (l := [1, 3]) (Heap.yI T.zR hH144 (n := 0) rfl) (by decide) (by decide) (by decide) (by decide) KP.fe1 (by decide) (w := w143); simp only [KP.w13] at h; exact h)) (fun w145 hH146 => (oM hH146 Z (oY hH146 (zH Z Z) (oY hH146 (zH Z Z) (yD (z := (.agg #[(.int .i64 0), (.int .i64 0)])) (fun _ => by kernel_rfl) Z Z hH146 (fun b147 w148 hH149 => (zS (n := 0) (j := 0) Z Z hH149 Z T.x9 Z Z Z (by rfl) (fun w150 hH151 => (oA hH151 Z (zs ?_))))))))))))))))))))
 refine z2 T.zR [0] Z (fun w => by kernel_rfl) hH151 (fun u152 lo154 hi155 w153 hH156 => (zM Z Z Z hH156 (c46) (fun w157 hH158 => (zM Z Z Z hH158 (zEv (l := [0]) (Heap.yI T.zR hH158 (n := 0) Z) (by decide) (by decide) (by decide) (by decide) KP.fe2) (fun w159 hH160 => (oM hH160 Z (oY hH160 (zH Z Z) (oY hH160 (zH Z Z) (yD (z := (.agg #[(.int .i64 0), (.int .i64 0)])) (fun _ => by kernel_rfl) Z Z hH160 (fun b161 w162 hH163 => (zS (n := 0) (j := 0) Z Z hH163 Z T.x9 Z Z Z (by rfl) (fun w164 hH165 => (oA hH165 Z (zs (yV Z Z Z hH165 ((by have h := c47 (o := 12) (s := 7) (n := 5) om om om (w := w164); simp only [KP.pl] at h; exact h)) (fun u168 w166 lo169 hi170 hH167 hv171 => ?_))))))))))))))))
 obtain ⟨p173, hu, -⟩ := hv171
 subst hu
 have hH172 := Heap.tup2 hH167 (n := 0) Z
 refine oM hH172 Z (oY hH172 (zH Z Z) (oY hH172 (zH Z Z) (oA hH172 Z (oA hH172 Z (zs (yV Z Z Z hH172 ((by have h := c48 (o := 100) (s := 38) (n := 4) om om om (by decide) (w := w166); simp only [KP.sz] at h; exact h)) (fun u176 w174 lo177 hi178 hH175 hv179 => ?_)))))))
 obtain ⟨p181, hu, -⟩ := hv179
 subst hu
 have hH180 := Heap.tup2 hH175 (n := 0) Z
 refine oM hH180 Z (oY hH180 (zH Z Z) (oY hH180 (zH Z Z) (oA hH180 Z (oA hH180 Z (zs (zM Z Z Z hH180 ((by have h := c49 (o := 12) (s := 7) (n := 6) om om om (w := w174); simp only [KP.bk] at h; exact h)) (fun w182 hH183 => (oM hH183 Z (oY hH183 (zH Z Z) (oY hH183 (zH Z Z) (oA hH183 Z (oA hH183 Z (zt (seq (zr (oM hH183 Z (oY hH183 (yJ Z (yF Z Z)) ?_)))))))))))))))))
 refine oM hH183 Z (zB Z Z Z (oM hH183 Z (zB Z Z Z (oY hH183 (yJ Z (yF Z Z)) (oY hH183 (zT Z Z Z) (oM hH183 Z (zB Z Z Z (oM hH183 Z (zB Z Z Z (oY hH183 (yJ Z (yF Z Z)) (oY hH183 (zT Z Z Z) (oM hH183 Z (zB Z Z Z (oM hH183 Z (zB Z Z Z (oY hH183 (yJ Z (yF Z Z)) (oY hH183 (zT Z Z Z) (oM hH183 Z (zB Z Z Z (oM hH183 Z (zB Z Z Z ?_)))))))))))))))))))))
 refine oY hH183 (yJ Z (yF Z Z)) (oY hH183 (zT Z Z Z) (oM hH183 Z (zB Z Z Z (oM hH183 Z (zB Z Z Z (oY hH183 (yJ Z (yF Z Z)) (oY hH183 (zT Z Z Z) (oM hH183 Z (zB Z Z Z (oM hH183 Z (zB Z Z Z (oY hH183 (yJ Z (yF Z Z)) (oY hH183 (zT Z Z Z) (oM hH183 Z (zB Z Z Z (oM hH183 Z (zB Z Z Z (oY hH183 (yJ Z (yF Z Z)) (oY hH183 (zT Z Z Z) (oM hH183 Z (zB Z Z Z ?_)))))))))))))))))))))
 refine oM hH183 Z (zB Z Z Z (oY hH183 (yJ Z (yF Z Z)) (oY hH183 (zT Z Z Z) (oM hH183 Z (zB Z Z Z (oM hH183 Z (zB Z Z Z (oY hH183 (yJ Z (yF Z Z)) (oY hH183 (zT Z Z Z) (oM hH183 Z (zB Z Z Z (oM hH183 Z (zB Z Z Z (oY hH183 (yJ Z (yF Z Z)) (oY hH183 (zT Z Z Z) (oM hH183 Z (zB Z Z Z (oM hH183 Z (zB Z Z Z (oY hH183 (yJ Z (yF Z Z)) (oY hH183 (zT Z Z Z) ?_)))))))))))))))))))))
 refine oM hH183 Z (zB Z Z Z (oM hH183 Z (zB Z Z Z (oY hH183 (yJ Z (yF Z Z)) (oY hH183 (zT Z Z Z) (oM hH183 Z (zB Z Z Z (oM hH183 Z (zB Z Z Z (oY hH183 (yJ Z (yF Z Z)) (oY hH183 (zT Z Z Z) (oM hH183 Z (zB Z Z Z (oM hH183 Z (zB Z Z Z (oY hH183 (yJ Z (yF Z Z)) (oY hH183 (zT Z Z Z) (zt (zL Z Z (skip ?_))))))))))))))))))))
 refine zN (seq (zY (fun w' => Heap [ow lo177 hi178 2 1 encI p181 [14, 24, 38], ow lo169 hi170 2 1 encI p173 [0, 2, 4, 7, 9], bx b161 27 [(.int .i64 0), (.int .i64 0)], ow lo154 hi155 2 1 encI u152 [0], bx b147 27 [(.int .i64 5), (.int .i64 4)], ow lo140 hi141 2 1 encI u138 [1, 3], ow lo133 hi134 2 1 encI p137 [0, 1, 1, 2, 2, 3, 1, 2], bx bS 27 [(.int .i64 10), (.int .i64 17)], bx b40 27 [(.int .i64 7), (.int .i64 12)], bx b19 27 [(.int .i64 24), (.int .i64 41)], bx b16 27 [(.int .i64 7), (.int .i64 12)], bx b3 27 [(.int .i64 117), (.int .i64 200)], base w] w') T.mixed (fun w184 hr185 => ?_)))
 have hH186 := hH183.redrawn hr185
 refine zK [0, 1, 2, 3] kz hH186 _ _ _ kz (qM Z Z Z (zJ Z Z (yJ Z (y5 Z Z)) (qM Z Z Z (zZ Z Z Z Z Z (zW (cs := [(.int .i64 7), (.int .i64 12)]) T.y4 Z Z (fun _ hw => Heap.yH hw (n := 10) Z (k := 0) Z)) (zQ (z1 4 kz Z (zB Z Z Z (zM Z Z Z hH186 (c37) (fun w187 hH188 => (zC (⟨hH188, (zK [5, 6, 7, 8] kz hH188 _ _ _ kz (zZ Z Z Z Z Z (yJ (dT Z) (kP (a := [7, 12]) (b := [7, 12]) T.GW Z Z Z Z)) (zJ Z Z (zU Z Z Z) (qM Z Z Z (zZ Z Z Z Z Z (zW (cs := [(.int .i64 24), (.int .i64 41)]) T.y4 Z Z (fun _ hw => Heap.yH hw (n := 9) Z (k := 0) Z)) (zQ (z1 9 kz Z (zB Z Z Z (zM Z Z Z hH188 (c37) (fun w189 hH190 => ?_))))))))))⟩)))))))))))
 refine zC (⟨hH190, (zK [10, 11, 12, 13] kz hH190 _ _ _ kz (zZ Z Z Z Z Z (yJ (dT Z) (kP (a := [24, 41]) (b := [24, 41]) T.GW Z Z Z Z)) (zJ Z Z (zU Z Z Z) (qM Z Z Z (zZ Z Z Z Z Z (zW (cs := [(.int .i64 7), (.int .i64 12)]) T.y4 Z Z (fun _ hw => Heap.yH hw (n := 8) Z (k := 0) Z)) (zQ (z1 14 kz Z (zB Z Z Z (zM Z Z Z hH190 (c37) (fun w191 hH192 => (zC (⟨hH192, (zK [15, 16, 17, 18] kz hH192 _ _ _ kz (zZ Z Z Z Z Z (yJ (dT Z) (kP (a := [7, 12]) (b := [7, 12]) T.GW Z Z Z Z)) (zJ Z Z (zU Z Z Z) (qM Z Z Z (zZ Z Z Z Z Z (zW (cs := [(.int .i64 10), (.int .i64 17)]) T.y4 Z Z (fun _ hw => Heap.yH hw (n := 7) Z (k := 0) Z)) (zQ (z1 19 kz Z ?_)))))))⟩))))))))))))⟩)
 refine zB Z Z Z (zM Z Z Z hH192 (c37) (fun w193 hH194 => (zC (⟨hH194, (zK [20, 21, 22, 23, 24, 25, 26, 27] kz hH194 _ _ _ kz (zZ Z Z Z Z Z (yJ (dT Z) (kP (a := [10, 17]) (b := [10, 17]) T.GW Z Z Z Z)) (zJ Z Z (zU Z Z Z) (qM Z Z Z (zZ Z Z Z Z Z (yX Z) (zZ Z Z Z Z Z (yJ Z (y5 Z Z)) (zJ Z Z (zU Z Z Z) (qM Z Z Z (zZ Z Z Z Z Z (yX Z) (zQ (z1 28 kz Z (zB Z Z Z (z2 T.zR [0, 1, 1, 2, 2, 3, 1, 2] Z (fun w => by kernel_rfl) hH194 (fun u195 lo197 hi198 w196 hH199 => (zC (⟨(hH199.sub (sC sR)), (z1 29 kz Z ?_)⟩))))))))))))))))⟩))))
 refine zB Z Z Z (zM Z Z Z hH199 (c46) (fun w200 hH201 => (zC (⟨(hH201.sub (sC sR)), (z1 30 kz Z (zB Z Z Z (zM Z Z Z hH201 (c50 (Heap.yI T.zR hH201 (n := 7) Z) (Heap.yI T.zR hH201 (n := 0) Z) (by first | omega | (simp; done)) (by first | omega | (simp; done))) (fun w202 hH203 => (zC (⟨(hH203.sub (sC sR)), (zK [31, 32, 33] kz (hH203.sub (sC sR)) _ _ _ kz (zJ Z Z (zU Z Z Z) (qM Z Z Z (zZ Z Z Z (dT Z) Z (zW (cs := [(.int .i64 5), (.int .i64 4)]) T.y4 Z Z (fun _ hw => Heap.yH hw (n := 4) Z (k := 0) Z)) (zQ (z1 34 kz Z (zB Z Z (dT Z) (zM Z Z Z hH203 (c37) (fun w204 hH205 => (zC (⟨(hH205.sub (sC sR)), (zK [35, 36, 37, 38] kz (hH205.sub (sC sR)) _ _ _ kz ?_)⟩)))))))))))⟩))))))⟩))))
 refine zZ Z Z Z (dT Z) Z (yJ (dT Z) (kP (a := [5, 4]) (b := [5, 4]) T.GW Z Z Z Z)) (zJ Z Z (zU Z (dT Z) Z) (qM Z Z Z (zZ Z Z Z Z Z (yX Z) (zQ (z1 39 kz Z (zB Z Z Z (z2 T.zR [0, 2, 4, 7, 9] Z (fun w => by kernel_rfl) hH205 (fun u206 lo208 hi209 w207 hH210 => (zC (⟨(hH210.sub (sC (sC sR))), (z1 40 kz Z (zB Z Z Z (zM Z Z Z hH210 (c46) (fun w211 hH212 => (zC (⟨(hH212.sub (sC (sC sR))), (z1 41 kz Z (zB Z Z Z (zM Z Z Z hH212 (c50 (Heap.yI T.zR hH212 (n := 3) Z) (Heap.yI T.zR hH212 (n := 0) Z) (by first | omega | (simp; done)) (by first | omega | (simp; done))) (fun w213 hH214 => (zC ?_)))))⟩))))))⟩))))))))))
 refine ⟨(hH214.sub (sC (sC sR))), (zK [42, 43, 44] kz (hH214.sub (sC (sC sR))) _ _ _ kz (zJ Z Z (zU Z Z Z) (qM Z Z Z (zZ Z Z Z (dT Z) Z (yX Z) (zQ (z1 45 kz Z (zB Z Z (dT Z) (z2 T.zR [14, 24, 38] Z (fun w => by kernel_rfl) hH214 (fun u215 lo217 hi218 w216 hH219 => (zC (⟨(hH219.sub (sC (sC (sC sR)))), (z1 46 kz Z (zB Z Z (dT Z) (zM Z Z Z hH219 (c46) (fun w220 hH221 => (zC (⟨(hH221.sub (sC (sC (sC sR)))), (z1 47 kz Z (zB Z Z (dT Z) (zM Z Z Z hH221 (c50 (Heap.yI T.zR hH221 (n := 3) Z) (Heap.yI T.zR hH221 (n := 0) Z) (by first | omega | (simp; done)) (by first | omega | (simp; done))) (fun w222 hH223 => ?_))))⟩))))))⟩)))))))))))⟩
 refine zC (⟨(hH223.sub (sC (sC (sC sR)))), (zK [48, 49, 50, 51, 52, 53] kz (hH223.sub (sC (sC (sC sR)))) _ _ _ kz (zJ Z Z (zU Z (dT Z) Z) (qM Z Z Z (zZ Z Z Z (dT Z) Z (yX Z) (zZ Z Z Z (dT Z) Z (yJ Z (y5 Z Z)) (zJ Z Z (zU Z (dT Z) Z) (zJ Z Z (yK Z) (zQ (zX kz (zN (ret (fin (hH223.sub (sC (sC (sC (sC (sC (sC (sC (sC (sC (sC (sC (sC (sC (sC (sC sR)))))))))))))))) (fun w' hf => (yN Z (rt Z))) (fun w' hf => Z)))))))))))))⟩)
end Go.Fip
namespace Go.Fip
namespace Sf
open S (place)
def ck (room : Int) (l : List Int) : Int := if ¬ (1 ≤ room ∧ room ≤ 6) then 3 else if 16 < l.length then 6 else if ¬ ∀ x ∈ l, 1 ≤ x ∧ x ≤ 8 then 2 else 0
structure Day (room : Int) (l : List Int) : Prop where
 r1 : 1 ≤ room
 r2 : room ≤ 6
 n : l.length ≤ 16
 w : ∀ x ∈ l, 1 ≤ x ∧ x ≤ 8
theorem ck1 {room : Int} {l : List Int} (h : ¬ (1 ≤ room ∧ room ≤ 6)) : 3 = ck room l := by unfold ck; rw [if_pos h]
theorem ck2 {room : Int} {l : List Int} (h : 1 ≤ room ∧ room ≤ 6) (h2 : 16 < l.length) : 6 = ck room l := by unfold ck; rw [if_neg (fun hh => hh h), if_pos h2]
theorem ck3 {room : Int} {l : List Int} (h : 1 ≤ room ∧ room ≤ 6) (h2 : ¬ 16 < l.length) (h3 : ¬ ∀ x ∈ l, 1 ≤ x ∧ x ≤ 8) : 2 = ck room l := by unfold ck; rw [if_neg (fun hh => hh h), if_neg h2, if_pos h3]
theorem ck4 {room : Int} {l : List Int} (h : 1 ≤ room ∧ room ≤ 6) (h2 : ¬ 16 < l.length) (h3 : ∀ x ∈ l, 1 ≤ x ∧ x ≤ 8) : 0 = ck room l := by unfold ck; rw [if_neg (fun hh => hh h), if_neg h2, if_neg (fun hh => hh h3)]
theorem ck_iff {room : Int} {l : List Int} : ck room l = 0 ↔ Day room l := by
 by_cases h : 1 ≤ room ∧ room ≤ 6
 ·by_cases h2 : 16 < l.length
  ·rw [← ck2 h h2]; exact ⟨fun e => absurd e (by decide), fun d => by have := d.n; omega⟩
  ·by_cases h3 : ∀ x ∈ l, 1 ≤ x ∧ x ≤ 8
   ·rw [← ck4 h h2 h3]; exact ⟨fun _ => ⟨h.1, h.2, by omega, h3⟩, fun _ => rfl⟩
   ·rw [← ck3 h h2 h3]; exact ⟨fun e => absurd e (by decide), fun d => absurd d.w h3⟩
 ·rw [← ck1 h]; exact ⟨fun e => absurd e (by decide), fun d => absurd ⟨d.r1, d.r2⟩ h⟩
theorem Day.at {room : Int} {l : List Int} (h : Day room l) {i : Nat} (hi : i < l.length) : 1 ≤ nth l (i : Int) ∧ nth l (i : Int) ≤ 8 := h.w _ (by rw [yG hi]; exact List.getElem_mem hi)
abbrev Mm := List ((Int × Int) × Int)
abbrev kvS (n : Int × Int) : Value := .agg #[.int .i64 n.1, .int .i64 n.2]
abbrev vvI (n : Int) : Value := .int .i64 n
theorem JD : ∀ p q : Int × Int, kvS p = kvS q → p = q := fun p q h => by
 simp only [kvS, Value.agg.injEq, Array.mk.injEq, List.cons.injEq, Value.int.injEq, true_and, and_true] at h
 exact Prod.ext h.1 h.2
def btw (l : List Int) (k i : Int) : Prop := 0 ≤ place ((l.take i.toNat).drop (k + 1).toNat) (nth l i)
instance (l : List Int) (k i : Int) : Decidable (btw l k i) := by unfold btw; infer_instance
structure Part (l : List Int) (i k : Nat) (m : Mm) : Prop where
 has : ∀ a b : Nat, a < b → b < l.length → b < i ∨ b = i ∧ a < k → nth l (a : Int) = nth l (b : Int) → find ((a : Int), (b : Int)) m = some (nth l (b : Int))
 only : ∀ p v, find p m = some v → ∃ a b : Nat, p = ((a : Int), (b : Int)) ∧ a < b ∧ b < l.length ∧ nth l (a : Int) = nth l (b : Int) ∧ v = nth l (b : Int)
theorem Part.start {l : List Int} : Part l 0 0 [] := ⟨fun a b _ _ h => by omega, fun p v h => by simp [find, findI] at h⟩
theorem Part.turn {l : List Int} {i : Nat} {m : Mm} (h : Part l i i m) : Part l (i + 1) 0 m := ⟨fun a b h1 h2 h3 h4 => h.has a b h1 h2 (by omega) h4, h.only⟩
theorem Part.no {l : List Int} {i k : Nat} {m : Mm} (h : Part l i k m) (hne : ¬ nth l (k : Int) = nth l (i : Int)) : Part l i (k + 1) m :=
  ⟨fun a b h1 h2 h3 h4 => by
    by_cases e : b = i ∧ a = k
    · obtain ⟨rfl, rfl⟩ := e; exact absurd h4 hne
    · exact h.has a b h1 h2 (by omega) h4, h.only⟩
theorem Part.yes {l : List Int} {i k : Nat} {m : Mm} (h : Part l i k m) (hk : k < i) (hi : i < l.length) (he : nth l (k : Int) = nth l (i : Int)) {v : Int} (hv : v = nth l (i : Int)) : Part l i (k + 1) (upd ((k : Int), (i : Int)) v m) :=
  ⟨fun a b h1 h2 h3 h4 => by
    by_cases e : ((a : Int), (b : Int)) = ((k : Int), (i : Int))
    · rw [e, vL, if_pos rfl, hv]
      simp only [Prod.mk.injEq] at e
      rw [show (b : Int) = (i : Int) from e.2]
    · rw [vL, if_neg e]
      refine h.has a b h1 h2 ?_ h4
      by_cases e2 : b = i ∧ a = k
      · exact absurd (by rw [e2.1, e2.2]) e
      · omega, fun p u hp => by
    by_cases e : p = ((k : Int), (i : Int))
    · subst e
      rw [vL, if_pos rfl] at hp
      cases hp
      exact ⟨k, i, rfl, hk, hi, he, hv⟩
    · rw [vL, if_neg e] at hp
      exact h.only p u hp⟩
structure Outs (l : List Int) (es : Array MapEntry) (clock : Nat) (m : Mm) (seen : Array Nat) : Prop where
 ents : Ents kvS vvI es clock m
 has : ∀ a b : Nat, a < b → b < l.length → nth l (a : Int) = nth l (b : Int) → ¬ btw l (a : Int) (b : Int) → find ((a : Int), (b : Int)) m = some (nth l (b : Int))
 only : ∀ p v, find p m = some v → ∃ a b : Nat, p = ((a : Int), (b : Int)) ∧ a < b ∧ b < l.length ∧ nth l (a : Int) = nth l (b : Int) ∧ v = nth l (b : Int)
 out : ∀ e ∈ es.toList, e.born ∈ seen.toList → ∀ p : Int × Int, e.key = kvS p → ¬ btw l p.1 p.2
theorem Outs.start {l : List Int} {es : Array MapEntry} {clock : Nat} {m : Mm} (he : Ents kvS vvI es clock m) (h : Part l l.length 0 m) : Outs l es clock m #[] :=
 ⟨he, fun a b h1 h2 h3 _ => h.has a b h1 h2 (.inl h2) h3, h.only, fun e _ h => by simp at h⟩
theorem Outs.entry {l : List Int} {es : Array MapEntry} {clock : Nat} {m : Mm} {seen : Array Nat} (h : Outs l es clock m seen) {e : MapEntry} (he : e ∈ es.toList) : ∃ a b : Nat, e.key = kvS ((a : Int), (b : Int)) ∧ (∃ x, e.val = vvI x) ∧ a < b ∧ b < l.length := by
 obtain ⟨p, v, h1, h2, h3⟩ := h.ents.entry he
 obtain ⟨a, b, rfl, h4, h5, _⟩ := h.only p v h3
 exact ⟨a, b, h1, ⟨v, h2⟩, h4, h5⟩
theorem Outs.keep {l : List Int} {es : Array MapEntry} {clock : Nat} {m : Mm} {seen : Array Nat} (h : Outs l es clock m seen) {e : MapEntry} (he : e ∈ es.toList) {a b : Int} (hk : e.key = kvS (a, b)) (hne : ¬ btw l a b) : Outs l es clock m (seen.push e.born) :=
  ⟨h.ents, h.has, h.only, fun e' he' hs p hp => by
    rcases (by simpa using hs : e'.born ∈ seen.toList ∨ e'.born = e.born) with h1 | h1
    · exact h.out e' he' h1 p hp
    · have := h.ents.inj he' he h1
      subst this
      rw [hp] at hk
      rw [JD _ _ hk]; exact hne⟩
theorem Outs.del {l : List Int} {es es' : Array MapEntry} {clock : Nat} {m : Mm} {seen : Array Nat} (h : Outs l es clock m seen) {e : MapEntry} (he : e ∈ es.toList) {a b : Int} (hk : e.key = kvS (a, b)) (hab : btw l a b)
  (he' : Ents kvS vvI es' clock (del (a, b) m)) (hs : es'.toList.Sublist es.toList) : Outs l es' clock (del (a, b) m) (seen.push e.born) := by
 refine ⟨he', fun x y h1 h2 h3 h4 => ?_, fun p v hp => ?_, fun x hx hxs p hp => ?_⟩
 ·rw [q6 (fun e => by simp only [Prod.mk.injEq] at e; rw [← e.1, ← e.2] at hab; exact h4 hab)]; exact h.has x y h1 h2 h3 h4
 ·refine h.only p v ?_
  by_cases e : p = (a, b)
  ·rw [e, YW h.ents.nd] at hp; cases hp
  ·rwa [q6 e] at hp
 ·rcases (by simpa using hxs : x.born ∈ seen.toList ∨ x.born = e.born) with h1 | h1
  ·exact h.out x (hs.subset hx) h1 p hp
  ·have := h.ents.inj (hs.subset hx) he h1
   subst this
   obtain ⟨q, v, h3, _, h4⟩ := he'.entry hx
   rw [hk] at h3
   have := JD _ _ h3
   rw [← this, YW h.ents.nd] at h4
   cases h4
structure Full (l : List Int) (m : Mm) : Prop where
 has : ∀ a b : Nat, a < b → b < l.length → nth l (a : Int) = nth l (b : Int) → ¬ btw l (a : Int) (b : Int) → find ((a : Int), (b : Int)) m = some (nth l (b : Int))
 only : ∀ p v, find p m = some v → ∃ a b : Nat, p = ((a : Int), (b : Int)) ∧ a < b ∧ b < l.length ∧ nth l (a : Int) = nth l (b : Int) ∧ v = nth l (b : Int) ∧ ¬ btw l (a : Int) (b : Int)
theorem Outs.full {l : List Int} {es : Array MapEntry} {clock : Nat} {m : Mm} {seen : Array Nat} (h : Outs l es clock m seen) (hall : ∀ e ∈ es.toList, e.born ∈ seen.toList) : Full l m :=
  ⟨h.has, fun p v hp => by
    obtain ⟨a, b, e, h1, h2, h3, h4⟩ := h.only p v hp
    obtain ⟨en, hen, hk, _⟩ := h.ents.of_find hp
    have := h.out en hen (hall en hen) p hk
    rw [e] at this
    exact ⟨a, b, e, h1, h2, h3, h4, this⟩⟩
theorem unseen_sub {es es' : Array MapEntry} {seen : Array Nat} (hs : es'.toList.Sublist es.toList) : unseen es' seen ≤ unseen es seen := (hs.filter _).length_le
end Sf
end Go.Fip
namespace Go.Fip
namespace Sf
def sumTo (C : List Int) : Nat → Int
 | 0 => 0
 | k + 1 => sumTo C k + nth C (k : Int)
def next (l : List Int) (x i : Int) : Int := if 0 ≤ S.place (l.drop (i + 1).toNat) x then i + 1 + S.place (l.drop (i + 1).toNat) x else (l.length : Int)
theorem next_t {l : List Int} {x i : Int} (h : 0 ≤ S.place (l.drop (i + 1).toNat) x) : i + 1 + S.place (l.drop (i + 1).toNat) x = next l x i := by unfold next; rw [if_pos h]
theorem next_f {l : List Int} {x i : Int} (h : ¬ 0 ≤ S.place (l.drop (i + 1).toNat) x) : (l.length : Int) = next l x i := by unfold next; rw [if_neg h]
end Sf
end Go.Fip
namespace Go.Fip
open Go.Proofs Go.RowKit
theorem zE8 {n : Int} {lo hi : Int} {b1 b2 : Nat} {w : World} (k1 : Bx b1 3 [.int .i64 lo] w) (k2 : Bx b2 3 [.int .i64 hi] w)  :
  Fn Tryz.prog 145 [(.int .i64 n), (.pointer (some ⟨b1, 0, none⟩)), (.pointer (some ⟨b2, 0, none⟩))].toArray w (fun u _ => u = .bool (decide (n < lo ∨ hi < n))) := by
 refine fz Tryz.func145 Z kz Z Z (fun hH => (zr (oA hH Z (zs (oM hH Z (oY hH (zE T.yU Z (fun _ hw => yM (k1.now hw (n := 0) Z) Z)) (oY hH (yL Z Z) (oM hH Z ?_))))))))
 by_cases hc1 : n < lo
 ·refine zD Z Z (dT hc1) Z (zD Z Z (dT hc1) Z (zD Z Z (dT hc1) Z (oY hH (zU Z (dT hc1) Z) (oA hH Z (zt (ret (fin hH (fun w' hf => (yN Z (rt Z))) (fun w' hf => ?_))))))))
  first | (show Value.bool _ = Value.bool _; congr 1; rw [Bool.eq_iff_iff]; simp; done) | (show Value.bool _ = Value.bool _; congr 1; rw [Bool.eq_iff_iff]; simp; omega)
 refine zB Z Z (dF hc1) (oM hH Z (zB Z Z (dF hc1) (oY hH (zE T.yU Z (fun _ hw => yM (k2.now hw (n := 0) Z) Z)) (zB Z Z (dF hc1) (oY hH (xJ Z Z) (oY hH (zT Z (dF hc1) Z) (oA hH Z (zt (ret (fin hH (fun w' hf => (yN Z (rt Z))) (fun w' hf => ?_)))))))))))
 first | (show Value.bool _ = Value.bool _; congr 1; rw [Bool.eq_iff_iff]; simp; done) | (show Value.bool _ = Value.bool _; congr 1; rw [Bool.eq_iff_iff]; simp; omega)
theorem zD4 {v : Value} {l : List Int} {lo hi : Int} {b1 b2 : Nat} {w : World} (h0 : Rd encI 1 v l w) (k1 : Bx b1 3 [.int .i64 lo] w) (k2 : Bx b2 3 [.int .i64 hi] w) (hn : l.length ≤ 1000000)  :
  Fn Tryz.prog 148 [v, (.func (.func 145) #[] #[(.pointer (some ⟨b1, 0, none⟩)), (.pointer (some ⟨b2, 0, none⟩))])].toArray w (fun u _ => u = .int .i64 (idx (fun x : Int => decide (x < lo ∨ hi < x)) l)) := by
 refine fz Tryz.func148 Z kz Z Z (fun hH => (zr (oA hH Z (zt (seq (zr (oM hH Z (oY hH (z8 T.yS Z (h0.now hH (n := 0) Z).is) (oM hH Z (zt (block (loop (S := Nat) (fun k => [(8, (.int .i64 (k : Int))), (0, v), (1, (.func (.func 145) #[] #[(.pointer (some ⟨b1, 0, none⟩)), (.pointer (some ⟨b2, 0, none⟩))])), (7, (.int .i64 (l.length : Int)))]) (fun k w1 => Heap [base w] w1 ∧ k ≤ l.length ∧ ∀ i, i < k → (fun x : Int => decide (x < lo ∨ hi < x)) (nth l (i : Int)) = false) (fun k => l.length - k) (0) (uC Z (uC Z (uC Z (uC Z (Sub.nil _))))) ?_ ?_))))))))))))
 ·exact ⟨hH, om, S.all_zero⟩
 rintro k w1 ⟨hH2, hk, hall⟩
 refine zr (oY hH2 (yL Z Z) (zt (seq ?_)))
 by_cases hc3 : (k : Int) < (l.length : Int)
 ·refine zO Z (dT hc3) (skip (zN (seq (block (zr (oM hH2 Z (oA hH2 Z (zs (oM hH2 Z (oM hH2 Z (oM hH2 Z (oY hH2 (zP T.yS Z Z (h0.now hH2 (n := 0) Z).is om) (oY hH2 (zE T.yU Z (fun _ hw => Rd.at (h0.now hw (n := 0) Z) (i := (k : Int)) om (j := 0) Z)) (zM Z Z Z hH2 (zE8 (k1.now hH2 (n := 0) Z) (k2.now hH2 (n := 0) Z)) (fun w4 hH5 => (zt ?_))))))))))))))))
  by_cases hc6 : nth l (k : Int) < lo ∨ hi < nth l (k : Int)
  ·have hp : (fun x : Int => decide (x < lo ∨ hi < x)) (nth l (k : Int)) = true := (decide_eq_true hc6)
   refine zO Z (dT hc6) (zr (oM hH5 Z (oA hH5 Z (zt (ret (yE (z6 (xY (yE (z6 (fin hH5 (fun w' hf => (yN Z (rt Z))) (fun w' hf => ?_))))))))))))
   first | exact congrArg (Value.int .i64) (x5 (k := k) (by omega) hall hp).symm | exact congrArg (Value.int .i64) (xP (fun i hi => hall i (by omega))).symm
  have hp : (fun x : Int => decide (x < lo ∨ hi < x)) (nth l (k : Int)) = false := (decide_eq_false hc6)
  refine zL Z (dF hc6) (skip (yC (zN (region (oY hH5 (zV Z Z om) (oM hH5 Z (zC (y0 (k + 1) (uC Z (uC Z (uC Z (uC Z (Sub.nil _))))) (⟨hH5, om, S.all_snoc hall hp⟩) om3))))))))
 refine zL Z (dF hc3) (exit (yZ (xF (z7 (zu (oA hH2 Z (zt (ret (fin hH2 (fun w' hf => (yN Z (rt Z))) (fun w' hf => ?_))))))))))
 first | exact congrArg (Value.int .i64) (x5 (k := k) (by omega) hall hp).symm | exact congrArg (Value.int .i64) (xP (fun i hi => hall i (by omega))).symm
theorem zDx {v : Value} {l : List Int} {lo hi : Int} {b1 b2 : Nat} {w : World} (h0 : Rd encI 1 v l w) (k1 : Bx b1 3 [.int .i64 lo] w) (k2 : Bx b2 3 [.int .i64 hi] w) (hn : l.length ≤ 1000000)  :
  Fn Tryz.prog 128 [v, (.func (.func 145) #[] #[(.pointer (some ⟨b1, 0, none⟩)), (.pointer (some ⟨b2, 0, none⟩))])].toArray w (fun u _ => u = .bool (has (fun x : Int => decide (x < lo ∨ hi < x)) l)) := by
 refine fz Tryz.func128 Z kz Z Z (fun hH => (zr (oA hH Z (zs (oM hH Z (oM hH Z (zM Z Z Z hH (zD4 (h0.now hH (n := 0) Z) (k1.now hH (n := 0) Z) (k2.now hH (n := 0) Z) om) (fun w1 hH2 => (oY hH2 (vH Z Z) (oA hH2 Z (zt (ret (fin hH2 (fun w' hf => (yN Z (rt Z))) (fun w' hf => Z))))))))))))))
theorem c91 {v : Value} {l : List Int} {lo hi : Int} {w : World} (h0 : Rd encI 1 v l w) (hn : l.length ≤ 1000000)  :
  Fn Tryz.prog 91 [(.int .i64 lo), (.int .i64 hi), v].toArray w (fun u _ => u = .bool (decide (∀ x ∈ l, lo ≤ x ∧ x ≤ hi))) := by
 refine fz Tryz.func91 Z kz Z Z (fun hH => (zr (yY Z Z Z hH (fun b1 w2 hH3 => (yY Z Z Z hH3 (fun b4 w5 hH6 => (oA hH6 Z (zs (oM hH6 Z (oY hH6 (vF Z Z) (zM Z Z Z hH6 (zDx (h0.now hH6 (n := 2) Z) (Heap.xV hH6 (n := 1) Z) (Heap.xV hH6 (n := 0) Z) hn) (fun w7 hH8 => (oY hH8 (y6 Z) (oA hH8 Z (zt (ret (fin (hH8.sub (sC (sC sR))) (fun w' hf => (yN Z (rt Z))) (fun w' hf => ?_))))))))))))))))))
 refine congrArg Value.bool ?_; rw [Bool.eq_iff_iff, Bool.not_eq_true', kS, decide_eq_true_eq]; exact YO
theorem G7 {v : Value} {a lo hi : Int} {w : World} (h0 : Rd encI 1 v [a] w) : Fn Tryz.prog 91 [.int .i64 lo, .int .i64 hi, v].toArray w (fun u _ => u = .bool (decide (lo ≤ a ∧ a ≤ hi))) := by
 have h := c91 (lo := lo) (hi := hi) h0 (by simp)
 rwa [show decide (∀ x ∈ [a], lo ≤ x ∧ x ≤ hi) = decide (lo ≤ a ∧ a ≤ hi) from decide_eq_decide.2 (by simp)] at h
theorem zD9 {v : Value} {l : List Int} {room : Int} {w : World} (h0 : Rd encI 1 v l w) (hn : l.length ≤ 1000000)  :
  Fn Tryz.prog 143 [(.agg #[(.int .i64 room), v])].toArray w (fun u _ => u = .int .i64 (Sf.ck room l)) := by
 refine fz Tryz.func143 Z kz Z Z (fun hH => (zr (yY Z Z Z hH (fun b1 w2 hH3 => (oA hH3 Z (zt (seq (block (zr (oY hH3 (zI T.YS Z) (oY hH3 (zE T.yU Z (cw (n := 0) Z Z)) (z2 T.zA [room] Z (fun w => by kernel_rfl) hH3 (fun u4 lo6 hi7 w5 hH8 => (zM Z Z Z hH8 (G7 (Heap.yI T.zA hH8 (n := 0) Z)) (fun w9 hH10 => (oY hH10 (y6 Z) (oA hH10 Z (zt ?_))))))))))))))))))
 by_cases hc11 : 1 ≤ room ∧ room ≤ 6
 ·have hr : 1 ≤ room ∧ room ≤ 6 := by omega
  refine zL Z (zG hc11) (zr (oY hH10 (zI T.vJ Z) (oY hH10 (zE T.xB Z (cw (n := 1) Z Z)) (oY hH10 (z8 T.yS Z (h0.now hH10 (n := 2) Z).is) (oY hH10 (xJ Z Z) (oA hH10 Z (zt ?_)))))))
  by_cases hc12 : 16 < (l.length : Int)
  ·have hm : 16 < l.length := by omega
   refine zO Z (dT hc12) (zr (oA hH10 Z (zt (ret (yE (z6 (fin (hH10.sub (sC (sC sR))) (fun w' hf => (yN Z (rt Z))) (fun w' hf => ?_))))))))
   first | exact congrArg (Value.int .i64) (Sf.ck1 hr) | exact congrArg (Value.int .i64) (Sf.ck2 hr hm) | exact congrArg (Value.int .i64) (Sf.ck3 hr hm hw) | exact congrArg (Value.int .i64) (Sf.ck4 hr hm hw)
  have hm : ¬ 16 < l.length := by omega
  refine zL Z (dF hc12) (zr (oY hH10 (zI T.vJ Z) (oY hH10 (zE T.xB Z (cw (n := 1) Z Z)) (zM Z Z Z hH10 (c91 (h0.now hH10 (n := 2) Z) om) (fun w14 hH15 => (oY hH15 (y6 Z) (oA hH15 Z (zt ?_))))))))
  by_cases hc16 : ∀ x ∈ l, 1 ≤ x ∧ x ≤ 8
  ·have hw : ∀ x ∈ l, 1 ≤ x ∧ x ≤ 8 := by have hq := (zG hc16); simpa using hq
   refine zL Z (zG hc16) (skip (yC (zu (oA hH15 Z (zt (ret (fin (hH15.sub (sC (sC sR))) (fun w' hf => (yN Z (rt Z))) (fun w' hf => ?_))))))))
   first | exact congrArg (Value.int .i64) (Sf.ck1 hr) | exact congrArg (Value.int .i64) (Sf.ck2 hr hm) | exact congrArg (Value.int .i64) (Sf.ck3 hr hm hw) | exact congrArg (Value.int .i64) (Sf.ck4 hr hm hw)
  have hw : ¬ ∀ x ∈ l, 1 ≤ x ∧ x ≤ 8 := by have hq := (zF hc16); simpa using hq
  refine zO Z (zF hc16) (zr (oA hH15 Z (zt (ret (yE (z6 (fin (hH15.sub (sC (sC sR))) (fun w' hf => (yN Z (rt Z))) (fun w' hf => ?_))))))))
  first | exact congrArg (Value.int .i64) (Sf.ck1 hr) | exact congrArg (Value.int .i64) (Sf.ck2 hr hm) | exact congrArg (Value.int .i64) (Sf.ck3 hr hm hw) | exact congrArg (Value.int .i64) (Sf.ck4 hr hm hw)
 have hr : ¬ (1 ≤ room ∧ room ≤ 6) := by omega
 refine zO Z (zF hc11) (zr (oA hH10 Z (zt (ret (yE (z6 (fin (hH10.sub (sC (sC sR))) (fun w' hf => (yN Z (rt Z))) (fun w' hf => ?_))))))))
 first | exact congrArg (Value.int .i64) (Sf.ck1 hr) | exact congrArg (Value.int .i64) (Sf.ck2 hr hm) | exact congrArg (Value.int .i64) (Sf.ck3 hr hm hw) | exact congrArg (Value.int .i64) (Sf.ck4 hr hm hw)
theorem zFn {v : Value} {l : List Int} {room : Int} {w : World} (h0 : Rd encI 1 v l w)  :
  Fn Tryz.prog 116 [(.int .i64 room), v].toArray w (fun u _ => u = .agg #[.int .i64 room, v]) := by
 refine fz Tryz.func116 Z kz Z Z (fun hH => (zr (yD (z := (.agg #[(.int .i64 0), (.slice none 0 0)])) (fun _ => by kernel_rfl) Z Z hH (fun b1 w2 hH3 => (zs (oM hH3 Z (oM hH3 Z ?_)))))))
 obtain ⟨_, _, hb4, _⟩ := (h0.now hH3 (n := 1) rfl).is
 refine oY hH3 (yR (v := (.agg #[(.int .i64 room), v])) Z (fun w => by rw [hb4]; kernel_rfl)) (zS (n := 0) (j := 0) Z Z hH3 Z T.zAs Z Z Z (xK Z (xK (SliceIs.uT (h0.now hH3 (n := 1) Z).is) Z)) (fun w5 hH6 => (zt (ret (fin (hH6.front (n := 1) Z) (fun w' hf => (yN Z (rvA (cs := [(.int .i64 room), v]) Z T.x3 Z (y3 (Heap.xV hf (n := 1) Z) (k := 0) Z)))) (fun w' hf => Z))))))
theorem c54 {v : Value} {w : World}  :
  Fn Tryz.prog 54 [v].toArray w (fun u _ => u = v) := by
 refine fz Tryz.func54 Z kz Z Z (fun hH => (zr (oA hH Z (zs (oM hH Z (oA hH Z (zt (ret (fin hH (fun w' hf => (yN Z (rt Z))) (fun w' hf => Z))))))))))
theorem zCi {bb : Nat} {pm : Value} {room : Int} {v : Value} {C : List Int} {w : World} (kb : Bx bb 148 (seg [.int .i64 room, v] C [pm]) w) (hC : C.length = 9) {x : Int} (hx : 0 ≤ x ∧ x ≤ 8)  :
  Fn Tryz.prog 117 [(.pointer (some ⟨bb, 0, none⟩)), (.int .i64 x)].toArray w (fun u _ => u = .bool (decide (0 < nth C x))) := by
 refine fz Tryz.func117 Z kz Z Z (fun hH => (zr (oA hH Z (zs (oM hH Z (oM hH Z (oY hH (yQ Z) (oY hH (zI T.qB Z) (oY hH (yA T.j8 Z Z om) (oY hH (zBg (i := x) T.yU Z (by simp) om (fun _ hw => (kb.now hw (n := 0) Z))) (oY hH (xJ Z Z) (oA hH Z (zt (ret (fin hH (fun w' hf => (yN Z (rt Z))) (fun w' hf => Z))))))))))))))))
theorem zDc {bb : Nat} {pm : Value} {room : Int} {v : Value} {C : List Int} {w : World} (kb : Bx bb 148 (seg [.int .i64 room, v] C [pm]) w) (hC : C.length = 9) (hC1 : ∀ i, i < 9 → 0 ≤ nth C (i : Int) ∧ nth C (i : Int) ≤ 1)  :
  Fn Tryz.prog 118 [(.pointer (some ⟨bb, 0, none⟩))].toArray w (fun u _ => u = .int .i64 (Sf.sumTo C 9)) := by
 refine fz Tryz.func118 Z kz Z Z (fun hH => (zr (oA hH Z (zs (oA hH Z (zt (seq (zr (oM hH Z (oY hH (yQ Z) (oY hH (zI T.qB Z) (oY hH (uG T.vS Z (by first | omega | (simp only [List.length_set]; omega)) (by rfl) (fun _ hw => (kb.now hw (n := 0) Z))) (oM hH Z (zt (block ?_)))))))))))))))
 refine loop (S := Nat) (fun k => [(10, (.int .i64 (k : Int))), (3, (.int .i64 (Sf.sumTo C k))), (2, (.int .i64 0)), (9, (ag C))]) (fun k w1 => Heap [base w] w1 ∧ k ≤ 9 ∧ 0 ≤ Sf.sumTo C k ∧ Sf.sumTo C k ≤ k) (fun k => 9 - k) (0) (uC Z (uC Z (uC Z (uC Z (Sub.nil _))))) ?_ ?_
 ·exact ⟨hH, om, Int.le_refl _, Int.le_refl _⟩
 rintro k w1 ⟨hH2, hk, hs0, hs1⟩
 refine zr (oY hH2 (yL Z Z) (zt (seq ?_)))
 by_cases hc3 : (k : Int) < 9
 ·refine zO Z (dT hc3) (skip (zN (seq (block (zr (oY hH2 (K5 T.j8 T.yU Z Z om om) (oA hH2 Z (zt ?_))))))))
  have hnk := hC1 k (by omega)
  have hss : 0 ≤ Sf.sumTo C (k + 1) ∧ Sf.sumTo C (k + 1) ≤ ((k + 1 : Nat) : Int) := by show 0 ≤ Sf.sumTo C k + nth C (k : Int) ∧ Sf.sumTo C k + nth C (k : Int) ≤ _; omega
  refine region (oM hH2 Z (oM hH2 Z (oY hH2 (zV Z Z om) (oA hH2 Z (zC (yC (zN (region (oY hH2 (zV Z Z om) (oM hH2 Z (zC (y0 (k + 1) (uC Z (uC Z (uC Z (uC Z (Sub.nil _))))) (⟨hH2, om, hss⟩) om3))))))))))))
 have hk9 : k = 9 := by omega
 refine zL Z (dF hc3) (exit (yZ (xF (z7 (zu (oM hH2 Z (oA hH2 Z (zt (ret (fin hH2 (fun w' hf => (yN Z (rt Z))) (fun w' hf => ?_)))))))))))
 rw [hk9]
theorem c92 {bb mb : Nat} {room : Int} {v : Value} {C : List Int} {w : World} (kb : Bx bb 148 (seg [.int .i64 room, v] C [.map (some mb)]) w) (hC : C.length = 9) {l : List Int} (h0 : Rd encI 1 v l w) (hn : l.length ≤ 16) {x i : Int} (hi : 0 ≤ i ∧ i < l.length)  :
  Fn Tryz.prog 92 [(.pointer (some ⟨bb, 0, none⟩)), (.int .i64 x), (.int .i64 i)].toArray w (fun u _ => u = .int .i64 (Sf.next l x i)) := by
 refine fz Tryz.func92 Z kz Z Z (fun hH => ?_)
 have hdl : (l.drop (i + 1).toNat).length = l.length - (i + 1).toNat := List.length_drop
 have hpl := S.place_lt (l.drop (i + 1).toNat) x
 refine zr (oA hH Z (zt (seq (zr (oM hH Z (oY hH (yQ Z) (oY hH (zI T.vZ Z) (oY hH (zI T.vJ Z) (oY hH (xW T.xB Z (by rfl) Z (fun _ hw => (kb.now hw (n := 0) Z))) (oM hH Z (oY hH (zV Z Z om) (oY hH (x6 T.yS Z Z (h0.now hH (n := 0) Z).is om) (oM hH Z (zM Z Z Z hH (c93 (Rd.from (h0.now hH (n := 0) Z) (lo := (i + 1).toNat) om) om) (fun w1 hH2 => (oA hH2 Z (zt (seq ?_))))))))))))))))))
 refine region (oM hH2 Z (oY hH2 (vH Z Z) (zt ?_)))
 by_cases hc3 : 0 ≤ (S.place (l.drop (i + 1).toNat) x)
 ·have hp : 0 ≤ S.place (l.drop (i + 1).toNat) x := by omega
  refine zO Z (dT hc3) (zr (oM hH2 Z (oY hH2 (zV Z Z om) (oM hH2 Z (oY hH2 (zV Z Z om) (oA hH2 Z (zt (ret (z6 (fin hH2 (fun w' hf => (yN Z (rt Z))) (fun w' hf => ?_)))))))))))
  first | exact congrArg (Value.int .i64) (Sf.next_t hp) | exact congrArg (Value.int .i64) (Sf.next_f hp)
 have hp : ¬ 0 ≤ S.place (l.drop (i + 1).toNat) x := by omega
 refine zL Z (dF hc3) (skip (zu (oM hH2 Z (oY hH2 (yQ Z) (oY hH2 (zI T.vZ Z) (oY hH2 (zI T.vJ Z) (oY hH2 (xW T.xB Z (by rfl) Z (fun _ hw => (kb.now hw (n := 0) Z))) (oY hH2 (z8 T.yS Z (h0.now hH2 (n := 0) Z).is) (oA hH2 Z (zt (ret (fin hH2 (fun w' hf => (yN Z (rt Z))) (fun w' hf => ?_)))))))))))))
 first | exact congrArg (Value.int .i64) (Sf.next_t hp) | exact congrArg (Value.int .i64) (Sf.next_f hp)
end Go.Fip
namespace Go.Fip
open Go.Proofs Go.RowKit
theorem zBt {bb : Nat} {pm : Value} {room : Int} {v : Value} {C : List Int} {w : World} (kb : Bx bb 148 (seg [.int .i64 room, v] C [pm]) w) (hC : C.length = 9) {x : Int} (hx : 0 ≤ x ∧ x ≤ 8) :
  FnM Tryz.prog 119 [(.pointer (some ⟨bb, 0, none⟩)), (.int .i64 x)].toArray w bb (fun u w => u = .tuple #[] ∧ Bx bb 148 (seg [.int .i64 room, v] (C.set x.toNat 0) [pm]) w) := by
 refine uQ (args := [(.pointer (some ⟨bb, 0, none⟩)), (.int .i64 x)]) Tryz.func119 Z (ent Tryz.func119 kz Z) Z Z (VO kb) (fun hH => (region (oM hH Z (oM hH Z (oY hH (yQ Z) (oY hH (zI T.qB Z) (oY hH (yA T.j8 Z Z om) (V8 (n := 0) (i := x) Z Z (by simp) hH Z T.sz3 om (fun w1 hH2 => (zC (jT hH2 (kF Z ) (fun w' hf => ?_))))))))))))
 exact ⟨Z, hf⟩
theorem J8 {bb : Nat} {pm : Value} {room : Int} {v : Value} {C : List Int} {w : World} (kb : Bx bb 148 (seg [.int .i64 room, v] C [pm]) w) (hC : C.length = 9) {x : Int} (hx : 0 ≤ x ∧ x ≤ 8) :
  FnM Tryz.prog 120 [(.pointer (some ⟨bb, 0, none⟩)), (.int .i64 x)].toArray w bb (fun u w => u = .tuple #[] ∧ Bx bb 148 (seg [.int .i64 room, v] (C.set x.toNat 1) [pm]) w) := by
 refine uQ (args := [(.pointer (some ⟨bb, 0, none⟩)), (.int .i64 x)]) Tryz.func120 Z (ent Tryz.func120 kz Z) Z Z (VO kb) (fun hH => (region (oM hH Z (oM hH Z (oY hH (yQ Z) (oY hH (zI T.qB Z) (oY hH (yA T.j8 Z Z om) (V8 (n := 0) (i := x) Z Z (by simp) hH Z T.sz3 om (fun w1 hH2 => (zC (jT hH2 (kF Z ) (fun w' hf => ?_))))))))))))
 exact ⟨Z, hf⟩
end Go.Fip
namespace Go.Fip
open Go.RowKit
def sv (s : Nat × Nat × Nat) : Value := .slice (some ⟨s.1, 0, none⟩) s.2.1 s.2.2
def encS (s : Nat × Nat × Nat) : List Value := [sv s]
theorem Ow.sv {α : Type} {lo hi E sz : Nat} {enc : α → List Value} {v : Value} {xs : List α} {w : World} (h : Ow lo hi E sz enc v xs w) (hx : 1 ≤ xs.length) : ∃ s, v = sv s := by
 rcases h.1.2 with ⟨_, h3⟩ | ⟨g, cap, cur, rfl, _⟩
 ·omega
 ·exact ⟨(g, xs.length, cap), rfl⟩
theorem Heap.sv {α : Type} {lo hi E sz n : Nat} {enc : α → List Value} {v : Value} {xs : List α} {H : List Item} {w : World} (hH : Heap H w) (hn : H[n]? = some (ow lo hi E sz enc v xs)) (hx : 1 ≤ xs.length) : ∃ s, v = Fip.sv s :=
 Ow.sv (show Ow _ _ _ _ _ _ _ _ from hH.get hn) hx
end Go.Fip
namespace Go.Fip
open Go.RowKit
abbrev Hd := Nat × Nat × Nat
def RowsAt (u : Value) (TT : List Hd) (RR : List (List Int)) (w : World) : Prop :=
 Rd encS 1 u TT w ∧ TT.length = RR.length ∧ ∀ i : Nat, i < TT.length → Rd encI 1 (sv (nth TT (i : Int))) (nth RR (i : Int)) w
theorem RowsAt.nil {w : World} : RowsAt (.slice none 0 0) [] [] w := ⟨⟨⟨none, 0, rfl, Nat.le_refl _, .inl ⟨rfl, rfl⟩⟩, fun i x hi => by simp at hi⟩, rfl, fun i hi => absurd hi (Nat.not_lt_zero _)⟩
theorem RowsAt.below {u : Value} {TT : List Hd} {RR : List (List Int)} {w w' : World} (h : RowsAt u TT RR w) (hb : Below w.heap.size w w') : RowsAt u TT RR w' :=
 ⟨h.1.below hb, h.2.1, fun i hi => (h.2.2 i hi).below hb⟩
theorem RowsAt.now {u : Value} {TT : List Hd} {RR : List (List Int)} {w w' : World} (h : RowsAt u TT RR w) {H : List Item} {n : Nat} (hH : Heap H w') (hn : H[n]? = some (base w)) : RowsAt u TT RR w' := h.below (hH.get hn)
theorem RowsAt.at {u : Value} {TT : List Hd} {RR : List (List Int)} {w : World} (h : RowsAt u TT RR w) {i : Int} (h0 : 0 ≤ i) (h1 : i < (TT.length : Int)) : Rd encI 1 (sv (nth TT i)) (nth RR i) w := by
 have := h.2.2 i.toNat (by omega)
 rwa [Int.toNat_of_nonneg h0] at this
theorem Rd.block {α : Type} {enc : α → List Value} {sz : Nat} {v : Value} {x : α} {xs : List α} {w : World} (h : Rd enc sz v (x :: xs) w) {u : Value} {us : List Value} (hu : enc x = u :: us) : ∃ o, w.cell? ⟨eb v, o, none⟩ = some u :=
 ⟨_, h.2 0 x rfl 0 u (by rw [hu]; rfl)⟩
theorem KO {w : World} {b o : Nat} {u : Value} (h : w.cell? ⟨b, o, none⟩ = some u) : ∃ ob, w.heap[b]? = some ob := by
 cases hb : w.heap[b]? with
 | some ob => exact ⟨ob, rfl⟩
 | none => simp [World.cell?, hb] at h
theorem Rd.agree {α : Type} {enc : α → List Value} {sz lo hi : Nat} {v : Value} {xs : List α} {w w' : World} (h : Rd enc sz v xs w) (ha : Agree lo hi w w') (hb : xs ≠ [] → lo ≤ eb v ∧ eb v < hi) : Rd enc sz v xs w' := by
 refine ⟨h.1, fun i x hi j u hj => ?_⟩
 have hne : xs ≠ [] := fun e => by subst e; simp at hi
 have := hb hne
 rw [ha.cell (p := ⟨eb v, eo v + i * sz + j, none⟩) this.1 this.2]
 exact h.2 i x hi j u hj
structure RwI where
 lo : Nat
 hi : Nat
 s : Hd
 l : List Int
theorem Rd.nil {α : Type} {enc : α → List Value} {sz : Nat} {w : World} : Rd enc sz (.slice none 0 0) ([] : List α) w := ⟨⟨none, 0, rfl, Nat.le_refl _, .inl ⟨rfl, rfl⟩⟩, fun i x hi => by simp at hi⟩
end Go.Fip
namespace Go.Fip
open Go.RowKit
section
variable {K V : Type} [DecidableEq K] {MT KT ET : Nat} {kv : K → Value} {vv : V → Value} {z : V}
variable {r : Option Nat} {P : Program} {N : Nat} {ds : List Deferred} {env : Env} {w : World} {Q : Post} {all : Array Oper} {rest : List Oper} {H : List Item} {x y c : Operand} {S : World → Prop}
  {d : Nat} {ty : TypeId} {pos : String} {after : Array Edge}
theorem GA {ty' : TypeId} (hM : MapT P MT KT ET kv vv z) {b clock : Nat} {es : Array MapEntry} {m : List (K × V)} (hb : w.heap[b]? = some (.map es clock)) (he : Ents kv vv es clock m) (k : K) :
  ∃ es', (Builtin.delete_ #[MT, KT] ty' #[.map (some b), kv k]).run P w = .ok (.tuple #[]) (w.putObj b (.map es' clock)) ∧ Ents kv vv es' clock (del k m) ∧ es'.toList.Sublist es.toList := by
 obtain ⟨h2, h3, h4, h5⟩ := he
 have h1 := hb
 have hf := jN (w := w) hM k es.toList m h2
 have hlt := (Array.getElem?_eq_some_iff.1 h1).1
 cases hx : findI k m 0 with
 | none =>
  rw [hx] at hf
  simp only [Option.map_none] at hf
  have hnm := kA hx
  have hdel : del k m = m := by
   clear h2 h3 hf hx
   induction m with
   | nil => rfl
   | cons p m ih =>
    simp only [List.map_cons, List.mem_cons, not_or] at hnm
    simp [del, hnm.1, ih hnm.2]
  refine ⟨es, ?_, ⟨by rw [hdel]; exact h2, by rw [hdel]; exact h3, h4, h5⟩, List.Sublist.refl _⟩
  simp [Builtin.delete_, run_underlying hM.und, vO h1, hM.ck, hf, qU _ h1, Result.andThen]
 | some p =>
  obtain ⟨j, u⟩ := p
  rw [hx] at hf
  simp only [Option.map_some] at hf
  obtain ⟨a, hb, hc, _, hd⟩ := kB (v := u) (val := vv u) h2 hx
  simp only [Nat.sub_zero] at hb hc hd
  have hes : (es.eraseIdxIfInBounds j).toList = es.toList.eraseIdx j := by
   simp only [Array.eraseIdxIfInBounds]
   split
   ·simp
   ·rename_i hge; exact absurd (by simpa using hb) hge
  refine ⟨es.eraseIdxIfInBounds j, ?_, ⟨by rw [hes]; exact hd, h3.sublist (jW k m), ?_, ?_⟩, by rw [hes]; exact List.eraseIdx_sublist _ _⟩
  ·simp [Builtin.delete_, run_underlying hM.und, vO h1, hM.ck, hf, qU _ h1, Result.andThen]
  ·rw [hes]; exact h4.sublist ((List.eraseIdx_sublist _ _).map _)
  ·intro e he
   rw [hes] at he
   exact h5 e ((List.eraseIdx_sublist _ _).subset he)
theorem KF (hM : MapT P MT KT ET kv vv z) {b n clock : Nat} {es : Array MapEntry} {m : List (K × V)} {k : K} (he : Ents kv vv es clock m) (hx : ev env x = some (.map (some b))) (hy : ev env y = some (kv k)) (hH : Heap H w) (hn : H[n]? = some (raw b (.map es clock)))
  (h : ∀ es' w', Ents kv vv es' clock (del k m) → es'.toList.Sublist es.toList → Heap (H.set n (raw b (.map es' clock))) w' → Ops r P N all rest ds env w' Q) :
  Ops r P N all (⟨none, .call ⟨.builtin .delete, #[x, y], #[MT, KT]⟩, ty, pos, after, none⟩ :: rest) ds env w Q := by
 have hb : w.heap[b]? = some (.map es clock) := hH.get hn
 obtain ⟨es', h1, h2, h3⟩ := GA (P := P) (ty' := ty) hM hb he k
 have hlt := (Array.getElem?_eq_some_iff.1 hb).1
 refine jZ (fun c hc => by cases hc) (fun a ha => .inr ⟨.tuple #[], ?_⟩) (h es' _ h2 h3 (hH.set hn (uB w b _) (.inl ⟨Nat.le_refl _, Nat.le_refl _⟩) (X1 (World.putObj_heap_same hlt))))
 simp only [execOp, resolve, invoke, builtin, Sem.run_bind, Sem.run_pure, Result.andThen, List.map_toArray, List.map_cons, List.map_nil, ha.ev hx, ha.ev hy, h1]
end
section
variable {K V : Type} [DecidableEq K] {kv : K → Value} {vv : V → Value}
theorem Ents.mp {es : Array MapEntry} {clock b : Nat} {m : List (K × V)} {w : World} (h : Ents kv vv es clock m) (hb : w.heap[b]? = some (.map es clock)) : Mp kv vv b m w := ⟨es, clock, hb, h.views, h.nd, h.bornNd, h.born⟩
theorem Mp.ents {b : Nat} {m : List (K × V)} {w : World} (h : Mp kv vv b m w) : ∃ es clock, w.heap[b]? = some (.map es clock) ∧ Ents kv vv es clock m := by
 obtain ⟨es, clock, h1, h2, h3, h4, h5⟩ := h
 exact ⟨es, clock, h1, ⟨h2, h3, h4, h5⟩⟩
end
end Go.Fip
namespace Go.Fip
open Go.RowKit
theorem Heap.two {H : List Item} {w : World} (hH : Heap H w) {n : Nat} {x i j : Item} (hn : H[n]? = some x) (hi : x.lo ≤ i.lo ∧ i.hi ≤ x.hi) (hj : x.lo ≤ j.lo ∧ j.hi ≤ x.hi) (hij : j.apart i) (oi : i.ok w) (oj : j.ok w) : Heap (j :: H.set n i) w := by
 have h1 := hH.set hn ⟨rfl, rfl, rfl, Nat.le_refl _, fun _ _ _ => rfl⟩ (.inl hi) oi
 refine ⟨fun y hy => ?_, List.Pairwise.cons (fun y hy => ?_) h1.apart⟩
 ·rcases List.mem_cons.1 hy with rfl | hy
  ·exact oj
  ·exact h1.ok y hy
 ·obtain ⟨m, hm, e⟩ := List.getElem_of_mem hy
  obtain ⟨hn1, hn2⟩ := List.getElem?_eq_some_iff.1 hn
  rw [List.length_set] at hm
  rw [List.getElem_set] at e
  split at e
  ·subst e; exact hij
  ·rename_i hne
   have hap : x.apart y := by
    have hp := List.pairwise_iff_getElem.1 hH.apart
    rcases Nat.lt_or_gt_of_ne hne with h2 | h2
    ·have := hp n m hn1 hm h2
     rwa [hn2, e] at this
    ·have := hp m n hm hn1 h2
     rw [hn2, e] at this
     exact this.symm
   unfold Item.apart at *
   omega
end Go.Fip
namespace Go.Fip
section
variable {K V : Type} [DecidableEq K] {kv : K → Value} {vv : V → Value}
def BnEx (kv : K → Value) (vv : V → Value) (F : List (K × V) → Prop) (t b : Nat) (pre : List Value) (C : List Int) (w : World) : Prop := ∃ mb m, Bx b t (seg pre C [.map (some mb)]) w ∧ Mp kv vv mb m w ∧ F m
theorem Heap.VK {t n lo hi b : Nat} {pre : List Value} {C : List Int} {F : List (K × V) → Prop} {φ : World → Prop} {H : List Item} {w : World} (hH : Heap H w) (hn : H[n]? = some ⟨lo, hi, φ⟩) (hφ : ∀ w', φ w' → BnEx kv vv F t b pre C w') :
    ∃ mb m, F m ∧ Heap (mp kv vv mb m :: H.set n (bx b t (seg pre C [.map (some mb)]))) w := by
  have hok := hH.okAt hn
  obtain ⟨mb, m, hbx, hmp, hF⟩ := hφ w hok.now
  obtain ⟨es, clock, hm, he⟩ := hmp.ents
  have hbin := Item.within hok hbx (fun w' h _ hx => by
    obtain ⟨_, _, hb', _⟩ := hφ w' h
    unfold Bx at hb'
    rw [hb'] at hx; cases hx)
  have hmb : mb ≠ b := fun e => by
    unfold Bx at hbx
    rw [e, hbx] at hm; cases hm
  have hmin := Item.within hok hm (fun w' h hoth hx => by
    obtain ⟨mb', m', hb', hmp', _⟩ := hφ w' h
    obtain ⟨es', clock', hm', _⟩ := hmp'.ents
    have h5 := hoth b (fun e => hmb e.symm)
    unfold Bx at hb' hbx
    rw [hb', hbx] at h5
    simp [seg] at h5
    rw [h5] at hm'
    rw [hm'] at hx; cases hx)
  refine ⟨mb, m, hF, hH.two hn ⟨hbin.1, hbin.2⟩ ⟨hmin.1, hmin.2⟩ ?_ (VO hbx) (XT hmp)⟩
  unfold Item.apart bx mp
  simp only
  omega
end
end Go.Fip
namespace Go.Fip
open Go.RowKit
theorem zBm {P : Program} {N : Nat} {ds : List Deferred} {env : Env} {S : World → Prop} {x : Operand} {T n E sz b o : Nat} (hT : TArr P T n E sz) (hx : ev env x = some (.pointer (some ⟨b, o, none⟩))) : Yv P N ds env (.slice T x none none none) (.slice (some ⟨b, o, none⟩) n n) S := fun a ha w _ _ _ _ _ _ => by
 have e : (⟨b, o, none⟩ : Addr).add 0 = ⟨b, o, none⟩ := by unfold Addr.add; split <;> rfl
 simp [execOp, ha.ev hx, Instr.sliceAt, run_underlying hT.1, Instr.sliceBounds, vP hT.2, Result.andThen, Instr.sureAddr, asAddr, e]
theorem GR {r : Option Nat} {P : Program} {N : Nat} {ds : List Deferred} {env : Env} {w : World} {Q : Post} {all : Array Oper} {rest : List Oper} {H : List Item} {x : Operand} {dst : Option Nat} {ty : TypeId} {pos : String} {after : Array Edge}
  {T E n m b t o : Nat} {pre post : List Value} {C : List Int} (hE : El P T E 1 encI) (hz0 : ∀ i, P.info? E = some i → i.zero.map (·.cells.toList) = some (encI 0)) (hs : ev env x = some (.slice (some ⟨b, o, none⟩) m m)) (ho : o = pre.length) (hm : C.length = m) (hm0 : 0 < m) (hd : dstOK N dst = true) (hH : Heap H w)
  (hn : H[n]? = some (bx b t (seg pre C post))) (h : ∀ w', Heap (H.set n (bx b t (seg pre (List.replicate m 0) post))) w' → Ops r P N all rest ds (putE dst (.tuple #[]) env) w' Q) :
  Ops r P N all (⟨dst, .call ⟨.builtin .clear, #[x], #[T]⟩, ty, pos, after, none⟩ :: rest) ds env w Q := by
 subst ho
 obtain ⟨i, z, hi1, hz, hsz, hby, hzs⟩ := hE.info
 have hzc := hz0 i hi1
 rw [hz] at hzc
 simp only [Option.map_some, Option.some.injEq] at hzc
 have hb : w.heap[b]? = some (.cells (seg pre C post).toArray t (0, 0)) := hH.get hn
 have hzl : (Builtin.zeroCells z.cells m).toList = ints (List.replicate m 0) := by
  have := qC hE.len hE.pos hzc m
  have e : (List.replicate m (0 : Int)).flatMap encI = ints (List.replicate m 0) := by
   unfold ints encI; rw [← List.map_eq_flatMap]
  rw [← e, ← this]
  simp [Builtin.zeroCells, madeCells, hzs]
 have hst := run_storeCells_at (P := P) b pre.length t (ints (List.replicate m 0)) 0 (seg pre C post).toArray w hb (by simp [JS, vG, hm]) (fun u hu => List.all_eq_true.1 GD u hu)
 have hnew : ((seg pre C post).toArray.toList.take (pre.length + 0) ++ ints (List.replicate m 0) ++ (seg pre C post).toArray.toList.drop (pre.length + 0 + (ints (List.replicate m 0)).length)).toArray = (seg pre (List.replicate m 0) post).toArray := by
  congr 1
  unfold seg
  simp only [Nat.add_zero, List.take_left, vG, List.length_replicate]
  rw [← List.drop_drop, List.drop_left, List.drop_left' (by rw [vG]; exact hm), List.append_assoc]
 rw [hnew] at hst
 have hzv : (zeroValue E).run P w = .ok z w := by simp [zeroValue, typeInfo, hi1, hz, Result.andThen]
 have hcl : (Builtin.clear_ #[T] ty #[.slice (some ⟨b, pre.length, none⟩) m m]).run P w = .ok (.tuple #[]) (w.setRow b (seg pre (List.replicate m 0) post).toArray) := by
  obtain ⟨k, rfl⟩ : ∃ k, m = k + 1 := ⟨m - 1, by omega⟩
  unfold Builtin.clear_
  simp [run_underlying hE.und, hzv, hzl, hst, Result.andThen]
 refine q8 hd (fun c hc => by cases hc) (fun a ha => ?_) (h _ (hH.set hn (qA w b _) (.inl ⟨Nat.le_refl _, Nat.le_refl _⟩) (VO (setRow_heap w b _ _ t (0, 0) hb))))
 simp only [execOp, resolve, invoke, builtin, Sem.run_bind, Sem.run_pure, Result.andThen, List.map_toArray, List.map_cons, List.map_nil, ha.ev hs, hcl]
end Go.Fip
namespace Go.Fip
open Go.Proofs Go.RowKit
theorem zA7 {l : List Int} {i k : Nat} (h : k < i) (hi : i < l.length) : nth (l.take (i : Int).toNat) (k : Int) = nth l (k : Int) := by
 rw [Int.toNat_natCast, yG (by rw [List.length_take]; omega), yG (by omega), List.getElem_take]
theorem zE9 {v : Value} {l : List Int} {room : Int} {w : World} (h0 : Rd encI 1 v l w) (hd : Sf.Day room l)  :
  Fn Tryz.prog 144 [(.agg #[(.int .i64 room), v])].toArray w (fun u w => ∃ bb : Nat, u = .pointer (some ⟨bb, 0, none⟩) ∧ BnEx Sf.kvS Sf.vvI (Sf.Full l) 148 bb [.int .i64 room, v] (List.replicate 9 0) w) := by
 refine fz Tryz.func144 Z kz Z Z (fun hH => ?_)
 have hn := hd.n
 have hr9 : (List.replicate 9 (0 : Int)).length = 9 := rfl
 refine zr (yY Z Z Z hH (fun b1 w2 hH3 => (oA hH3 Z (zs (oY hH3 (zW (cs := [(.int .i64 room), v]) T.x3 Z Z (fun _ hw => Heap.yH hw (n := 0) Z (k := 0) Z)) (uA Sf.kvS Sf.vvI Z hH3 (fun b4 w5 hH6 => (oY hH6 (yR (v := (.agg #[(.int .i64 room), v, (.int .i64 0), (.int .i64 0), (.int .i64 0), (.int .i64 0), (.int .i64 0), (.int .i64 0), (.int .i64 0), (.int .i64 0), (.int .i64 0), (.map (some b4))])) Z (fun w => by kernel_rfl)) (yY Z Z Z hH6 (fun b7 w8 hH9 => (oA hH9 Z (zt (seq ?_)))))))))))))
 have hH10 := Heap.y9 hH9 (n := 0) Z (show [(.int .i64 room), v, (.int .i64 0), (.int .i64 0), (.int .i64 0), (.int .i64 0), (.int .i64 0), (.int .i64 0), (.int .i64 0), (.int .i64 0), (.int .i64 0), (.map (some b4))] = (seg [(.int .i64 room), v] (List.replicate 9 0) [(.map (some b4))]) from Z)
 refine region (oM hH10 Z (oY hH10 (yQ Z) (oY hH10 (zI T.qB Z) (oY hH10 (zBm T.j8 Z) (GR (n := 0) T.zA T.uU Z Z (by simp) om Z hH10 Z (fun w11 hH12 => (zt (seq (zr (oM hH12 Z (oY hH12 (yQ Z) (oY hH12 (zI T.vZ Z) (oY hH12 (zI T.vJ Z) (oY hH12 (xW T.xB Z (by rfl) Z (fun _ hw => (Heap.xV hw (n := 0) Z))) (oY hH12 (z8 T.yS Z (h0.now hH12 (n := 3) Z).is) (oM hH12 Z (zt (block (loop (S := Nat × Sf.Mm) (fun (i, m) => [(23, (.int .i64 (i : Int))), (2, (.pointer none)), (3, (.pointer (some ⟨b7, 0, none⟩))), (21, v), (22, (.int .i64 (l.length : Int)))]) (fun (i, m) w1 => Heap [bx b7 148 (seg [(.int .i64 room), v] (List.replicate 9 0) [(.map (some b4))]), mp Sf.kvS Sf.vvI b4 m, bx b1 51 [(.int .i64 room), v], base w] w1 ∧ i ≤ l.length ∧ Sf.Part l i 0 m) (fun (i, m) => l.length - i) (0, []) (uC Z (uC Z (uC Z (uC Z (uC Z (Sub.nil _)))))) ?_ ?_)))))))))))))))))))
 ·exact ⟨hH12, om, Sf.Part.start⟩
 rintro ⟨i, m⟩ w13 ⟨hH14, hi, hP⟩
 refine zr (oY hH14 (yL Z Z) (zt (seq ?_)))
 by_cases hc15 : (i : Int) < (l.length : Int)
 ·refine zO Z (dT hc15) (skip (zN (seq (block (zr (oM hH14 Z (oY hH14 (zP T.yS Z Z (h0.now hH14 (n := 3) Z).is om) (oY hH14 (zE T.yU Z (fun _ hw => Rd.at (h0.now hw (n := 3) Z) (i := (i : Int)) om (j := 0) Z)) (oA hH14 Z (oA hH14 Z (zt (seq ?_))))))))))))
  have htl : (l.take (i : Int).toNat).length = i := by rw [List.length_take]; omega
  refine region (oM hH14 Z (oY hH14 (yQ Z) (oY hH14 (zI T.vZ Z) (oY hH14 (zI T.vJ Z) (oY hH14 (xW T.xB Z (by rfl) Z (fun _ hw => (Heap.xV hw (n := 0) Z))) (oM hH14 Z (oY hH14 (qT T.yS Z Z (h0.now hH14 (n := 3) Z).is om) (oY hH14 (z8 T.yS Z (Rd.upto (h0.now hH14 (n := 3) Z) (hi := (i : Int).toNat) om).is) (oM hH14 Z (zt (block (loop (S := Nat × Sf.Mm) (fun (k, m2) => [(36, (.int .i64 (k : Int))), (2, (.pointer none)), (3, (.pointer (some ⟨b7, 0, none⟩))), (4, (.int .i64 (i : Int))), (5, (.int .i64 (nth l (i : Int)))), (21, v), (22, (.int .i64 (l.length : Int))), (23, (.int .i64 (i : Int))), (34, (cutv v 1 0 (i : Int).toNat)), (35, (.int .i64 ((l.take (i : Int).toNat).length : Int)))]) (fun (k, m2) w1 => Heap [bx b7 148 (seg [(.int .i64 room), v] (List.replicate 9 0) [(.map (some b4))]), mp Sf.kvS Sf.vvI b4 m2, bx b1 51 [(.int .i64 room), v], base w] w1 ∧ k ≤ i ∧ Sf.Part l i k m2) (fun (k, m2) => i - k) (0, m) (uC Z (uC Z (uC Z (uC Z (uC Z (uC Z (uC Z (uC Z (uC Z (uC Z (Sub.nil _))))))))))) ?_ ?_))))))))))))
  ·exact ⟨hH14, om, hP⟩
  rintro ⟨k, m2⟩ w16 ⟨hH17, hk, hp2⟩
  refine zr (oY hH17 (yL Z Z) (zt (seq ?_)))
  by_cases hc18 : (k : Int) < ((l.take (i : Int).toNat).length : Int)
  ·refine zO Z (dT hc18) (skip (zN (seq (block (seq ?_)))))
   have hnt := zA7 (l := l) (i := i) (k := k) (by omega) (by omega)
   refine region (oM hH17 Z (oY hH17 (zP T.yS Z Z (Rd.upto (h0.now hH17 (n := 3) Z) (hi := (i : Int).toNat) om).is om) (oY hH17 (zE T.yU Z (fun _ hw => Rd.at (Rd.upto (h0.now hw (n := 3) Z) (hi := (i : Int).toNat) om) (i := (k : Int)) om (j := 0) Z)) (oA hH17 Z (oA hH17 Z (zs (oM hH17 Z (oM hH17 Z (oY hH17 (y5 Z Z) (zt ?_))))))))))
   by_cases hc19 : (nth l (i : Int)) = (nth (l.take (i : Int).toNat) (k : Int))
   ·have heq : nth l (k : Int) = nth l (i : Int) := by have hq := (decide_eq_true hc19); omega
    refine zO Z (dT hc19) (region (oM hH17 Z (oY hH17 (yQ Z) (oY hH17 (zI T.X8 Z) (oY hH17 (qQ (m := 9) (j := 0) T.ZE Z (by first | omega | (simp only [List.length_set]; omega)) (by rfl) Z (fun _ hw => (Heap.xV hw (n := 0) Z))) (oM hH17 Z (oM hH17 Z (oY hH17 (yR (v := (.agg #[(.int .i64 (k : Int)), (.int .i64 (i : Int))])) Z (fun w => by kernel_rfl)) (oM hH17 Z (uO (n := 1) (k := (((k : Int), (i : Int)) : Int × Int)) (v := nth l (i : Int)) T.JZ Z Z Z hH17 Z (fun w20 hH21 => (zC (yC (zN (region (oY hH21 (zV Z Z om) (oM hH21 Z (zC (y0 (k + 1, (upd (((k : Int), (i : Int)) : Int × Int) (nth l (i : Int)) m2)) (uC Z (uC Z (uC Z (uC Z (uC Z (uC Z (uC Z (uC Z (uC Z (uC Z (Sub.nil _))))))))))) (⟨hH21, om, hp2.yes om om heq Z⟩) om3)))))))))))))))))))
   have hne : ¬ nth l (k : Int) = nth l (i : Int) := by have hq := (decide_eq_false hc19); omega
   refine zL Z (dF hc19) (skip (yC (zN (region (oY hH17 (zV Z Z om) (oM hH17 Z (zC (y0 (k + 1, m2) (uC Z (uC Z (uC Z (uC Z (uC Z (uC Z (uC Z (uC Z (uC Z (uC Z (Sub.nil _))))))))))) (⟨hH17, om, hp2.no hne⟩) om3))))))))
  refine zL Z (dF hc18) (exit (yZ (xF (z7 (yC (zN (region (oY hH17 (zV Z Z om) (oM hH17 Z (zC (y0 (i + 1, m2) (uC Z (uC Z (uC Z (uC Z (uC Z (Sub.nil _)))))) (⟨hH17, om, (show Sf.Part l i i m2 from (show k = i by omega) ▸ hp2).turn⟩) om3)))))))))))
 refine zL Z (dF hc15) (exit (yZ (xF (z7 (zN (seq (seq ?_)))))))
 have hpt9 : Sf.Part l l.length 0 m := (show i = l.length by omega) ▸ hP
 refine region (oM hH14 Z (oY hH14 (yQ Z) (oY hH14 (zI T.X8 Z) (oY hH14 (qQ (m := 9) (j := 0) T.ZE Z (by first | omega | (simp only [List.length_set]; omega)) (by rfl) Z (fun _ hw => (Heap.xV hw (n := 0) Z))) ?_))))
 obtain ⟨es, clock, hH22, hv1, hv2, hv3, hv4⟩ := Heap.Y3 hH14 (n := 1) rfl
 have hents : Ents Sf.kvS Sf.vvI es clock m := ⟨hv1, hv2, hv3, hv4⟩
 refine jG T.JZ.und Z Z hH22 (Heap.jK hH22 (n := 1) Z) (fun r23 w24 hH25 => (zt (block (loop (S := Array MapEntry × Sf.Mm × Array Nat) (fun (es2, m3, seen) => [(2, (.pointer none)), (3, (.pointer (some ⟨b7, 0, none⟩))), (58, (.pointer (some ⟨r23, 0, none⟩)))]) (fun (es2, m3, seen) w1 => Heap [raw r23 (.mapIter (some b4) clock seen clock), bx b7 148 (seg [(.int .i64 room), v] (List.replicate 9 0) [(.map (some b4))]), raw b4 (.map es2 clock), bx b1 51 [(.int .i64 room), v], base w] w1 ∧ Sf.Outs l es2 clock m3 seen) (fun (es2, m3, seen) => unseen es2 seen) (es, m, #[]) (uC Z (uC Z (uC Z (Sub.nil _)))) ?_ ?_))))
 ·exact ⟨hH25, Sf.Outs.start hents hpt9⟩
 rintro ⟨es2, m3, seen⟩ w26 ⟨hH27, hO⟩
 refine zr (kD Z Z hH27 (Heap.jK hH27 (n := 2) Z) (k := 0) Z hO.ents.born (fun hall28 w32 hH33 => ?_) (fun e29 he30 hns31 w32 hH33 => ?_))
 ·have hfull := hO.full hall28
  refine oY hH33 (zH Z Z) (zt (seq (zL Z Z (exit (yZ (xF (z7 (zu (oM hH33 Z (oA hH33 Z (zt (ret (fin ((hH33.sub (sC (sK (sK (sC sR))))).front (n := 2) Z) (fun w' hf => (yN Z (rt Z))) (fun w' hf => ?_))))))))))))))
  exact ⟨_, Z, _, _, Heap.xV hf (n := 0) Z, hO.ents.mp (Heap.jK hf (n := 1) Z), hfull⟩
 obtain ⟨ai, ak, hkey, ⟨xv, hval⟩, hak1, hak2⟩ := hO.entry he30
 have hns := hns31
 have hen := he30
 refine oY hH33 (zH Z Z) (zt (seq (zO Z Z (skip (zN (block (zr (oY hH33 (qK hkey hval Z he30 hO.ents.bornNd (fun _ hw => (Heap.jK hw (n := 2) Z)) (fun _ hw => Heap.jK hw (n := 0) Z)) (oY hH33 (zH Z Z) (yD (z := (.agg #[(.int .i64 0), (.int .i64 0)])) (fun _ => by kernel_rfl) Z Z hH33 (fun b35 w36 hH37 => (zS (n := 0) (j := 0) Z Z hH37 Z T.GN Z Z Z (by rfl) (fun w38 hH39 => (zt (seq ?_)))))))))))))))
 have hbl : ((l.take (ak : Int).toNat).drop ((ai : Int) + 1).toNat).length ≤ 1000000 := by rw [List.length_drop, List.length_take]; omega
 refine zY (fun w' => Heap [bx b35 212 [(.int .i64 (ai : Int)), (.int .i64 (ak : Int))], raw r23 (.mapIter (some b4) clock (seen.push e29.born) clock), bx b7 148 (seg [(.int .i64 room), v] (List.replicate 9 0) [(.map (some b4))]), raw b4 (.map es2 clock), bx b1 51 [(.int .i64 room), v], base w] w') T.mixed (fun w40 hr41 => ?_)
 have hH42 := hH39.redrawn hr41
 refine zK [0, 1, 2, 3, 4, 5, 6, 7, 8, 9, 10, 11, 12, 13, 14, 15, 16, 17, 18, 19] kz hH42 _ _ _ kz (qM Z Z Z (zJ Z Z (yQ Z) (zJ Z Z (zI T.vZ Z) (zJ Z Z (zI T.vJ Z) (zJ Z Z (xW T.xB Z (by rfl) Z (fun _ hw => (Heap.xV hw (n := 2) Z))) (zJ Z Z (zI T.X2 Z) (zJ Z Z (zE T.yU Z (cw (n := 0) Z Z)) (zJ Z Z (zV Z Z om) (zJ Z Z (zI T.ZH Z) (zJ Z Z (zE T.yU Z (cw (n := 0) Z Z)) (zJ Z Z (ZZ T.yS Z Z Z (h0.now hH42 (n := 5) Z).is om) (qM Z Z Z (zJ Z Z (yQ Z) (zJ Z Z (zI T.vZ Z) (zJ Z Z (zI T.vJ Z) (zJ Z Z (xW T.xB Z (by rfl) Z (fun _ hw => (Heap.xV hw (n := 2) Z))) (zJ Z Z (zI T.ZH Z) (zJ Z Z (zE T.yU Z (cw (n := 0) Z Z)) (zJ Z Z (zP T.yS Z Z (h0.now hH42 (n := 5) Z).is om) (zJ Z Z (zE T.yU Z (fun _ hw => Rd.at (h0.now hw (n := 5) Z) (i := (ak : Int)) om (j := 0) Z)) (zQ ?_)))))))))))))))))))))
 refine z1 20 kz Z (zM Z Z Z hH42 (zBo (Rd.cut (h0.now hH42 (n := 5) Z) (lo := ((ai : Int) + 1).toNat) (hi := (ak : Int).toNat) om om) om) (fun w43 hH44 => (zC (⟨hH44, (zX kz (zN ?_))⟩))))
 by_cases hc45 : 0 ≤ S.place ((l.take (ak : Int).toNat).drop ((ai : Int) + 1).toNat) (nth l (ak : Int))
 ·have hbt : Sf.btw l (ai : Int) (ak : Int) := of_decide_eq_true (decide_eq_true hc45)
  refine zO Z (dT hc45) (zY (fun w' => Heap [bx b35 212 [(.int .i64 (ai : Int)), (.int .i64 (ak : Int))], raw r23 (.mapIter (some b4) clock (seen.push e29.born) clock), bx b7 148 (seg [(.int .i64 room), v] (List.replicate 9 0) [(.map (some b4))]), bx b1 51 [(.int .i64 room), v], base w] w') T.mixed (fun w46 hr47 => ?_))
  have hH48 := hH44.redrawn hr47
  refine zK [0, 1, 2, 3, 4] kz (hH48.sub (sK (sK (sK (sC sR))))) _ _ _ kz (qM Z Z Z (zJ Z Z (yQ Z) (zJ Z Z (zI T.X8 Z) (zJ Z Z (qQ (m := 9) (j := 0) T.ZE Z (by first | omega | (simp only [List.length_set]; omega)) (by rfl) Z (fun _ hw => (Heap.xV hw (n := 2) Z))) (zJ Z Z (zW (cs := [(.int .i64 (ai : Int)), (.int .i64 (ak : Int))]) T.YE Z Z (fun _ hw => Heap.yH hw (n := 0) Z (k := 0) Z)) (zQ (z1 5 kz Z (KF (n := 3) (k := (((ai : Int), (ak : Int)) : Int × Int)) T.JZ hO.ents Z Z hH48 Z (fun es9 w49 hents9 hsub9 hH50 => (zC (⟨(hH50.sub (sK (sK (sK (sC sR))))), (zX kz (yC ?_))⟩)))))))))))
  have hH51 := (hH50.sub (sC sR))
  refine y0 (es9, (del ((ai : Int), (ak : Int)) m3), (seen.push e29.born)) (uC Z (uC Z (uC Z (Sub.nil _)))) ?_ ?_
  ·exact ⟨hH51, hO.del hen hkey hbt hents9 hsub9⟩
  ·show _ < _; first | exact vI hen hns | exact Nat.lt_of_le_of_lt (Sf.unseen_sub hsub9) (vI hen hns)
 have hbn : ¬ Sf.btw l (ai : Int) (ak : Int) := of_decide_eq_false (decide_eq_false hc45)
 refine zL Z (dF hc45) (skip (yC ?_))
 have hH52 := (hH44.sub (sC sR))
 refine y0 (es2, m3, (seen.push e29.born)) (uC Z (uC Z (uC Z (Sub.nil _)))) ?_ ?_
 ·exact ⟨hH52, hO.keep hen hkey hbn⟩
 ·show _ < _; first | exact vI hen hns | exact Nat.lt_of_le_of_lt (Sf.unseen_sub hsub9) (vI hen hns)
end Go.Fip
namespace Go.Fip
open Go.Proofs Go.RowKit
theorem KD {v : Value} {l : List Int} {room : Int} {w : World} (h0 : Rd encI 1 v l w) (hn : l.length ≤ 1000000) (hc : Sf.ck room l = 0)  :
  Fn Tryz.prog 90 [(.agg #[(.int .i64 room), v])].toArray w (fun u w => ∃ bb : Nat, u = .tuple #[.pointer (some ⟨bb, 0, none⟩), .int .i64 0] ∧ BnEx Sf.kvS Sf.vvI (Sf.Full l) 148 bb [.int .i64 room, v] (List.replicate 9 0) w) := by
 refine fz Tryz.func90 Z kz Z Z (fun hH => ?_)
 have hday := Sf.ck_iff.1 hc
 refine zr (yY Z Z Z hH (fun b1 w2 hH3 => (oA hH3 Z (oA hH3 Z (zt (seq (zr (oY hH3 (zW (cs := [(.int .i64 room), v]) T.x3 Z Z (fun _ hw => Heap.yH hw (n := 0) Z (k := 0) Z)) (zM Z Z Z hH3 (zD9 (h0.now hH3 (n := 1) Z) om) (fun w4 hH5 => (oA hH5 Z (zs (oM hH5 Z (oY hH5 (yF Z Z) (zt ?_)))))))))))))))
 have hc6 : ¬ (¬ ((Sf.ck room l) = 0)) := fun h => h hc
 refine zL Z (vC hc6) (skip (zu (oY hH5 (zW (cs := [(.int .i64 room), v]) T.x3 Z Z (fun _ hw => Heap.yH hw (n := 0) Z (k := 0) Z)) (yV Z Z Z hH5 (zE9 (h0.now hH5 (n := 1) Z) hday) (fun u9 w7 lo10 hi11 hH8 hv12 => ?_)))))
 obtain ⟨bbD14, hu, hrowD14⟩ := hv12
 subst hu
 obtain ⟨mbD14, mmD14, hfullD14, hH13⟩ := Heap.VK hH8 (n := 0) rfl (fun w' h => by obtain ⟨rb', e, h⟩ := h; cases e; exact h)
 refine oA hH13 Z (oA hH13 Z (zt (ret (fin ((hH13.sub (sK (sK (sC sR)))).front (n := 2) Z) (fun w' hf => (xI Z (rt Z) (rt Z))) (fun w' hf => ?_)))))
 exact ⟨_, Z, _, _, Heap.xV hf (n := 1) Z, Heap.kJ hf (n := 0) Z, hfullD14⟩
theorem zBz {v : Value} {l : List Int} {room : Int} {w : World} (h0 : Rd encI 1 v l w) (hn : l.length ≤ 1000000) (hc : ¬ Sf.ck room l = 0)  :
  Fn Tryz.prog 90 [(.agg #[(.int .i64 room), v])].toArray w (fun u _ => u = .tuple #[.pointer none, .int .i64 (Sf.ck room l)]) := by
 refine fz Tryz.func90 Z kz Z Z (fun hH => (zr (yY Z Z Z hH (fun b1 w2 hH3 => (oA hH3 Z (oA hH3 Z (zt (seq (zr (oY hH3 (zW (cs := [(.int .i64 room), v]) T.x3 Z Z (fun _ hw => Heap.yH hw (n := 0) Z (k := 0) Z)) (zM Z Z Z hH3 (zD9 (h0.now hH3 (n := 1) Z) om) (fun w4 hH5 => (oA hH5 Z (zs (oM hH5 Z (oY hH5 (yF Z Z) (zt ?_)))))))))))))))))
 have hc6 : ¬ ((Sf.ck room l) = 0) := hc
 refine zO Z (zF hc6) (zr (oM hH5 Z (oA hH5 Z (oA hH5 Z (zt (ret (z6 (fin (hH5.sub (sC sR)) (fun w' hf => (xI Z (rt Z) (rt Z))) (fun w' hf => Z)))))))))
theorem zD1 {v : Value} {l : List Int} {room : Int} {w : World} (h0 : Rd encI 1 v l w) (hn : l.length ≤ 1000000) {rule : Int} (hc : Sf.ck room l = 0) (hr : 1 ≤ rule ∧ rule ≤ 3)  :
  Fn Tryz.prog 34 [(.agg #[(.int .i64 room), v]), (.int .i64 rule)].toArray w (fun u w => ∃ bb : Nat, u = .tuple #[.pointer (some ⟨bb, 0, none⟩), .int .i64 0] ∧ BnEx Sf.kvS Sf.vvI (Sf.Full l) 148 bb [.int .i64 room, v] (List.replicate 9 0) w) := by
 refine fz Tryz.func34 Z kz Z Z (fun hH => ?_)
 have hday := Sf.ck_iff.1 hc
 have hc0 := hc
 refine zr (yY Z Z Z hH (fun b1 w2 hH3 => (oA hH3 Z (oA hH3 Z (zs (oY hH3 (zW (cs := [(.int .i64 room), v]) T.x3 Z Z (fun _ hw => Heap.yH hw (n := 0) Z (k := 0) Z)) (yV Z Z Z hH3 (KD (h0.now hH3 (n := 1) Z) om hc0) (fun u6 w4 lo7 hi8 hH5 hv9 => ?_))))))))
 obtain ⟨bbD11, hu, hrowD11⟩ := hv9
 subst hu
 obtain ⟨mbD11, mmD11, hfullD11, hH10⟩ := Heap.VK hH5 (n := 0) rfl (fun w' h => by obtain ⟨rb', e, h⟩ := h; cases e; exact h)
 refine oM hH10 Z (oY hH10 (zH Z Z) (oY hH10 (zH Z Z) (oA hH10 Z (oA hH10 Z (zt (seq (block (zr (oM hH10 Z (oY hH10 (yF Z Z) (oA hH10 Z (zt (zL Z Z (zr (oM hH10 Z (z2 T.zA [rule] Z (fun w => by kernel_rfl) hH10 (fun u12 lo14 hi15 w13 hH16 => (zM Z Z Z hH16 (G7 (Heap.yI T.zA hH16 (n := 0) Z)) (fun w17 hH18 => ?_)))))))))))))))))))
 refine oY hH18 (y6 Z) (oA hH18 Z (zt ?_))
 have hc19 : ¬ (¬ (1 ≤ rule ∧ rule ≤ 3)) := by simp; omega
 refine zL Z (vC hc19) (skip (yC (zu (oM hH18 Z (oA hH18 Z (oA hH18 Z (zt (ret (fin ((hH18.sub (sC (sK (sK (sC sR))))).front (n := 2) Z) (fun w' hf => (xI Z (rt Z) (rt Z))) (fun w' hf => ?_))))))))))
 exact ⟨_, Z, _, _, Heap.xV hf (n := 1) Z, Heap.kJ hf (n := 0) Z, hfullD11⟩
theorem zFc {v : Value} {l : List Int} {room : Int} {w : World} (h0 : Rd encI 1 v l w) (hn : l.length ≤ 1000000) {rule : Int} (hc : ¬ Sf.ck room l = 0)  :
  Fn Tryz.prog 34 [(.agg #[(.int .i64 room), v]), (.int .i64 rule)].toArray w (fun u _ => u = .tuple #[.pointer none, .int .i64 (Sf.ck room l)]) := by
 refine fz Tryz.func34 Z kz Z Z (fun hH => ?_)
 have hcn := hc
 refine zr (yY Z Z Z hH (fun b1 w2 hH3 => (oA hH3 Z (oA hH3 Z (zs (oY hH3 (zW (cs := [(.int .i64 room), v]) T.x3 Z Z (fun _ hw => Heap.yH hw (n := 0) Z (k := 0) Z)) (zM Z Z Z hH3 (zBz (h0.now hH3 (n := 1) Z) om hcn) (fun w4 hH5 => (oM hH5 Z (oY hH5 (zH Z Z) (oY hH5 (zH Z Z) (oA hH5 Z (oA hH5 Z (zt (seq (block (zr ?_)))))))))))))))))
 refine oM hH5 Z (oY hH5 (yF Z Z) (oA hH5 Z (zt ?_)))
 have hc6 : ¬ ((Sf.ck room l) = 0) := hc
 refine zO Z (zF hc6) (zr (oM hH5 Z (oA hH5 Z (oA hH5 Z (zt (ret (yE (z6 (fin (hH5.sub (sC sR)) (fun w' hf => (xI Z (rt Z) (rt Z))) (fun w' hf => Z))))))))))
theorem zEz {v : Value} {l : List Int} {room : Int} {w : World} (h0 : Rd encI 1 v l w) (hn : l.length ≤ 1000000) {rule : Int} (hc : Sf.ck room l = 0) (hr : ¬ (1 ≤ rule ∧ rule ≤ 3))  :
  Fn Tryz.prog 34 [(.agg #[(.int .i64 room), v]), (.int .i64 rule)].toArray w (fun u _ => u = .tuple #[.pointer none, .int .i64 2]) := by
 refine fz Tryz.func34 Z kz Z Z (fun hH => ?_)
 have hday := Sf.ck_iff.1 hc
 have hc0 := hc
 refine zr (yY Z Z Z hH (fun b1 w2 hH3 => (oA hH3 Z (oA hH3 Z (zs (oY hH3 (zW (cs := [(.int .i64 room), v]) T.x3 Z Z (fun _ hw => Heap.yH hw (n := 0) Z (k := 0) Z)) (yV Z Z Z hH3 (KD (h0.now hH3 (n := 1) Z) om hc0) (fun u6 w4 lo7 hi8 hH5 hv9 => ?_))))))))
 obtain ⟨bbD11, hu, hrowD11⟩ := hv9
 subst hu
 obtain ⟨mbD11, mmD11, hfullD11, hH10⟩ := Heap.VK hH5 (n := 0) rfl (fun w' h => by obtain ⟨rb', e, h⟩ := h; cases e; exact h)
 refine oM hH10 Z (oY hH10 (zH Z Z) (oY hH10 (zH Z Z) (oA hH10 Z (oA hH10 Z (zt (seq (block (zr (oM hH10 Z (oY hH10 (yF Z Z) (oA hH10 Z (zt (zL Z Z (zr (oM hH10 Z (z2 T.zA [rule] Z (fun w => by kernel_rfl) hH10 (fun u12 lo14 hi15 w13 hH16 => (zM Z Z Z hH16 (G7 (Heap.yI T.zA hH16 (n := 0) Z)) (fun w17 hH18 => ?_)))))))))))))))))))
 refine oY hH18 (y6 Z) (oA hH18 Z (zt ?_))
 have hc19 : ¬ (1 ≤ rule ∧ rule ≤ 3) := hr
 refine zO Z (zF hc19) (zr (oA hH18 Z (oA hH18 Z (zt (ret (yE (z6 (fin (hH18.sub (sC (sC (sC (sC sR))))) (fun w' hf => (xI Z (rt Z) (rt Z))) (fun w' hf => Z)))))))))
end Go.Fip
