/- Walks, by program (wip/tools). -/
import Derived.Test.YticpcefbokhgfaaMJ
set_option linter.unusedVariables false
set_option linter.unusedSimpArgs false
set_option linter.unusedSectionVars false
set_option linter.unnecessarySimpa false
namespace Go.Fip
open Go.Proofs Go.RowKit

namespace K2
theorem ap : S.applyR [1, 2, 0, 4, 3, 5] [(0, 2), (0, 1)] = ([2, 0, 1, 4, 3, 5], 0) := by decide +kernel
theorem po : S.power [1, 2, 0, 4, 3, 5] 7 = ([1, 2, 0, 4, 3, 5], 0) := by decide +kernel
theorem ro : S.rootR [1, 2, 0] = ([2, 0, 1], 0) := by decide +kernel
theorem c7 : S.checkNone [1, 2, 0, 4, 3, 5] 7 = 2 := by decide +kernel
theorem cj : S.check [1, 2, 0, 4, 3, 5] 0 = 0 := by decide +kernel
theorem c2 : S.checkNone [1, 2, 0, 4, 3, 5] 2 = 0 := by decide +kernel
end K2
theorem c16 {w : World}  :
    Fn Try.prog 16 [].toArray w (fun u _ => u = .bool true) := by
  refine fn_of' (args := []) Try.func16 rfl (ent Try.func16 (by kernel_rfl) rfl) rfl rfl (fun hH => ?_)
  refine seq (region (ops_y hH rfl rfl (yv_assign rfl) (ops_nil (thn_n (seq (region ?_))))))
  refine op_fn rfl rfl rfl hH (c67) (fun u3 w1 lo4 hi5 hH2 hv6 => ?_)
  have hH7 := Heap.toOw hH2 (n := 0) rfl
  refine ops_y hH7 rfl rfl (yv_assign rfl) (ops_nil (thn_n (seq (region (ops_y hH7 rfl rfl (yv_move rfl) ?_)))))
  refine ops_y hH7 rfl rfl (yv_build (v := (.agg #[(.int .i64 0), (.int .i64 2)])) (us := [(0, (.int .i64 0)), (1, (.int .i64 2))]) (fun a ha => by simp [ha.ev (show ev _ (.const (.int .i64 0)) = some _ from rfl), ha.ev (show ev _ (.const (.int .i64 2)) = some _ from rfl)]) (fun w => by kernel_rfl)) ?_
  refine ops_y hH7 rfl rfl (yv_build (v := (.agg #[(.int .i64 0), (.int .i64 1)])) (us := [(0, (.int .i64 0)), (1, (.int .i64 1))]) (fun a ha => by simp [ha.ev (show ev _ (.const (.int .i64 0)) = some _ from rfl), ha.ev (show ev _ (.const (.int .i64 1)) = some _ from rfl)]) (fun w => by kernel_rfl)) ?_
  refine op_lit (us := [(0, (.agg #[(.int .i64 0), (.int .i64 2)])), (1, (.agg #[(.int .i64 0), (.int .i64 1)]))]) T.el29_encP [(0, 2), (0, 1)] rfl (by decide) rfl (fun a ha => by simp [ha.ev (show ev _ (.tmp 14) = some _ from rfl), ha.ev (show ev _ (.tmp 15) = some _ from rfl)]) (fun w => by kernel_rfl) hH7 (fun u8 lo10 hi11 w9 hH12 => ?_)
  refine op_fnV rfl rfl rfl hH12 (c68) (fun w13 hH14 => ?_)
  refine op_fn rfl rfl rfl hH14 ((by have h := c27 (Heap.rdw T.el22_encI hH14 (n := 1) rfl) (Heap.rdw T.el29_encP hH14 (n := 0) rfl) (by decide) (by decide); simp only [K2.ap] at h; exact h)) (fun u17 w15 lo18 hi19 hH16 hv20 => ?_)
  obtain ⟨p22, hu, -⟩ := hv20
  subst hu
  have hH21 := Heap.tup2 hH16 (n := 0) rfl
  refine ops_y hH21 rfl rfl (yv_move rfl) (ops_y hH21 rfl rfl (yv_extract rfl rfl) (ops_y hH21 rfl rfl (yv_extract rfl rfl) (ops_y hH21 rfl rfl (yv_assign rfl) (ops_y hH21 rfl rfl (yv_assign rfl) (ops_nil (thn_n (seq (region (ops_y hH21 rfl rfl (yv_move rfl) ?_)))))))))
  refine op_fn rfl rfl rfl hH21 ((by have h := c36 (Heap.rdw T.el22_encI hH21 (n := 2) rfl) (by decide) (t := 7); simp only [K2.po] at h; exact h)) (fun u25 w23 lo26 hi27 hH24 hv28 => ?_)
  obtain ⟨p30, hu, -⟩ := hv28
  subst hu
  have hH29 := Heap.tup2 hH24 (n := 0) rfl
  refine ops_y hH29 rfl rfl (yv_move rfl) (ops_y hH29 rfl rfl (yv_extract rfl rfl) (ops_y hH29 rfl rfl (yv_extract rfl rfl) (ops_y hH29 rfl rfl (yv_assign rfl) (ops_y hH29 rfl rfl (yv_assign rfl) (ops_nil (thn_n (seq (region ?_))))))))
  refine op_lit (us := [(0, (.int .i64 1)), (1, (.int .i64 2)), (2, (.int .i64 0))]) T.el22_encI [1, 2, 0] rfl (by decide) rfl (fun a ha => by simp [ha.ev (show ev _ (.const (.int .i64 1)) = some _ from rfl), ha.ev (show ev _ (.const (.int .i64 2)) = some _ from rfl), ha.ev (show ev _ (.const (.int .i64 0)) = some _ from rfl)]) (fun w => by kernel_rfl) hH29 (fun u31 lo33 hi34 w32 hH35 => ?_)
  refine op_fnV rfl rfl rfl hH35 (c69) (fun w36 hH37 => ?_)
  refine op_fn rfl rfl rfl hH37 ((by have h := c42 (Heap.rdw T.el22_encI hH37 (n := 0) rfl) (by decide); simp only [K2.ro] at h; exact h)) (fun u40 w38 lo41 hi42 hH39 hv43 => ?_)
  obtain ⟨p45, hu, -⟩ := hv43
  subst hu
  have hH44 := Heap.tup2 hH39 (n := 0) rfl
  refine ops_y hH44 rfl rfl (yv_move rfl) (ops_y hH44 rfl rfl (yv_extract rfl rfl) (ops_y hH44 rfl rfl (yv_extract rfl rfl) (ops_y hH44 rfl rfl (yv_assign rfl) (ops_y hH44 rfl rfl (yv_assign rfl) (ops_nil (thn_n (seq (region (ops_y hH44 rfl rfl (yv_move rfl) ?_)))))))))
  refine op_fnV rfl rfl rfl hH44 ((by have h := c46 (Heap.rdw T.el22_encI hH44 (n := 5) rfl) (by decide) (a := 7); simp only [K2.c7] at h; exact h)) (fun w46 hH47 => ?_)
  refine ops_y hH47 rfl rfl (yv_assign rfl) (ops_nil (thn_n (seq (region (ops_y hH47 rfl rfl (yv_move rfl) ?_)))))
  refine op_fnV rfl rfl rfl hH47 ((by have h := c23 (Heap.rdw T.el22_encI hH47 (n := 5) rfl) (by decide); simp only [K2.cj] at h; exact h)) (fun w48 hH49 => ?_)
  refine ops_y hH49 rfl rfl (yv_move rfl) ?_
  refine op_fnV rfl rfl rfl hH49 ((by have h := c46 (Heap.rdw T.el22_encI hH49 (n := 5) rfl) (by decide) (a := 2); simp only [K2.c2] at h; exact h)) (fun w50 hH51 => ?_)
  refine ops_y hH51 rfl rfl (yv_assign rfl) (ops_y hH51 rfl rfl (yv_assign rfl) (ops_nil (thn_n (seq (region (ops_y hH51 rfl rfl (yv_move rfl) ?_))))))
  refine ops_y hH51 rfl rfl (yv_castB rfl (yv_eql rfl rfl)) ?_
  refine ops_y hH51 rfl rfl (yv_move rfl) (guard_yes rfl rfl rfl (ops_y hH51 rfl rfl (yv_move rfl) (guard_yes rfl rfl rfl ?_)))
  refine op_lit (us := [(0, (.int .i64 2)), (1, (.int .i64 0)), (2, (.int .i64 1)), (3, (.int .i64 4)), (4, (.int .i64 3)), (5, (.int .i64 5))]) T.el22_encI [2, 0, 1, 4, 3, 5] rfl (by decide) rfl (fun a ha => by simp [ha.ev (show ev _ (.const (.int .i64 2)) = some _ from rfl), ha.ev (show ev _ (.const (.int .i64 0)) = some _ from rfl), ha.ev (show ev _ (.const (.int .i64 1)) = some _ from rfl), ha.ev (show ev _ (.const (.int .i64 4)) = some _ from rfl), ha.ev (show ev _ (.const (.int .i64 3)) = some _ from rfl), ha.ev (show ev _ (.const (.int .i64 5)) = some _ from rfl)]) (fun w => by kernel_rfl) hH51 (fun u52 lo54 hi55 w53 hH56 => ?_)
  refine guard_yes rfl rfl rfl ?_
  refine op_fnV rfl rfl rfl hH56 (c69) (fun w57 hH58 => ?_)
  refine guard_yes rfl rfl rfl ?_
  refine op_fnV rfl rfl rfl hH58 (c33 (Heap.rdw T.el22_encI hH58 (n := 4) rfl) (Heap.rdw T.el22_encI hH58 (n := 0) rfl) (by decide) (by decide)) (fun w59 hH60 => ?_)
  refine ops_y hH60 rfl rfl (yv_pick_t rfl rfl rfl) ?_
  refine ops_y hH60 rfl rfl (yv_move rfl) ?_
  refine guard_yes rfl rfl (decide_eq_true rfl) ?_
  refine ops_y hH60 rfl rfl (yv_move rfl) ?_
  refine guard_yes rfl rfl (decide_eq_true rfl) ?_
  refine ops_y hH60 rfl rfl (yv_castB rfl (yv_eql rfl rfl)) ?_
  refine ops_y hH60 rfl rfl (yv_pick_t rfl (decide_eq_true rfl) rfl) ?_
  refine ops_y hH60 rfl rfl (yv_move rfl) (guard_yes rfl rfl rfl (ops_y hH60 rfl rfl (yv_move rfl) (guard_yes rfl rfl rfl (ops_y hH60 rfl rfl (yv_move rfl) (guard_yes rfl rfl rfl ?_)))))
  refine op_fnV rfl rfl rfl hH60 (c33 (Heap.rdw T.el22_encI hH60 (n := 3) rfl) (Heap.rdw T.el22_encI hH60 (n := 6) rfl) (by decide) (by decide)) (fun w61 hH62 => ?_)
  refine ops_y hH62 rfl rfl (yv_pick_t rfl rfl rfl) ?_
  refine ops_y hH62 rfl rfl (yv_move rfl) ?_
  refine guard_yes rfl rfl (decide_eq_true rfl) ?_
  refine ops_y hH62 rfl rfl (yv_move rfl) ?_
  refine guard_yes rfl rfl (decide_eq_true rfl) ?_
  refine ops_y hH62 rfl rfl (yv_castB rfl (yv_eql rfl rfl)) ?_
  refine ops_y hH62 rfl rfl (yv_pick_t rfl (decide_eq_true rfl) rfl) ?_
  refine ops_y hH62 rfl rfl (yv_move rfl) (guard_yes rfl rfl rfl (ops_y hH62 rfl rfl (yv_move rfl) (guard_yes rfl rfl rfl ?_)))
  refine op_lit (us := [(0, (.int .i64 2)), (1, (.int .i64 0)), (2, (.int .i64 1))]) T.el22_encI [2, 0, 1] rfl (by decide) rfl (fun a ha => by simp [ha.ev (show ev _ (.const (.int .i64 2)) = some _ from rfl), ha.ev (show ev _ (.const (.int .i64 0)) = some _ from rfl), ha.ev (show ev _ (.const (.int .i64 1)) = some _ from rfl)]) (fun w => by kernel_rfl) hH62 (fun u63 lo65 hi66 w64 hH67 => ?_)
  refine guard_yes rfl rfl rfl ?_
  refine op_fnV rfl rfl rfl hH67 (c69) (fun w68 hH69 => ?_)
  refine guard_yes rfl rfl rfl ?_
  refine op_fnV rfl rfl rfl hH69 (c33 (Heap.rdw T.el22_encI hH69 (n := 2) rfl) (Heap.rdw T.el22_encI hH69 (n := 0) rfl) (by decide) (by decide)) (fun w70 hH71 => ?_)
  refine ops_y hH71 rfl rfl (yv_pick_t rfl rfl rfl) ?_
  refine ops_y hH71 rfl rfl (yv_move rfl) ?_
  refine guard_yes rfl rfl (decide_eq_true rfl) ?_
  refine ops_y hH71 rfl rfl (yv_move rfl) ?_
  refine guard_yes rfl rfl (decide_eq_true rfl) ?_
  refine ops_y hH71 rfl rfl (yv_castB rfl (yv_eql rfl rfl)) ?_
  refine ops_y hH71 rfl rfl (yv_pick_t rfl (decide_eq_true rfl) rfl) ?_
  refine ops_y hH71 rfl rfl (yv_move rfl) (guard_yes rfl rfl rfl (ops_y hH71 rfl rfl (yv_move rfl) (guard_yes rfl rfl rfl ?_)))
  refine ops_y hH71 rfl rfl (yv_castB rfl (yv_eql rfl rfl)) ?_
  refine ops_y hH71 rfl rfl (yv_pick_t rfl rfl rfl) ?_
  refine ops_y hH71 rfl rfl (yv_move rfl) (guard_yes rfl rfl rfl (ops_y hH71 rfl rfl (yv_move rfl) (guard_yes rfl rfl rfl ?_)))
  refine ops_y hH71 rfl rfl (yv_castB rfl (yv_eql rfl rfl)) ?_
  refine ops_y hH71 rfl rfl (yv_pick_t rfl rfl rfl) ?_
  refine ops_y hH71 rfl rfl (yv_move rfl) (guard_yes rfl rfl rfl ?_)
  refine op_fnV rfl rfl rfl hH71 (c18) (fun w72 hH73 => ?_)
  refine ops_y hH73 rfl rfl (yv_pick_t rfl rfl rfl) ?_
  refine ops_y hH73 rfl rfl (yv_assign rfl) (ops_nil (thn_n (ret ?_)))
  have hH74 := (hH73.sub (List.Sublist.cons _ (List.Sublist.cons _ (List.Sublist.cons _ (List.Sublist.cons _ (List.Sublist.cons _ (List.Sublist.cons _ (List.Sublist.cons _ (List.Sublist.cons _ (List.Sublist.refl _))))))))))
  refine fin hH74 (fun w' hf => (res1 rfl (show RV _ _ _ (.tmp 0) _ from rfl))) (fun w' hf => ?_)
  rfl

end Go.Fip
