/- Walks, by program (wip/tools). -/
import Derived.Test.YtlekkopaeiblfaaWp
set_option linter.unusedVariables false
set_option linter.unusedSimpArgs false
set_option linter.unusedSectionVars false
set_option linter.unnecessarySimpa false
namespace Go.Fip
open Go.Proofs Go.RowKit

namespace K
theorem l : S.pairsTo [3, 4, 5, 2, 4, 6] (([3, 4, 5, 2, 4, 6] : List Int).length / 2) = [(3, 4), (5, 2), (4, 6)] := by decide
theorem m : S.pairsTo [3, 4] (([3, 4] : List Int).length / 2) = [(3, 4)] := by decide
theorem n : S.pairsTo [1, 1, 1, 1] (([1, 1, 1, 1] : List Int).length / 2) = [(1, 1), (1, 1)] := by decide
theorem p : S.pairsTo [0, 6, 3, 10, 8, 0] (([0, 6, 3, 10, 8, 0] : List Int).length / 2) = [(0, 6), (3, 10), (8, 0)] := by decide
theorem p7 : S.pairsTo [0, 6, 3, 10, 7, 0] (([0, 6, 3, 10, 7, 0] : List Int).length / 2) = [(0, 6), (3, 10), (7, 0)] := by decide
theorem t : S.pairsTo [0, 5] (([0, 5] : List Int).length / 2) = [(0, 5)] := by decide
theorem sl : S.shortest [(3, 4), (5, 2), (4, 6)] = (12, 0) := by decide
theorem sm : S.shortest [(3, 4)] = (7, 0) := by decide
theorem tm : S.tight [(3, 4)] = (2, 0, 0) := by decide
theorem bl : S.bound [(3, 4), (5, 2), (4, 6)] 2 2 = (10, 0) := by decide
theorem bl3 : S.bound [(3, 4), (5, 2), (4, 6)] 3 0 = (0, 2) := by decide
theorem cp : S.checkPlan [(3, 4), (5, 2), (4, 6)] [(0, 6), (3, 10), (8, 0)] = (12, 0) := by decide
theorem cp7 : S.checkPlan [(3, 4), (5, 2), (4, 6)] [(0, 6), (3, 10), (7, 0)] = (0, 16) := by decide
theorem idm : S.idle [(3, 4)] [(0, 5)] 1 = (5, 0) := by decide
theorem jl : S.Jobs [(3, 4), (5, 2), (4, 6)] := by decide
theorem jn : S.Jobs [(1, 1), (1, 1)] := by decide
theorem col : S.checkOrder [(3, 4), (5, 2), (4, 6)] [0, 1, 2] [2, 0, 1] [0, 0, 1] = 0 := by decide
theorem con : S.checkOrder [(1, 1), (1, 1)] [0, 1] [1, 0] [1, 0] = 0 := by decide
theorem spl : S.SolP [(3, 4), (5, 2), (4, 6)] [0, 1, 2] [2, 0, 1] [0, 0, 1] [(0, 6), (3, 10), (8, 0)] := by decide
theorem nsn : ¬ ∃ s, S.SolF [(1, 1), (1, 1)] [0, 1] [1, 0] [1, 0] s := S.circ_none (c := [0, 2, 3, 1]) jn (by decide) (by decide) (by decide)
theorem pyl : S.play [(3, 4), (5, 2), (4, 6)] [0, 1, 2] [2, 0, 1] [0, 0, 1] = ([(0, 6), (3, 10), (8, 0)], 0) := S.pl_some col jl spl
theorem pyn : S.play [(1, 1), (1, 1)] [0, 1] [1, 0] [1, 0] = ([], 13) := S.pl_none con nsn
theorem cc4 : S.checkCircle [(1, 1), (1, 1)] [0, 1] [1, 0] [1, 0] [0, 2, 3, 1] = 0 := by decide
theorem cc2 : S.checkCircle [(1, 1), (1, 1)] [0, 1] [1, 0] [1, 0] [0, 2] = 14 := by decide
theorem cel : S.circleError [(3, 4), (5, 2), (4, 6)] [0, 1, 2] [2, 0, 1] [0, 0, 1] = 5 := S.ce2 col (by rw [S.playOf_some jl spl]; rfl)
theorem cen : S.circleError [(1, 1), (1, 1)] [0, 1] [1, 0] [1, 0] = 0 := S.ce3 con (by rw [S.playOf_none nsn]; simp)
end K
theorem c17 {w : World}  :
    Fn Try.prog 17 [].toArray w (fun u _ => u = .bool true) := by
  refine fn_of' (args := []) Try.func17 rfl (ent Try.func17 (by kernel_rfl) rfl) rfl rfl (fun hH => ?_)
  obtain ⟨p, hpl, hps, hpc⟩ := S.plan_ok K.jl
  rw [show S.shortestOf [(3, 4), (5, 2), (4, 6)] = 12 from by decide] at hpc
  have hpn : p.length = 3 := hps.1
  refine seq ?_
  refine region ?_
  refine ops_y hH rfl rfl (yv_assign rfl) ?_
  refine ops_nil ?_
  refine thn_n ?_
  refine seq ?_
  refine region ?_
  refine op_lit (us := [(0, (.int .i64 3)), (1, (.int .i64 4)), (2, (.int .i64 5)), (3, (.int .i64 2)), (4, (.int .i64 4)), (5, (.int .i64 6))]) T.el116_encI [3, 4, 5, 2, 4, 6] rfl (by decide) rfl (fun a ha => by simp [ha.ev (show ev _ (.const (.int .i64 3)) = some _ from rfl), ha.ev (show ev _ (.const (.int .i64 4)) = some _ from rfl), ha.ev (show ev _ (.const (.int .i64 5)) = some _ from rfl), ha.ev (show ev _ (.const (.int .i64 2)) = some _ from rfl), ha.ev (show ev _ (.const (.int .i64 4)) = some _ from rfl), ha.ev (show ev _ (.const (.int .i64 6)) = some _ from rfl)]) (fun w => by kernel_rfl) hH (fun u1 lo3 hi4 w2 hH5 => ?_)
  have hev8 : Fn Try.prog 51 [u1].toArray _ _ := c51 (Heap.rdw T.el116_encI hH5 (n := 0) rfl) (by simp)
  simp only [K.l] at hev8
  refine op_fn rfl rfl rfl hH5 (hev8) (fun u9 w6 lo10 hi11 hH7 hv12 => ?_)
  have hH13 := Heap.toOw hH7 (n := 0) rfl
  refine op_lit (us := [(0, (.int .i64 3)), (1, (.int .i64 4))]) T.el116_encI [3, 4] rfl (by decide) rfl (fun a ha => by simp [ha.ev (show ev _ (.const (.int .i64 3)) = some _ from rfl), ha.ev (show ev _ (.const (.int .i64 4)) = some _ from rfl)]) (fun w => by kernel_rfl) hH13 (fun u14 lo16 hi17 w15 hH18 => ?_)
  have hev21 : Fn Try.prog 51 [u14].toArray _ _ := c51 (Heap.rdw T.el116_encI hH18 (n := 0) rfl) (by simp)
  simp only [K.m] at hev21
  refine op_fn rfl rfl rfl hH18 (hev21) (fun u22 w19 lo23 hi24 hH20 hv25 => ?_)
  have hH26 := Heap.toOw hH20 (n := 0) rfl
  refine op_lit (us := [(0, (.int .i64 1)), (1, (.int .i64 1)), (2, (.int .i64 1)), (3, (.int .i64 1))]) T.el116_encI [1, 1, 1, 1] rfl (by decide) rfl (fun a ha => by simp [ha.ev (show ev _ (.const (.int .i64 1)) = some _ from rfl), ha.ev (show ev _ (.const (.int .i64 1)) = some _ from rfl), ha.ev (show ev _ (.const (.int .i64 1)) = some _ from rfl), ha.ev (show ev _ (.const (.int .i64 1)) = some _ from rfl)]) (fun w => by kernel_rfl) hH26 (fun u27 lo29 hi30 w28 hH31 => ?_)
  have hev34 : Fn Try.prog 51 [u27].toArray _ _ := c51 (Heap.rdw T.el116_encI hH31 (n := 0) rfl) (by simp)
  simp only [K.n] at hev34
  refine op_fn rfl rfl rfl hH31 (hev34) (fun u35 w32 lo36 hi37 hH33 hv38 => ?_)
  have hH39 := Heap.toOw hH33 (n := 0) rfl
  refine ops_y hH39 rfl rfl (yv_assign rfl) ?_
  refine ops_y hH39 rfl rfl (yv_assign rfl) ?_
  refine ops_y hH39 rfl rfl (yv_assign rfl) ?_
  refine ops_nil ?_
  refine thn_n ?_
  refine seq ?_
  refine region ?_
  refine op_lit (us := [(0, (.int .i64 0)), (1, (.int .i64 6)), (2, (.int .i64 3)), (3, (.int .i64 10)), (4, (.int .i64 8)), (5, (.int .i64 0))]) T.el116_encI [0, 6, 3, 10, 8, 0] rfl (by decide) rfl (fun a ha => by simp [ha.ev (show ev _ (.const (.int .i64 0)) = some _ from rfl), ha.ev (show ev _ (.const (.int .i64 6)) = some _ from rfl), ha.ev (show ev _ (.const (.int .i64 3)) = some _ from rfl), ha.ev (show ev _ (.const (.int .i64 10)) = some _ from rfl), ha.ev (show ev _ (.const (.int .i64 8)) = some _ from rfl), ha.ev (show ev _ (.const (.int .i64 0)) = some _ from rfl)]) (fun w => by kernel_rfl) hH39 (fun u40 lo42 hi43 w41 hH44 => ?_)
  have hev47 : Fn Try.prog 52 [u40].toArray _ _ := c52 (Heap.rdw T.el116_encI hH44 (n := 0) rfl) (by simp)
  simp only [K.p] at hev47
  refine op_fn rfl rfl rfl hH44 (hev47) (fun u48 w45 lo49 hi50 hH46 hv51 => ?_)
  have hH52 := Heap.toOw hH46 (n := 0) rfl
  refine ops_y hH52 rfl rfl (yv_assign rfl) ?_
  refine ops_nil ?_
  refine thn_n ?_
  refine seq ?_
  refine region ?_
  refine ops_y hH52 rfl rfl (yv_move rfl) ?_
  have hev55 : Fn Try.prog 26 [u9].toArray _ _ := c26 (Heap.rdw T.el22_encP hH52 (n := 6) rfl) (by first | omega | simp)
  simp only [K.sl] at hev55
  refine op_fnV rfl rfl rfl hH52 (hev55) (fun w53 hH54 => ?_)
  refine ops_y hH54 rfl rfl (yv_move rfl) ?_
  refine ops_y hH54 rfl rfl (yv_extract rfl rfl) ?_
  refine ops_y hH54 rfl rfl (yv_extract rfl rfl) ?_
  refine ops_y hH54 rfl rfl (yv_assign rfl) ?_
  refine ops_y hH54 rfl rfl (yv_assign rfl) ?_
  refine ops_nil ?_
  refine thn_n ?_
  refine seq ?_
  refine region ?_
  refine ops_y hH54 rfl rfl (yv_move rfl) ?_
  have hev58 : Fn Try.prog 26 [u22].toArray _ _ := c26 (Heap.rdw T.el22_encP hH54 (n := 4) rfl) (by first | omega | simp)
  simp only [K.sm] at hev58
  refine op_fnV rfl rfl rfl hH54 (hev58) (fun w56 hH57 => ?_)
  refine ops_y hH57 rfl rfl (yv_move rfl) ?_
  refine ops_y hH57 rfl rfl (yv_extract rfl rfl) ?_
  refine ops_y hH57 rfl rfl (yv_extract rfl rfl) ?_
  refine ops_y hH57 rfl rfl (yv_assign rfl) ?_
  refine ops_y hH57 rfl rfl (yv_assign rfl) ?_
  refine ops_nil ?_
  refine thn_n ?_
  refine seq ?_
  refine region ?_
  refine ops_y hH57 rfl rfl (yv_move rfl) ?_
  have hev61 : Fn Try.prog 28 [u22].toArray _ _ := c28 (Heap.rdw T.el22_encP hH57 (n := 4) rfl) (by first | omega | simp)
  simp only [K.tm] at hev61
  refine op_fnV rfl rfl rfl hH57 (hev61) (fun w59 hH60 => ?_)
  refine ops_y hH60 rfl rfl (yv_move rfl) ?_
  refine ops_y hH60 rfl rfl (yv_extract rfl rfl) ?_
  refine ops_y hH60 rfl rfl (yv_extract rfl rfl) ?_
  refine ops_y hH60 rfl rfl (yv_extract rfl rfl) ?_
  refine ops_y hH60 rfl rfl (yv_assign rfl) ?_
  refine ops_y hH60 rfl rfl (yv_assign rfl) ?_
  refine ops_y hH60 rfl rfl (yv_assign rfl) ?_
  refine ops_nil ?_
  refine thn_n ?_
  refine seq ?_
  refine region ?_
  refine ops_y hH60 rfl rfl (yv_move rfl) ?_
  have hev64 : Fn Try.prog 24 [u9, (.int .i64 2), (.int .i64 2)].toArray _ _ := c24 (Heap.rdw T.el22_encP hH60 (n := 6) rfl) (by first | omega | simp)
  simp only [K.bl] at hev64
  refine op_fnV rfl rfl rfl hH60 (hev64) (fun w62 hH63 => ?_)
  refine ops_y hH63 rfl rfl (yv_move rfl) ?_
  refine ops_y hH63 rfl rfl (yv_extract rfl rfl) ?_
  refine ops_y hH63 rfl rfl (yv_extract rfl rfl) ?_
  refine ops_y hH63 rfl rfl (yv_assign rfl) ?_
  refine ops_y hH63 rfl rfl (yv_assign rfl) ?_
  refine ops_nil ?_
  refine thn_n ?_
  refine seq ?_
  refine region ?_
  refine ops_y hH63 rfl rfl (yv_move rfl) ?_
  refine ops_y hH63 rfl rfl (yv_move rfl) ?_
  have hev67 : Fn Try.prog 18 [u9, u48].toArray _ _ := c18 (Heap.rdw T.el22_encP hH63 (n := 6) rfl) (Heap.rdw T.el23_encP hH63 (n := 0) rfl) (by first | omega | simp) (by first | omega | simp)
  simp only [K.cp] at hev67
  refine op_fnV rfl rfl rfl hH63 (hev67) (fun w65 hH66 => ?_)
  refine ops_y hH66 rfl rfl (yv_move rfl) ?_
  refine ops_y hH66 rfl rfl (yv_extract rfl rfl) ?_
  refine ops_y hH66 rfl rfl (yv_extract rfl rfl) ?_
  refine ops_y hH66 rfl rfl (yv_assign rfl) ?_
  refine ops_y hH66 rfl rfl (yv_assign rfl) ?_
  refine ops_nil ?_
  refine thn_n ?_
  refine seq ?_
  refine region ?_
  refine ops_y hH66 rfl rfl (yv_move rfl) ?_
  refine op_lit (us := [(0, (.int .i64 0)), (1, (.int .i64 6)), (2, (.int .i64 3)), (3, (.int .i64 10)), (4, (.int .i64 7)), (5, (.int .i64 0))]) T.el116_encI [0, 6, 3, 10, 7, 0] rfl (by decide) rfl (fun a ha => by simp [ha.ev (show ev _ (.const (.int .i64 0)) = some _ from rfl), ha.ev (show ev _ (.const (.int .i64 6)) = some _ from rfl), ha.ev (show ev _ (.const (.int .i64 3)) = some _ from rfl), ha.ev (show ev _ (.const (.int .i64 10)) = some _ from rfl), ha.ev (show ev _ (.const (.int .i64 7)) = some _ from rfl), ha.ev (show ev _ (.const (.int .i64 0)) = some _ from rfl)]) (fun w => by kernel_rfl) hH66 (fun u68 lo70 hi71 w69 hH72 => ?_)
  have hev75 : Fn Try.prog 52 [u68].toArray _ _ := c52 (Heap.rdw T.el116_encI hH72 (n := 0) rfl) (by simp)
  simp only [K.p7] at hev75
  refine op_fn rfl rfl rfl hH72 (hev75) (fun u76 w73 lo77 hi78 hH74 hv79 => ?_)
  have hH80 := Heap.toOw hH74 (n := 0) rfl
  have hev83 : Fn Try.prog 18 [u9, u76].toArray _ _ := c18 (Heap.rdw T.el22_encP hH80 (n := 8) rfl) (Heap.rdw T.el23_encP hH80 (n := 0) rfl) (by first | omega | simp) (by first | omega | simp)
  simp only [K.cp7] at hev83
  refine op_fnV rfl rfl rfl hH80 (hev83) (fun w81 hH82 => ?_)
  refine ops_y hH82 rfl rfl (yv_move rfl) ?_
  refine ops_y hH82 rfl rfl (yv_extract rfl rfl) ?_
  refine ops_y hH82 rfl rfl (yv_extract rfl rfl) ?_
  refine ops_y hH82 rfl rfl (yv_assign rfl) ?_
  refine ops_y hH82 rfl rfl (yv_assign rfl) ?_
  refine ops_nil ?_
  refine thn_n ?_
  refine seq ?_
  refine region ?_
  refine ops_y hH82 rfl rfl (yv_move rfl) ?_
  refine op_lit (us := [(0, (.int .i64 0)), (1, (.int .i64 5))]) T.el116_encI [0, 5] rfl (by decide) rfl (fun a ha => by simp [ha.ev (show ev _ (.const (.int .i64 0)) = some _ from rfl), ha.ev (show ev _ (.const (.int .i64 5)) = some _ from rfl)]) (fun w => by kernel_rfl) hH82 (fun u84 lo86 hi87 w85 hH88 => ?_)
  have hev91 : Fn Try.prog 52 [u84].toArray _ _ := c52 (Heap.rdw T.el116_encI hH88 (n := 0) rfl) (by simp)
  simp only [K.t] at hev91
  refine op_fn rfl rfl rfl hH88 (hev91) (fun u92 w89 lo93 hi94 hH90 hv95 => ?_)
  have hH96 := Heap.toOw hH90 (n := 0) rfl
  have hev99 : Fn Try.prog 20 [u22, u92, (.int .i64 1)].toArray _ _ := c20 (Heap.rdw T.el22_encP hH96 (n := 8) rfl) (Heap.rdw T.el23_encP hH96 (n := 0) rfl) (by first | omega | simp) (by first | omega | simp)
  simp only [K.idm] at hev99
  refine op_fnV rfl rfl rfl hH96 (hev99) (fun w97 hH98 => ?_)
  refine ops_y hH98 rfl rfl (yv_move rfl) ?_
  refine ops_y hH98 rfl rfl (yv_extract rfl rfl) ?_
  refine ops_y hH98 rfl rfl (yv_extract rfl rfl) ?_
  refine ops_y hH98 rfl rfl (yv_assign rfl) ?_
  refine ops_y hH98 rfl rfl (yv_assign rfl) ?_
  refine ops_nil ?_
  refine thn_n ?_
  refine seq ?_
  refine region ?_
  refine ops_y hH98 rfl rfl (yv_move rfl) ?_
  have hev102 : Fn Try.prog 30 [u9].toArray _ _ := c30 (Heap.rdw T.el22_encP hH98 (n := 10) rfl) (by first | omega | simp)
  simp only [hpl] at hev102
  refine op_fn rfl rfl rfl hH98 (hev102) (fun u103 w100 lo104 hi105 hH101 hv106 => ?_)
  obtain ⟨p108, hu, -⟩ := hv106
  subst hu
  have hH107 := Heap.tup2 hH101 (n := 0) rfl
  refine ops_y hH107 rfl rfl (yv_move rfl) ?_
  refine ops_y hH107 rfl rfl (yv_extract rfl rfl) ?_
  refine ops_y hH107 rfl rfl (yv_extract rfl rfl) ?_
  refine ops_y hH107 rfl rfl (yv_assign rfl) ?_
  refine ops_y hH107 rfl rfl (yv_assign rfl) ?_
  refine ops_nil ?_
  refine thn_n ?_
  refine seq ?_
  refine region ?_
  refine ops_y hH107 rfl rfl (yv_move rfl) ?_
  refine op_fn rfl rfl rfl hH107 (c54) (fun u111 w109 lo112 hi113 hH110 hv114 => ?_)
  obtain ⟨ob115, ot116, of117, hu, -⟩ := hv114
  subst hu
  have hH118 := Heap.rd3 hH110 (n := 0) rfl
  have hev121 : Fn Try.prog 32 [u9, (.agg #[ob115, ot116, of117])].toArray _ _ := c32 (Heap.rdw T.el22_encP hH118 (n := 12) rfl) ((Heap.getRd3 hH118 (n := 0) rfl).1) ((Heap.getRd3 hH118 (n := 0) rfl).2.1) ((Heap.getRd3 hH118 (n := 0) rfl).2.2) (by first | omega | simp) (by first | omega | simp) (by first | omega | simp) (by first | omega | simp)
  simp only [K.pyl] at hev121
  refine op_fn rfl rfl rfl hH118 (hev121) (fun u122 w119 lo123 hi124 hH120 hv125 => ?_)
  obtain ⟨p127, hu, -⟩ := hv125
  subst hu
  have hH126 := Heap.tup2 hH120 (n := 0) rfl
  refine ops_y hH126 rfl rfl (yv_move rfl) ?_
  refine ops_y hH126 rfl rfl (yv_extract rfl rfl) ?_
  refine ops_y hH126 rfl rfl (yv_extract rfl rfl) ?_
  refine ops_y hH126 rfl rfl (yv_assign rfl) ?_
  refine ops_y hH126 rfl rfl (yv_assign rfl) ?_
  refine ops_nil ?_
  refine thn_n ?_
  refine seq ?_
  refine region ?_
  refine ops_y hH126 rfl rfl (yv_move rfl) ?_
  refine op_fn rfl rfl rfl hH126 (c53) (fun u130 w128 lo131 hi132 hH129 hv133 => ?_)
  obtain ⟨ob134, ot135, of136, hu, -⟩ := hv133
  subst hu
  have hH137 := Heap.rd3 hH129 (n := 0) rfl
  have hev140 : Fn Try.prog 32 [u35, (.agg #[ob134, ot135, of136])].toArray _ _ := c32 (Heap.rdw T.el22_encP hH137 (n := 10) rfl) ((Heap.getRd3 hH137 (n := 0) rfl).1) ((Heap.getRd3 hH137 (n := 0) rfl).2.1) ((Heap.getRd3 hH137 (n := 0) rfl).2.2) (by first | omega | simp) (by first | omega | simp) (by first | omega | simp) (by first | omega | simp)
  simp only [K.pyn] at hev140
  refine op_fn rfl rfl rfl hH137 (hev140) (fun u141 w138 lo142 hi143 hH139 hv144 => ?_)
  obtain ⟨p146, hu, -⟩ := hv144
  subst hu
  have hH145 := Heap.tup2 hH139 (n := 0) rfl
  refine ops_y hH145 rfl rfl (yv_move rfl) ?_
  refine ops_y hH145 rfl rfl (yv_extract rfl rfl) ?_
  refine ops_y hH145 rfl rfl (yv_extract rfl rfl) ?_
  refine ops_y hH145 rfl rfl (yv_assign rfl) ?_
  refine ops_y hH145 rfl rfl (yv_assign rfl) ?_
  refine ops_nil ?_
  refine thn_n ?_
  refine seq ?_
  refine region ?_
  refine ops_y hH145 rfl rfl (yv_move rfl) ?_
  refine op_fn rfl rfl rfl hH145 (c53) (fun u149 w147 lo150 hi151 hH148 hv152 => ?_)
  obtain ⟨ob153, ot154, of155, hu, -⟩ := hv152
  subst hu
  have hH156 := Heap.rd3 hH148 (n := 0) rfl
  refine op_lit (us := [(0, (.int .i64 0)), (1, (.int .i64 2)), (2, (.int .i64 3)), (3, (.int .i64 1))]) T.el39_encI [0, 2, 3, 1] rfl (by decide) rfl (fun a ha => by simp [ha.ev (show ev _ (.const (.int .i64 0)) = some _ from rfl), ha.ev (show ev _ (.const (.int .i64 2)) = some _ from rfl), ha.ev (show ev _ (.const (.int .i64 3)) = some _ from rfl), ha.ev (show ev _ (.const (.int .i64 1)) = some _ from rfl)]) (fun w => by kernel_rfl) hH156 (fun u157 lo159 hi160 w158 hH161 => ?_)
  refine op_fnV rfl rfl rfl hH161 (c50) (fun w162 hH163 => ?_)
  have hev166 : Fn Try.prog 39 [u35, (.agg #[ob153, ot154, of155]), u157].toArray _ _ := c39 (Heap.rdw T.el22_encP hH163 (n := 13) rfl) ((Heap.getRd3 hH163 (n := 1) rfl).1) ((Heap.getRd3 hH163 (n := 1) rfl).2.1) ((Heap.getRd3 hH163 (n := 1) rfl).2.2) (Heap.rdw T.el39_encI hH163 (n := 0) rfl) (by first | omega | simp) (by first | omega | simp) (by first | omega | simp) (by first | omega | simp) (by first | omega | simp)
  simp only [K.cc4] at hev166
  refine op_fnV rfl rfl rfl hH163 (hev166) (fun w164 hH165 => ?_)
  refine ops_y hH165 rfl rfl (yv_move rfl) ?_
  refine op_fn rfl rfl rfl hH165 (c53) (fun u169 w167 lo170 hi171 hH168 hv172 => ?_)
  obtain ⟨ob173, ot174, of175, hu, -⟩ := hv172
  subst hu
  have hH176 := Heap.rd3 hH168 (n := 0) rfl
  refine op_lit (us := [(0, (.int .i64 0)), (1, (.int .i64 2))]) T.el39_encI [0, 2] rfl (by decide) rfl (fun a ha => by simp [ha.ev (show ev _ (.const (.int .i64 0)) = some _ from rfl), ha.ev (show ev _ (.const (.int .i64 2)) = some _ from rfl)]) (fun w => by kernel_rfl) hH176 (fun u177 lo179 hi180 w178 hH181 => ?_)
  refine op_fnV rfl rfl rfl hH181 (c50) (fun w182 hH183 => ?_)
  have hev186 : Fn Try.prog 39 [u35, (.agg #[ob173, ot174, of175]), u177].toArray _ _ := c39 (Heap.rdw T.el22_encP hH183 (n := 15) rfl) ((Heap.getRd3 hH183 (n := 1) rfl).1) ((Heap.getRd3 hH183 (n := 1) rfl).2.1) ((Heap.getRd3 hH183 (n := 1) rfl).2.2) (Heap.rdw T.el39_encI hH183 (n := 0) rfl) (by first | omega | simp) (by first | omega | simp) (by first | omega | simp) (by first | omega | simp) (by first | omega | simp)
  simp only [K.cc2] at hev186
  refine op_fnV rfl rfl rfl hH183 (hev186) (fun w184 hH185 => ?_)
  refine ops_y hH185 rfl rfl (yv_assign rfl) ?_
  refine ops_y hH185 rfl rfl (yv_assign rfl) ?_
  refine ops_nil ?_
  refine thn_n ?_
  refine seq ?_
  refine region ?_
  refine ops_y hH185 rfl rfl (yv_move rfl) ?_
  refine op_fn rfl rfl rfl hH185 (c53) (fun u189 w187 lo190 hi191 hH188 hv192 => ?_)
  obtain ⟨ob193, ot194, of195, hu, -⟩ := hv192
  subst hu
  have hH196 := Heap.rd3 hH188 (n := 0) rfl
  have hev199 : Fn Try.prog 37 [u35, (.agg #[ob193, ot194, of195])].toArray _ _ := c37 (Heap.rdw T.el22_encP hH196 (n := 16) rfl) ((Heap.getRd3 hH196 (n := 0) rfl).1) ((Heap.getRd3 hH196 (n := 0) rfl).2.1) ((Heap.getRd3 hH196 (n := 0) rfl).2.2) (by first | omega | simp | (simp only [List.length_map]; omega)) (by first | omega | simp | (simp only [List.length_map]; omega)) (by first | omega | simp | (simp only [List.length_map]; omega)) (by first | omega | simp | (simp only [List.length_map]; omega))
  simp only [K.cen] at hev199
  refine op_fn rfl rfl rfl hH196 (hev199) (fun u200 w197 lo201 hi202 hH198 hv203 => ?_)
  obtain ⟨q204, c205, hu, ho208, hcok206⟩ := hv203
  subst hu
  have hH207 := Heap.toOwAny hH198 (n := 0) rfl (fun w' h => by obtain ⟨_, ys, e, h, _⟩ := h; cases e; exact ⟨ys, h⟩) ho208
  refine ops_y hH207 rfl rfl (yv_move rfl) ?_
  refine ops_y hH207 rfl rfl (yv_extract rfl rfl) ?_
  refine ops_y hH207 rfl rfl (yv_extract rfl rfl) ?_
  refine ops_y hH207 rfl rfl (yv_assign rfl) ?_
  refine ops_y hH207 rfl rfl (yv_assign rfl) ?_
  refine ops_nil ?_
  refine thn_n ?_
  refine seq ?_
  have hcc0 := hcok206.2.1 K.cen
  have hcl : c205.length ≤ 4 := hcok206.2.2
  refine region ?_
  refine ops_y hH207 rfl rfl (yv_move rfl) ?_
  refine op_fn rfl rfl rfl hH207 (c54) (fun u211 w209 lo212 hi213 hH210 hv214 => ?_)
  obtain ⟨ob215, ot216, of217, hu, -⟩ := hv214
  subst hu
  have hH218 := Heap.rd3 hH210 (n := 0) rfl
  have hev221 : Fn Try.prog 37 [u9, (.agg #[ob215, ot216, of217])].toArray _ _ := c37 (Heap.rdw T.el22_encP hH218 (n := 22) rfl) ((Heap.getRd3 hH218 (n := 0) rfl).1) ((Heap.getRd3 hH218 (n := 0) rfl).2.1) ((Heap.getRd3 hH218 (n := 0) rfl).2.2) (by first | omega | simp | (simp only [List.length_map]; omega)) (by first | omega | simp | (simp only [List.length_map]; omega)) (by first | omega | simp | (simp only [List.length_map]; omega)) (by first | omega | simp | (simp only [List.length_map]; omega))
  simp only [K.cel] at hev221
  refine op_fn rfl rfl rfl hH218 (hev221) (fun u222 w219 lo223 hi224 hH220 hv225 => ?_)
  obtain ⟨q226, c227, hu, ho230, hcok228⟩ := hv225
  subst hu
  have hH229 := Heap.toOwAny hH220 (n := 0) rfl (fun w' h => by obtain ⟨_, ys, e, h, _⟩ := h; cases e; exact ⟨ys, h⟩) ho230
  refine ops_y hH229 rfl rfl (yv_move rfl) ?_
  refine ops_y hH229 rfl rfl (yv_extract rfl rfl) ?_
  refine ops_y hH229 rfl rfl (yv_extract rfl rfl) ?_
  refine ops_y hH229 rfl rfl (yv_assign rfl) ?_
  refine ops_y hH229 rfl rfl (yv_assign rfl) ?_
  refine ops_nil ?_
  refine thn_n ?_
  refine seq ?_
  refine region ?_
  refine ops_y hH229 rfl rfl (yv_move rfl) ?_
  have hev233 : Fn Try.prog 24 [u9, (.int .i64 3), (.int .i64 0)].toArray _ _ := c24 (Heap.rdw T.el22_encP hH229 (n := 23) rfl) (by first | omega | simp)
  simp only [K.bl3] at hev233
  refine op_fnV rfl rfl rfl hH229 (hev233) (fun w231 hH232 => ?_)
  refine ops_y hH232 rfl rfl (yv_move rfl) ?_
  refine ops_y hH232 rfl rfl (yv_extract rfl rfl) ?_
  refine ops_y hH232 rfl rfl (yv_extract rfl rfl) ?_
  refine ops_y hH232 rfl rfl (yv_assign rfl) ?_
  refine ops_y hH232 rfl rfl (yv_assign rfl) ?_
  refine ops_nil ?_
  refine thn_n ?_
  refine seq ?_
  refine seq ?_
  refine region ?_
  refine ops_y hH232 rfl rfl (yv_move rfl) ?_
  refine ops_y hH232 rfl rfl (yv_castB rfl (yv_neq rfl rfl)) ?_
  refine ops_y hH232 rfl rfl (yv_move rfl) ?_
  refine guard_yes rfl rfl rfl ?_
  refine ops_y hH232 rfl rfl (yv_move rfl) ?_
  refine guard_yes rfl rfl rfl ?_
  refine ops_y hH232 rfl rfl (yv_castB rfl (yv_neq rfl rfl)) ?_
  refine ops_y hH232 rfl rfl (yv_pick_f rfl rfl rfl) ?_
  refine ops_y hH232 rfl rfl (yv_move rfl) ?_
  refine guard_yes rfl rfl rfl ?_
  refine ops_y hH232 rfl rfl (yv_move rfl) ?_
  refine guard_yes rfl rfl rfl ?_
  refine ops_y hH232 rfl rfl (yv_castB rfl (yv_neq rfl rfl)) ?_
  refine ops_y hH232 rfl rfl (yv_pick_f rfl rfl rfl) ?_
  refine ops_y hH232 rfl rfl (yv_move rfl) ?_
  refine guard_yes rfl rfl rfl ?_
  refine ops_y hH232 rfl rfl (yv_move rfl) ?_
  refine guard_yes rfl rfl rfl ?_
  refine ops_y hH232 rfl rfl (yv_castB rfl (yv_neq rfl rfl)) ?_
  refine ops_y hH232 rfl rfl (yv_pick_f rfl rfl rfl) ?_
  refine ops_y hH232 rfl rfl (yv_move rfl) ?_
  refine guard_yes rfl rfl rfl ?_
  refine ops_y hH232 rfl rfl (yv_move rfl) ?_
  refine guard_yes rfl rfl rfl ?_
  refine ops_y hH232 rfl rfl (yv_castB rfl (yv_neq rfl rfl)) ?_
  refine ops_y hH232 rfl rfl (yv_pick_f rfl rfl rfl) ?_
  refine ops_y hH232 rfl rfl (yv_move rfl) ?_
  refine guard_yes rfl rfl rfl ?_
  refine ops_y hH232 rfl rfl (yv_move rfl) ?_
  refine guard_yes rfl rfl rfl ?_
  refine ops_y hH232 rfl rfl (yv_castB rfl (yv_neq rfl rfl)) ?_
  refine ops_y hH232 rfl rfl (yv_pick_f rfl rfl rfl) ?_
  refine ops_y hH232 rfl rfl (yv_move rfl) ?_
  refine guard_yes rfl rfl rfl ?_
  refine ops_y hH232 rfl rfl (yv_move rfl) ?_
  refine guard_yes rfl rfl rfl ?_
  refine ops_y hH232 rfl rfl (yv_castB rfl (yv_neq rfl rfl)) ?_
  refine ops_y hH232 rfl rfl (yv_pick_f rfl rfl rfl) ?_
  refine ops_y hH232 rfl rfl (yv_move rfl) ?_
  refine guard_yes rfl rfl rfl ?_
  refine ops_y hH232 rfl rfl (yv_move rfl) ?_
  refine guard_yes rfl rfl rfl ?_
  refine ops_y hH232 rfl rfl (yv_castB rfl (yv_neq rfl rfl)) ?_
  refine ops_y hH232 rfl rfl (yv_pick_f rfl rfl rfl) ?_
  refine ops_y hH232 rfl rfl (yv_move rfl) ?_
  refine guard_yes rfl rfl rfl ?_
  refine ops_y hH232 rfl rfl (yv_move rfl) ?_
  refine guard_yes rfl rfl rfl ?_
  refine ops_y hH232 rfl rfl (yv_castB rfl (yv_neq rfl rfl)) ?_
  refine ops_y hH232 rfl rfl (yv_pick_f rfl rfl rfl) ?_
  refine ops_y hH232 rfl rfl (yv_move rfl) ?_
  refine guard_yes rfl rfl rfl ?_
  refine ops_y hH232 rfl rfl (yv_move rfl) ?_
  refine guard_yes rfl rfl rfl ?_
  refine ops_y hH232 rfl rfl (yv_castB rfl (yv_neq rfl rfl)) ?_
  refine ops_y hH232 rfl rfl (yv_pick_f rfl rfl rfl) ?_
  refine ops_y hH232 rfl rfl (yv_move rfl) ?_
  refine guard_yes rfl rfl rfl ?_
  refine ops_y hH232 rfl rfl (yv_move rfl) ?_
  refine guard_yes rfl rfl rfl ?_
  refine ops_y hH232 rfl rfl (yv_castB rfl (yv_neq rfl rfl)) ?_
  refine ops_y hH232 rfl rfl (yv_pick_f rfl rfl rfl) ?_
  refine ops_y hH232 rfl rfl (yv_move rfl) ?_
  refine guard_yes rfl rfl rfl ?_
  refine ops_y hH232 rfl rfl (yv_move rfl) ?_
  refine guard_yes rfl rfl rfl ?_
  refine ops_y hH232 rfl rfl (yv_castB rfl (yv_neq rfl rfl)) ?_
  refine ops_y hH232 rfl rfl (yv_pick_f rfl rfl rfl) ?_
  refine ops_y hH232 rfl rfl (yv_move rfl) ?_
  refine guard_yes rfl rfl rfl ?_
  refine ops_y hH232 rfl rfl (yv_move rfl) ?_
  refine guard_yes rfl rfl rfl ?_
  refine ops_y hH232 rfl rfl (yv_castB rfl (yv_neq rfl rfl)) ?_
  refine ops_y hH232 rfl rfl (yv_pick_f rfl rfl rfl) ?_
  refine ops_y hH232 rfl rfl (yv_move rfl) ?_
  refine guard_yes rfl rfl rfl ?_
  refine ops_y hH232 rfl rfl (yv_move rfl) ?_
  refine guard_yes rfl rfl rfl ?_
  refine ops_y hH232 rfl rfl (yv_castB rfl (yv_neq rfl rfl)) ?_
  refine ops_y hH232 rfl rfl (yv_pick_f rfl rfl rfl) ?_
  refine ops_y hH232 rfl rfl (yv_move rfl) ?_
  refine guard_yes rfl rfl rfl ?_
  refine ops_y hH232 rfl rfl (yv_move rfl) ?_
  refine guard_yes rfl rfl rfl ?_
  refine ops_y hH232 rfl rfl (yv_castB rfl (yv_neq rfl rfl)) ?_
  refine ops_y hH232 rfl rfl (yv_pick_f rfl rfl rfl) ?_
  refine ops_nil ?_
  refine thn_n ?_
  refine cond_f rfl rfl ?_
  refine skip ?_
  refine thn_n ?_
  refine seq ?_
  refine region ?_
  refine ops_y hH232 rfl rfl (yv_move rfl) ?_
  refine ops_y hH232 rfl rfl (yv_move rfl) ?_
  have hev236 : Fn Try.prog 19 [u9, p108].toArray _ _ := c19 (Heap.rdw T.el22_encP hH232 (n := 23) rfl) (Heap.rdw T.el23_encP hH232 (n := 12) rfl) (by first | omega | simp) (by first | omega | simp)
  simp only [hpc] at hev236
  refine op_fnV rfl rfl rfl hH232 (hev236) (fun w234 hH235 => ?_)
  refine ops_y hH235 rfl rfl (yv_move rfl) ?_
  refine ops_y hH235 rfl rfl (yv_extract rfl rfl) ?_
  refine ops_y hH235 rfl rfl (yv_extract rfl rfl) ?_
  refine ops_y hH235 rfl rfl (yv_assign rfl) ?_
  refine ops_y hH235 rfl rfl (yv_assign rfl) ?_
  refine ops_nil ?_
  refine thn_n ?_
  refine seq ?_
  refine region ?_
  refine ops_y hH235 rfl rfl (yv_move rfl) ?_
  refine ops_y hH235 rfl rfl (yv_castB rfl (yv_eql rfl rfl)) ?_
  refine ops_y hH235 rfl rfl (yv_move rfl) ?_
  refine guard_yes rfl rfl rfl ?_
  refine ops_y hH235 rfl rfl (yv_move rfl) ?_
  refine guard_yes rfl rfl rfl ?_
  refine ops_y hH235 rfl rfl (yv_castB rfl (yv_eql rfl rfl)) ?_
  refine ops_y hH235 rfl rfl (yv_pick_t rfl rfl rfl) ?_
  refine ops_y hH235 rfl rfl (yv_move rfl) ?_
  refine guard_yes rfl rfl rfl ?_
  refine ops_y hH235 rfl rfl (yv_move rfl) ?_
  refine guard_yes rfl rfl rfl ?_
  refine ops_y hH235 rfl rfl (yv_castB rfl (yv_eql rfl rfl)) ?_
  refine ops_y hH235 rfl rfl (yv_pick_t rfl rfl rfl) ?_
  refine ops_y hH235 rfl rfl (yv_move rfl) ?_
  refine guard_yes rfl rfl rfl ?_
  refine ops_y hH235 rfl rfl (yv_move rfl) ?_
  refine guard_yes rfl rfl rfl ?_
  refine ops_y hH235 rfl rfl (yv_castB rfl (yv_eql rfl rfl)) ?_
  refine ops_y hH235 rfl rfl (yv_pick_t rfl rfl rfl) ?_
  refine ops_y hH235 rfl rfl (yv_move rfl) ?_
  refine guard_yes rfl rfl rfl ?_
  refine ops_y hH235 rfl rfl (yv_move rfl) ?_
  refine guard_yes rfl rfl rfl ?_
  refine ops_y hH235 rfl rfl (yv_castB rfl (yv_eql rfl rfl)) ?_
  refine ops_y hH235 rfl rfl (yv_pick_t rfl rfl rfl) ?_
  refine ops_y hH235 rfl rfl (yv_move rfl) ?_
  refine guard_yes rfl rfl rfl ?_
  refine ops_y hH235 rfl rfl (yv_move rfl) ?_
  refine guard_yes rfl rfl rfl ?_
  refine ops_y hH235 rfl rfl (yv_castB rfl (yv_eql rfl rfl)) ?_
  refine ops_y hH235 rfl rfl (yv_pick_t rfl rfl rfl) ?_
  refine ops_y hH235 rfl rfl (yv_move rfl) ?_
  refine guard_yes rfl rfl rfl ?_
  refine ops_y hH235 rfl rfl (yv_move rfl) ?_
  refine guard_yes rfl rfl rfl ?_
  refine ops_y hH235 rfl rfl (yv_castB rfl (yv_eql rfl rfl)) ?_
  refine ops_y hH235 rfl rfl (yv_pick_t rfl rfl rfl) ?_
  refine ops_y hH235 rfl rfl (yv_move rfl) ?_
  refine guard_yes rfl rfl rfl ?_
  refine ops_y hH235 rfl rfl (yv_move rfl) ?_
  refine guard_yes rfl rfl rfl ?_
  refine ops_y hH235 rfl rfl (yv_castB rfl (yv_eql rfl rfl)) ?_
  refine ops_y hH235 rfl rfl (yv_pick_t rfl rfl rfl) ?_
  refine ops_y hH235 rfl rfl (yv_move rfl) ?_
  refine guard_yes rfl rfl rfl ?_
  refine ops_y hH235 rfl rfl (yv_move rfl) ?_
  refine guard_yes rfl rfl rfl ?_
  refine ops_y hH235 rfl rfl (yv_castB rfl (yv_eql rfl rfl)) ?_
  refine ops_y hH235 rfl rfl (yv_pick_t rfl rfl rfl) ?_
  refine ops_y hH235 rfl rfl (yv_move rfl) ?_
  refine guard_yes rfl rfl rfl ?_
  refine ops_y hH235 rfl rfl (yv_move rfl) ?_
  refine guard_yes rfl rfl rfl ?_
  refine ops_y hH235 rfl rfl (yv_move rfl) ?_
  refine guard_yes rfl rfl rfl ?_
  refine op_fnV rfl rfl rfl hH235 (c36 (Heap.rdw T.el23_encP hH235 (n := 10) rfl) (Heap.rdw T.el23_encP hH235 (n := 17) rfl) (by first | omega | simp) (by first | omega | simp)) (fun w237 hH238 => ?_)
  refine ops_y hH238 rfl rfl (yv_pick_t rfl rfl rfl) ?_
  refine ops_y hH238 rfl rfl (yv_move rfl) ?_
  refine guard_yes rfl rfl (decide_eq_true rfl) ?_
  refine ops_y hH238 rfl rfl (yv_move rfl) ?_
  refine guard_yes rfl rfl (decide_eq_true rfl) ?_
  refine op_fn rfl rfl rfl hH238 (c53) (fun u241 w239 lo242 hi243 hH240 hv244 => ?_)
  obtain ⟨ob245, ot246, of247, hu, -⟩ := hv244
  subst hu
  have hH248 := Heap.rd3 hH240 (n := 0) rfl
  refine guard_yes rfl rfl (decide_eq_true rfl) ?_
  refine ops_y hH248 rfl rfl (yv_move rfl) ?_
  refine guard_yes rfl rfl (decide_eq_true rfl) ?_
  have hev251 : Fn Try.prog 40 [u35, (.agg #[ob245, ot246, of247]), q204].toArray _ _ := c40 (Heap.rdw T.el22_encP hH248 (n := 20) rfl) ((Heap.getRd3 hH248 (n := 0) rfl).1) ((Heap.getRd3 hH248 (n := 0) rfl).2.1) ((Heap.getRd3 hH248 (n := 0) rfl).2.2) (Heap.rdw T.el39_encI hH248 (n := 3) rfl) (by simp) (by simp) (by simp) (by simp) (by omega)
  simp only [hcc0] at hev251
  refine op_fnV rfl rfl rfl hH248 (hev251) (fun w249 hH250 => ?_)
  refine guard_yes rfl rfl (decide_eq_true rfl) ?_
  refine ops_y hH250 rfl rfl (yv_castB rfl (yv_eql rfl rfl)) ?_
  refine ops_y hH250 rfl rfl (yv_pick_t rfl (decide_eq_true rfl) rfl) ?_
  refine ops_y hH250 rfl rfl (yv_assign rfl) ?_
  refine ops_nil ?_
  refine thn_n ?_
  refine ret ?_
  have hH252 := (hH250.sub (List.Sublist.cons _ (List.Sublist.cons _ (List.Sublist.cons _ (List.Sublist.cons _ (List.Sublist.cons _ (List.Sublist.cons _ (List.Sublist.cons _ (List.Sublist.cons _ (List.Sublist.cons _ (List.Sublist.cons _ (List.Sublist.cons _ (List.Sublist.cons _ (List.Sublist.cons _ (List.Sublist.cons _ (List.Sublist.cons _ (List.Sublist.cons _ (List.Sublist.cons _ (List.Sublist.cons _ (List.Sublist.cons _ (List.Sublist.cons _ (List.Sublist.cons _ (List.Sublist.cons _ (List.Sublist.cons _ (List.Sublist.cons _ (List.Sublist.cons _ (List.Sublist.cons _ (List.Sublist.refl _))))))))))))))))))))))))))))
  refine fin hH252 (fun w' hf => (res1 rfl (show RV _ _ _ (.tmp 0) _ from rfl))) (fun w' hf => ?_)
  rfl

end Go.Fip
