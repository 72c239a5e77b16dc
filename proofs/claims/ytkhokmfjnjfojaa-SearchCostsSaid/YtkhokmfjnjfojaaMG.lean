/- Joined texts: Wt, Wu, Wv, Ww, Qs. -/
import Derived.Test.YtkhokmfjnjfojaaMF
import Derived.Test.YtkhokmfjnjfojaaMB
import Derived.Test.YtkhokmfjnjfojaaMD
import Derived.Test.YtkhokmfjnjfojaaMC
import Derived.Test.YtkhokmfjnjfojaaME
set_option linter.unusedVariables false
set_option linter.unusedSimpArgs false
set_option linter.unusedSectionVars false
set_option linter.unnecessarySimpa false
namespace Go.Fip
open Go.Proofs Go.RowKit

theorem e107 {a : Int} {w : World} :
    FnE Try.prog 107 [(.int .i64 a)].toArray w (.bool false) := by
  refine fnE_of (args := [(.int .i64 a)]) Try.func107 rfl (ent Try.func107 (by kernel_rfl) rfl) rfl rfl (fun hH => ?_)
  refine seq (region (ops_y hH rfl rfl (yv_assign rfl) (ops_nil (thn_n (seq (region (ops_y hH rfl rfl (yv_move rfl) (ops_y hH rfl rfl (yv_move rfl) ?_))))))))
  refine ops_y hH rfl rfl (yv_neq rfl rfl) ?_
  refine ops_y hH rfl rfl (yv_assign rfl) (ops_nil (thn_n (ret ?_)))
  refine finE (res1 rfl (show RV _ _ _ (.tmp 2) _ from rfl)) ?_
  first | rfl | (show Value.bool _ = _; congr 1; simp)

theorem e96 {a b : Int} {w : World} :
    FnE Try.prog 96 [(.int .i64 a), (.int .i64 b)].toArray w (.int .i64 (Q.cmp3 a b)) := by
  refine fnE_of (args := [(.int .i64 a), (.int .i64 b)]) Try.func96 rfl (ent Try.func96 (by kernel_rfl) rfl) rfl rfl (fun hH => ?_)
  refine seq (region (ops_y hH rfl rfl (yv_assign rfl) (ops_nil (thn_n (seq (region (ops_y hH rfl rfl (yv_move rfl) ?_)))))))
  refine op_fnE rfl rfl rfl (e107) ?_
  refine ops_y hH rfl rfl (yv_assign rfl) (ops_nil (thn_n (seq (region (ops_y hH rfl rfl (yv_move rfl) ?_)))))
  refine op_fnE rfl rfl rfl (e107) ?_
  refine ops_y hH rfl rfl (yv_assign rfl) (ops_nil (thn_n (seq (seq (region (ops_y hH rfl rfl (yv_move rfl) (ops_nil (thn_n ?_))))))))
  refine cond_f rfl rfl ?_
  refine skip (thn_n (seq (seq (region (ops_y hH rfl rfl (yv_move rfl) (ops_nil (thn_n ?_)))))))
  refine cond_f rfl rfl ?_
  refine skip (thn_n (seq (seq (region (ops_y hH rfl rfl (yv_move rfl) (ops_y hH rfl rfl (yv_move rfl) ?_))))))
  refine ops_y hH rfl rfl (yv_lss rfl rfl) ?_
  refine ops_nil (thn_n ?_)
  by_cases hc1 : a < b
  · skip
    refine cond_t rfl (decide_eq_true hc1) ?_
    refine seq (region (ops_y hH rfl rfl (yv_assign rfl) (ops_nil (thn_n (ret (thn_r ?_))))))
    refine finE (res1 rfl (show RV _ _ _ (.tmp 4) _ from rfl)) ?_
    refine congrArg (Value.int .i64) ?_; unfold Q.cmp3; first | (rw [if_pos (by omega)]; done) | (rw [if_neg (by omega), if_pos (by omega)]; done) | (rw [if_neg (by omega), if_neg (by omega)]; done)
  · skip
    refine cond_f rfl (decide_eq_false hc1) ?_
    refine skip (thn_n (seq (seq (region (ops_y hH rfl rfl (yv_move rfl) (ops_y hH rfl rfl (yv_move rfl) ?_))))))
    refine ops_y hH rfl rfl (yv_gtr rfl rfl) ?_
    refine ops_nil (thn_n ?_)
    by_cases hc2 : b < a
    · skip
      refine cond_t rfl (decide_eq_true hc2) ?_
      refine seq (region (ops_y hH rfl rfl (yv_assign rfl) (ops_nil (thn_n (ret (thn_r ?_))))))
      refine finE (res1 rfl (show RV _ _ _ (.tmp 4) _ from rfl)) ?_
      refine congrArg (Value.int .i64) ?_; unfold Q.cmp3; first | (rw [if_pos (by omega)]; done) | (rw [if_neg (by omega), if_pos (by omega)]; done) | (rw [if_neg (by omega), if_neg (by omega)]; done)
    · skip
      refine cond_f rfl (decide_eq_false hc2) ?_
      refine skip (thn_n (seq (region (ops_y hH rfl rfl (yv_assign rfl) (ops_nil (thn_n (ret ?_)))))))
      refine finE (res1 rfl (show RV _ _ _ (.tmp 4) _ from rfl)) ?_
      refine congrArg (Value.int .i64) ?_; unfold Q.cmp3; first | (rw [if_pos (by omega)]; done) | (rw [if_neg (by omega), if_pos (by omega)]; done) | (rw [if_neg (by omega), if_neg (by omega)]; done)

theorem e75 {v u : Value} {l m : List Int} {w : World} (h0 : Rd encI 1 v l w) (h1 : Rd encI 1 u m w) (hn : l.length ≤ 1000000) (hn2 : m.length ≤ 1000000) :
    FnE Try.prog 75 [v, u].toArray w (.int .i64 (Q.cmpL l m)) := by
  refine fnE_of (args := [v, u]) Try.func75 rfl (ent Try.func75 (by kernel_rfl) rfl) rfl rfl (fun hH => ?_)
  refine seq (region (ops_y hH rfl rfl (yv_assign rfl) (ops_nil (thn_n (seq (seq (region (ops_y hH rfl rfl (yv_move rfl) ?_))))))))
  refine ops_y hH rfl rfl (yv_len T.sl22 rfl (h0.now hH (n := 0) rfl).is) ?_
  refine ops_y hH rfl rfl (yv_move rfl) (ops_nil (thn_n (block ?_)))
  refine loop (S := Nat) (fun k => [(11, (.int .i64 (k : Int))), (0, v), (1, u), (9, v), (10, (.int .i64 (l.length : Int)))]) (fun k w1 => w1 = w ∧ k ≤ l.length ∧ k ≤ m.length ∧ Q.cmpL l m = Q.cmpL (l.drop k) (m.drop k)) (fun k => l.length - k) (0) (Sub.cons rfl (Sub.cons rfl (Sub.cons rfl (Sub.cons rfl (Sub.cons rfl (Sub.nil _)))))) ?_ ?_
  · exact ⟨rfl, by omega, by omega, rfl⟩
  · rintro k w1 ⟨hH2, hk, hkm, hc⟩
    rw [hH2]
    show Holds _ _ _ _ _ [(11, (.int .i64 (k : Int))), (0, v), (1, u), (9, v), (10, (.int .i64 (l.length : Int)))] _ _
    refine seq (region ?_)
    refine ops_y hH rfl rfl (yv_lss rfl rfl) ?_
    refine ops_nil (thn_n (seq ?_))
    by_cases hc3 : (k : Int) < (l.length : Int)
    · skip
      refine cond_t rfl (decide_eq_true hc3) ?_
      refine skip (thn_n (seq (block (seq (region (ops_y hH rfl rfl (yv_move rfl) ?_))))))
      refine ops_y hH rfl rfl (yv_index T.sl22 rfl rfl (h0.now hH (n := 0) rfl).is (by omega)) ?_
      refine ops_y hH rfl rfl (yv_load T.one3 rfl (fun _ hw => Rd.at (h0.now hw (n := 0) rfl) (i := (k : Int)) (by omega) (j := 0) rfl)) ?_
      refine ops_y hH rfl rfl (yv_assign rfl) (ops_y hH rfl rfl (yv_assign rfl) (ops_nil (thn_n (seq (seq (region (ops_y hH rfl rfl (yv_move rfl) (ops_y hH rfl rfl (yv_move rfl) ?_))))))))
      refine ops_y hH rfl rfl (yv_len T.sl22 rfl (h1.now hH (n := 0) rfl).is) ?_
      refine ops_y hH rfl rfl (yv_geq rfl rfl) ?_
      refine ops_nil (thn_n ?_)
      by_cases hc4 : (m.length : Int) ≤ (k : Int)
      · skip
        refine cond_t rfl (decide_eq_true hc4) ?_
        refine seq (region (ops_y hH rfl rfl (yv_assign rfl) (ops_nil (thn_n (ret (thn_r (blk_r (thn_r (lp_r ?_)))))))))
        refine blk_r (thn_r ?_)
        refine finE (res1 rfl (show RV _ _ _ (.tmp 4) _ from rfl)) ?_
        refine congrArg (Value.int .i64) ?_; first | exact (Q.cmpL_long (k := k) (by omega) (by omega) hc).symm | exact (Q.cmpL_ne (k := k) (by omega) (by omega) hc (by omega)).symm | exact (Q.cmpL_short (k := k) (by omega) (by omega) hc).symm | exact (Q.cmpL_same (k := k) (by omega) (by omega) hc).symm
      · skip
        refine cond_f rfl (decide_eq_false hc4) ?_
        refine skip (thn_n (seq (region (ops_y hH rfl rfl (yv_move rfl) (ops_y hH rfl rfl (yv_move rfl) ?_)))))
        refine ops_y hH rfl rfl (yv_index T.sl22 rfl rfl (h1.now hH (n := 0) rfl).is (by omega)) ?_
        refine ops_y hH rfl rfl (yv_load T.one3 rfl (fun _ hw => Rd.at (h1.now hw (n := 0) rfl) (i := (k : Int)) (by omega) (j := 0) rfl)) ?_
        refine ops_y hH rfl rfl (yv_assign rfl) (ops_nil (thn_n (seq (region (ops_y hH rfl rfl (yv_move rfl) (ops_y hH rfl rfl (yv_move rfl) ?_))))))
        refine op_fnE rfl rfl rfl (e96) ?_
        refine ops_y hH rfl rfl (yv_assign rfl) (ops_nil (thn_n (seq (region (ops_y hH rfl rfl (yv_move rfl) ?_)))))
        refine ops_y hH rfl rfl (yv_neq rfl rfl) ?_
        refine ops_nil (thn_n ?_)
        by_cases hc5 : (Q.cmp3 (nth l (k : Int)) (nth m (k : Int))) = 0
        · skip
          refine cond_f rfl (not_decide_n hc5) ?_
          refine skip (blk_n (thn_n (region ?_)))
          refine ops_y hH rfl rfl (yv_add rfl rfl (by omega)) ?_
          refine ops_y hH rfl rfl (yv_move rfl) (ops_nil ?_)
          refine lp_n (k + 1) (Sub.cons rfl (Sub.cons rfl (Sub.cons rfl (Sub.cons rfl (Sub.cons rfl (Sub.nil _)))))) ?_ ?_
          · exact ⟨rfl, by omega, by omega, Q.cmpL_go (by omega) (by omega) hc (Q.cmp3_eq (by omega))⟩
          · first | (dsimp only; omega) | (show _ < _; omega)
        · skip
          refine cond_t rfl (not_decide_t hc5) ?_
          refine seq (region (ops_y hH rfl rfl (yv_move rfl) (ops_y hH rfl rfl (yv_assign rfl) (ops_nil (thn_n (ret (blk_r (thn_r (lp_r ?_)))))))))
          refine blk_r (thn_r ?_)
          refine finE (res1 rfl (show RV _ _ _ (.tmp 4) _ from rfl)) ?_
          refine congrArg (Value.int .i64) ?_; first | exact (Q.cmpL_long (k := k) (by omega) (by omega) hc).symm | exact (Q.cmpL_ne (k := k) (by omega) (by omega) hc (by omega)).symm | exact (Q.cmpL_short (k := k) (by omega) (by omega) hc).symm | exact (Q.cmpL_same (k := k) (by omega) (by omega) hc).symm
    · skip
      refine cond_f rfl (decide_eq_false hc3) ?_
      refine exit (thn_x (lp_x (blk_here (thn_n (seq (seq (region (ops_y hH rfl rfl (yv_move rfl) ?_))))))))
      refine ops_y hH rfl rfl (yv_len T.sl22 rfl (h0.now hH (n := 0) rfl).is) ?_
      refine ops_y hH rfl rfl (yv_move rfl) ?_
      refine ops_y hH rfl rfl (yv_len T.sl22 rfl (h1.now hH (n := 0) rfl).is) ?_
      refine ops_y hH rfl rfl (yv_lss rfl rfl) ?_
      refine ops_nil (thn_n ?_)
      by_cases hc6 : (l.length : Int) < (m.length : Int)
      · skip
        refine cond_t rfl (decide_eq_true hc6) ?_
        refine seq (region (ops_y hH rfl rfl (yv_assign rfl) (ops_nil (thn_n (ret (thn_r ?_))))))
        refine finE (res1 rfl (show RV _ _ _ (.tmp 4) _ from rfl)) ?_
        refine congrArg (Value.int .i64) ?_; first | exact (Q.cmpL_long (k := k) (by omega) (by omega) hc).symm | exact (Q.cmpL_ne (k := k) (by omega) (by omega) hc (by omega)).symm | exact (Q.cmpL_short (k := k) (by omega) (by omega) hc).symm | exact (Q.cmpL_same (k := k) (by omega) (by omega) hc).symm
      · skip
        refine cond_f rfl (decide_eq_false hc6) ?_
        refine skip (thn_n (seq (region (ops_y hH rfl rfl (yv_assign rfl) (ops_nil (thn_n (ret ?_)))))))
        refine finE (res1 rfl (show RV _ _ _ (.tmp 4) _ from rfl)) ?_
        refine congrArg (Value.int .i64) ?_; first | exact (Q.cmpL_long (k := k) (by omega) (by omega) hc).symm | exact (Q.cmpL_ne (k := k) (by omega) (by omega) hc (by omega)).symm | exact (Q.cmpL_short (k := k) (by omega) (by omega) hc).symm | exact (Q.cmpL_same (k := k) (by omega) (by omega) hc).symm

end Go.Fip


set_option linter.unusedVariables false
set_option linter.unusedSimpArgs false
set_option linter.unusedSectionVars false
set_option linter.unnecessarySimpa false
namespace Go.Fip
open Go.Proofs Go.RowKit

theorem T.el100_encV : El Try.prog 100 22 1 encV := el_of (z := (.slice none 0 0)) (bytes := 24) (by kernel_rfl) (by kernel_rfl) rfl rfl rfl (fun _ => rfl) (by intro x; simp [encV, SV.one])
end Go.Fip
namespace Go.Proofs
open Go.Shelf
def Try.sortL_ren : Go.Shelf.Ren := ⟨fun | 6 => 95 | 15 => 106 | 14 => 105 | 28 => 116 | 29 => 117 | 20 => 108 | 21 => 109 | 22 => 110 | 23 => 111 | 24 => 112 | 25 => 113 | 26 => 114 | 27 => 115 | 46 => 118 | 47 => 119 | 48 => 120 | 49 => 121 | 50 => 122 | 57 => 123 | n => n, fun | 22 => 100 | 24 => 22 | 25 => 102 | 3 => 3 | 39 => 118 | 0 => 0 | 53 => 140 | 55 => 142 | 4 => 4 | 46 => 134 | 45 => 133 | 50 => 98 | 5 => 5 | 9 => 9 | 66 => 143 | 70 => 147 | 76 => 149 | 77 => 150 | n => n, fun | n => n⟩
theorem Try.sortL : Go.Proofs.SlLaysF.n6 Try.prog Try.sortL_ren where
  mixed := by kernel_rfl
  f6 := ⟨Try.f95.name, by decide, Try.func95.trans (congrArg some (by kernel_rfl))⟩
  f14 := ⟨Try.f105.name, by decide, Try.func105.trans (congrArg some (by kernel_rfl))⟩
  f15 := Try.func106.trans (congrArg some (by kernel_rfl))
  f20 := ⟨Try.f108.name, by decide, Try.func108.trans (congrArg some (by kernel_rfl))⟩
  f21 := ⟨Try.f109.name, by decide, Try.func109.trans (congrArg some (by kernel_rfl))⟩
  f22 := ⟨Try.f110.name, by decide, Try.func110.trans (congrArg some (by kernel_rfl))⟩
  f23 := ⟨Try.f111.name, by decide, Try.func111.trans (congrArg some (by kernel_rfl))⟩
  f24 := ⟨Try.f112.name, by decide, Try.func112.trans (congrArg some (by kernel_rfl))⟩
  f25 := ⟨Try.f113.name, by decide, Try.func113.trans (congrArg some (by kernel_rfl))⟩
  f26 := ⟨Try.f114.name, by decide, Try.func114.trans (congrArg some (by kernel_rfl))⟩
  f27 := ⟨Try.f115.name, by decide, Try.func115.trans (congrArg some (by kernel_rfl))⟩
  f28 := Try.func116.trans (congrArg some (by kernel_rfl))
  f29 := Try.func117.trans (congrArg some (by kernel_rfl))
  f46 := ⟨Try.f118.name, by decide, Try.func118.trans (congrArg some (by kernel_rfl))⟩
  f47 := Try.func119.trans (congrArg some (by kernel_rfl))
  f48 := Try.func120.trans (congrArg some (by kernel_rfl))
  f49 := ⟨Try.f121.name, by decide, Try.func121.trans (congrArg some (by kernel_rfl))⟩
  f50 := ⟨Try.f122.name, by decide, Try.func122.trans (congrArg some (by kernel_rfl))⟩
  f57 := ⟨Try.f123.name, by decide, Try.func123.trans (congrArg some (by kernel_rfl))⟩
  t0 := Try.underlying0
  a0 := Try.isAgg0
  z0 := Try.sizeOf0
  v0 := Try.zeroValue0
  t3 := Try.underlying3
  a3 := Try.isAgg3
  z3 := Try.sizeOf3
  v3 := Try.zeroValue3
  t4 := Try.underlying4
  a4 := Try.isAgg4
  z4 := Try.sizeOf4
  v4 := Try.zeroValue4
  t5 := Try.underlying5
  a5 := Try.isAgg5
  z5 := Try.sizeOf5
  v5 := Try.zeroValue5
  t9 := Try.underlying9
  a9 := Try.isAgg9
  z9 := Try.sizeOf9
  v9 := Try.zeroValue9
  t22 := Try.underlying100
  a22 := Try.isAgg100
  z22 := Try.sizeOf100
  v22 := Try.zeroValue100
  a24 := Try.isAgg22
  z24 := Try.sizeOf22
  t25 := Try.underlying102
  a25 := Try.isAgg102
  z25 := Try.sizeOf102
  v25 := Try.zeroValue102
  t39 := Try.underlying118
  a39 := Try.isAgg118
  z39 := Try.sizeOf118
  v39 := Try.zeroValue118
  t45 := Try.underlying133
  a45 := Try.isAgg133
  z45 := Try.sizeOf133
  v45 := Try.zeroValue133
  t46 := Try.underlying134
  a46 := Try.isAgg134
  z46 := Try.sizeOf134
  v46 := Try.zeroValue134
  t50 := Try.underlying98
  a50 := Try.isAgg98
  z50 := Try.sizeOf98
  v50 := Try.zeroValue98
  t53 := Try.underlying140
  a53 := Try.isAgg140
  z53 := Try.sizeOf140
  v53 := Try.zeroValue140
  t55 := Try.underlying142
  a55 := Try.isAgg142
  z55 := Try.sizeOf142
  v55 := Try.zeroValue142
  t66 := Try.underlying143
  a66 := Try.isAgg143
  z66 := Try.sizeOf143
  v66 := Try.zeroValue143
  t70 := Try.underlying147
  a70 := Try.isAgg147
  z70 := Try.sizeOf147
  v70 := Try.zeroValue147
  t76 := Try.underlying149
  a76 := Try.isAgg149
  z76 := Try.sizeOf149
  v76 := Try.zeroValue149
  t77 := Try.underlying150
  a77 := Try.isAgg150
  z77 := Try.sizeOf150
  v77 := Try.zeroValue150

end Go.Proofs
namespace Go.Fip
open Go.Proofs Go.RowKit
theorem c95 {v : Value} {TT : List SV} {RR : List (List Int)} {b : Nat} {w : World} (hown : Own 22 1 encV v TT w) (hg : v.ownBlock = some b) (h1 : 1 ≤ TT.length) (hsz : TT.length ≤ 1000000) (hrow : ∀ i : Nat, i < TT.length → Rd encI 1 (nth TT (i : Int)).1 (nth RR (i : Int)) w) (hlen : ∀ i : Nat, i < TT.length → (nth RR (i : Int)).length ≤ 1000000) (hap : ∀ i : Nat, i < TT.length → nth RR (i : Int) ≠ [] → eb (nth TT (i : Int)).1 ≠ b) :
    FnM Try.prog 95 #[v, .func (.func 75) #[] #[]] w b (fun u w' => u = .tuple #[] ∧ ∃ ds : List Nat, ds.Perm (List.range TT.length) ∧ (ds.map fun i : Nat => nth RR (i : Int)).Pairwise (fun a b => ¬ Q.cmpL b a < 0) ∧ Own 22 1 encV v (ds.map fun i : Nat => nth TT (i : Int)) w') :=
  sort_fnM Try.sortL (f75 := 75) (E := 22) (ent Try.func75 (by kernel_rfl) rfl) (ent Try.func95 (by kernel_rfl) rfl) (fun W x y l m hx hy k1 k2 => e75 hx hy k1 k2) hown hg h1 hsz hrow hlen hap

theorem c74r {n : Nat} {w : World} (hn : n ≤ 8) (ih : ∀ {n1 : Nat} {w : World}, n1 < n → n1 ≤ 8 → Fn Try.prog 74 #[.int .i64 (n1 : Int)] w (fun u w => ∃ VV, RowsV u VV (Q.treesL n1) w))  :
    Fn Try.prog 74 [(.int .i64 (n : Int))].toArray w (fun u w => ∃ VV, RowsV u VV (Q.treesL n) w) := by
  refine fn_of' (args := [(.int .i64 (n : Int))]) Try.func74 rfl (ent Try.func74 (by kernel_rfl) rfl) rfl rfl (fun hH => ?_)
  refine seq (region (ops_y hH rfl rfl (yv_assign rfl) (ops_nil (thn_n (seq (seq (region (ops_y hH rfl rfl (yv_move rfl) ?_))))))))
  refine ops_y hH rfl rfl (yv_eql rfl rfl) ?_
  refine ops_nil (thn_n ?_)
  by_cases hc1 : (n : Int) = 0
  · skip
    refine cond_t rfl (decide_eq_true hc1) ?_
    refine seq (region ?_)
    refine op_lit (us := [(0, (.slice none 0 0))]) T.el100_encV [nilV] rfl (by decide) rfl (fun a ha => by simp [ha.ev (show ev _ (.const (.slice none 0 0)) = some _ from rfl)]) (fun w => by kernel_rfl) hH (fun u2 lo4 hi5 w3 hH6 => ?_)
    refine ops_y hH6 rfl rfl (yv_assign rfl) (ops_nil (thn_n (ret (thn_r ?_))))
    refine fin (hH6.front (n := 1) rfl) (fun w' hf => (res1 rfl (show RV _ _ _ (.tmp 2) _ from rfl))) (fun w' hf => ?_)
    first | (rw [show n = 0 by omega]; exact ⟨[nilV], RowsV.one (Heap.rdw T.el100_encV hf (n := 0) rfl)⟩) | (have hEq : (ds.map fun i : Nat => nth (Rs.map fun x : RwI => x.l) (i : Int)) = Q.treesL n := Q.treesL_uni hn0 (by rw [← hRn]; exact perm_range (by simpa using hperm)) hsrt; have hfin := rows_perm T.el100_encV hperm hf; rw [hEq] at hfin; exact ⟨_, hfin⟩)
  · skip
    refine cond_f rfl (decide_eq_false hc1) ?_
    refine skip (thn_n (seq ?_))
    have hn0 : 0 < n := by omega
    refine region (ops_y hH rfl rfl (yv_assign rfl) (ops_nil (thn_n (seq (seq (region (ops_y hH rfl rfl (yv_move rfl) (ops_y hH rfl rfl (yv_move rfl) (ops_nil ?_)))))))))
    refine thn_n (block ?_)
    have hH7 := ow_nil (enc := encV) 22 1 hH
    refine loop (S := Nat × List RwI × Value × Nat × Nat) (fun (r, Rs, v_3, lo_3, hi_3) => [(13, (.int .i64 (r : Int))), (3, v_3), (0, (.int .i64 (n : Int))), (2, (.slice none 0 0)), (12, (.int .i64 (n : Int)))]) (fun (r, Rs, v_3, lo_3, hi_3) w1 => Heap ([ow lo_3 hi_3 22 1 encV v_3 (Rs.map fun x => svV x.s), base w] ++ Rs.map rowI) w1 ∧ r ≤ n ∧ Rs.map (·.l) = Q.g1 n r) (fun (r, Rs, v_3, lo_3, hi_3) => n - r) (0, [], (.slice none 0 0), w.heap.size, w.heap.size) (Sub.cons rfl (Sub.cons rfl (Sub.cons rfl (Sub.cons rfl (Sub.cons rfl (Sub.nil _)))))) ?_ ?_
    · exact ⟨(Heap.recast (n := 0) hH7 rfl (rfl)), by omega, rfl⟩
    · rintro ⟨r, Rs, v_3, lo_3, hi_3⟩ w8 ⟨hH9, hr, hR⟩
      show Holds _ _ _ _ _ [(13, (.int .i64 (r : Int))), (3, v_3), (0, (.int .i64 (n : Int))), (2, (.slice none 0 0)), (12, (.int .i64 (n : Int)))] _ _
      refine seq (region ?_)
      refine ops_y hH9 rfl rfl (yv_lss rfl rfl) ?_
      refine ops_nil (thn_n (seq ?_))
      by_cases hc10 : (r : Int) < (n : Int)
      · skip
        refine cond_t rfl (decide_eq_true hc10) ?_
        refine skip (thn_n (seq (block (seq (region (ops_y hH9 rfl rfl (yv_move rfl) (ops_y hH9 rfl rfl (yv_assign rfl) (ops_nil (thn_n ?_)))))))))
        refine seq (region (ops_y hH9 rfl rfl (yv_move rfl) ?_))
        refine op_fn rfl rfl rfl hH9 (ih (n1 := r) (by omega) (by omega)) (fun u13 w11 lo14 hi15 hH12 hv16 => ?_)
        obtain ⟨VA, hH17⟩ := Heap.fixRowsV hH12 (n := 0) rfl
        have hVAl := (show RowsV u13 VA (Q.treesL r) _ from hH17.get (n := 0) rfl).2.1
        refine ops_y hH17 rfl rfl (yv_len T.sl100 rfl (((show RowsV u13 VA (Q.treesL r) _ from hH17.get (n := 0) rfl)).1).is) ?_
        refine ops_y hH17 rfl rfl (yv_move rfl) (ops_nil (thn_n (block ?_)))
        refine loop (S := Nat × List RwI × Value × Nat × Nat) (fun (i, Rs, v_3, lo_3, hi_3) => [(19, (.int .i64 (i : Int))), (3, v_3), (0, (.int .i64 (n : Int))), (2, (.slice none 0 0)), (4, (.int .i64 (r : Int))), (12, (.int .i64 (n : Int))), (13, (.int .i64 (r : Int))), (17, u13), (18, (.int .i64 (VA.length : Int)))]) (fun (i, Rs, v_3, lo_3, hi_3) w1 => Heap ([⟨lo14, hi15, RowsV u13 VA (Q.treesL r)⟩, ow lo_3 hi_3 22 1 encV v_3 (Rs.map fun x => svV x.s), base w] ++ Rs.map rowI) w1 ∧ i ≤ VA.length ∧ Rs.map (·.l) = Q.g1 n r ++ Q.crs ((Q.treesL r).take i) (Q.treesL (n - 1 - r))) (fun (i, Rs, v_3, lo_3, hi_3) => VA.length - i) (0, Rs, v_3, lo_3, hi_3) (Sub.cons rfl (Sub.cons rfl (Sub.cons rfl (Sub.cons rfl (Sub.cons rfl (Sub.cons rfl (Sub.cons rfl (Sub.cons rfl (Sub.cons rfl (Sub.nil _)))))))))) ?_ ?_
        · exact ⟨(Heap.recast (n := 1) hH17 rfl (rfl)), by omega, by rw [hR]; simp [Q.crs]⟩
        · rintro ⟨i, Rs, v_3, lo_3, hi_3⟩ w18 ⟨hH19, hi, hR⟩
          show Holds _ _ _ _ _ [(19, (.int .i64 (i : Int))), (3, v_3), (0, (.int .i64 (n : Int))), (2, (.slice none 0 0)), (4, (.int .i64 (r : Int))), (12, (.int .i64 (n : Int))), (13, (.int .i64 (r : Int))), (17, u13), (18, (.int .i64 (VA.length : Int)))] _ _
          have hA := Q.treesL_len (n := r) (by omega)
          have hA8 := Q.cnt8 r (by omega)
          refine seq (region ?_)
          refine ops_y hH19 rfl rfl (yv_lss rfl rfl) ?_
          refine ops_nil (thn_n (seq ?_))
          by_cases hc20 : (i : Int) < (VA.length : Int)
          · skip
            refine cond_t rfl (decide_eq_true hc20) ?_
            refine skip (thn_n (seq (block (seq (region ?_)))))
            refine ops_y hH19 rfl rfl (yv_index T.sl100 rfl rfl (((show RowsV u13 VA (Q.treesL r) _ from hH19.get (n := 0) rfl)).1).is (by omega)) ?_
            refine ops_y hH19 rfl rfl (yv_load T.one22 rfl (fun _ hw => Rd.at (((show RowsV u13 VA (Q.treesL r) _ from hw.get (n := 0) rfl)).1) (i := (i : Int)) (by omega) (j := 0) rfl)) ?_
            refine ops_y hH19 rfl rfl (yv_assign rfl) (ops_nil (thn_n (seq (region (ops_y hH19 rfl rfl (yv_move rfl) ?_)))))
            refine ops_y hH19 rfl rfl (yv_sub rfl rfl (by omega)) ?_
            refine ops_y hH19 rfl rfl (yv_move rfl) ?_
            refine ops_y hH19 rfl rfl (yv_cast (show _ = ((n - 1 - r : Nat) : Int) by omega) (yv_sub rfl rfl (by omega))) ?_
            refine op_fn rfl rfl rfl hH19 (ih (n1 := (n - 1 - r)) (by omega) (by omega)) (fun u23 w21 lo24 hi25 hH22 hv26 => ?_)
            obtain ⟨VB, hH27⟩ := Heap.fixRowsV hH22 (n := 0) rfl
            have hVBl := (show RowsV u23 VB (Q.treesL (n - 1 - r)) _ from hH27.get (n := 0) rfl).2.1
            refine ops_y hH27 rfl rfl (yv_len T.sl100 rfl (((show RowsV u23 VB (Q.treesL (n - 1 - r)) _ from hH27.get (n := 0) rfl)).1).is) ?_
            refine ops_y hH27 rfl rfl (yv_move rfl) (ops_nil (thn_n (block ?_)))
            refine loop (S := Nat × List RwI × Value × Nat × Nat) (fun (j, Rs, v_3, lo_3, hi_3) => [(29, (.int .i64 (j : Int))), (3, v_3), (0, (.int .i64 (n : Int))), (2, (.slice none 0 0)), (4, (.int .i64 (r : Int))), (6, (nth VA (i : Int)).1), (12, (.int .i64 (n : Int))), (13, (.int .i64 (r : Int))), (17, u13), (18, (.int .i64 (VA.length : Int))), (19, (.int .i64 (i : Int))), (27, u23), (28, (.int .i64 (VB.length : Int)))]) (fun (j, Rs, v_3, lo_3, hi_3) w1 => Heap ([⟨lo24, hi25, RowsV u23 VB (Q.treesL (n - 1 - r))⟩, ⟨lo14, hi15, RowsV u13 VA (Q.treesL r)⟩, ow lo_3 hi_3 22 1 encV v_3 (Rs.map fun x => svV x.s), base w] ++ Rs.map rowI) w1 ∧ j ≤ VB.length ∧ Rs.map (·.l) = Q.g1 n r ++ Q.crs ((Q.treesL r).take i) (Q.treesL (n - 1 - r)) ++ ((Q.treesL (n - 1 - r)).take j).map (fun b => Q.hung (nth (Q.treesL r) (i : Int)) b)) (fun (j, Rs, v_3, lo_3, hi_3) => VB.length - j) (0, Rs, v_3, lo_3, hi_3) (Sub.cons rfl (Sub.cons rfl (Sub.cons rfl (Sub.cons rfl (Sub.cons rfl (Sub.cons rfl (Sub.cons rfl (Sub.cons rfl (Sub.cons rfl (Sub.cons rfl (Sub.cons rfl (Sub.cons rfl (Sub.cons rfl (Sub.nil _)))))))))))))) ?_ ?_
            · exact ⟨(Heap.recast (n := 2) hH27 rfl (rfl)), by omega, by rw [hR]; simp⟩
            · rintro ⟨j, Rs, v_3, lo_3, hi_3⟩ w28 ⟨hH29, hj, hR⟩
              show Holds _ _ _ _ _ [(29, (.int .i64 (j : Int))), (3, v_3), (0, (.int .i64 (n : Int))), (2, (.slice none 0 0)), (4, (.int .i64 (r : Int))), (6, (nth VA (i : Int)).1), (12, (.int .i64 (n : Int))), (13, (.int .i64 (r : Int))), (17, u13), (18, (.int .i64 (VA.length : Int))), (19, (.int .i64 (i : Int))), (27, u23), (28, (.int .i64 (VB.length : Int)))] _ _
              have hB := Q.treesL_len (n := n - 1 - r) (by omega)
              have hB8 := Q.cnt8 (n - 1 - r) (by omega)
              refine seq (region ?_)
              refine ops_y hH29 rfl rfl (yv_lss rfl rfl) ?_
              refine ops_nil (thn_n (seq ?_))
              by_cases hc30 : (j : Int) < (VB.length : Int)
              · skip
                refine cond_t rfl (decide_eq_true hc30) ?_
                refine skip (thn_n (seq (block (seq (region ?_)))))
                refine ops_y hH29 rfl rfl (yv_index T.sl100 rfl rfl (((show RowsV u23 VB (Q.treesL (n - 1 - r)) _ from hH29.get (n := 0) rfl)).1).is (by omega)) ?_
                refine ops_y hH29 rfl rfl (yv_load T.one22 rfl (fun _ hw => Rd.at (((show RowsV u23 VB (Q.treesL (n - 1 - r)) _ from hw.get (n := 0) rfl)).1) (i := (j : Int)) (by omega) (j := 0) rfl)) ?_
                refine ops_y hH29 rfl rfl (yv_assign rfl) (ops_nil (thn_n ?_))
                have hra := Q.tree_row (n := r) (i := i) (by omega)
                have hrb := Q.tree_row (n := n - 1 - r) (i := j) (by omega)
                have hsm0 := Q.tree_sm (n := r) (i := i) (by omega) (by omega)
                have hsm1 := Q.tree_sm (n := n - 1 - r) (i := j) (by omega) (by omega)
                have hhl := Q.hung_length (l := nth (Q.treesL r) (i : Int)) (r := nth (Q.treesL (n - 1 - r)) (j : Int))
                have hRl : (Rs.map fun x => svV x.s).length ≤ 1430 := by have h1 := congrArg List.length hR; have h2 := Q.gen_len (n := n) (r := r) (i := i) (j := j) (by omega) hn (by omega) (by omega); rw [List.length_map] at h1 ⊢; omega
                refine region (ops_y hH29 rfl rfl (yv_move rfl) (ops_y hH29 rfl rfl (yv_move rfl) (ops_y hH29 rfl rfl (yv_move rfl) ?_)))
                refine op_fn rfl rfl rfl hH29 (c91 (RowsV.at ((show RowsV u13 VA (Q.treesL r) _ from hH29.get (n := 1) rfl)) (by omega) (by omega)) (RowsV.at ((show RowsV u23 VB (Q.treesL (n - 1 - r)) _ from hH29.get (n := 0) rfl)) (by omega) (by omega)) (by omega) (by omega) hsm0 hsm1) (fun u33 w31 lo34 hi35 hH32 hv36 => ?_)
                have hH37 := Heap.toOw hH32 (n := 0) rfl
                obtain ⟨s38, hs39⟩ := Heap.sv hH37 (n := 0) rfl (by omega)
                refine op_lit (us := [(0, u33)]) T.el100_encV [svV s38] rfl (by decide) rfl (fun a ha => by simp [ha.ev (show ev _ (.tmp 36) = some _ from rfl)]) (fun w => by rw [hs39]; kernel_rfl) hH37 (fun u40 lo42 hi43 w41 hH44 => ?_)
                refine op_append (n := 4) T.el100_encV rfl rfl rfl hH44 rfl (Heap.rdw T.el100_encV hH44 (n := 0) rfl) (by first | omega | (simp only [List.length_append, List.length_cons, List.length_nil]; omega)) (fun u45 lo47 hi48 w46 hH49 => ?_)
                refine ops_y hH49 rfl rfl (yv_assign rfl) (ops_nil (blk_n (thn_n (region ?_))))
                refine ops_y hH49 rfl rfl (yv_add rfl rfl (by omega)) ?_
                refine ops_y hH49 rfl rfl (yv_move rfl) (ops_nil ?_)
                have hH50 := (hH49.sub (List.Sublist.cons _ (List.Sublist.refl _)))
                have hH51 := Heap.totail (L := [⟨lo24, hi25, RowsV u23 VB (Q.treesL (n - 1 - r))⟩, ⟨lo14, hi15, RowsV u13 VA (Q.treesL r)⟩, ow lo47 hi48 22 1 encV u45 ((Rs.map fun x => svV x.s) ++ [svV s38]), base w]) hH50 hs39
                refine lp_n (j + 1, (Rs ++ [RwI.mk lo34 hi35 s38 (Q.hung (nth (Q.treesL r) (i : Int)) (nth (Q.treesL (n - 1 - r)) (j : Int)))]), u45, lo47, hi48) (Sub.cons rfl (Sub.cons rfl (Sub.cons rfl (Sub.cons rfl (Sub.cons rfl (Sub.cons rfl (Sub.cons rfl (Sub.cons rfl (Sub.cons rfl (Sub.cons rfl (Sub.cons rfl (Sub.cons rfl (Sub.cons rfl (Sub.nil _)))))))))))))) ?_ ?_
                · exact ⟨(Heap.recast (n := 2) hH51 rfl (hdV_snoc rfl)), by omega, snd_snoc hR (Q.tk_succ (by omega)) rfl⟩
                · first | (dsimp only; omega) | (show _ < _; omega)
              · skip
                refine cond_f rfl (decide_eq_false hc30) ?_
                refine exit (thn_x (lp_x (blk_here (blk_n (thn_n (region ?_))))))
                refine ops_y hH29 rfl rfl (yv_add rfl rfl (by omega)) ?_
                refine ops_y hH29 rfl rfl (yv_move rfl) (ops_nil ?_)
                have hH52 := (hH29.sub (List.Sublist.cons _ (List.Sublist.refl _)))
                refine lp_n (i + 1, Rs, v_3, lo_3, hi_3) (Sub.cons rfl (Sub.cons rfl (Sub.cons rfl (Sub.cons rfl (Sub.cons rfl (Sub.cons rfl (Sub.cons rfl (Sub.cons rfl (Sub.cons rfl (Sub.nil _)))))))))) ?_ ?_
                · exact ⟨hH52, by omega, hR.trans (Q.crs_all (by omega) (by omega))⟩
                · first | (dsimp only; omega) | (show _ < _; omega)
          · skip
            refine cond_f rfl (decide_eq_false hc20) ?_
            refine exit (thn_x (lp_x (blk_here (blk_n (thn_n (region ?_))))))
            refine ops_y hH19 rfl rfl (yv_add rfl rfl (by omega)) ?_
            refine ops_y hH19 rfl rfl (yv_move rfl) (ops_nil ?_)
            have hH53 := (hH19.sub (List.Sublist.cons _ (List.Sublist.refl _)))
            refine lp_n (r + 1, Rs, v_3, lo_3, hi_3) (Sub.cons rfl (Sub.cons rfl (Sub.cons rfl (Sub.cons rfl (Sub.cons rfl (Sub.nil _)))))) ?_ ?_
            · exact ⟨hH53, by omega, hR.trans (Q.g1_all (by omega))⟩
            · first | (dsimp only; omega) | (show _ < _; omega)
      · skip
        refine cond_f rfl (decide_eq_false hc10) ?_
        refine exit (thn_x (lp_x (blk_here (thn_n (seq ?_)))))
        have hRn : Rs.map (·.l) = Q.g1 n n := by rw [hR, show r = n by omega]
        have hRl : Rs.length = Q.cnt n := by have h1 := congrArg List.length hRn; rw [List.length_map, Q.g1_len hn0 (by omega)] at h1; exact h1
        have hcn := Q.cnt8 n hn
        have hlenS : ∀ i : Nat, i < (Rs.map fun x => svV x.s).length → (nth (Rs.map fun x : RwI => x.l) (i : Int)).length ≤ 1000000 := fun i hi => by rw [hRn]; rw [List.length_map, ← List.length_map (f := fun x : RwI => x.l), hRn] at hi; rw [Q.g1_row hn0 hi]; omega
        refine region (ops_y hH9 rfl rfl (yv_move rfl) ?_)
        have hH54 : Heap ([ow lo_3 hi_3 22 1 encV v_3 (Rs.map fun x => svV x.s), base w] ++ Rs.map rowI) w8 := hH9
        obtain ⟨g55, hgb56, hgl57⟩ := Ow.blk (show Ow _ _ _ _ _ _ _ _ from hH9.get (n := 0) rfl) (by rw [List.length_map]; omega)
        refine op_fnM (g := g55) (n := 0) rfl rfl rfl hH9 rfl hgl57 (c95 (RR := Rs.map fun x : RwI => x.l) (Heap.own hH9 (n := 0) rfl) hgb56 (by rw [List.length_map]; omega) (by rw [List.length_map]; omega) (fun i hi => rows_tail (L := [ow lo_3 hi_3 22 1 encV v_3 (Rs.map fun x => svV x.s), base w]) hH54 i hi) hlenS (fun i hi hne => Heap.apTail (L := [ow lo_3 hi_3 22 1 encV v_3 (Rs.map fun x => svV x.s), base w]) (n := 0) hH54 rfl hgl57 i hi hne)) (fun u60 w58 hH59 hv61 => ?_)
        obtain ⟨hu, ds, hperm, hsrt, hownS⟩ := hv61
        subst hu
        have hH62 := Heap.reOw hH59 (n := 0) rfl hownS hgb56 hgl57
        refine ops_nil (thn_n (seq (region (ops_y hH62 rfl rfl (yv_move rfl) (ops_y hH62 rfl rfl (yv_assign rfl) (ops_nil (thn_n (ret ?_))))))))
        refine fin (hH62.front (n := 1) rfl) (fun w' hf => (res1 rfl (show RV _ _ _ (.tmp 2) _ from rfl))) (fun w' hf => ?_)
        first | (rw [show n = 0 by omega]; exact ⟨[nilV], RowsV.one (Heap.rdw T.el100_encV hf (n := 0) rfl)⟩) | (have hEq : (ds.map fun i : Nat => nth (Rs.map fun x : RwI => x.l) (i : Int)) = Q.treesL n := Q.treesL_uni hn0 (by rw [← hRn]; exact perm_range (by simpa using hperm)) hsrt; have hfin := rows_perm T.el100_encV hperm hf; rw [hEq] at hfin; exact ⟨_, hfin⟩)

theorem c74 {n : Nat} {w : World} (hn : n ≤ 8) : Fn Try.prog 74 #[.int .i64 (n : Int)] w (fun u w => ∃ VV, RowsV u VV (Q.treesL n) w) := by
  induction n using Nat.strongRecOn generalizing w with
  | _ n ih => exact c74r hn (fun {n1 w1} hlt h1 => ih n1 hlt h1)

end Go.Fip

set_option linter.unusedVariables false
set_option linter.unusedSimpArgs false
set_option linter.unusedSectionVars false
set_option linter.unnecessarySimpa false
namespace Go.Fip
open Go.Proofs Go.RowKit

theorem yv_shrU {P : Program} {N : Nat} {ds : List Deferred} {env : Env} {S : World → Prop} {x y : Operand} {T T' : TypeId} {m : Int} (hx : ev env x = some (.int .u64 m)) (hy : ev env y = some (.int .u64 1)) : Yv P N ds env (.binOp .shr T x y T') (.int .u64 (m / 2)) S := fun act hact w _ _ _ _ _ _ => by
  have e := shift_shr .u64 .u64 m 1 (by decide) (by decide)
  simp only [execOp, hact.ev hx, hact.ev hy, eqGuard, binOp, Sem.run_bind]
  rw [e]
  rfl

theorem c73 {u v : Value} {VV : List SV} {RR : List (List Int)} {l : List Int} {w : World} (ha : RowsV u VV RR w) (h0 : Rd encI 1 v l w) (hs : Q.Srt RR) (hn : RR.length ≤ 1000000) (hlr : ∀ i : Nat, i < RR.length → (nth RR (i : Int)).length ≤ 1000000) (hll : l.length ≤ 1000000)  :
    Fn Try.prog 73 [u, v, (.func (.func 75) #[] #[])].toArray w (fun x _ => ∃ b, x = .tuple #[.int .i64 (Q.posT RR l : Int), .bool b]) := by
  refine fn_of' (args := [u, v, (.func (.func 75) #[] #[])]) Try.func73 rfl (ent Try.func73 (by kernel_rfl) rfl) rfl rfl (fun hH => ?_)
  have hl1 := ha.2.1
  refine seq (region (ops_y hH rfl rfl (yv_assign rfl) (ops_y hH rfl rfl (yv_assign rfl) (ops_nil (thn_n (seq (region (ops_y hH rfl rfl (yv_move rfl) ?_))))))))
  refine ops_y hH rfl rfl (yv_len T.sl100 rfl ((ha.now hH (n := 0) rfl).1).is) ?_
  refine ops_y hH rfl rfl (yv_assign rfl) (ops_nil (thn_n (seq (region (ops_y hH rfl rfl (yv_move rfl) (ops_y hH rfl rfl (yv_assign rfl) (ops_y hH rfl rfl (yv_assign rfl) (ops_nil (thn_n ?_)))))))))
  refine seq (block ?_)
  refine loop (S := Nat × Nat) (fun (a, b) => [(9, (.int .i64 (a : Int))), (10, (.int .i64 (b : Int))), (0, u), (1, v), (2, (.func (.func 75) #[] #[])), (6, (.int .i64 0)), (7, (.bool false)), (8, (.int .i64 (VV.length : Int)))]) (fun (a, b) w1 => Heap [base w] w1 ∧ a ≤ b ∧ b ≤ RR.length ∧ (∀ p : Nat, p < a → Q.cmpL (nth RR (p : Int)) l < 0) ∧ ∀ p : Nat, b ≤ p → p < RR.length → ¬ Q.cmpL (nth RR (p : Int)) l < 0) (fun (a, b) => b - a) (0, VV.length) (Sub.cons rfl (Sub.cons rfl (Sub.cons rfl (Sub.cons rfl (Sub.cons rfl (Sub.cons rfl (Sub.cons rfl (Sub.cons rfl (Sub.nil _))))))))) ?_ ?_
  · exact ⟨hH, by omega, by omega, (fun p hp => absurd hp (Nat.not_lt_zero _)), (fun p h1 h2 => by omega)⟩
  · rintro ⟨a, b⟩ w1 ⟨hH2, hab, hbn, hI1, hI2⟩
    show Holds _ _ _ _ _ [(9, (.int .i64 (a : Int))), (10, (.int .i64 (b : Int))), (0, u), (1, v), (2, (.func (.func 75) #[] #[])), (6, (.int .i64 0)), (7, (.bool false)), (8, (.int .i64 (VV.length : Int)))] _ _
    refine seq (seq (region (ops_y hH2 rfl rfl (yv_move rfl) (ops_y hH2 rfl rfl (yv_move rfl) ?_))))
    refine ops_y hH2 rfl rfl (yv_lss rfl rfl) ?_
    refine ops_nil (thn_n ?_)
    by_cases hc3 : (a : Int) < (b : Int)
    · skip
      refine cond_t rfl (decide_eq_true hc3) ?_
      refine skip (thn_n (block (seq (region (ops_y hH2 rfl rfl (yv_move rfl) (ops_y hH2 rfl rfl (yv_move rfl) ?_))))))
      refine ops_y hH2 rfl rfl (yv_add rfl rfl (by omega)) ?_
      refine ops_y hH2 rfl rfl (yv_conv Try.underlying3 Try.underlying118 rfl (wrap_u64 (by omega))) ?_
      refine ops_y hH2 rfl rfl (yv_shrU rfl rfl) ?_
      refine ops_y hH2 rfl rfl (yv_cast (show _ = ((((a + b) / 2) : Nat) : Int) by omega) (yv_conv Try.underlying118 Try.underlying3 rfl (wrap_i64 (by omega)))) ?_
      refine ops_y hH2 rfl rfl (yv_assign rfl) (ops_nil (thn_n (seq ?_)))
      have hlm := hlr ((a + b) / 2) (by omega)
      refine region (ops_y hH2 rfl rfl (yv_move rfl) (ops_y hH2 rfl rfl (yv_move rfl) (ops_y hH2 rfl rfl (yv_move rfl) ?_)))
      refine ops_y hH2 rfl rfl (yv_index T.sl100 rfl rfl ((ha.now hH2 (n := 0) rfl).1).is (by omega)) ?_
      refine ops_y hH2 rfl rfl (yv_load T.one22 rfl (fun _ hw => Rd.at ((ha.now hw (n := 0) rfl).1) (i := ((((a + b) / 2) : Nat) : Int)) (by omega) (j := 0) rfl)) ?_
      refine ops_y hH2 rfl rfl (yv_move rfl) ?_
      refine op_fnV rfl rfl rfl hH2 (c75 (RowsV.at (ha.now hH2 (n := 0) rfl) (by omega) (by omega)) (h0.now hH2 (n := 0) rfl) (by omega) (by omega)) (fun w4 hH5 => ?_)
      refine ops_y hH5 rfl rfl (yv_lss rfl rfl) ?_
      refine ops_nil (thn_n ?_)
      by_cases hc6 : (Q.cmpL (nth RR ((((a + b) / 2) : Nat) : Int)) l) < 0
      · skip
        have hlt : Q.cmpL (nth RR ((((a + b) / 2) : Nat) : Int)) l < 0 := ‹_›
        refine cond_t rfl (decide_eq_true hc6) ?_
        refine region (ops_y hH5 rfl rfl (yv_move rfl) ?_)
        refine ops_y hH5 rfl rfl (yv_add rfl rfl (by omega)) ?_
        refine ops_y hH5 rfl rfl (yv_assign rfl) (ops_nil (blk_n ?_))
        refine lp_n ((((a + b) / 2) + 1), b) (Sub.cons (by first | rfl | (congr 2; omega) | exact congrArg (fun z : Int => some (Value.int .i64 z)) (by omega)) (Sub.cons (by first | rfl | exact congrArg (fun z : Int => some (Value.int .i64 z)) (by omega)) (Sub.cons rfl (Sub.cons rfl (Sub.cons rfl (Sub.cons rfl (Sub.cons rfl (Sub.cons rfl (Sub.nil _))))))))) ?_ ?_
        · exact ⟨hH5, by omega, by omega, (fun p hp => Q.srt_before hs (show p ≤ ((a + b) / 2) by omega) (by omega) hlt), hI2⟩
        · first | (dsimp only; omega) | (show _ < _; omega)
      · skip
        have hnl : ¬ Q.cmpL (nth RR ((((a + b) / 2) : Nat) : Int)) l < 0 := ‹_›
        refine cond_f rfl (decide_eq_false hc6) ?_
        refine region (ops_y hH5 rfl rfl (yv_move rfl) (ops_y hH5 rfl rfl (yv_assign rfl) (ops_nil (blk_n ?_))))
        refine lp_n (a, ((a + b) / 2)) (Sub.cons (by first | rfl | (congr 2; omega) | exact congrArg (fun z : Int => some (Value.int .i64 z)) (by omega)) (Sub.cons (by first | rfl | exact congrArg (fun z : Int => some (Value.int .i64 z)) (by omega)) (Sub.cons rfl (Sub.cons rfl (Sub.cons rfl (Sub.cons rfl (Sub.cons rfl (Sub.cons rfl (Sub.nil _))))))))) ?_ ?_
        · exact ⟨hH5, by omega, by omega, hI1, (fun p h1 h2 hc => hnl (Q.srt_before hs h1 h2 hc))⟩
        · first | (dsimp only; omega) | (show _ < _; omega)
    · skip
      refine cond_f rfl (decide_eq_false hc3) ?_
      refine exit (thn_x (lp_x (blk_here (thn_n (seq ?_)))))
      have hlp : a < RR.length → (nth RR (a : Int)).length ≤ 1000000 := fun h => hlr a h
      refine region (ops_y hH2 rfl rfl (yv_move rfl) (ops_y hH2 rfl rfl (yv_move rfl) (ops_y hH2 rfl rfl (yv_move rfl) ?_)))
      refine ops_y hH2 rfl rfl (yv_lss rfl rfl) ?_
      refine ops_y hH2 rfl rfl (yv_move rfl) ?_
      by_cases hc7 : (a : Int) < (VV.length : Int)
      · skip
        refine guard_yes rfl rfl (decide_eq_true hc7) ?_
        refine ops_y hH2 rfl rfl (yv_move rfl) ?_
        refine guard_yes rfl rfl (decide_eq_true hc7) ?_
        refine ops_y hH2 rfl rfl (yv_move rfl) ?_
        refine guard_yes rfl rfl (decide_eq_true hc7) ?_
        refine ops_y hH2 rfl rfl (yv_move rfl) ?_
        refine guard_yes rfl rfl (decide_eq_true hc7) ?_
        refine ops_y hH2 rfl rfl (yv_index T.sl100 rfl rfl ((ha.now hH2 (n := 0) rfl).1).is (by omega)) ?_
        refine guard_yes rfl rfl (decide_eq_true hc7) ?_
        refine ops_y hH2 rfl rfl (yv_load T.one22 rfl (fun _ hw => Rd.at ((ha.now hw (n := 0) rfl).1) (i := (a : Int)) (by omega) (j := 0) rfl)) ?_
        refine guard_yes rfl rfl (decide_eq_true hc7) ?_
        refine ops_y hH2 rfl rfl (yv_move rfl) ?_
        refine guard_yes rfl rfl (decide_eq_true hc7) ?_
        refine op_fnV rfl rfl rfl hH2 (c75 (RowsV.at (ha.now hH2 (n := 0) rfl) (by omega) (by omega)) (h0.now hH2 (n := 0) rfl) (by omega) (by omega)) (fun w8 hH9 => ?_)
        refine guard_yes rfl rfl (decide_eq_true hc7) ?_
        refine ops_y hH9 rfl rfl (yv_eql rfl rfl) ?_
        refine ops_y hH9 rfl rfl (yv_pick_t rfl (decide_eq_true hc7) rfl) ?_
        refine ops_y hH9 rfl rfl (yv_assign rfl) (ops_y hH9 rfl rfl (yv_assign rfl) (ops_nil (thn_n (ret ?_))))
        refine fin hH9 (fun w' hf => (res2 rfl (show RV _ _ _ (.tmp 6) _ from rfl) (show RV _ _ _ (.tmp 7) _ from rfl))) (fun w' hf => ?_)
        have hpos := Q.posT_cut (R := RR) (t := l) (i := a) (by omega) hI1 (fun p h1 h2 => hI2 p (by omega) h2)
        rw [hpos]; exact ⟨_, rfl⟩
      · skip
        refine guard_no rfl rfl (decide_eq_false hc7) rfl ?_
        refine guard_no rfl rfl (decide_eq_false hc7) rfl ?_
        refine guard_no rfl rfl (decide_eq_false hc7) rfl ?_
        refine guard_no rfl rfl (decide_eq_false hc7) rfl ?_
        refine guard_no rfl rfl (decide_eq_false hc7) rfl ?_
        refine guard_no rfl rfl (decide_eq_false hc7) rfl ?_
        refine guard_no rfl rfl (decide_eq_false hc7) rfl ?_
        refine guard_no rfl rfl (decide_eq_false hc7) rfl ?_
        refine ops_y hH2 rfl rfl (yv_pick_f rfl (decide_eq_false hc7) rfl) ?_
        refine ops_y hH2 rfl rfl (yv_assign rfl) (ops_y hH2 rfl rfl (yv_assign rfl) (ops_nil (thn_n (ret ?_))))
        refine fin hH2 (fun w' hf => (res2 rfl (show RV _ _ _ (.tmp 6) _ from rfl) (show RV _ _ _ (.tmp 7) _ from rfl))) (fun w' hf => ?_)
        have hpos := Q.posT_cut (R := RR) (t := l) (i := a) (by omega) hI1 (fun p h1 h2 => hI2 p (by omega) h2)
        rw [hpos]; exact ⟨_, rfl⟩

theorem c37 {v : Value} {l : List Int} {w : World} (h0 : Rd encI 1 v l w) (hn : l.length ≤ 1000000) (hx : Q.Up l)  :
    Fn Try.prog 37 [v].toArray w (fun u _ => u = .tuple #[.int .i64 (Q.numR l).1, .int .i64 (Q.numR l).2]) := by
  refine fn_of' (args := [v]) Try.func37 rfl (ent Try.func37 (by kernel_rfl) rfl) rfl rfl (fun hH => ?_)
  refine seq (region (ops_y hH rfl rfl (yv_assign rfl) (ops_y hH rfl rfl (yv_assign rfl) (ops_nil (thn_n (seq (seq (region (ops_y hH rfl rfl (yv_move rfl) ?_)))))))))
  refine op_fnV rfl rfl rfl hH (c19 (h0.now hH (n := 0) rfl) (by omega) (by first | assumption | decide)) (fun w1 hH2 => ?_)
  refine ops_y hH2 rfl rfl (yv_assign rfl) (ops_nil (thn_n (seq (region (ops_y hH2 rfl rfl (yv_move rfl) ?_)))))
  refine ops_y hH2 rfl rfl (yv_neq rfl rfl) ?_
  refine ops_nil (thn_n ?_)
  by_cases hc3 : (Q.ckT l) = 0
  · skip
    have hc0 : Q.ckT l = 0 := by omega
    obtain ⟨hl12, -⟩ := Q.ck_tree hc0
    refine cond_f rfl (not_decide_n hc3) ?_
    refine skip (thn_n (seq (seq (region (ops_y hH2 rfl rfl (yv_move rfl) ?_)))))
    refine ops_y hH2 rfl rfl (yv_len T.sl22 rfl (h0.now hH2 (n := 0) rfl).is) ?_
    refine ops_y hH2 rfl rfl (yv_gtr rfl rfl) ?_
    refine ops_nil (thn_n ?_)
    by_cases hc4 : 8 < (l.length : Int)
    · skip
      refine cond_t rfl (decide_eq_true hc4) ?_
      refine seq (region (ops_y hH2 rfl rfl (yv_assign rfl) (ops_y hH2 rfl rfl (yv_assign rfl) (ops_nil (thn_n (ret (thn_r ?_)))))))
      refine fin hH2 (fun w' hf => (res2 rfl (show RV _ _ _ (.tmp 2) _ from rfl) (show RV _ _ _ (.tmp 3) _ from rfl))) (fun w' hf => ?_)
      first | exact tup2 (Q.nu1 hcn) | exact tup2 (Q.nu2 hc0 (by omega)) | exact tup2 (Q.nu3 hc0 (by omega))
    · skip
      refine cond_f rfl (decide_eq_false hc4) ?_
      refine skip (thn_n (seq (region (ops_y hH2 rfl rfl (yv_move rfl) ?_))))
      refine ops_y hH2 rfl rfl (yv_len T.sl22 rfl (h0.now hH2 (n := 0) rfl).is) ?_
      refine op_fn rfl rfl rfl hH2 (c74 (n := l.length) (by omega)) (fun u7 w5 lo8 hi9 hH6 hv10 => ?_)
      obtain ⟨VA, hH11⟩ := Heap.fixRowsV hH6 (n := 0) rfl
      have hVAl := (show RowsV u7 VA (Q.treesL l.length) _ from hH11.get (n := 0) rfl).2.1
      refine ops_y hH11 rfl rfl (yv_move rfl) ?_
      refine op_fn rfl rfl rfl hH11 (c73 ((show RowsV u7 VA (Q.treesL l.length) _ from hH11.get (n := 0) rfl)) (h0.now hH11 (n := 1) rfl) (Q.treesL_srt _) (by have := Q.treesL_len (n := l.length) (by omega); have := Q.cnt8 l.length (by omega); omega) (fun i hi => by rw [Q.tree_row hi]; omega) (by omega)) (fun u14 w12 lo15 hi16 hH13 hv17 => ?_)
      obtain ⟨b18, hu⟩ := hv17
      subst hu
      have hH19 := (hH13).sub (List.sublist_cons_self _ _)
      refine ops_y hH19 rfl rfl (yv_move rfl) (ops_y hH19 rfl rfl (yv_extract rfl rfl) (ops_y hH19 rfl rfl (yv_extract rfl rfl) (ops_y hH19 rfl rfl (yv_assign rfl) (ops_y hH19 rfl rfl (yv_assign rfl) (ops_nil (thn_n (seq (region (ops_y hH19 rfl rfl (yv_move rfl) ?_)))))))))
      refine ops_y hH19 rfl rfl (yv_assign rfl) (ops_y hH19 rfl rfl (yv_assign rfl) (ops_nil (thn_n (ret ?_))))
      have hH20 := (hH19.sub (List.Sublist.cons _ (List.Sublist.refl _)))
      refine fin hH20 (fun w' hf => (res2 rfl (show RV _ _ _ (.tmp 2) _ from rfl) (show RV _ _ _ (.tmp 3) _ from rfl))) (fun w' hf => ?_)
      first | exact tup2 (Q.nu1 hcn) | exact tup2 (Q.nu2 hc0 (by omega)) | exact tup2 (Q.nu3 hc0 (by omega))
  · skip
    have hcn : ¬ Q.ckT l = 0 := by omega
    refine cond_t rfl (not_decide_t hc3) ?_
    refine seq (region (ops_y hH2 rfl rfl (yv_move rfl) (ops_y hH2 rfl rfl (yv_assign rfl) (ops_y hH2 rfl rfl (yv_assign rfl) (ops_nil (thn_n (ret (thn_r ?_))))))))
    refine fin hH2 (fun w' hf => (res2 rfl (show RV _ _ _ (.tmp 2) _ from rfl) (show RV _ _ _ (.tmp 3) _ from rfl))) (fun w' hf => ?_)
    first | exact tup2 (Q.nu1 hcn) | exact tup2 (Q.nu2 hc0 (by omega)) | exact tup2 (Q.nu3 hc0 (by omega))

theorem c39 {n k : Int} {w : World}  :
    Fn Try.prog 39 [(.int .i64 n), (.int .i64 k)].toArray w (fun u w => ∃ q, u = .tuple #[q, .int .i64 (Q.atR n k).2] ∧ Own 3 1 encI q (Q.atR n k).1 w) := by
  refine fn_of' (args := [(.int .i64 n), (.int .i64 k)]) Try.func39 rfl (ent Try.func39 (by kernel_rfl) rfl) rfl rfl (fun hH => ?_)
  refine seq (region (ops_y hH rfl rfl (yv_assign rfl) (ops_y hH rfl rfl (yv_assign rfl) (ops_nil (thn_n (seq (block (seq (region ?_)))))))))
  refine ops_y hH rfl rfl (yv_move rfl) ?_
  refine op_lit (us := [(0, (.int .i64 n))]) T.el30_encI [n] rfl (by decide) rfl (fun a ha => by simp [ha.ev (show ev _ (.tmp 8) = some _ from rfl)]) (fun w => by kernel_rfl) hH (fun u1 lo3 hi4 w2 hH5 => ?_)
  refine op_fnV rfl rfl rfl hH5 (c58_1 (Heap.rdw T.el30_encI hH5 (n := 0) rfl)) (fun w6 hH7 => ?_)
  refine ops_y hH7 rfl rfl (yv_not rfl) ?_
  refine ops_y hH7 rfl rfl (yv_assign rfl) (ops_nil (thn_n ?_))
  by_cases hc8 : 1 ≤ n ∧ n ≤ 8
  · skip
    refine cond_f rfl (not_decide_n hc8) ?_
    refine seq ?_
    have hc8 := Q.cnt8 n.toNat (by omega)
    refine region (ops_y hH7 rfl rfl (yv_move rfl) ?_)
    refine op_fnV rfl rfl rfl hH7 (c72 (by omega) (by omega)) (fun w9 hH10 => ?_)
    refine ops_y hH10 rfl rfl (yv_sub rfl rfl (by omega)) ?_
    refine ops_y hH10 rfl rfl (yv_move rfl) ?_
    refine op_lit (us := [(0, (.int .i64 k))]) T.el30_encI [k] rfl (by decide) rfl (fun a ha => by simp [ha.ev (show ev _ (.tmp 16) = some _ from rfl)]) (fun w => by kernel_rfl) hH10 (fun u11 lo13 hi14 w12 hH15 => ?_)
    refine op_fnV rfl rfl rfl hH15 (c58_1 (Heap.rdw T.el30_encI hH15 (n := 0) rfl)) (fun w16 hH17 => ?_)
    refine ops_y hH17 rfl rfl (yv_not rfl) ?_
    refine ops_y hH17 rfl rfl (yv_assign rfl) (ops_nil (thn_n ?_))
    by_cases hc18 : 0 ≤ k ∧ k ≤ (Q.cnt (n).toNat : Int) - 1
    · skip
      refine cond_f rfl (not_decide_n hc18) ?_
      refine skip (blk_n (thn_n (seq ?_)))
      have hlen := Q.treesL_len (n := n.toNat) (by omega)
      have hc8 := Q.cnt8 n.toNat (by omega)
      have hrow : (nth (Q.treesL n.toNat) k).length = n.toNat := by have h := Q.tree_row (n := n.toNat) (i := k.toNat) (by omega); rwa [Int.toNat_of_nonneg (by omega)] at h
      refine region (ops_y hH17 rfl rfl (yv_move rfl) ?_)
      refine op_make T.el22_encI (0 : Int) T.z22_encI rfl rfl rfl hH17 (by omega) (by omega) (fun u19 lo21 hi22 w20 hH23 => ?_)
      refine ops_y hH23 rfl rfl (yv_assign rfl) (ops_nil (thn_n (seq (region (ops_y hH23 rfl rfl (yv_move rfl) (ops_y hH23 rfl rfl (yv_move rfl) ?_))))))
      refine op_fn rfl rfl rfl hH23 ((by have h := c74 (n := n.toNat) (w := w20) (by omega); rw [Int.toNat_of_nonneg (by omega)] at h; exact h)) (fun u26 w24 lo27 hi28 hH25 hv29 => ?_)
      obtain ⟨VA, hH30⟩ := Heap.fixRowsV hH25 (n := 0) rfl
      have hVAl := (show RowsV u26 VA (Q.treesL n.toNat) _ from hH30.get (n := 0) rfl).2.1
      refine ops_y hH30 rfl rfl (yv_move rfl) ?_
      refine ops_y hH30 rfl rfl (yv_index T.sl100 rfl rfl (((show RowsV u26 VA (Q.treesL n.toNat) _ from hH30.get (n := 0) rfl)).1).is (by omega)) ?_
      refine ops_y hH30 rfl rfl (yv_load T.one22 rfl (fun _ hw => Rd.at (((show RowsV u26 VA (Q.treesL n.toNat) _ from hw.get (n := 0) rfl)).1) (i := k) (by omega) (j := 0) rfl)) ?_
      refine op_copy (n := 1) T.el22_encI rfl rfl rfl hH30 rfl (RowsV.at ((show RowsV u26 VA (Q.treesL n.toNat) _ from hH30.get (n := 0) rfl)) (by omega) (by omega)) (by first | omega | (rw [List.length_replicate]; omega)) (fun w31 hH32 => ?_)
      refine ops_nil (thn_n (seq (region (ops_y hH32 rfl rfl (yv_move rfl) (ops_y hH32 rfl rfl (yv_assign rfl) (ops_y hH32 rfl rfl (yv_assign rfl) (ops_nil (thn_n (ret ?_)))))))))
      have hH33 := (hH32.sub (List.Sublist.cons _ (List.Sublist.cons_cons _ (List.Sublist.cons _ (List.Sublist.cons _ (List.Sublist.refl _))))))
      refine fin (hH33.front (n := 1) rfl) (fun w' hf => (res2 rfl (show RV _ _ _ (.tmp 4) _ from rfl) (show RV _ _ _ (.tmp 5) _ from rfl))) (fun w' hf => ?_)
      first | (rw [Q.at1 (by omega)]; exact ⟨_, rfl, own_nil⟩) | (rw [Q.at2 (by omega) (by omega)]; exact ⟨_, rfl, own_nil⟩) | (rw [Q.at3 (by omega) (by omega)]; have ho := Heap.own hf (n := 0) rfl; rw [Q.copy_all hrow] at ho; exact ⟨_, rfl, ho⟩)
    · skip
      refine cond_t rfl (not_decide_t hc18) ?_
      refine seq (region (ops_y hH17 rfl rfl (yv_assign rfl) (ops_y hH17 rfl rfl (yv_assign rfl) (ops_nil (thn_n (ret (blk_r (thn_r ?_))))))))
      have hH34 := (hH17.sub (List.Sublist.cons _ (List.Sublist.cons _ (List.Sublist.refl _))))
      refine fin hH34 (fun w' hf => (res2 rfl (show RV _ _ _ (.tmp 4) _ from rfl) (show RV _ _ _ (.tmp 5) _ from rfl))) (fun w' hf => ?_)
      first | (rw [Q.at1 (by omega)]; exact ⟨_, rfl, own_nil⟩) | (rw [Q.at2 (by omega) (by omega)]; exact ⟨_, rfl, own_nil⟩) | (rw [Q.at3 (by omega) (by omega)]; have ho := Heap.own hf (n := 0) rfl; rw [Q.copy_all hrow] at ho; exact ⟨_, rfl, ho⟩)
  · skip
    refine cond_t rfl (not_decide_t hc8) ?_
    refine seq (region (ops_y hH7 rfl rfl (yv_assign rfl) (ops_y hH7 rfl rfl (yv_assign rfl) (ops_nil (thn_n (ret (blk_r (thn_r ?_))))))))
    have hH35 := (hH7.sub (List.Sublist.cons _ (List.Sublist.refl _)))
    refine fin hH35 (fun w' hf => (res2 rfl (show RV _ _ _ (.tmp 4) _ from rfl) (show RV _ _ _ (.tmp 5) _ from rfl))) (fun w' hf => ?_)
    first | (rw [Q.at1 (by omega)]; exact ⟨_, rfl, own_nil⟩) | (rw [Q.at2 (by omega) (by omega)]; exact ⟨_, rfl, own_nil⟩) | (rw [Q.at3 (by omega) (by omega)]; have ho := Heap.own hf (n := 0) rfl; rw [Q.copy_all hrow] at ho; exact ⟨_, rfl, ho⟩)

end Go.Fip

set_option linter.unusedVariables false
set_option linter.unusedSimpArgs false
set_option linter.unusedSectionVars false
set_option linter.unnecessarySimpa false
namespace Go.Fip
open Go.Proofs Go.RowKit

theorem RowsAt.four {u : Value} {s0 s1 s2 s3 : Hd} {l0 l1 l2 l3 : List Int} {w : World} (h : Rd encS 1 u [s0, s1, s2, s3] w) (h0 : Rd encI 1 (sv s0) l0 w) (h1 : Rd encI 1 (sv s1) l1 w) (h2 : Rd encI 1 (sv s2) l2 w) (h3 : Rd encI 1 (sv s3) l3 w) : RowsAt u [s0, s1, s2, s3] [l0, l1, l2, l3] w :=
  ⟨h, rfl, fun i hi => by
    match i, hi with
    | 0, _ => exact h0
    | 1, _ => exact h1
    | 2, _ => exact h2
    | 3, _ => exact h3⟩
theorem rd_hd {v : Value} {s : Hd} {l : List Int} {w : World} (h : Rd encI 1 v l w) (e : v = sv s) : Rd encI 1 (sv s) l w := e ▸ h

theorem c55 {x : Int} {w : World}  :
    Fn Try.prog 55 [(.int .i64 x)].toArray w (fun u w => ∃ TT, RowsAt u TT [[4, 8, 20, x], [2, 10, 16], [6, 12], [3]] w) := by
  refine fn_of' (args := [(.int .i64 x)]) Try.func55 rfl (ent Try.func55 (by kernel_rfl) rfl) rfl rfl (fun hH => ?_)
  refine seq (region (ops_y hH rfl rfl (yv_assign rfl) (ops_nil (thn_n (seq (region (ops_y hH rfl rfl (yv_move rfl) ?_)))))))
  refine op_lit (us := [(0, (.int .i64 4)), (1, (.int .i64 8)), (2, (.int .i64 20)), (3, (.int .i64 x))]) T.el30_encI [4, 8, 20, x] rfl (by decide) rfl (fun a ha => by simp [ha.ev (show ev _ (.const (.int .i64 4)) = some _ from rfl), ha.ev (show ev _ (.const (.int .i64 8)) = some _ from rfl), ha.ev (show ev _ (.const (.int .i64 20)) = some _ from rfl), ha.ev (show ev _ (.tmp 3) = some _ from rfl)]) (fun w => by kernel_rfl) hH (fun u1 lo3 hi4 w2 hH5 => ?_)
  refine op_fnV rfl rfl rfl hH5 (c52) (fun w6 hH7 => ?_)
  refine op_lit (us := [(0, (.int .i64 2)), (1, (.int .i64 10)), (2, (.int .i64 16))]) T.el30_encI [2, 10, 16] rfl (by decide) rfl (fun a ha => by simp [ha.ev (show ev _ (.const (.int .i64 2)) = some _ from rfl), ha.ev (show ev _ (.const (.int .i64 10)) = some _ from rfl), ha.ev (show ev _ (.const (.int .i64 16)) = some _ from rfl)]) (fun w => by kernel_rfl) hH7 (fun u8 lo10 hi11 w9 hH12 => ?_)
  refine op_fnV rfl rfl rfl hH12 (c52) (fun w13 hH14 => ?_)
  refine op_lit (us := [(0, (.int .i64 6)), (1, (.int .i64 12))]) T.el30_encI [6, 12] rfl (by decide) rfl (fun a ha => by simp [ha.ev (show ev _ (.const (.int .i64 6)) = some _ from rfl), ha.ev (show ev _ (.const (.int .i64 12)) = some _ from rfl)]) (fun w => by kernel_rfl) hH14 (fun u15 lo17 hi18 w16 hH19 => ?_)
  refine op_fnV rfl rfl rfl hH19 (c52) (fun w20 hH21 => ?_)
  refine op_lit (us := [(0, (.int .i64 3))]) T.el30_encI [3] rfl (by decide) rfl (fun a ha => by simp [ha.ev (show ev _ (.const (.int .i64 3)) = some _ from rfl)]) (fun w => by kernel_rfl) hH21 (fun u22 lo24 hi25 w23 hH26 => ?_)
  refine op_fnV rfl rfl rfl hH26 (c52) (fun w27 hH28 => ?_)
  obtain ⟨s29, hs30⟩ := Heap.sv hH28 (n := 3) rfl (by simp)
  obtain ⟨s31, hs32⟩ := Heap.sv hH28 (n := 2) rfl (by simp)
  obtain ⟨s33, hs34⟩ := Heap.sv hH28 (n := 1) rfl (by simp)
  obtain ⟨s35, hs36⟩ := Heap.sv hH28 (n := 0) rfl (by simp)
  refine op_lit (us := [(0, u1), (1, u8), (2, u15), (3, u22)]) T.el45_encS [s29, s31, s33, s35] rfl (by decide) rfl (fun a ha => by simp [ha.ev (show ev _ (.tmp 5) = some _ from rfl), ha.ev (show ev _ (.tmp 7) = some _ from rfl), ha.ev (show ev _ (.tmp 9) = some _ from rfl), ha.ev (show ev _ (.tmp 11) = some _ from rfl)]) (fun w => by rw [hs30, hs32, hs34, hs36]; kernel_rfl) hH28 (fun u37 lo39 hi40 w38 hH41 => ?_)
  refine ops_y hH41 rfl rfl (yv_assign rfl) (ops_nil (thn_n (ret ?_)))
  refine fin (hH41.front (n := 5) rfl) (fun w' hf => (res1 rfl (show RV _ _ _ (.tmp 2) _ from rfl))) (fun w' hf => ?_)
  exact ⟨_, RowsAt.four (Heap.rdw T.el45_encS hf (n := 0) rfl) (rd_hd (Heap.rdw T.el30_encI hf (n := 4) rfl) hs30) (rd_hd (Heap.rdw T.el30_encI hf (n := 3) rfl) hs32) (rd_hd (Heap.rdw T.el30_encI hf (n := 2) rfl) hs34) (rd_hd (Heap.rdw T.el30_encI hf (n := 1) rfl) hs36)⟩

namespace K
theorem t19 : Q.ckT [1, 2, 0, 1] = 0 := by decide +kernel
theorem t2 : Q.ckT [1, 3, 0, 1] = 24 := by decide +kernel
theorem tr1 : Q.trialsR [1, 2, 0, 1] 1 = ([2, 0, 1], 0) := by decide +kernel
theorem tr2 : Q.trialsR [1, 2, 0, 1] 4 = ([], 2) := by decide +kernel
theorem co1 : Q.costR [4, 2, 6, 3] [1, 2, 0, 1] = (26, 0) := by decide +kernel
theorem co2 : Q.costR [4, 2, 6, 3] [0, 1, 2] = (0, 15) := by decide +kernel
theorem le : Q.leastR [4, 2, 6, 3] = (26, 0) := by decide +kernel
theorem be : Q.bestR [4, 2, 6, 3] = ([1, 2, 0, 1], 0) := by decide +kernel
theorem ma : Q.manyR [4, 2, 6, 3] = (1, 0) := by decide +kernel
theorem ro : Q.rootsR [1, 1] 0 1 = ([0, 1], 0) := by decide +kernel
theorem bo : Q.boundsR [4, 2, 6, 3] = ([[4, 8, 20, 26], [2, 10, 16], [6, 12], [3]], 0) := by decide +kernel
theorem cb20 : Q.ckB [4, 2, 6, 3] [[4, 8, 20, 20], [2, 10, 16], [6, 12], [3]] = (20, 0) := by decide +kernel
theorem cb27 : Q.ckB [4, 2, 6, 3] [[4, 8, 20, 27], [2, 10, 16], [6, 12], [3]] = (0, 14) := by decide +kernel
theorem lo : Q.lowR 4 = ([0, 2, 1, 2], 0) := by decide +kernel
theorem cn : Q.countR 12 = (208012, 0) := by decide +kernel
theorem nu : Q.numR [1, 2, 0, 1] = (7, 0) := by decide +kernel
theorem at9 : Q.atR 3 2 = ([1, 0, 1], 0) := by decide +kernel
end K
theorem c16 {w : World}  :
    Fn Try.prog 16 [].toArray w (fun u _ => u = .bool true) := by
  refine fn_of' (args := []) Try.func16 rfl (ent Try.func16 (by kernel_rfl) rfl) rfl rfl (fun hH => ?_)
  refine seq (region (ops_y hH rfl rfl (yv_assign rfl) (ops_nil (thn_n (seq (region ?_))))))
  refine op_fn rfl rfl rfl hH (c54) (fun u3 w1 lo4 hi5 hH2 hv6 => ?_)
  have hH7 := Heap.toOw hH2 (n := 0) rfl
  refine op_lit (us := [(0, (.int .i64 1)), (1, (.int .i64 2)), (2, (.int .i64 0)), (3, (.int .i64 1))]) T.el22_encI [1, 2, 0, 1] rfl (by decide) rfl (fun a ha => by simp [ha.ev (show ev _ (.const (.int .i64 1)) = some _ from rfl), ha.ev (show ev _ (.const (.int .i64 2)) = some _ from rfl), ha.ev (show ev _ (.const (.int .i64 0)) = some _ from rfl), ha.ev (show ev _ (.const (.int .i64 1)) = some _ from rfl)]) (fun w => by kernel_rfl) hH7 (fun u8 lo10 hi11 w9 hH12 => ?_)
  refine op_fnV rfl rfl rfl hH12 (c48) (fun w13 hH14 => ?_)
  refine ops_y hH14 rfl rfl (yv_assign rfl) (ops_y hH14 rfl rfl (yv_assign rfl) (ops_nil (thn_n (seq (region (ops_y hH14 rfl rfl (yv_move rfl) ?_))))))
  refine op_fnV rfl rfl rfl hH14 ((by have h := c19 (Heap.rdw T.el22_encI hH14 (n := 0) rfl) (by decide) (by decide) (w := w13); simp only [K.t19] at h; exact h)) (fun w15 hH16 => ?_)
  refine op_lit (us := [(0, (.int .i64 1)), (1, (.int .i64 3)), (2, (.int .i64 0)), (3, (.int .i64 1))]) T.el22_encI [1, 3, 0, 1] rfl (by decide) rfl (fun a ha => by simp [ha.ev (show ev _ (.const (.int .i64 1)) = some _ from rfl), ha.ev (show ev _ (.const (.int .i64 3)) = some _ from rfl), ha.ev (show ev _ (.const (.int .i64 0)) = some _ from rfl), ha.ev (show ev _ (.const (.int .i64 1)) = some _ from rfl)]) (fun w => by kernel_rfl) hH16 (fun u17 lo19 hi20 w18 hH21 => ?_)
  refine op_fnV rfl rfl rfl hH21 (c48) (fun w22 hH23 => ?_)
  refine op_fnV rfl rfl rfl hH23 ((by have h := c19 (Heap.rdw T.el22_encI hH23 (n := 0) rfl) (by decide) (by decide) (w := w22); simp only [K.t2] at h; exact h)) (fun w24 hH25 => ?_)
  refine ops_y hH25 rfl rfl (yv_assign rfl) (ops_y hH25 rfl rfl (yv_assign rfl) (ops_nil (thn_n (seq (region (ops_y hH25 rfl rfl (yv_move rfl) ?_))))))
  refine op_fn rfl rfl rfl hH25 ((by have h := c17 (Heap.rdw T.el22_encI hH25 (n := 1) rfl) (by decide) (by decide) (a := 1) (w := w24); simp only [K.tr1] at h; exact h)) (fun u28 w26 lo29 hi30 hH27 hv31 => ?_)
  obtain ⟨p33, hu, -⟩ := hv31
  subst hu
  have hH32 := Heap.tup2 hH27 (n := 0) rfl
  refine ops_y hH32 rfl rfl (yv_move rfl) (ops_y hH32 rfl rfl (yv_extract rfl rfl) (ops_y hH32 rfl rfl (yv_extract rfl rfl) (ops_y hH32 rfl rfl (yv_assign rfl) (ops_y hH32 rfl rfl (yv_assign rfl) (ops_nil (thn_n (seq (region (ops_y hH32 rfl rfl (yv_move rfl) ?_)))))))))
  refine op_fn rfl rfl rfl hH32 ((by have h := c17 (Heap.rdw T.el22_encI hH32 (n := 2) rfl) (by decide) (by decide) (a := 4) (w := w26); simp only [K.tr2] at h; exact h)) (fun u36 w34 lo37 hi38 hH35 hv39 => ?_)
  obtain ⟨p41, hu, -⟩ := hv39
  subst hu
  have hH40 := Heap.tup2 hH35 (n := 0) rfl
  refine ops_y hH40 rfl rfl (yv_move rfl) (ops_y hH40 rfl rfl (yv_extract rfl rfl) (ops_y hH40 rfl rfl (yv_extract rfl rfl) (ops_y hH40 rfl rfl (yv_assign rfl) (ops_y hH40 rfl rfl (yv_assign rfl) (ops_nil (thn_n (seq (region (ops_y hH40 rfl rfl (yv_move rfl) ?_)))))))))
  refine ops_y hH40 rfl rfl (yv_move rfl) ?_
  refine op_fnV rfl rfl rfl hH40 ((by have h := c23 (Heap.rdw T.el30_encI hH40 (n := 4) rfl) (Heap.rdw T.el22_encI hH40 (n := 3) rfl) (by decide) (by decide) (by decide) (w := w34); simp only [K.co1] at h; exact h)) (fun w42 hH43 => ?_)
  refine ops_y hH43 rfl rfl (yv_move rfl) (ops_y hH43 rfl rfl (yv_extract rfl rfl) (ops_y hH43 rfl rfl (yv_extract rfl rfl) (ops_y hH43 rfl rfl (yv_assign rfl) (ops_y hH43 rfl rfl (yv_assign rfl) (ops_nil (thn_n (seq (region (ops_y hH43 rfl rfl (yv_move rfl) ?_)))))))))
  refine op_lit (us := [(0, (.int .i64 0)), (1, (.int .i64 1)), (2, (.int .i64 2))]) T.el22_encI [0, 1, 2] rfl (by decide) rfl (fun a ha => by simp [ha.ev (show ev _ (.const (.int .i64 0)) = some _ from rfl), ha.ev (show ev _ (.const (.int .i64 1)) = some _ from rfl), ha.ev (show ev _ (.const (.int .i64 2)) = some _ from rfl)]) (fun w => by kernel_rfl) hH43 (fun u44 lo46 hi47 w45 hH48 => ?_)
  refine op_fnV rfl rfl rfl hH48 (c48) (fun w49 hH50 => ?_)
  refine op_fnV rfl rfl rfl hH50 ((by have h := c23 (Heap.rdw T.el30_encI hH50 (n := 5) rfl) (Heap.rdw T.el22_encI hH50 (n := 0) rfl) (by decide) (by decide) (by decide) (w := w49); simp only [K.co2] at h; exact h)) (fun w51 hH52 => ?_)
  refine ops_y hH52 rfl rfl (yv_move rfl) (ops_y hH52 rfl rfl (yv_extract rfl rfl) (ops_y hH52 rfl rfl (yv_extract rfl rfl) (ops_y hH52 rfl rfl (yv_assign rfl) (ops_y hH52 rfl rfl (yv_assign rfl) (ops_nil (thn_n (seq (region (ops_y hH52 rfl rfl (yv_move rfl) ?_)))))))))
  refine op_fnV rfl rfl rfl hH52 ((by have h := c25 (Heap.rdw T.el30_encI hH52 (n := 5) rfl) (by decide) (w := w51); simp only [K.le] at h; exact h)) (fun w53 hH54 => ?_)
  refine ops_y hH54 rfl rfl (yv_move rfl) (ops_y hH54 rfl rfl (yv_extract rfl rfl) (ops_y hH54 rfl rfl (yv_extract rfl rfl) (ops_y hH54 rfl rfl (yv_assign rfl) (ops_y hH54 rfl rfl (yv_assign rfl) (ops_nil (thn_n (seq (region (ops_y hH54 rfl rfl (yv_move rfl) ?_)))))))))
  refine op_fn rfl rfl rfl hH54 ((by have h := c27 (Heap.rdw T.el30_encI hH54 (n := 5) rfl) (by decide) (w := w53); simp only [K.be] at h; exact h)) (fun u57 w55 lo58 hi59 hH56 hv60 => ?_)
  obtain ⟨p62, hu, -⟩ := hv60
  subst hu
  have hH61 := Heap.tup2 hH56 (n := 0) rfl
  refine ops_y hH61 rfl rfl (yv_move rfl) (ops_y hH61 rfl rfl (yv_extract rfl rfl) (ops_y hH61 rfl rfl (yv_extract rfl rfl) (ops_y hH61 rfl rfl (yv_assign rfl) (ops_y hH61 rfl rfl (yv_assign rfl) (ops_nil (thn_n (seq (region (ops_y hH61 rfl rfl (yv_move rfl) ?_)))))))))
  refine op_fnV rfl rfl rfl hH61 ((by have h := c29 (Heap.rdw T.el30_encI hH61 (n := 6) rfl) (by decide) (w := w55); simp only [K.ma] at h; exact h)) (fun w63 hH64 => ?_)
  refine ops_y hH64 rfl rfl (yv_move rfl) (ops_y hH64 rfl rfl (yv_extract rfl rfl) (ops_y hH64 rfl rfl (yv_extract rfl rfl) (ops_y hH64 rfl rfl (yv_assign rfl) (ops_y hH64 rfl rfl (yv_assign rfl) (ops_nil (thn_n (seq (region ?_))))))))
  refine op_lit (us := [(0, (.int .i64 1)), (1, (.int .i64 1))]) T.el30_encI [1, 1] rfl (by decide) rfl (fun a ha => by simp [ha.ev (show ev _ (.const (.int .i64 1)) = some _ from rfl), ha.ev (show ev _ (.const (.int .i64 1)) = some _ from rfl)]) (fun w => by kernel_rfl) hH64 (fun u65 lo67 hi68 w66 hH69 => ?_)
  refine op_fnV rfl rfl rfl hH69 (c52) (fun w70 hH71 => ?_)
  refine op_fn rfl rfl rfl hH71 ((by have h := c47 (Heap.rdw T.el30_encI hH71 (n := 0) rfl) (by decide) (a := 0) (b := 1) (w := w70); simp only [K.ro] at h; exact h)) (fun u74 w72 lo75 hi76 hH73 hv77 => ?_)
  obtain ⟨p79, hu, -⟩ := hv77
  subst hu
  have hH78 := Heap.tup2 hH73 (n := 0) rfl
  refine ops_y hH78 rfl rfl (yv_move rfl) (ops_y hH78 rfl rfl (yv_extract rfl rfl) (ops_y hH78 rfl rfl (yv_extract rfl rfl) (ops_y hH78 rfl rfl (yv_assign rfl) (ops_y hH78 rfl rfl (yv_assign rfl) (ops_nil (thn_n (seq (region (ops_y hH78 rfl rfl (yv_move rfl) ?_)))))))))
  refine op_fn rfl rfl rfl hH78 ((by have h := c56 (Heap.rdw T.el30_encI hH78 (n := 8) rfl) (by decide) (w := w72); simp only [K.bo] at h; exact h)) (fun u82 w80 lo83 hi84 hH81 hv85 => ?_)
  obtain ⟨p88, hu, -⟩ := hv85
  subst hu
  obtain ⟨TT86, hH87⟩ := Heap.tupRows hH81 (n := 0) rfl
  have hTl89 := (show RowsAt p88 TT86 [[4, 8, 20, 26], [2, 10, 16], [6, 12], [3]] _ from hH87.get (n := 0) rfl).2.1
  refine ops_y hH87 rfl rfl (yv_move rfl) (ops_y hH87 rfl rfl (yv_extract rfl rfl) (ops_y hH87 rfl rfl (yv_extract rfl rfl) (ops_y hH87 rfl rfl (yv_assign rfl) (ops_y hH87 rfl rfl (yv_assign rfl) (ops_nil (thn_n (seq (region (ops_y hH87 rfl rfl (yv_move rfl) ?_)))))))))
  refine op_fn rfl rfl rfl hH87 (c55) (fun u92 w90 lo93 hi94 hH91 hv95 => ?_)
  obtain ⟨TT96, hH97⟩ := Heap.fixRows hH91 (n := 0) rfl
  have hTl98 := (show RowsAt u92 TT96 [[4, 8, 20, 20], [2, 10, 16], [6, 12], [3]] _ from hH97.get (n := 0) rfl).2.1
  refine op_fnV rfl rfl rfl hH97 ((by have h := c44 (Heap.rdw T.el30_encI hH97 (n := 10) rfl) ((show RowsAt u92 TT96 [[4, 8, 20, 20], [2, 10, 16], [6, 12], [3]] _ from hH97.get (n := 0) rfl)) (by decide) (by decide) (by decide) (w := w90); simp only [K.cb20] at h; exact h)) (fun w99 hH100 => ?_)
  refine ops_y hH100 rfl rfl (yv_move rfl) (ops_y hH100 rfl rfl (yv_extract rfl rfl) (ops_y hH100 rfl rfl (yv_extract rfl rfl) (ops_y hH100 rfl rfl (yv_assign rfl) (ops_y hH100 rfl rfl (yv_assign rfl) (ops_nil (thn_n (seq (region (ops_y hH100 rfl rfl (yv_move rfl) ?_)))))))))
  refine op_fn rfl rfl rfl hH100 (c55) (fun u103 w101 lo104 hi105 hH102 hv106 => ?_)
  obtain ⟨TT107, hH108⟩ := Heap.fixRows hH102 (n := 0) rfl
  have hTl109 := (show RowsAt u103 TT107 [[4, 8, 20, 27], [2, 10, 16], [6, 12], [3]] _ from hH108.get (n := 0) rfl).2.1
  refine op_fnV rfl rfl rfl hH108 ((by have h := c44 (Heap.rdw T.el30_encI hH108 (n := 11) rfl) ((show RowsAt u103 TT107 [[4, 8, 20, 27], [2, 10, 16], [6, 12], [3]] _ from hH108.get (n := 0) rfl)) (by decide) (by decide) (by decide) (w := w101); simp only [K.cb27] at h; exact h)) (fun w110 hH111 => ?_)
  refine ops_y hH111 rfl rfl (yv_move rfl) (ops_y hH111 rfl rfl (yv_extract rfl rfl) (ops_y hH111 rfl rfl (yv_extract rfl rfl) (ops_y hH111 rfl rfl (yv_assign rfl) (ops_y hH111 rfl rfl (yv_assign rfl) (ops_nil (thn_n (seq (region ?_))))))))
  refine op_fn rfl rfl rfl hH111 ((by have h := c33  (n := 4) (w := w110); simp only [K.lo] at h; exact h)) (fun u114 w112 lo115 hi116 hH113 hv117 => ?_)
  obtain ⟨p119, hu, -⟩ := hv117
  subst hu
  have hH118 := Heap.tup2 hH113 (n := 0) rfl
  refine ops_y hH118 rfl rfl (yv_move rfl) (ops_y hH118 rfl rfl (yv_extract rfl rfl) (ops_y hH118 rfl rfl (yv_extract rfl rfl) (ops_y hH118 rfl rfl (yv_assign rfl) (ops_y hH118 rfl rfl (yv_assign rfl) (ops_nil (thn_n (seq (region ?_))))))))
  refine op_fnV rfl rfl rfl hH118 ((by have h := c35  (n := 12) (w := w112); simp only [K.cn] at h; exact h)) (fun w120 hH121 => ?_)
  refine ops_y hH121 rfl rfl (yv_move rfl) (ops_y hH121 rfl rfl (yv_extract rfl rfl) (ops_y hH121 rfl rfl (yv_extract rfl rfl) (ops_y hH121 rfl rfl (yv_assign rfl) (ops_y hH121 rfl rfl (yv_assign rfl) (ops_nil (thn_n (seq (region (ops_y hH121 rfl rfl (yv_move rfl) ?_)))))))))
  refine op_fnV rfl rfl rfl hH121 ((by have h := c37 (Heap.rdw T.el22_encI hH121 (n := 11) rfl) (by decide) (by decide) (w := w120); simp only [K.nu] at h; exact h)) (fun w122 hH123 => ?_)
  refine ops_y hH123 rfl rfl (yv_move rfl) (ops_y hH123 rfl rfl (yv_extract rfl rfl) (ops_y hH123 rfl rfl (yv_extract rfl rfl) (ops_y hH123 rfl rfl (yv_assign rfl) (ops_y hH123 rfl rfl (yv_assign rfl) (ops_nil (thn_n (seq (region ?_))))))))
  refine op_fn rfl rfl rfl hH123 ((by have h := c39  (n := 3) (k := 2) (w := w122); simp only [K.at9] at h; exact h)) (fun u126 w124 lo127 hi128 hH125 hv129 => ?_)
  obtain ⟨p131, hu, -⟩ := hv129
  subst hu
  have hH130 := Heap.tup2 hH125 (n := 0) rfl
  refine ops_y hH130 rfl rfl (yv_move rfl) (ops_y hH130 rfl rfl (yv_extract rfl rfl) (ops_y hH130 rfl rfl (yv_extract rfl rfl) (ops_y hH130 rfl rfl (yv_assign rfl) (ops_y hH130 rfl rfl (yv_assign rfl) (ops_nil (thn_n (seq (seq (region ?_)))))))))
  refine ops_y hH130 rfl rfl (yv_move rfl) ?_
  refine ops_y hH130 rfl rfl (yv_castB rfl (yv_neq rfl rfl)) ?_
  refine ops_y hH130 rfl rfl (yv_move rfl) (guard_yes rfl rfl rfl (ops_y hH130 rfl rfl (yv_move rfl) (guard_yes rfl rfl rfl ?_)))
  refine ops_y hH130 rfl rfl (yv_castB rfl (yv_neq rfl rfl)) ?_
  refine ops_y hH130 rfl rfl (yv_pick_f rfl rfl rfl) ?_
  refine ops_y hH130 rfl rfl (yv_move rfl) (guard_yes rfl rfl rfl (ops_y hH130 rfl rfl (yv_move rfl) (guard_yes rfl rfl rfl ?_)))
  refine ops_y hH130 rfl rfl (yv_castB rfl (yv_neq rfl rfl)) ?_
  refine ops_y hH130 rfl rfl (yv_pick_f rfl rfl rfl) ?_
  refine ops_y hH130 rfl rfl (yv_move rfl) (guard_yes rfl rfl rfl (ops_y hH130 rfl rfl (yv_move rfl) (guard_yes rfl rfl rfl ?_)))
  refine ops_y hH130 rfl rfl (yv_castB rfl (yv_neq rfl rfl)) ?_
  refine ops_y hH130 rfl rfl (yv_pick_f rfl rfl rfl) ?_
  refine ops_y hH130 rfl rfl (yv_move rfl) (guard_yes rfl rfl rfl (ops_y hH130 rfl rfl (yv_move rfl) (guard_yes rfl rfl rfl ?_)))
  refine ops_y hH130 rfl rfl (yv_castB rfl (yv_neq rfl rfl)) ?_
  refine ops_y hH130 rfl rfl (yv_pick_f rfl rfl rfl) ?_
  refine ops_y hH130 rfl rfl (yv_move rfl) (guard_yes rfl rfl rfl (ops_y hH130 rfl rfl (yv_move rfl) (guard_yes rfl rfl rfl ?_)))
  refine ops_y hH130 rfl rfl (yv_castB rfl (yv_neq rfl rfl)) ?_
  refine ops_y hH130 rfl rfl (yv_pick_f rfl rfl rfl) ?_
  refine ops_y hH130 rfl rfl (yv_move rfl) (guard_yes rfl rfl rfl (ops_y hH130 rfl rfl (yv_move rfl) (guard_yes rfl rfl rfl ?_)))
  refine ops_y hH130 rfl rfl (yv_castB rfl (yv_neq rfl rfl)) ?_
  refine ops_y hH130 rfl rfl (yv_pick_f rfl rfl rfl) ?_
  refine ops_y hH130 rfl rfl (yv_move rfl) (guard_yes rfl rfl rfl (ops_y hH130 rfl rfl (yv_move rfl) (guard_yes rfl rfl rfl ?_)))
  refine ops_y hH130 rfl rfl (yv_castB rfl (yv_neq rfl rfl)) ?_
  refine ops_y hH130 rfl rfl (yv_pick_f rfl rfl rfl) ?_
  refine ops_y hH130 rfl rfl (yv_move rfl) (guard_yes rfl rfl rfl (ops_y hH130 rfl rfl (yv_move rfl) (guard_yes rfl rfl rfl ?_)))
  refine ops_y hH130 rfl rfl (yv_castB rfl (yv_neq rfl rfl)) ?_
  refine ops_y hH130 rfl rfl (yv_pick_f rfl rfl rfl) ?_
  refine ops_y hH130 rfl rfl (yv_move rfl) (guard_yes rfl rfl rfl (ops_y hH130 rfl rfl (yv_move rfl) (guard_yes rfl rfl rfl ?_)))
  refine ops_y hH130 rfl rfl (yv_castB rfl (yv_neq rfl rfl)) ?_
  refine ops_y hH130 rfl rfl (yv_pick_f rfl rfl rfl) ?_
  refine ops_y hH130 rfl rfl (yv_move rfl) (guard_yes rfl rfl rfl (ops_y hH130 rfl rfl (yv_move rfl) (guard_yes rfl rfl rfl ?_)))
  refine ops_y hH130 rfl rfl (yv_castB rfl (yv_neq rfl rfl)) ?_
  refine ops_y hH130 rfl rfl (yv_pick_f rfl rfl rfl) ?_
  refine ops_y hH130 rfl rfl (yv_move rfl) (guard_yes rfl rfl rfl (ops_y hH130 rfl rfl (yv_move rfl) (guard_yes rfl rfl rfl ?_)))
  refine ops_y hH130 rfl rfl (yv_castB rfl (yv_neq rfl rfl)) ?_
  refine ops_y hH130 rfl rfl (yv_pick_f rfl rfl rfl) ?_
  refine ops_y hH130 rfl rfl (yv_move rfl) (guard_yes rfl rfl rfl (ops_y hH130 rfl rfl (yv_move rfl) (guard_yes rfl rfl rfl ?_)))
  refine ops_y hH130 rfl rfl (yv_castB rfl (yv_neq rfl rfl)) ?_
  refine ops_y hH130 rfl rfl (yv_pick_f rfl rfl rfl) ?_
  refine ops_y hH130 rfl rfl (yv_move rfl) (guard_yes rfl rfl rfl (ops_y hH130 rfl rfl (yv_move rfl) (guard_yes rfl rfl rfl ?_)))
  refine ops_y hH130 rfl rfl (yv_castB rfl (yv_neq rfl rfl)) ?_
  refine ops_y hH130 rfl rfl (yv_pick_f rfl rfl rfl) ?_
  refine ops_y hH130 rfl rfl (yv_move rfl) (guard_yes rfl rfl rfl (ops_y hH130 rfl rfl (yv_move rfl) (guard_yes rfl rfl rfl ?_)))
  refine ops_y hH130 rfl rfl (yv_castB rfl (yv_neq rfl rfl)) ?_
  refine ops_y hH130 rfl rfl (yv_pick_f rfl rfl rfl) ?_
  refine ops_y hH130 rfl rfl (yv_move rfl) (guard_yes rfl rfl rfl (ops_y hH130 rfl rfl (yv_move rfl) (guard_yes rfl rfl rfl ?_)))
  refine ops_y hH130 rfl rfl (yv_castB rfl (yv_neq rfl rfl)) ?_
  refine ops_y hH130 rfl rfl (yv_pick_f rfl rfl rfl) ?_
  refine ops_y hH130 rfl rfl (yv_move rfl) (guard_yes rfl rfl rfl (ops_y hH130 rfl rfl (yv_move rfl) (guard_yes rfl rfl rfl ?_)))
  refine ops_y hH130 rfl rfl (yv_castB rfl (yv_neq rfl rfl)) ?_
  refine ops_y hH130 rfl rfl (yv_pick_f rfl rfl rfl) ?_
  refine ops_nil (thn_n ?_)
  refine cond_f rfl rfl ?_
  refine skip (thn_n (seq (region (ops_y hH130 rfl rfl (yv_move rfl) ?_))))
  refine op_lit (us := [(0, (.int .i64 2)), (1, (.int .i64 0)), (2, (.int .i64 1))]) T.el22_encI [2, 0, 1] rfl (by decide) rfl (fun a ha => by simp [ha.ev (show ev _ (.const (.int .i64 2)) = some _ from rfl), ha.ev (show ev _ (.const (.int .i64 0)) = some _ from rfl), ha.ev (show ev _ (.const (.int .i64 1)) = some _ from rfl)]) (fun w => by kernel_rfl) hH130 (fun u132 lo134 hi135 w133 hH136 => ?_)
  refine op_fnV rfl rfl rfl hH136 (c48) (fun w137 hH138 => ?_)
  refine op_fnV rfl rfl rfl hH138 (c21 (Heap.rdw T.el22_encI hH138 (n := 11) rfl) (Heap.rdw T.el22_encI hH138 (n := 0) rfl) (by decide) (by decide)) (fun w139 hH140 => ?_)
  refine ops_y hH140 rfl rfl (yv_move rfl) ?_
  refine guard_yes rfl rfl (decide_eq_true rfl) ?_
  refine ops_y hH140 rfl rfl (yv_move rfl) ?_
  refine guard_yes rfl rfl (decide_eq_true rfl) ?_
  refine ops_y hH140 rfl rfl (yv_castB rfl (yv_eql rfl rfl)) ?_
  refine ops_y hH140 rfl rfl (yv_pick_t rfl (decide_eq_true rfl) rfl) ?_
  refine ops_y hH140 rfl rfl (yv_move rfl) (guard_yes rfl rfl rfl (ops_y hH140 rfl rfl (yv_move rfl) (guard_yes rfl rfl rfl ?_)))
  refine ops_y hH140 rfl rfl (yv_castB rfl (yv_eql rfl rfl)) ?_
  refine ops_y hH140 rfl rfl (yv_pick_t rfl rfl rfl) ?_
  refine ops_y hH140 rfl rfl (yv_move rfl) (guard_yes rfl rfl rfl (ops_y hH140 rfl rfl (yv_move rfl) (guard_yes rfl rfl rfl (ops_y hH140 rfl rfl (yv_move rfl) (guard_yes rfl rfl rfl ?_)))))
  refine op_fnV rfl rfl rfl hH140 (c21 (Heap.rdw T.el22_encI hH140 (n := 8) rfl) (Heap.rdw T.el22_encI hH140 (n := 13) rfl) (by decide) (by decide)) (fun w141 hH142 => ?_)
  refine ops_y hH142 rfl rfl (yv_pick_t rfl rfl rfl) ?_
  refine ops_y hH142 rfl rfl (yv_move rfl) ?_
  refine guard_yes rfl rfl (decide_eq_true rfl) ?_
  refine ops_y hH142 rfl rfl (yv_move rfl) ?_
  refine guard_yes rfl rfl (decide_eq_true rfl) ?_
  refine ops_y hH142 rfl rfl (yv_castB rfl (yv_eql rfl rfl)) ?_
  refine ops_y hH142 rfl rfl (yv_pick_t rfl (decide_eq_true rfl) rfl) ?_
  refine ops_y hH142 rfl rfl (yv_move rfl) (guard_yes rfl rfl rfl (ops_y hH142 rfl rfl (yv_move rfl) (guard_yes rfl rfl rfl ?_)))
  refine op_lit (us := [(0, (.int .i64 0)), (1, (.int .i64 1))]) T.el22_encI [0, 1] rfl (by decide) rfl (fun a ha => by simp [ha.ev (show ev _ (.const (.int .i64 0)) = some _ from rfl), ha.ev (show ev _ (.const (.int .i64 1)) = some _ from rfl)]) (fun w => by kernel_rfl) hH142 (fun u143 lo145 hi146 w144 hH147 => ?_)
  refine guard_yes rfl rfl rfl ?_
  refine op_fnV rfl rfl rfl hH147 (c48) (fun w148 hH149 => ?_)
  refine guard_yes rfl rfl rfl ?_
  refine op_fnV rfl rfl rfl hH149 (c21 (Heap.rdw T.el22_encI hH149 (n := 7) rfl) (Heap.rdw T.el22_encI hH149 (n := 0) rfl) (by decide) (by decide)) (fun w150 hH151 => ?_)
  refine ops_y hH151 rfl rfl (yv_pick_t rfl rfl rfl) ?_
  refine ops_y hH151 rfl rfl (yv_move rfl) ?_
  refine guard_yes rfl rfl (decide_eq_true rfl) ?_
  refine ops_y hH151 rfl rfl (yv_move rfl) ?_
  refine guard_yes rfl rfl (decide_eq_true rfl) ?_
  refine op_fn rfl rfl rfl hH151 (c55) (fun u154 w152 lo155 hi156 hH153 hv157 => ?_)
  obtain ⟨TT158, hH159⟩ := Heap.fixRows hH153 (n := 0) rfl
  have hTl160 := (show RowsAt u154 TT158 [[4, 8, 20, 26], [2, 10, 16], [6, 12], [3]] _ from hH159.get (n := 0) rfl).2.1
  refine guard_yes rfl rfl (decide_eq_true rfl) ?_
  refine op_fnV rfl rfl rfl hH159 (c57 ((show RowsAt p88 TT86 [[4, 8, 20, 26], [2, 10, 16], [6, 12], [3]] _ from hH159.get (n := 7) rfl)) ((show RowsAt u154 TT158 [[4, 8, 20, 26], [2, 10, 16], [6, 12], [3]] _ from hH159.get (n := 0) rfl)) (by decide) (by decide) (by decide) (by decide)) (fun w161 hH162 => ?_)
  refine ops_y hH162 rfl rfl (yv_pick_t rfl (decide_eq_true rfl) rfl) ?_
  refine ops_y hH162 rfl rfl (yv_move rfl) ?_
  refine guard_yes rfl rfl (decide_eq_true rfl) ?_
  refine ops_y hH162 rfl rfl (yv_move rfl) ?_
  refine guard_yes rfl rfl (decide_eq_true rfl) ?_
  refine ops_y hH162 rfl rfl (yv_castB rfl (yv_eql rfl rfl)) ?_
  refine ops_y hH162 rfl rfl (yv_pick_t rfl (decide_eq_true rfl) rfl) ?_
  refine ops_y hH162 rfl rfl (yv_move rfl) (guard_yes rfl rfl rfl (ops_y hH162 rfl rfl (yv_move rfl) (guard_yes rfl rfl rfl ?_)))
  refine op_lit (us := [(0, (.int .i64 0)), (1, (.int .i64 2)), (2, (.int .i64 1)), (3, (.int .i64 2))]) T.el22_encI [0, 2, 1, 2] rfl (by decide) rfl (fun a ha => by simp [ha.ev (show ev _ (.const (.int .i64 0)) = some _ from rfl), ha.ev (show ev _ (.const (.int .i64 2)) = some _ from rfl), ha.ev (show ev _ (.const (.int .i64 1)) = some _ from rfl), ha.ev (show ev _ (.const (.int .i64 2)) = some _ from rfl)]) (fun w => by kernel_rfl) hH162 (fun u163 lo165 hi166 w164 hH167 => ?_)
  refine guard_yes rfl rfl rfl ?_
  refine op_fnV rfl rfl rfl hH167 (c48) (fun w168 hH169 => ?_)
  refine guard_yes rfl rfl rfl ?_
  refine op_fnV rfl rfl rfl hH169 (c21 (Heap.rdw T.el22_encI hH169 (n := 5) rfl) (Heap.rdw T.el22_encI hH169 (n := 0) rfl) (by decide) (by decide)) (fun w170 hH171 => ?_)
  refine ops_y hH171 rfl rfl (yv_pick_t rfl rfl rfl) ?_
  refine ops_y hH171 rfl rfl (yv_move rfl) ?_
  refine guard_yes rfl rfl (decide_eq_true rfl) ?_
  refine ops_y hH171 rfl rfl (yv_move rfl) ?_
  refine guard_yes rfl rfl (decide_eq_true rfl) ?_
  refine ops_y hH171 rfl rfl (yv_castB rfl (yv_eql rfl rfl)) ?_
  refine ops_y hH171 rfl rfl (yv_pick_t rfl (decide_eq_true rfl) rfl) ?_
  refine ops_y hH171 rfl rfl (yv_move rfl) (guard_yes rfl rfl rfl (ops_y hH171 rfl rfl (yv_move rfl) (guard_yes rfl rfl rfl ?_)))
  refine ops_y hH171 rfl rfl (yv_castB rfl (yv_eql rfl rfl)) ?_
  refine ops_y hH171 rfl rfl (yv_pick_t rfl rfl rfl) ?_
  refine ops_y hH171 rfl rfl (yv_move rfl) (guard_yes rfl rfl rfl (ops_y hH171 rfl rfl (yv_move rfl) (guard_yes rfl rfl rfl ?_)))
  refine op_lit (us := [(0, (.int .i64 1)), (1, (.int .i64 0)), (2, (.int .i64 1))]) T.el22_encI [1, 0, 1] rfl (by decide) rfl (fun a ha => by simp [ha.ev (show ev _ (.const (.int .i64 1)) = some _ from rfl), ha.ev (show ev _ (.const (.int .i64 0)) = some _ from rfl), ha.ev (show ev _ (.const (.int .i64 1)) = some _ from rfl)]) (fun w => by kernel_rfl) hH171 (fun u172 lo174 hi175 w173 hH176 => ?_)
  refine guard_yes rfl rfl rfl ?_
  refine op_fnV rfl rfl rfl hH176 (c48) (fun w177 hH178 => ?_)
  refine guard_yes rfl rfl rfl ?_
  refine op_fnV rfl rfl rfl hH178 (c21 (Heap.rdw T.el22_encI hH178 (n := 5) rfl) (Heap.rdw T.el22_encI hH178 (n := 0) rfl) (by decide) (by decide)) (fun w179 hH180 => ?_)
  refine ops_y hH180 rfl rfl (yv_pick_t rfl rfl rfl) ?_
  refine ops_y hH180 rfl rfl (yv_assign rfl) (ops_nil (thn_n (ret ?_)))
  have hH181 := (hH180.sub (List.Sublist.cons _ (List.Sublist.cons _ (List.Sublist.cons _ (List.Sublist.cons _ (List.Sublist.cons _ (List.Sublist.cons _ (List.Sublist.cons _ (List.Sublist.cons _ (List.Sublist.cons _ (List.Sublist.cons _ (List.Sublist.cons _ (List.Sublist.cons _ (List.Sublist.cons _ (List.Sublist.cons _ (List.Sublist.cons _ (List.Sublist.cons _ (List.Sublist.cons _ (List.Sublist.cons _ (List.Sublist.cons _ (List.Sublist.refl _)))))))))))))))))))))
  refine fin hH181 (fun w' hf => (res1 rfl (show RV _ _ _ (.tmp 0) _ from rfl))) (fun w' hf => ?_)
  rfl

end Go.Fip

set_option linter.unusedVariables false
set_option linter.unusedSimpArgs false
set_option linter.unusedSectionVars false
namespace Go.Fip.Q
open Go.Fip
theorem tri_len : ∀ (t : T) (o x : Nat), (tri t o x).length ≤ t.size
  | .nil, _, _ => Nat.le_refl _
  | .node l r, o, x => by
    have h1 := tri_len r (o + l.size + 1) x
    have h2 := tri_len l o x
    rw [tri_node, List.length_cons]
    show _ ≤ l.size + r.size + 1
    split
    · simp
    · split <;> omega
theorem tr_size {l : List Int} (h : ckT l = 0) : (tr l).size = l.length := by
  have := tr_dep h
  have h2 := congrArg List.length this
  rwa [T.dep_length] at h2
theorem len_trials {l : List Int} {a : Int} : (trialsR l a).1.length ≤ 1000000 := by
  unfold trialsR
  split
  · exact Nat.zero_le _
  · rename_i h
    split
    · exact Nat.zero_le _
    · have h0 : ckT l = 0 := Classical.not_not.1 h
      have h1 := tri_len (tr l) 0 a.toNat
      rw [tr_size h0] at h1
      have := (ck_tree h0).1
      show (tri (tr l) 0 a.toNat).length ≤ _
      omega
theorem len_best {l : List Int} : (bestR l).1.length ≤ 1000000 := by
  unfold bestR
  split
  · exact Nat.zero_le _
  · rename_i h
    have := (ckW_w (Classical.not_not.1 h)).1
    show (F l 0 l.length).length ≤ _
    rw [F_length]; omega
theorem len_roots {l : List Int} {a b : Int} : (rootsR l a b).1.length ≤ 1000000 := by
  unfold rootsR
  split
  · exact Nat.zero_le _
  · rename_i h
    have := (ckW_w (Classical.not_not.1 h)).1
    split
    · exact Nat.zero_le _
    · show (rootsI l _ _).length ≤ _
      rw [rootsI_length]
      have := roots_length (w := l) (i := a.toNat) (k := b.toNat + 1)
      omega
theorem len_low {n : Int} : (lowR n).1.length ≤ 1000000 := by
  unfold lowR
  split
  · exact Nat.zero_le _
  · rename_i h
    have h2 : 1 ≤ n ∧ n ≤ 12 := Classical.not_not.1 h
    show (lowF _ _).length ≤ _
    rw [lowF_length (lvl_fit _ (by omega))]; omega
theorem len_at {n k : Int} : (atR n k).1.length ≤ 1000000 := by
  unfold atR
  split
  · exact Nat.zero_le _
  · rename_i h
    have h2 : 1 ≤ n ∧ n ≤ 8 := Classical.not_not.1 h
    split
    · exact Nat.zero_le _
    · rename_i h3
      have h4 : 0 ≤ k ∧ k ≤ (cnt n.toNat : Int) - 1 := Classical.not_not.1 h3
      have hl := treesL_len (n := n.toNat) (by omega)
      have := tree_row (n := n.toNat) (i := k.toNat) (by omega)
      rw [Int.toNat_of_nonneg h4.1] at this
      show (nth (treesL n.toNat) k).length ≤ _
      omega
end Go.Fip.Q
