/- Joined texts: what the statement needs, walks by program (wip/tools). -/
import Derived.Test.YtgbbgkcjpbdepaaGreatDoorA6
import Derived.Test.YtgbbgkcjpbdepaaGreatDoorA7
import Derived.Test.YtgbbgkcjpbdepaaGreatDoorA8
import Derived.Test.YtgbbgkcjpbdepaaGreatDoorA9
import Derived.Test.YtgbbgkcjpbdepaaGreatDoorA10
import Derived.Test.YtgbbgkcjpbdepaaGreatDoorA11
import Derived.Test.YtgbbgkcjpbdepaaGreatDoorA12
import Derived.Test.YtgbbgkcjpbdepaaGreatDoorA13
import Derived.Test.YtgbbgkcjpbdepaaGreatDoorA14
set_option linter.unusedVariables false
set_option linter.unusedSimpArgs false
set_option linter.unusedSectionVars false
set_option linter.unnecessarySimpa false
set_option maxRecDepth 100000
namespace Go.Ex
open Go.Fip
open Go.RowKit
open Go.Proofs
theorem kP_at:∀ n,1≤n→n≤12→∀ i,i<n→∀ (y:Nat→Value) (h:Law n y),pathO n i y h=some []
 | 1,_,_,i,hi,y,h=>isNil_eq (allB_at (kP1 y h) i hi)
 | 2,_,_,i,hi,y,h=>isNil_eq (allB_at (kP2 y h) i hi)
 | 3,_,_,i,hi,y,h=>isNil_eq (allB_at (kP3 y h) i hi)
 | 4,_,_,i,hi,y,h=>isNil_eq (allB_at (kP4 y h) i hi)
 | 5,_,_,i,hi,y,h=>isNil_eq (allB_at (kP5 y h) i hi)
 | 6,_,_,i,hi,y,h=>isNil_eq (allB_at (kP6 y h) i hi)
 | 7,_,_,i,hi,y,h=>isNil_eq (allB_at (kP7 y h) i hi)
 | 8,_,_,i,hi,y,h=>isNil_eq (allB_at (kP8 y h) i hi)
 | 9,_,_,i,hi,y,h=>isNil_eq (allB_at (kP9 y h) i hi)
 | 10,_,_,i,hi,y,h=>isNil_eq (allB_at (kP10 y h) i hi)
 | 11,_,_,i,hi,y,h=>isNil_eq (allB_at (kP11 y h) i hi)
 | 12,_,_,i,hi,y,h=>isNil_eq (allB_at (kP12 y h) i hi)
 | 0,h,_,_,_,_,_=>absurd h (by decide)
 | n+13,_,h,_,_,_,_=>absurd h (by omega)
noncomputable abbrev provedO (n m:Nat) (y:Nat→Value) (h:Law n y):R:=callO Tryz.prog 10000 (orL bookA) 60 (.fn (.func 11) 0 0 0 0) ([m].length+1) (cL (code 1 6::[m].map cI)) (symM n y h) qT
theorem kQ1:∀ m,1≤m→m≤1→∀ (y:Nat→Value) (h:Law 1 y),provedO 1 m y h=some []
 | 1,_,_,y,h=>kQ1_1 y h
 | 0,h,_,_,_=>absurd h (by decide)
 | m+2,_,h,_,_=>absurd h (by omega)
theorem kQ2:∀ m,1≤m→m≤2→∀ (y:Nat→Value) (h:Law 2 y),provedO 2 m y h=some []
 | 1,_,_,y,h=>kQ2_1 y h
 | 2,_,_,y,h=>kQ2_2 y h
 | 0,h,_,_,_=>absurd h (by decide)
 | m+3,_,h,_,_=>absurd h (by omega)
theorem kQ3:∀ m,1≤m→m≤3→∀ (y:Nat→Value) (h:Law 3 y),provedO 3 m y h=some []
 | 1,_,_,y,h=>kQ3_1 y h
 | 2,_,_,y,h=>kQ3_2 y h
 | 3,_,_,y,h=>kQ3_3 y h
 | 0,h,_,_,_=>absurd h (by decide)
 | m+4,_,h,_,_=>absurd h (by omega)
theorem kQ4:∀ m,1≤m→m≤4→∀ (y:Nat→Value) (h:Law 4 y),provedO 4 m y h=some []
 | 1,_,_,y,h=>kQ4_1 y h
 | 2,_,_,y,h=>kQ4_2 y h
 | 3,_,_,y,h=>kQ4_3 y h
 | 4,_,_,y,h=>kQ4_4 y h
 | 0,h,_,_,_=>absurd h (by decide)
 | m+5,_,h,_,_=>absurd h (by omega)
theorem kQ5:∀ m,1≤m→m≤5→∀ (y:Nat→Value) (h:Law 5 y),provedO 5 m y h=some []
 | 1,_,_,y,h=>kQ5_1 y h
 | 2,_,_,y,h=>kQ5_2 y h
 | 3,_,_,y,h=>kQ5_3 y h
 | 4,_,_,y,h=>kQ5_4 y h
 | 5,_,_,y,h=>kQ5_5 y h
 | 0,h,_,_,_=>absurd h (by decide)
 | m+6,_,h,_,_=>absurd h (by omega)
theorem kQ6:∀ m,1≤m→m≤6→∀ (y:Nat→Value) (h:Law 6 y),provedO 6 m y h=some []
 | 1,_,_,y,h=>kQ6_1 y h
 | 2,_,_,y,h=>kQ6_2 y h
 | 3,_,_,y,h=>kQ6_3 y h
 | 4,_,_,y,h=>kQ6_4 y h
 | 5,_,_,y,h=>kQ6_5 y h
 | 6,_,_,y,h=>kQ6_6 y h
 | 0,h,_,_,_=>absurd h (by decide)
 | m+7,_,h,_,_=>absurd h (by omega)
theorem kQ7:∀ m,1≤m→m≤7→∀ (y:Nat→Value) (h:Law 7 y),provedO 7 m y h=some []
 | 1,_,_,y,h=>kQ7_1 y h
 | 2,_,_,y,h=>kQ7_2 y h
 | 3,_,_,y,h=>kQ7_3 y h
 | 4,_,_,y,h=>kQ7_4 y h
 | 5,_,_,y,h=>kQ7_5 y h
 | 6,_,_,y,h=>kQ7_6 y h
 | 7,_,_,y,h=>kQ7_7 y h
 | 0,h,_,_,_=>absurd h (by decide)
 | m+8,_,h,_,_=>absurd h (by omega)
theorem kQ8:∀ m,1≤m→m≤8→∀ (y:Nat→Value) (h:Law 8 y),provedO 8 m y h=some []
 | 1,_,_,y,h=>kQ8_1 y h
 | 2,_,_,y,h=>kQ8_2 y h
 | 3,_,_,y,h=>kQ8_3 y h
 | 4,_,_,y,h=>kQ8_4 y h
 | 5,_,_,y,h=>kQ8_5 y h
 | 6,_,_,y,h=>kQ8_6 y h
 | 7,_,_,y,h=>kQ8_7 y h
 | 8,_,_,y,h=>kQ8_8 y h
 | 0,h,_,_,_=>absurd h (by decide)
 | m+9,_,h,_,_=>absurd h (by omega)
theorem kQ9:∀ m,1≤m→m≤9→∀ (y:Nat→Value) (h:Law 9 y),provedO 9 m y h=some []
 | 1,_,_,y,h=>kQ9_1 y h
 | 2,_,_,y,h=>kQ9_2 y h
 | 3,_,_,y,h=>kQ9_3 y h
 | 4,_,_,y,h=>kQ9_4 y h
 | 5,_,_,y,h=>kQ9_5 y h
 | 6,_,_,y,h=>kQ9_6 y h
 | 7,_,_,y,h=>kQ9_7 y h
 | 8,_,_,y,h=>kQ9_8 y h
 | 9,_,_,y,h=>kQ9_9 y h
 | 0,h,_,_,_=>absurd h (by decide)
 | m+10,_,h,_,_=>absurd h (by omega)
theorem kQ10:∀ m,1≤m→m≤10→∀ (y:Nat→Value) (h:Law 10 y),provedO 10 m y h=some []
 | 1,_,_,y,h=>kQ10_1 y h
 | 2,_,_,y,h=>kQ10_2 y h
 | 3,_,_,y,h=>kQ10_3 y h
 | 4,_,_,y,h=>kQ10_4 y h
 | 5,_,_,y,h=>kQ10_5 y h
 | 6,_,_,y,h=>kQ10_6 y h
 | 7,_,_,y,h=>kQ10_7 y h
 | 8,_,_,y,h=>kQ10_8 y h
 | 9,_,_,y,h=>kQ10_9 y h
 | 10,_,_,y,h=>kQ10_10 y h
 | 0,h,_,_,_=>absurd h (by decide)
 | m+11,_,h,_,_=>absurd h (by omega)
theorem kQ11:∀ m,1≤m→m≤11→∀ (y:Nat→Value) (h:Law 11 y),provedO 11 m y h=some []
 | 1,_,_,y,h=>kQ11_1 y h
 | 2,_,_,y,h=>kQ11_2 y h
 | 3,_,_,y,h=>kQ11_3 y h
 | 4,_,_,y,h=>kQ11_4 y h
 | 5,_,_,y,h=>kQ11_5 y h
 | 6,_,_,y,h=>kQ11_6 y h
 | 7,_,_,y,h=>kQ11_7 y h
 | 8,_,_,y,h=>kQ11_8 y h
 | 9,_,_,y,h=>kQ11_9 y h
 | 10,_,_,y,h=>kQ11_10 y h
 | 11,_,_,y,h=>kQ11_11 y h
 | 0,h,_,_,_=>absurd h (by decide)
 | m+12,_,h,_,_=>absurd h (by omega)
theorem kQ12:∀ m,1≤m→m≤12→∀ (y:Nat→Value) (h:Law 12 y),provedO 12 m y h=some []
 | 1,_,_,y,h=>kQ12_1 y h
 | 2,_,_,y,h=>kQ12_2 y h
 | 3,_,_,y,h=>kQ12_3 y h
 | 4,_,_,y,h=>kQ12_4 y h
 | 5,_,_,y,h=>kQ12_5 y h
 | 6,_,_,y,h=>kQ12_6 y h
 | 7,_,_,y,h=>kQ12_7 y h
 | 8,_,_,y,h=>kQ12_8 y h
 | 9,_,_,y,h=>kQ12_9 y h
 | 10,_,_,y,h=>kQ12_10 y h
 | 11,_,_,y,h=>kQ12_11 y h
 | 12,_,_,y,h=>kQ12_12 y h
 | 0,h,_,_,_=>absurd h (by decide)
 | m+13,_,h,_,_=>absurd h (by omega)
theorem kQ_at:∀ n,1≤n→n≤12→∀ m,1≤m→m≤n→∀ (y:Nat→Value) (h:Law n y),provedO n m y h=some []
 | 1,_,_,m,h1,h2,y,h=>kQ1 m h1 h2 y h
 | 2,_,_,m,h1,h2,y,h=>kQ2 m h1 h2 y h
 | 3,_,_,m,h1,h2,y,h=>kQ3 m h1 h2 y h
 | 4,_,_,m,h1,h2,y,h=>kQ4 m h1 h2 y h
 | 5,_,_,m,h1,h2,y,h=>kQ5 m h1 h2 y h
 | 6,_,_,m,h1,h2,y,h=>kQ6 m h1 h2 y h
 | 7,_,_,m,h1,h2,y,h=>kQ7 m h1 h2 y h
 | 8,_,_,m,h1,h2,y,h=>kQ8 m h1 h2 y h
 | 9,_,_,m,h1,h2,y,h=>kQ9 m h1 h2 y h
 | 10,_,_,m,h1,h2,y,h=>kQ10 m h1 h2 y h
 | 11,_,_,m,h1,h2,y,h=>kQ11 m h1 h2 y h
 | 12,_,_,m,h1,h2,y,h=>kQ12 m h1 h2 y h
 | 0,h,_,_,_,_,_,_=>absurd h (by decide)
 | n+13,_,h,_,_,_,_,_=>absurd h (by omega)
theorem fa9:Tryz.prog.funcs[9]? = some (fnAt 9):=by kernel_rfl
theorem fb9:(fnAt 9).body=some (cdAt 9):=by kernel_rfl
theorem fa11:Tryz.prog.funcs[11]? = some (fnAt 11):=by kernel_rfl
theorem fb11:(fnAt 11).body=some (cdAt 11):=by kernel_rfl
section
variable {E : List En} {v : Value} {w : World}
theorem c9 {i:Nat} (hE:Go.Fip.B.ck E=0) (h1:1≤E.length) (h12:E.length≤12) (hi:i<E.length) (hv:Rd encE 5 v E w) (hg:GW w) :
  Go.Fip.Fn Tryz.prog 9 #[.agg #[v],.int .i64 i] w (fun u w'=>∃ p,u=.tuple #[p,.int .i64 0]∧SliceIs p (pl E.length i)) :=
 run_book (xs:=[i]) fa9 fb9 hE h1 h12 (fun x hx=>by rw [List.mem_singleton.1 hx]; omega) hv hg (fun y hy=>kP_at E.length h1 h12 i hi y hy) fun C φ' s' w' c' u hw hc hk w'' ha=>qSlc_ok hc hk
theorem c11 {m:Nat} (hE:Go.Fip.B.ck E=0) (h12:E.length≤12) (hm:1≤m) (hm2:m≤E.length) (hv:Rd encE 5 v E w) (hg:GW w) :
  Go.Fip.Fn Tryz.prog 11 #[.agg #[v],.int .i64 m] w (fun u _=>u=.bool true) :=
 run_book (xs:=[m]) fa11 fb11 hE (by omega) h12 (fun x hx=>by rw [List.mem_singleton.1 hx]; omega) hv hg (fun y hy=>kQ_at E.length (by omega) h12 m hm hm2 y hy) fun C φ' s' w' c' u hw hc hk w'' ha=>by
  have e:c'=18:=beq_eq (ok_bool hk).1
  rw [e] at hc
  exact of_true hc
end
end Go.Ex
