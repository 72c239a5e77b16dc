/- Joined texts: what the statement needs, walks by program (wip/tools). -/
import Derived.Test.YtgbbgkcjpbdepaaGreatDoorA6
import Derived.KernelRfl
set_option linter.unusedVariables false
set_option linter.unusedSimpArgs false
set_option linter.unusedSectionVars false
set_option linter.unnecessarySimpa false
set_option maxRecDepth 100000
namespace Go.Ex
open Go.Fip
open Go.RowKit
def loL:List (List Nat):=[[],[0],[0,1],[1,0,1],[0,2,1,2],[1,0,2,1,2],[1,2,0,2,1,2],[2,1,2,0,2,1,2],[0,3,2,3,1,3,2,3],[1,0,3,2,3,1,3,2,3],[1,2,0,3,2,3,1,3,2,3],[1,2,3,0,3,2,3,1,3,2,3],[1,3,2,3,0,3,2,3,1,3,2,3]]
def trL:List (List (List Nat)):=[[],[[0]],[[0],[0,1]],[[1,0],[1],[1,2]],[[0],[0,2,1],[0,2],[0,2,3]],[[1,0],[1],[1,3,2],[1,3],[1,3,4]],[[2,0],[2,0,1],[2],[2,4,3],[2,4],[2,4,5]],[[3,1,0],[3,1],[3,1,2],[3],[3,5,4],[3,5],[3,5,6]],[[0],[0,4,2,1],[0,4,2],[0,4,2,3],[0,4],[0,4,6,5],[0,4,6],[0,4,6,7]],[[1,0],[1],[1,5,3,2],[1,5,3],[1,5,3,4],[1,5],[1,5,7,6],[1,5,7],[1,5,7,8]],[[2,0],[2,0,1],[2],[2,6,4,3],[2,6,4],[2,6,4,5],[2,6],[2,6,8,7],[2,6,8],[2,6,8,9]],[[3,0],[3,0,1],[3,0,1,2],[3],[3,7,5,4],[3,7,5],[3,7,5,6],[3,7],[3,7,9,8],[3,7,9],[3,7,9,10]],[[4,0],[4,0,2,1],[4,0,2],[4,0,2,3],[4],[4,8,6,5],[4,8,6],[4,8,6,7],[4,8],[4,8,10,9],[4,8,10],[4,8,10,11]]]
def lo (n:Nat):List Nat:=loL.getD n []
def tr (n i:Nat):List Nat:=(trL.getD n []).getD i []
def htF (l:List Nat):Nat:=l.foldl Nat.max 0
theorem hz3:((Go.Proofs.Tryz.prog.info? 3).map (·.size)).getD 0=1:=by kernel_rfl
noncomputable def kLow (i:Nat):Bool:=forceN (Nat.succ i) fun n=>isNil (callO Go.Proofs.Tryz.prog 10000 (orL []) 60 (.fn (.func 6) 0 0 0 0) 1 (cI n) mN (qRow (lo n) 0))
noncomputable def kChk (i:Nat):Bool:=forceN (Nat.succ i) fun n=>isNil (callO Go.Proofs.Tryz.prog 10000 (orL []) 60 (.fn (.func 7) 0 0 0 0) (([]:List Nat).length+1) (cL (sl0 (lo n).length::([]:List Nat).map cI)) (roI (lo n)) (qLit (cI 0)))
noncomputable def kHt (i:Nat):Bool:=forceN (Nat.succ i) fun n=>isNil (callO Go.Proofs.Tryz.prog 10000 (orL []) 60 (.fn (.func 8) 0 0 0 0) (([]:List Nat).length+1) (cL (sl0 (lo n).length::([]:List Nat).map cI)) (roI (lo n)) (qLit (cI (htF (lo n)))))
noncomputable def kTr (i:Nat):Bool:=forceN (Nat.succ i) fun n=>allB (fun j=>isNil (callO Go.Proofs.Tryz.prog 10000 (orL []) 60 (.fn (.func 10) 0 0 0 0) ([j].length+1) (cL (sl0 (lo n).length::[j].map cI)) (roI (lo n)) (qRow (tr n j) 0))) n
theorem kLow_ok:allB kLow 12=true:=by kernel_rfl
theorem kChk_ok:allB kChk 12=true:=by kernel_rfl
theorem kHt_ok:allB kHt 12=true:=by kernel_rfl
theorem kTr_ok:allB kTr 12=true:=by kernel_rfl
theorem fa6:Go.Proofs.Tryz.prog.funcs[6]? = some (fnAt 6):=by kernel_rfl
theorem fb6:(fnAt 6).body=some (cdAt 6):=by kernel_rfl
theorem fa7:Go.Proofs.Tryz.prog.funcs[7]? = some (fnAt 7):=by kernel_rfl
theorem fb7:(fnAt 7).body=some (cdAt 7):=by kernel_rfl
theorem fa8:Go.Proofs.Tryz.prog.funcs[8]? = some (fnAt 8):=by kernel_rfl
theorem fb8:(fnAt 8).body=some (cdAt 8):=by kernel_rfl
theorem fa10:Go.Proofs.Tryz.prog.funcs[10]? = some (fnAt 10):=by kernel_rfl
theorem fb10:(fnAt 10).body=some (cdAt 10):=by kernel_rfl
theorem lo_facts:∀ n,n<13→1≤n→(lo n).length=n∧(lo n).all (fun x=>decide (x<100))=true∧lo n≠[]:=by decide
theorem tr_facts:∀ n,n<13→∀ i,i<n→(tr n i).all (fun x=>decide (x<100))=true:=by decide
section
variable {w : World}
theorem lt63 {l:List Nat} (h:l.all (fun x=>decide (x<100))=true):∀ x∈l,x<9223372036854775808:=fun x hx=>by
 have:=List.all_eq_true.1 h x hx
 have:x<100:=by simpa using this
 omega
def RowE (lo:Nat) (l:List Nat) (v:Value) (w:World):Prop:=∃ u,v=.tuple #[u,.int .i64 0]∧Rd encI 1 u (l.map Int.ofNat) w∧lo≤eb u
theorem rowE_of {l:List Nat} {C:Cx} {φ:Phi} {s:St} {c:Nat} {u:Value} {w' w'':World} {T:Out→Prop} (hl:∀ x∈l,x<9223372036854775808) (hF:∀ b,C.F b↔b<w.heap.size) (hw:WR Go.Proofs.Tryz.prog C φ s w') (hv:CV φ s.side s.sn c u) (h:Ok T (qRow l 0 c (memOf s))) (ha:Agree w.heap.size w'.heap.size w' w''):RowE w.heap.size l u w'':=by
 obtain ⟨x,rfl,h1,h2,h3⟩:=qRow_ok hl hw hv h
 have h4:w.heap.size≤eb x:=by rw [hF] at h2; omega
 exact ⟨x,rfl,rd_agree h1 ha h4 h3,h4⟩
theorem c6 {n:Nat} (h1:1≤n) (h2:n≤12) (hg:GW w):Go.Fip.Fn Go.Proofs.Tryz.prog 6 #[.int .i64 n] w (RowE w.heap.size (lo n)):=by
 obtain ⟨i,rfl⟩:∃ i,n=i+1:=⟨n - 1,by omega⟩
 obtain ⟨_,f2,_⟩:=lo_facts (i+1) (by omega) h1
 refine run_args (l:=[]) (m:=mN) (φ:=fun _=>none) named mixed (fun _ hp=>by cases hp) fa6 fb6 (wr_none hg) (n:=1) rfl (c:=cI (i+1)) (by simpa using cI_lt (n:=i+1) (by omega)) (fun j u hj=>?_) (isNil_eq (allB_at kLow_ok i (by omega))) (fun φ' s' w' c' u he hw hc hk w'' ha=>rowE_of (lt63 f2) (fun _=>.rfl) hw hc hk ha)
 cases j with
 | zero =>
  have hj:some (Value.int .i64 ((i+1:Nat):Int))=some u:=by simpa using hj
  cases hj
  rw [dg_small _ (cI_lt (by omega)),if_pos rfl]
  exact cv_cI (by omega)
 | succ j=>simp at hj
theorem lit_res {C:Cx} {φ:Phi} {s:St} {c k:Nat} {u:Value} {w':World} {T:Out→Prop} (hv:CV φ s.side s.sn c u) (h:Ok T (qLit (cI k) c (memOf s))):u=.int .i64 k:=by
 have:=qLit_ok h
 subst this
 exact of_cI hv
theorem c7 {n:Nat} {v:Value} (h1:1≤n) (h2:n≤12) (hv:Rd encI 1 v ((lo n).map Int.ofNat) w) (hg:GW w):Go.Fip.Fn Go.Proofs.Tryz.prog 7 #[v] w (fun u _=>u=.int .i64 0):=by
 obtain ⟨i,rfl⟩:∃ i,n=i+1:=⟨n - 1,by omega⟩
 obtain ⟨f1,f2,f3⟩:=lo_facts (i+1) (by omega) h1
 exact run_ints (xs:=[]) named mixed fa7 fb7 hz3 f3 (lt63 f2) (by omega) (fun _ h=>by cases h) hv hg (allB_at kChk_ok i (by omega)) fun C φ' s' w' c' u _ _ hw hc hk w'' ha=>lit_res (C:=C) (w':=w') hc hk
theorem c8 {n:Nat} {v:Value} (h1:1≤n) (h2:n≤12) (hv:Rd encI 1 v ((lo n).map Int.ofNat) w) (hg:GW w):Go.Fip.Fn Go.Proofs.Tryz.prog 8 #[v] w (fun u _=>u=.int .i64 (htF (lo n):Nat)):=by
 obtain ⟨i,rfl⟩:∃ i,n=i+1:=⟨n - 1,by omega⟩
 obtain ⟨f1,f2,f3⟩:=lo_facts (i+1) (by omega) h1
 exact run_ints (xs:=[]) named mixed fa8 fb8 hz3 f3 (lt63 f2) (by omega) (fun _ h=>by cases h) hv hg (allB_at kHt_ok i (by omega)) fun C φ' s' w' c' u _ _ hw hc hk w'' ha=>lit_res (C:=C) (w':=w') hc hk
theorem c10 {n i:Nat} {v:Value} (h1:1≤n) (h2:n≤12) (hi:i<n) (hv:Rd encI 1 v ((lo n).map Int.ofNat) w) (hg:GW w):Go.Fip.Fn Go.Proofs.Tryz.prog 10 #[v,.int .i64 i] w (RowE w.heap.size (tr n i)):=by
 obtain ⟨k,rfl⟩:∃ k,n=k+1:=⟨n - 1,by omega⟩
 obtain ⟨f1,f2,f3⟩:=lo_facts (k+1) (by omega) h1
 have hk:=allB_at kTr_ok k (by omega)
 unfold kTr at hk
 rw [forceN_eq] at hk
 exact run_ints (xs:=[i]) named mixed fa10 fb10 hz3 f3 (lt63 f2) (by omega) (fun x hx=>by rw [List.mem_singleton.1 hx]; omega) hv hg (allB_at hk i hi) fun C φ' s' w' c' u hF _ hw hc hk w'' ha=>rowE_of (lt63 (tr_facts _ (by omega) i hi)) hF hw hc hk ha
end
end Go.Ex
