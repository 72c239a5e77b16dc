/- Joined texts: what the statement needs, walks by program (wip/tools). -/
import Derived.Test.YtgbbgkcjpbdepaaGreatDoorA15
import Derived.Test.YtgbbgkcjpbdepaaGreatDoorA16
set_option linter.unusedVariables false
set_option linter.unusedSimpArgs false
set_option linter.unusedSectionVars false
set_option linter.unnecessarySimpa false
set_option maxRecDepth 100000
namespace Go.Ex
open Go.Fip
def stepT (i:Nat) (p:Nat×Nat) (x:Nat):Nat×Nat:=if x<i then (x+1,p.2) else if i<x then (p.1,x - 1) else p
def leftT (n i k:Nat):Nat×Nat:=((tr n i).take k).foldl (stepT i) (0,n - 1)
def okT (n i : Nat) : Bool := decide (1 ≤ (tr n i).length) && (decide ((tr n i).length ≤ htF (lo n) + 1) && (decide (pl n i ≤ htF (lo n) + 1) && (decide ((tr n i).getD ((tr n i).length - 1) 0 = i) &&
  (List.range (tr n i).length).all fun k => decide ((leftT n i k).1 ≤ (tr n i).getD k 0 ∧ (tr n i).getD k 0 ≤ (leftT n i k).2 ∧ (tr n i).getD k 0 < n))))
theorem okT_all:∀ n,n<13→∀ i,i<n→okT n i=true:=by decide
theorem leftT_succ {n i k:Nat} (h:k<(tr n i).length):leftT n i (k+1)=stepT i (leftT n i k) ((tr n i).getD k 0):=by
 unfold leftT
 rw [List.take_succ_eq_append_getElem h,List.foldl_append,List.getD_eq_getElem?_getD,List.getElem?_eq_getElem h]; rfl
abbrev TR (n i:Nat):List Int:=(tr n i).map Int.ofNat
abbrev LO (n:Nat):List Int:=(lo n).map Int.ofNat
theorem nth_map_of {l:List Nat} {k:Nat} (h:k<l.length):nth (l.map Int.ofNat) (k:Int)=((l.getD k 0:Nat):Int):=by
 rw [nth_nat (by rw [List.length_map]; exact h),List.getElem_map,List.getD_eq_getElem?_getD,List.getElem?_eq_getElem h]; rfl
theorem tr_law {n i:Nat} (h1:1≤n) (h12:n≤12) (hi:i<n):(LO n).length=n∧1≤(TR n i).length∧(TR n i).length≤htF (lo n)+1∧pl n i≤htF (lo n)+1∧nth (TR n i) (((TR n i).length:Int) - 1)=(i:Int)∧(TR n i).length≤101∧htF (lo n)≤100:=by
 have h:=okT_all n (by omega) i hi
 have hh:∀ n,n<13→htF (lo n)≤100:=by decide
 unfold okT at h
 simp only [Bool.and_eq_true,decide_eq_true_eq] at h
 obtain ⟨a1,a2,a3,a4,_⟩:=h
 have hht:=hh n (by omega)
 have e:(TR n i).length=(tr n i).length:=List.length_map ..
 refine ⟨by rw [List.length_map]; exact (lo_facts n (by omega) h1).1,by omega,by omega,a3,?_,by omega,hht⟩
 rw [e,show (((tr n i).length:Int) - 1)=(((tr n i).length - 1:Nat):Int) by omega,nth_map_of (by omega),a4]
theorem tr_step {n i k:Nat} (h12:n≤12) (hi:i<n) (hk:k<(TR n i).length):∃ x:Nat,nth (TR n i) (k:Int)=(x:Int)∧x<n∧(leftT n i k).1≤x∧x≤(leftT n i k).2 ∧
  (x<i→(leftT n i (k+1)).1=x+1∧(leftT n i (k+1)).2=(leftT n i k).2)∧(i<x→(leftT n i (k+1)).1=(leftT n i k).1∧(leftT n i (k+1)).2+1=x)∧(x=i→(leftT n i (k+1)).1=(leftT n i k).1∧(leftT n i (k+1)).2=(leftT n i k).2):=by
 have e:(TR n i).length=(tr n i).length:=List.length_map ..
 have h:=okT_all n (by omega) i hi
 unfold okT at h
 simp only [Bool.and_eq_true,decide_eq_true_eq] at h
 obtain ⟨_,_,_,_,a5⟩:=h
 have a:=List.all_eq_true.1 a5 k (List.mem_range.2 (by omega))
 simp only [decide_eq_true_eq] at a
 refine ⟨(tr n i).getD k 0,nth_map_of (by omega),a.2.2,a.1,a.2.1,?_⟩
 rw [leftT_succ (by omega)]
 generalize (tr n i).getD k 0=x at *
 unfold stepT
 refine ⟨fun h=>by rw [if_pos h]; exact ⟨rfl,rfl⟩,fun h=>?_,fun h=>?_⟩
 ·rw [if_neg (by omega),if_pos h]; exact ⟨rfl,by show x - 1+1=x; omega⟩
 ·rw [if_neg (by omega),if_neg (by omega)]; exact ⟨rfl,rfl⟩
theorem ord_lt {E:List En} (h:Go.Fip.B.ck E=0) {i j:Nat} (hij:i<j) (hj:j<E.length):(nth E (i:Int)).d<(nth E (j:Int)).d∨(nth E (i:Int)).d=(nth E (j:Int)).d∧(nth E (i:Int)).n<(nth E (j:Int)).n :=
 Go.Fip.B.ord_all (Go.Fip.B.ck_iff.1 h).2.2.2.2 j i hij hj
theorem tr_ord {E : List En} {i k : Nat} (h : Go.Fip.B.ck E = 0) (h12 : E.length ≤ 12) (hi : i < E.length) (hk : k < (TR E.length i).length) : ∃ x : Nat, nth (TR E.length i) (k : Int) = (x : Int) ∧ x < E.length ∧ (leftT E.length i k).1 ≤ x ∧ x ≤ (leftT E.length i k).2 ∧
    ((x < i ∧ ((nth E (x : Int)).d < (nth E (i : Int)).d ∨ (nth E (x : Int)).d = (nth E (i : Int)).d ∧ (nth E (x : Int)).n < (nth E (i : Int)).n) ∧ (leftT E.length i (k + 1)).1 = x + 1 ∧ (leftT E.length i (k + 1)).2 = (leftT E.length i k).2) ∨
     (i < x ∧ ((nth E (i : Int)).d < (nth E (x : Int)).d ∨ (nth E (i : Int)).d = (nth E (x : Int)).d ∧ (nth E (i : Int)).n < (nth E (x : Int)).n) ∧ (leftT E.length i (k + 1)).1 = (leftT E.length i k).1 ∧ (leftT E.length i (k + 1)).2 + 1 = x) ∨
     (x = i ∧ ((nth E (x : Int)).d = (nth E (i : Int)).d ∧ (nth E (x : Int)).n = (nth E (i : Int)).n) ∧ (leftT E.length i (k + 1)).1 = (leftT E.length i k).1 ∧ (leftT E.length i (k + 1)).2 = (leftT E.length i k).2)) := by
  obtain ⟨x, h1, h2, h3, h4, h5, h6, h7⟩ := tr_step h12 hi hk
  refine ⟨x, h1, h2, h3, h4, ?_⟩
  rcases Nat.lt_trichotomy x i with e | e | e
  · exact .inl ⟨e, ord_lt h e hi, h5 e⟩
  · exact .inr (.inr ⟨e, by subst e; exact ⟨rfl, rfl⟩, h7 e⟩)
  · exact .inr (.inl ⟨e, ord_lt h e h2, h6 e⟩)
theorem rowE_item {lo hi b:Nat} {l:List Nat} {p:Value} {H:List Fip.Item} {w:World} (h:Heap (⟨lo,hi,RowE b l (.tuple #[p,.int .i64 0])⟩::H) w):Heap (⟨lo,hi,Rd encI 1 p (l.map Int.ofNat)⟩::H) w :=
 h.weaken (n:=0) rfl fun w' hw=>by
  obtain ⟨u,e,hr,_⟩:=hw
  cases e; exact hr
def encN (_:Unit):List Value:=[]
theorem slc_item {lo hi k:Nat} {p:Value} {H:List Fip.Item} {w:World} (h:Heap (⟨lo,hi,fun _=>∃ q,(.tuple #[p,.int .i64 0]:Value)=.tuple #[q,.int .i64 0]∧SliceIs q k⟩::H) w):Heap (⟨lo,hi,Rd encN 0 p (List.replicate k ())⟩::H) w :=
 h.weaken (n:=0) rfl fun w' hw=>by
  obtain ⟨u,e,hr⟩:=hw
  cases e
  exact ⟨by rw [List.length_replicate]; exact hr,fun i y _ j u hj=>by simp [encN] at hj⟩
end Go.Ex
