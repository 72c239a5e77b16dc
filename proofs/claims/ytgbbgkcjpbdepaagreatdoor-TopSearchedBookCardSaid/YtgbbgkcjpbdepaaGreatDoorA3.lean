/- Joined texts: what the statement needs, walks by program (wip/tools). -/
import Derived.Test.YtgbbgkcjpbdepaaGreatDoorA1
import Derived.WalkKit
import Derived.ProofKit
import Derived.OpenShut
import Derived.Carry
import Derived.Deep.SlicePairs
import Derived.Test.YtgbbgkcjpbdepaaGreatDoorProg
import Derived.Shelf.Strings.Builder1
import Derived.Shelf.Strings.OnBuilder
import Derived.Shelf.Strings.BuilderF
import Derived.Shelf.Small.Wraps
import Derived.Shelf.Strconv.Itoa4
import Derived.Shelf.Strings.Repeat
import Derived.Test.YtgbbgkcjpbdepaaGreatDoorA2
set_option linter.unusedVariables false
set_option linter.unusedSimpArgs false
set_option linter.unusedSectionVars false
set_option linter.unnecessarySimpa false
namespace Go.Fip
open Go.ChangeShapes Go.WideShapes Go.ChangeAt Go.RowKit
section
variable {H : Type} {enc : TypeId × Value → H} {P : Program} {w : World}
theorem xQ (hl:laidOutB P=true) {W W':World} (hb:Below W.heap.size W W'):∀ (ts:List TypeId) (vs:List Value) (ds:List (DataW H)) (ps:List MemPlace),(ts.all fun t=>P.readableRec t && decide (t<P.types.size))=true →
  DataW.TrodAll enc P W 0 (fun _=>true) true ts vs ds ps→(∀ x∈ps,x.block<W.heap.size)→DataW.TrodAll enc P W' 0 (fun b=>decide (b<W.heap.size)) true ts vs ds ps
 | [],vs,ds,ps,_,h,_=>by
  obtain ⟨rfl,rfl,rfl⟩:=trodAll_nil h
  rfl
 | t::ts,vs,ds,ps,hr,h,hlt=>by
  obtain ⟨v,vs,d,ds,p,q,rfl,rfl,rfl,h1,h2⟩:=trodAll_cons h
  simp only [List.all_cons,Bool.and_eq_true,decide_eq_true_eq] at hr
  exact ⟨p,q,Below.trod hl hr.1.1 hr.1.2 h1 hb (fun x hx=>hlt x (List.mem_append_left _ hx)),xQ hl hb ts vs ds q (by simpa using hr.2) h2 (fun x hx=>hlt x (List.mem_append_right _ hx)),rfl⟩
theorem jA {f:Func} {s:ChangeSpec} {apart fresh:Bool} {W W':World} {args:Array Value} {ds:List (DataW H)} {before p:List MemPlace} {tb:TypeId} (hl:laidOutB P=true) (hb:Below W.heap.size W W')
  (hr:(f.params.toList.all fun t=>P.readableRec t && decide (t<P.types.size))=true) (hv:s.vars=[]) (hW:DataW.Whole enc P f.params.toList s.vars apart W args.toList ds [] before)
  (hA:DataW.TrodAll enc P W 0 (fun _=>true) true f.params.toList args.toList ds p) (hp:before=p) (hrt:f.resultTypes = #[tb]) (htb:P.underlying tb=some .bool) (hs:s.fn H (ds++[])={ results:=[.lit (.bool true)],args:=ds }) :
  s.post enc P f apart fresh false false W args (.bool true) W':=by
 subst hp
 refine ⟨ds,[],before,[],before,[],hW,?_,?_,?_,Below.frame hb _,fun h=>by cases h⟩
 ·rw [hs,hrt]; exact trodAll_mk1 (shut_bool htb _)
 ·rw [hs]; exact xQ hl hb _ _ _ _ hr hA (fun x hx=>by simpa using hW.lt x hx)
 ·rw [hs,hv]; rfl
end
end Go.Fip
namespace Go.Fip
open Go.Proofs
namespace T
theorem mixed:Tryz.prog.follows .mixedOrders=true:=by kernel_rfl
theorem zP:TOne Tryz.prog 2:=fun _=>by kernel_rfl
theorem YF:TOne Tryz.prog 3:=fun _=>by kernel_rfl
theorem sz5:(Tryz.prog.info? 5).map (·.size)=some 1:=by kernel_rfl
theorem ZR:TOne Tryz.prog 5:=fun _=>by kernel_rfl
theorem yN:TSlice Tryz.prog 22 38 5:=⟨by kernel_rfl,by kernel_rfl⟩
theorem uD:TOne Tryz.prog 22:=fun _=>by kernel_rfl
theorem qU:TAgg Tryz.prog 24 1:=⟨fun _=>by kernel_rfl,by kernel_rfl⟩
theorem vW:TField Tryz.prog 24 0 0:=tfield_of Tryz.underlying24 rfl rfl ⟨0,by kernel_rfl⟩
theorem vN:TSlice Tryz.prog 28 3 1:=⟨by kernel_rfl,by kernel_rfl⟩
theorem XT:TSlice Tryz.prog 33 51 1:=⟨by kernel_rfl,by kernel_rfl⟩
theorem qL:(Tryz.prog.info? 38).map (·.size)=some 5:=by kernel_rfl
theorem xJ:TAgg Tryz.prog 38 5:=⟨fun _=>by kernel_rfl,by kernel_rfl⟩
theorem yE:TField Tryz.prog 38 0 0:=tfield_of Tryz.underlying38 rfl rfl ⟨0,by kernel_rfl⟩
theorem zS:TField Tryz.prog 38 1 1:=tfield_of Tryz.underlying38 rfl rfl ⟨0,by kernel_rfl⟩
theorem vE:TField Tryz.prog 38 2 2:=tfield_of Tryz.underlying38 rfl rfl ⟨0,by kernel_rfl⟩
theorem vK:TField Tryz.prog 38 3 3:=tfield_of Tryz.underlying38 rfl rfl ⟨0,by kernel_rfl⟩
theorem u6:TField Tryz.prog 38 4 4:=tfield_of Tryz.underlying38 rfl rfl ⟨0,by kernel_rfl⟩
theorem jZ:TSlice Tryz.prog 70 2 1:=⟨by kernel_rfl,by kernel_rfl⟩
theorem kL:TSlice Tryz.prog 127 5 1:=⟨by kernel_rfl,by kernel_rfl⟩
theorem uK:TArr Tryz.prog 357 65 5 1:=⟨by kernel_rfl,by kernel_rfl⟩
theorem kU:TArr Tryz.prog 469 64 5 1:=⟨by kernel_rfl,by kernel_rfl⟩
theorem vH:El Tryz.prog 28 3 1 encI:=qV (z:=(.int .i64 0)) (bytes:=8) (by kernel_rfl) (by kernel_rfl) rfl rfl rfl (fun _=>rfl) (by simp [encI,Value.oneCell'])
theorem yB:El Tryz.prog 70 2 1 encI:=qV (z:=(.int .i64 0)) (bytes:=8) (by kernel_rfl) (by kernel_rfl) rfl rfl rfl (fun _=>rfl) (by simp [encI,Value.oneCell'])
end T
end Go.Fip
namespace Go.Fip
open Go.RowKit
theorem Rd.bytes {b:Nat} {C:Array Value} {e:TypeId} {fr:Nat×Nat} {cap:Nat} {l:List UInt8} {w:World} (hb:w.heap[b]? = some (.cells C e fr)) (hc:l.length≤cap) (hC:∀ (j:Nat) (h:j<l.length),C[j]? = some (.int .u8 (l[j].toNat:Int))) :
  Rd encB 1 (.slice (some ⟨b,0,none⟩) l.length cap) (toB l) w:=by
 refine ⟨⟨some ⟨b,0,none⟩,cap,by rw [yV],by rw [yV]; exact hc,.inr ⟨b,0,rfl⟩⟩,fun i x hi j u hj=>?_⟩
 have hil:i<l.length:=by
  have:=(List.getElem?_eq_some_iff.1 hi).1
  rwa [yV] at this
 have hx:x=(l[i].toNat:Int):=by
  unfold toB at hi
  rw [List.getElem?_map,List.getElem?_eq_getElem hil] at hi
  simpa using hi.symm
 match j,hj with
 | 0,hj =>
  simp [encB] at hj
  subst hj
  simp only [eb,eo,Nat.mul_one,Nat.zero_add,Nat.add_zero]
  unfold World.cell?
  simp only [hb]
  simp [hC i hil,hx]
 | j+1,hj=>simp [encB] at hj
section
variable {r : Option Nat} {P : Program} {N : Nat} {ds : List Deferred} {env : Env} {w : World} {Q : Post} {all : Array Oper} {rest : List Oper} {H : List Item}
theorem kP {A B e:TypeId} {x:Operand} {d:Nat} {ty:TypeId} {pos:String} {after:Array Edge} {l:List UInt8} (hs:P.underlying A=some .string) (hd:P.underlying B=some (.slice e)) (he:P.underlying e=some (.int .u8))
  (hx:ev env x=some (str l)) (hN:Nat.blt d N=true) (hH:Heap H w)
  (h:∀ v lo hi w',Heap (⟨lo,hi,Rd encB 1 v (toB l)⟩::H) w'→Rd encB 1 v (toB l) w'→Ops r P N all rest ds ((d,v)::env) w' Q) :
  Ops r P N all (⟨some d,.convert A B x,ty,pos,after,none⟩::rest) ds env w Q:=by
 have hr:=run_bytes_of_string (P:=P) w A B e ⟨l.toArray⟩ hs hd he
 rw [yZ] at hr
 have hge:=grownCap_ge w l.length 0 e
 have bel:∀ o,Below w.heap.size w (w.drew.alloc o):=fun o=>⟨rfl,rfl,rfl,by simp,fun k hk=>Below.heap_alloc w.drew o k hk⟩
 have hC:∀ (j:Nat) (hj:j<l.length),(bytesRow (⟨l.toArray⟩:ByteArray) (grownCap w l.length 0 e))[j]? = some (.int .u8 (l[j].toNat:Int)):=fun j hj=>by
  have:=bytesRow_at ⟨l.toArray⟩ (grownCap w l.length 0 e) j (by simpa using hj)
  simpa using this
 have hnew:∀ o,(w.drew.alloc o).heap[w.heap.size]? = some o:=fun o=>heap_alloc_new w.drew o
 refine xU (v:=.slice (some ⟨w.heap.size,0,none⟩) l.length (grownCap w l.length 0 e)) (w':=w.drew.alloc (.cells (bytesRow ⟨l.toArray⟩ (grownCap w l.length 0 e)) e ((bytesRow ⟨l.toArray⟩ (grownCap w l.length 0 e)).size,(bytesRow ⟨l.toArray⟩ (grownCap w l.length 0 e)).size+1))) hN (fun c hc=>by cases hc) (fun a ha=>?_) (h _ w.heap.size (w.heap.size+1) _ (hH.add (bel _) (Nat.le_refl _) ⟨Nat.le_succ _,by simp,fun w' hw'=>?_⟩) ?_)
 ·simp only [execOp,ha.ev hx,str,Sem.run_bind,hr,Sem.run_pure,Result.andThen]
 ·exact Rd.bytes ((hw'.block w.heap.size (Nat.le_refl _) (Nat.lt_succ_self _)).trans (hnew _)) hge hC
 ·exact Rd.bytes (hnew _) hge hC
end
section
variable {P : Program} {N : Nat} {ds : List Deferred} {env : Env} {S : World → Prop} {x : Operand}
theorem kY {A B e : TypeId} {v : Value} {l : List Int} (hs : P.underlying A = some (.slice e)) (hd : P.underlying B = some .string) (he : P.underlying e = some (.int .u8)) (hx : ev env x = some v) (hr : ∀ w, S w → Rd encB 1 v l w) (hl : ∀ n ∈ l, 0 ≤ n ∧ n ≤ 255) : Yv P N ds env (.convert A B x) (str (ofB l)) S := fun act hact w hw _ _ _ _ _ => by
  have hrd := hr w hw
  obtain ⟨a, c, e1, hc, ha⟩ := hrd.1
  rcases ha with ⟨rfl, rfl⟩ | ⟨b, o, rfl⟩
  · have hl0 : l = [] := List.eq_nil_of_length_eq_zero (by omega)
    subst hl0
    subst e1
    have e2 := run_convert_bytes_string (P := P) w A B e none 0 0 hs he hd
    simp only [List.length_nil] at hx
    simp only [execOp, hact.ev hx, Sem.run_bind, List.length_nil, e2]
    rfl
  · have e2 := run_convert_bytes_back (P := P) w A B e ⟨b, o, none⟩ c (ofB l) hs he hd (fun j hj => by
      rw [xS] at hj
      have h1 := hrd.2 j l[j] (List.getElem?_eq_getElem hj) 0 _ rfl
      rw [e1] at h1
      simp only [eb, eo, Nat.mul_one, Nat.add_zero] at h1
      have ea : (⟨b, o, none⟩ : Addr).add j = ⟨b, o + j, none⟩ := by
        unfold Addr.add
        split
        · subst_vars; rfl
        · rfl
      rw [ea, h1]
      have e4 := j6 hl
      have e5 : ((ofB l)[j]'(by rw [xS]; exact hj)).toNat = (l[j].toNat : Int) := by
        have e6 : (toB (ofB l))[j]'(by rw [e4]; exact hj) = l[j] := by simp only [e4]
        have h7 := hl l[j] (List.getElem_mem hj)
        unfold toB at e6
        rw [List.getElem_map] at e6
        omega
      rw [e5]
      have h7 := hl l[j] (List.getElem_mem hj)
      rw [Int.toNat_of_nonneg h7.1])
    rw [xS] at e2
    rw [e1] at hx
    simp only [execOp, hact.ev hx, Sem.run_bind, e2, Sem.run_pure, Result.andThen, str]
end
end Go.Fip
namespace Go.Fip
open Go.RowKit
section
variable {P : Program} {N : Nat} {ds : List Deferred} {env : Env} {S : World → Prop} {x y : Operand} {T T' : TypeId} {op : Op}
theorem vU {a b:List UInt8} (h:a=b) (hy:Yv P N ds env op (str a) S):Yv P N ds env op (str b) S:=h ▸ hy
end
end Go.Fip
namespace Go.Fip
open Go.Proofs Go.RowKit
theorem T.el135_encT:El Tryz.prog 135 9 1 encT:=qV (z:=(.string ⟨#[]⟩)) (bytes:=16) (by kernel_rfl) (by kernel_rfl) rfl rfl rfl (fun _=>rfl) (by intro x; simp [encT,str,Value.oneCell'])
end Go.Fip
namespace Go.Fip
open Go.Proofs Go.RowKit
theorem c66 {e:En} {w:World}  :
  Fn Tryz.prog 12 [(.agg #[(.int .i64 e.n),(.int .i64 e.d),(.int .i64 e.f),(.int .i64 e.t),(.int .i64 e.a)])].toArray w (fun u _=>u=.bool (decide (B.isEn e))):=by
 refine fz Tryz.func12 Z kz Z Z (fun hH=>(zr (yM Z Z Z hH (fun b1 w2 hH3=>(oA hH3 Z (zt (seq (zr (oY hH3 (zC T.yE Z) (oY hH3 (zD T.zP Z (cw (n:=0) Z Z)) (oY hH3 (zY Z Z) (oM hH3 Z ?_))))))))))))
 by_cases hc4:e.n<1
 ·refine zA Z Z (dT hc4) Z (zA Z Z (dT hc4) Z (zA Z Z (dT hc4) Z (oY hH3 (zH Z (dT hc4) Z) (oM hH3 Z (zA Z Z Z Z (zA Z Z Z Z (zA Z Z Z Z (oY hH3 (zH Z Z Z) (oM hH3 Z (zA Z Z Z Z (zA Z Z Z Z (zA Z Z Z Z (oY hH3 (zH Z Z Z) (zt (zL Z Z (zr (oA hH3 Z (zt ?_))))))))))))))))))
  refine ret (zV (fin (hH3.sub (sC sR)) (fun w' hf=>(zU Z (rt Z))) (fun w' hf=>?_)))
  first | exact congrArg Value.bool (decide_eq_true (show B.isEn e by unfold B.isEn; omega)).symm | exact congrArg Value.bool (decide_eq_false (show ¬ B.isEn e by unfold B.isEn; omega)).symm | exact congrArg Value.bool (decide_eq_decide.2 (by unfold B.isEn; omega))
 refine zB Z Z (dF hc4) (oY hH3 (zC T.yE Z) (zB Z Z (dF hc4) (oY hH3 (zD T.zP Z (cw (n:=0) Z Z)) (zB Z Z (dF hc4) (oY hH3 (zZ Z Z) (oY hH3 (zF Z (dF hc4) Z) (oM hH3 Z ?_)))))))
 by_cases hc6:1099511627776<e.n
 ·refine zA Z Z (dT hc6) Z (zA Z Z (dT hc6) Z (zA Z Z (dT hc6) Z (oY hH3 (zH Z (dT hc6) Z) (oM hH3 Z (zA Z Z Z Z (zA Z Z Z Z (zA Z Z Z Z (oY hH3 (zH Z Z Z) (zt (zL Z Z (zr (oA hH3 Z (zt (ret (zV (fin (hH3.sub (sC sR)) (fun w' hf=>(zU Z (rt Z))) (fun w' hf=>?_)))))))))))))))))
  first | exact congrArg Value.bool (decide_eq_true (show B.isEn e by unfold B.isEn; omega)).symm | exact congrArg Value.bool (decide_eq_false (show ¬ B.isEn e by unfold B.isEn; omega)).symm | exact congrArg Value.bool (decide_eq_decide.2 (by unfold B.isEn; omega))
 refine zB Z Z (dF hc6) (oY hH3 (zC T.zS Z) (zB Z Z (dF hc6) (oY hH3 (zD T.zP Z (cw (n:=0) Z Z)) (zB Z Z (dF hc6) (oY hH3 (zY Z Z) (oY hH3 (zF Z (dF hc6) Z) (oM hH3 Z ?_)))))))
 by_cases hc8:e.d<0
 ·refine zA Z Z (dT hc8) Z (zA Z Z (dT hc8) Z (zA Z Z (dT hc8) Z (oY hH3 (zH Z (dT hc8) Z) (zt (zL Z Z (zr (oA hH3 Z (zt (ret (zV (fin (hH3.sub (sC sR)) (fun w' hf=>(zU Z (rt Z))) (fun w' hf=>?_))))))))))))
  first | exact congrArg Value.bool (decide_eq_true (show B.isEn e by unfold B.isEn; omega)).symm | exact congrArg Value.bool (decide_eq_false (show ¬ B.isEn e by unfold B.isEn; omega)).symm | exact congrArg Value.bool (decide_eq_decide.2 (by unfold B.isEn; omega))
 refine zB Z Z (dF hc8) (oY hH3 (zC T.zS Z) (zB Z Z (dF hc8) (oY hH3 (zD T.zP Z (cw (n:=0) Z Z)) (zB Z Z (dF hc8) (oY hH3 (zZ Z Z) (oY hH3 (zF Z (dF hc8) Z) (zt ?_)))))))
 by_cases hc10:36500<e.d
 ·refine zL Z (dT hc10) (zr (oA hH3 Z (zt (ret (zV (fin (hH3.sub (sC sR)) (fun w' hf=>(zU Z (rt Z))) (fun w' hf=>?_)))))))
  first | exact congrArg Value.bool (decide_eq_true (show B.isEn e by unfold B.isEn; omega)).symm | exact congrArg Value.bool (decide_eq_false (show ¬ B.isEn e by unfold B.isEn; omega)).symm | exact congrArg Value.bool (decide_eq_decide.2 (by unfold B.isEn; omega))
 refine zM Z (dF hc10) (skip (zu (oY hH3 (zC T.vE Z) (oY hH3 (zD T.zP Z (cw (n:=0) Z Z)) (oY hH3 (xG Z Z) (oM hH3 Z ?_))))))
 by_cases hc12:0≤e.f
 ·refine zB Z Z (dT hc12) (oY hH3 (zC T.vE Z) (zB Z Z (dT hc12) (oY hH3 (zD T.zP Z (cw (n:=0) Z Z)) (zB Z Z (dT hc12) (oY hH3 (uX Z Z) (oY hH3 (zH Z (dT hc12) Z) (oM hH3 Z ?_)))))))
  by_cases hc13:e.f≤9
  ·refine zB Z Z (dT hc13) (oY hH3 (zC T.vK Z) (zB Z Z (dT hc13) (oY hH3 (zD T.zP Z (cw (n:=0) Z Z)) (zB Z Z (dT hc13) (oY hH3 (xG Z Z) (oY hH3 (zH Z (dT hc13) Z) (oM hH3 Z ?_)))))))
   by_cases hc14:0≤e.t
   ·refine zB Z Z (dT hc14) (oY hH3 (zC T.vK Z) (zB Z Z (dT hc14) (oY hH3 (zD T.zP Z (cw (n:=0) Z Z)) (zB Z Z (dT hc14) (oY hH3 (uX Z Z) (oY hH3 (zH Z (dT hc14) Z) (oM hH3 Z ?_)))))))
    by_cases hc15:e.t≤9
    ·refine zB Z Z (dT hc15) (oY hH3 (zC T.u6 Z) (zB Z Z (dT hc15) (oY hH3 (zD T.zP Z (cw (n:=0) Z Z)) (zB Z Z (dT hc15) (oY hH3 (xG Z Z) (oY hH3 (zH Z (dT hc15) Z) (oM hH3 Z ?_)))))))
     by_cases hc16:1≤e.a
     ·refine zB Z Z (dT hc16) (oY hH3 (zC T.u6 Z) (zB Z Z (dT hc16) (oY hH3 (zD T.zP Z (cw (n:=0) Z Z)) (zB Z Z (dT hc16) (oY hH3 (uX Z Z) (oY hH3 (zH Z (dT hc16) Z) (oA hH3 Z (zt (ret (fin (hH3.sub (sC sR)) (fun w' hf=>(zU Z (rt Z))) (fun w' hf=>?_)))))))))))
      first | exact congrArg Value.bool (decide_eq_true (show B.isEn e by unfold B.isEn; omega)).symm | exact congrArg Value.bool (decide_eq_false (show ¬ B.isEn e by unfold B.isEn; omega)).symm | exact congrArg Value.bool (decide_eq_decide.2 (by unfold B.isEn; omega))
     refine zA Z Z (dF hc16) Z (zA Z Z (dF hc16) Z (zA Z Z (dF hc16) Z (oY hH3 (zF Z (dF hc16) Z) (oA hH3 Z (zt (ret (fin (hH3.sub (sC sR)) (fun w' hf=>(zU Z (rt Z))) (fun w' hf=>?_))))))))
     first | exact congrArg Value.bool (decide_eq_true (show B.isEn e by unfold B.isEn; omega)).symm | exact congrArg Value.bool (decide_eq_false (show ¬ B.isEn e by unfold B.isEn; omega)).symm | exact congrArg Value.bool (decide_eq_decide.2 (by unfold B.isEn; omega))
    refine zA Z Z (dF hc15) Z (zA Z Z (dF hc15) Z (zA Z Z (dF hc15) Z (oY hH3 (zF Z (dF hc15) Z) (oM hH3 Z (zA Z Z Z Z (zA Z Z Z Z (zA Z Z Z Z (oY hH3 (zF Z Z Z) (oA hH3 Z (zt (ret (fin (hH3.sub (sC sR)) (fun w' hf=>(zU Z (rt Z))) (fun w' hf=>?_)))))))))))))
    first | exact congrArg Value.bool (decide_eq_true (show B.isEn e by unfold B.isEn; omega)).symm | exact congrArg Value.bool (decide_eq_false (show ¬ B.isEn e by unfold B.isEn; omega)).symm | exact congrArg Value.bool (decide_eq_decide.2 (by unfold B.isEn; omega))
   refine zA Z Z (dF hc14) Z (zA Z Z (dF hc14) Z (zA Z Z (dF hc14) Z (oY hH3 (zF Z (dF hc14) Z) (oM hH3 Z (zA Z Z Z Z (zA Z Z Z Z (zA Z Z Z Z (oY hH3 (zF Z Z Z) (oM hH3 Z (zA Z Z Z Z (zA Z Z Z Z (zA Z Z Z Z (oY hH3 (zF Z Z Z) (oA hH3 Z (zt (ret (fin (hH3.sub (sC sR)) (fun w' hf=>(zU Z (rt Z))) (fun w' hf=>?_))))))))))))))))))
   first | exact congrArg Value.bool (decide_eq_true (show B.isEn e by unfold B.isEn; omega)).symm | exact congrArg Value.bool (decide_eq_false (show ¬ B.isEn e by unfold B.isEn; omega)).symm | exact congrArg Value.bool (decide_eq_decide.2 (by unfold B.isEn; omega))
  refine zA Z Z (dF hc13) Z (zA Z Z (dF hc13) Z (zA Z Z (dF hc13) Z (oY hH3 (zF Z (dF hc13) Z) (oM hH3 Z (zA Z Z Z Z (zA Z Z Z Z (zA Z Z Z Z (oY hH3 (zF Z Z Z) (oM hH3 Z (zA Z Z Z Z (zA Z Z Z Z (zA Z Z Z Z (oY hH3 (zF Z Z Z) (oM hH3 Z (zA Z Z Z Z (zA Z Z Z Z (zA Z Z Z Z (oY hH3 (zF Z Z Z) (oA hH3 Z (zt ?_))))))))))))))))))))
  refine ret (fin (hH3.sub (sC sR)) (fun w' hf=>(zU Z (rt Z))) (fun w' hf=>?_))
  first | exact congrArg Value.bool (decide_eq_true (show B.isEn e by unfold B.isEn; omega)).symm | exact congrArg Value.bool (decide_eq_false (show ¬ B.isEn e by unfold B.isEn; omega)).symm | exact congrArg Value.bool (decide_eq_decide.2 (by unfold B.isEn; omega))
 refine zA Z Z (dF hc12) Z (zA Z Z (dF hc12) Z (zA Z Z (dF hc12) Z (oY hH3 (zF Z (dF hc12) Z) (oM hH3 Z (zA Z Z Z Z (zA Z Z Z Z (zA Z Z Z Z (oY hH3 (zF Z Z Z) (oM hH3 Z (zA Z Z Z Z (zA Z Z Z Z (zA Z Z Z Z (oY hH3 (zF Z Z Z) (oM hH3 Z (zA Z Z Z Z (zA Z Z Z Z (zA Z Z Z Z (oY hH3 (zF Z Z Z) (oM hH3 Z (zA Z Z Z Z (zA Z Z Z Z ?_)))))))))))))))))))))
 refine zA Z Z Z Z (oY hH3 (zF Z Z Z) (oA hH3 Z (zt (ret (fin (hH3.sub (sC sR)) (fun w' hf=>(zU Z (rt Z))) (fun w' hf=>?_))))))
 first | exact congrArg Value.bool (decide_eq_true (show B.isEn e by unfold B.isEn; omega)).symm | exact congrArg Value.bool (decide_eq_false (show ¬ B.isEn e by unfold B.isEn; omega)).symm | exact congrArg Value.bool (decide_eq_decide.2 (by unfold B.isEn; omega))
theorem c67 {a b:En} {w:World}  :
  Fn Tryz.prog 13 [(.agg #[(.int .i64 a.n),(.int .i64 a.d),(.int .i64 a.f),(.int .i64 a.t),(.int .i64 a.a)]),(.agg #[(.int .i64 b.n),(.int .i64 b.d),(.int .i64 b.f),(.int .i64 b.t),(.int .i64 b.a)])].toArray w (fun u _=>u=.bool (decide (B.bef a b))):=by
 refine fz Tryz.func13 Z kz Z Z (fun hH=>(zr (yM Z Z Z hH (fun b1 w2 hH3=>(yM Z Z Z hH3 (fun b4 w5 hH6=>(oA hH6 Z (zs (oY hH6 (zC T.zS Z) (oY hH6 (zD T.zP Z (cw (n:=1) Z Z)) (oY hH6 (zC T.zS Z) (oY hH6 (zD T.zP Z (cw (n:=0) Z Z)) (oY hH6 (zY Z Z) (oM hH6 Z ?_))))))))))))))
 by_cases hc7:a.d<b.d
 ·refine zA Z Z (dT hc7) Z (zA Z Z (dT hc7) Z (zA Z Z (dT hc7) Z (zA Z Z (dT hc7) Z (zA Z Z (dT hc7) Z (zA Z Z (dT hc7) Z (zE Z Z Z (zE Z Z Z (zE Z Z Z (zE Z Z Z (zE Z Z Z (zA Z Z (dT hc7) Z (oY hH6 (zH Z (dT hc7) Z) (oA hH6 Z (zt (ret (fin (hH6.sub (sC (sC sR))) (fun w' hf=>(zU Z (rt Z))) (fun w' hf=>?_)))))))))))))))))
  first | exact congrArg Value.bool (decide_eq_true (show B.bef a b by unfold B.bef; omega)).symm | exact congrArg Value.bool (decide_eq_false (show ¬ B.bef a b by unfold B.bef; omega)).symm | exact congrArg Value.bool (decide_eq_decide.2 (by unfold B.bef; omega))
 refine zB Z Z (dF hc7) (oY hH6 (zC T.zS Z) (zB Z Z (dF hc7) (oY hH6 (zD T.zP Z (cw (n:=1) Z Z)) (zB Z Z (dF hc7) (oY hH6 (zC T.zS Z) (zB Z Z (dF hc7) (oY hH6 (zD T.zP Z (cw (n:=0) Z Z)) (zB Z Z (dF hc7) (oY hH6 (yF Z Z) (zB Z Z (dF hc7) (oM hH6 Z ?_)))))))))))
 by_cases hc9:a.d=b.d
 ·refine zB Z Z (dT hc9) (oY hH6 (zC T.yE Z) (zB Z Z (dT hc9) (oY hH6 (zD T.zP Z (cw (n:=1) Z Z)) (zB Z Z (dT hc9) (oY hH6 (zC T.yE Z) (zB Z Z (dT hc9) (oY hH6 (zD T.zP Z (cw (n:=0) Z Z)) (zB Z Z (dT hc9) (oY hH6 (zY Z Z) (zB Z Z (dF hc7) (oY hH6 (zH Z (dT hc9) Z) (oY hH6 (zF Z (dF hc7) Z) (oA hH6 Z (zt (ret (fin (hH6.sub (sC (sC sR))) (fun w' hf=>(zU Z (rt Z))) (fun w' hf=>?_)))))))))))))))))
  first | exact congrArg Value.bool (decide_eq_true (show B.bef a b by unfold B.bef; omega)).symm | exact congrArg Value.bool (decide_eq_false (show ¬ B.bef a b by unfold B.bef; omega)).symm | exact congrArg Value.bool (decide_eq_decide.2 (by unfold B.bef; omega))
 refine zA Z Z (dF hc9) Z (zA Z Z (dF hc9) Z (zA Z Z (dF hc9) Z (zA Z Z (dF hc9) Z (zA Z Z (dF hc9) Z (zB Z Z (dF hc7) (oY hH6 (zF Z (dF hc9) Z) (oY hH6 (zF Z (dF hc7) Z) (oA hH6 Z (zt (ret (fin (hH6.sub (sC (sC sR))) (fun w' hf=>(zU Z (rt Z))) (fun w' hf=>?_))))))))))))
 first | exact congrArg Value.bool (decide_eq_true (show B.bef a b by unfold B.bef; omega)).symm | exact congrArg Value.bool (decide_eq_false (show ¬ B.bef a b by unfold B.bef; omega)).symm | exact congrArg Value.bool (decide_eq_decide.2 (by unfold B.bef; omega))
theorem c22 {v:Value} {l:List En} {w:World} (h0:Rd encE 5 v l w) (hn:l.length≤1000000)  :
  Fn Tryz.prog 4 [(.agg #[v])].toArray w (fun u _=>u=.int .i64 (B.ck l)):=by
 refine fz Tryz.func4 Z kz Z Z (fun hH=>(zr (yM Z Z Z hH (fun b1 w2 hH3=>(oA hH3 Z (zs (oY hH3 (zC T.vW Z) (oY hH3 (zD T.uD Z (cw (n:=0) Z Z)) (oA hH3 Z (zt (seq (zr (oM hH3 Z (oY hH3 (yA T.yN Z (h0.now hH3 (n:=1) Z).is) (oY hH3 (zZ Z Z) (zt ?_))))))))))))))))
 by_cases hc4:24<(l.length:Int)
 ·refine zL Z (dT hc4) (zr (oA hH3 Z (zt (ret (zV (fin (hH3.sub (sC sR)) (fun w' hf=>(zU Z (rt Z))) (fun w' hf=>?_)))))))
  first | exact congrArg (Value.int .i64) (B.ck1 (by omega)).symm | exact congrArg (Value.int .i64) (B.ck2 (by omega) hnr).symm | exact congrArg (Value.int .i64) (B.ck3 (by omega) hin hns).symm | exact congrArg (Value.int .i64) (B.ck4 (by omega) hin hself hnd).symm | exact congrArg (Value.int .i64) (B.ck5 (by omega) hin hself hdup hno).symm | exact congrArg (Value.int .i64) (B.ck6 (by omega) hin hself hdup hord).symm
 refine zM Z (dF hc4) (skip (zN (seq (zr (oA hH3 Z (zt (block (loop (S:=Nat) (fun k=>[(4,(.int .i64 (k:Int))),(3,v)]) (fun k w1=>Heap [bx b1 24 [v],base w] w1∧k≤l.length∧∀ i,i<k→B.isEn (nth l (i:Int))) (fun k=>l.length - k) (0) (uC Z (uC Z (Sub.nil _))) ?_ ?_))))))))
 ·exact ⟨hH3,om,B.all_zero⟩
 rintro k w6 ⟨hH7,hk,hall⟩
 refine seq (zr (oM hH7 Z (oM hH7 Z (oY hH7 (yA T.yN Z (h0.now hH7 (n:=1) Z).is) (oY hH7 (zY Z Z) (zt ?_))))))
 by_cases hc8:(k:Int)<(l.length:Int)
 ·refine zL Z (dT hc8) (skip (zN (seq (block (zr (oM hH7 Z (oM hH7 Z (oY hH7 (zW T.yN Z Z (h0.now hH7 (n:=1) Z).is om) (oY hH7 (yC (cs:=[(.int .i64 ((nth l (k:Int)).n)),(.int .i64 ((nth l (k:Int)).d)),(.int .i64 ((nth l (k:Int)).f)),(.int .i64 ((nth l (k:Int)).t)),(.int .i64 ((nth l (k:Int)).a))]) T.xJ Z Z (fun _ hw=>Rd.qR (h0.now hw (n:=1) Z) (i:=(k:Int)) om)) (zQ Z Z Z hH7 (c66 ) (fun w9 hH10=>(oY hH10 (xK Z) (zt ?_)))))))))))))
  by_cases hc11:B.isEn (nth l (k:Int))
  ·refine zM Z (zJ hc11) (skip (zX (zN (region (oM hH10 Z (oY hH10 (zR Z Z om) (oA hH10 Z (zG (yH (k+1) (uC Z (uC Z (Sub.nil _))) (⟨hH10,om,B.all_snoc hall ‹_›⟩) om3)))))))))
  have hnr:¬ B.InR l:=fun h=>absurd (h k (by omega)) ‹_›
  refine zL Z (zI hc11) (zr (oA hH10 Z (zt (ret (z8 (zV (xV (z8 (zV (fin (hH10.sub (sC sR)) (fun w' hf=>(zU Z (rt Z))) (fun w' hf=>?_)))))))))))
  first | exact congrArg (Value.int .i64) (B.ck1 (by omega)).symm | exact congrArg (Value.int .i64) (B.ck2 (by omega) hnr).symm | exact congrArg (Value.int .i64) (B.ck3 (by omega) hin hns).symm | exact congrArg (Value.int .i64) (B.ck4 (by omega) hin hself hnd).symm | exact congrArg (Value.int .i64) (B.ck5 (by omega) hin hself hdup hno).symm | exact congrArg (Value.int .i64) (B.ck6 (by omega) hin hself hdup hord).symm
 have hin:B.InR l:=fun i hi=>hall i (by omega)
 refine zM Z (dF hc8) (exit (yS (xO (z6 (zN (seq (zr (oA hH7 Z (zt (block (loop (S:=Nat) (fun k=>[(5,(.int .i64 (k:Int))),(3,v)]) (fun k w1=>Heap [bx b1 24 [v],base w] w1∧k≤l.length∧∀ i,i<k→¬ (nth l (i:Int)).f=(nth l (i:Int)).t) (fun k=>l.length - k) (0) (uC Z (uC Z (Sub.nil _))) ?_ ?_)))))))))))
 ·exact ⟨hH7,om,B.all_zero⟩
 rintro k w13 ⟨hH14,hk,hall⟩
 refine seq (zr (oM hH14 Z (oM hH14 Z (oY hH14 (yA T.yN Z (h0.now hH14 (n:=1) Z).is) (oY hH14 (zY Z Z) (zt ?_))))))
 by_cases hc15:(k:Int)<(l.length:Int)
 ·refine zL Z (dT hc15) (skip (zN (seq (block (seq (yP (fun w'=>Heap [bx b1 24 [v],base w] w') T.mixed (fun w16 hr17=>?_)))))))
  have hH18:=hH14.redrawn hr17
  refine yJ [0,1,2,3,4,5,6,7,8,9,10] kz hH18 _ _ _ kz (qM Z Z Z (qM Z Z Z (yD Z Z (zW T.yN Z Z (h0.now hH18 (n:=1) Z).is om) (yD Z Z (zC T.vE Z) (yD Z Z (zD T.zP Z (fun _ hw=>Rd.at (h0.now hw (n:=1) Z) (i:=(k:Int)) om (j:=2) Z)) (qM Z Z Z (qM Z Z Z (yD Z Z (zW T.yN Z Z (h0.now hH18 (n:=1) Z).is om) (yD Z Z (zC T.vK Z) (yD Z Z (zD T.zP Z (fun _ hw=>Rd.at (h0.now hw (n:=1) Z) (i:=(k:Int)) om (j:=3) Z)) (yD Z Z (yF Z Z) (yQ (xH kz (zN ?_))))))))))))))
  by_cases hc19:((nth l (k:Int)).f)=((nth l (k:Int)).t)
  ·have hns:¬ B.NoSelf l:=fun h=>absurd ‹_› (h k (by omega))
   refine zL Z (dT hc19) (zr (oA hH18 Z (zt (ret (z8 (zV (xV (z8 (zV (fin (hH18.sub (sC sR)) (fun w' hf=>(zU Z (rt Z))) (fun w' hf=>?_)))))))))))
   first | exact congrArg (Value.int .i64) (B.ck1 (by omega)).symm | exact congrArg (Value.int .i64) (B.ck2 (by omega) hnr).symm | exact congrArg (Value.int .i64) (B.ck3 (by omega) hin hns).symm | exact congrArg (Value.int .i64) (B.ck4 (by omega) hin hself hnd).symm | exact congrArg (Value.int .i64) (B.ck5 (by omega) hin hself hdup hno).symm | exact congrArg (Value.int .i64) (B.ck6 (by omega) hin hself hdup hord).symm
  refine zM Z (dF hc19) (skip (zX (zN (region (oM hH18 Z (oY hH18 (zR Z Z om) (oA hH18 Z (zG (yH (k+1) (uC Z (uC Z (Sub.nil _))) (⟨hH18,om,B.all_snoc hall ‹_›⟩) om3)))))))))
 have hself:B.NoSelf l:=fun i hi=>hall i (by omega)
 refine zM Z (dF hc15) (exit (yS (xO (z6 (zN (seq (zr (oA hH14 Z (zt (block (loop (S:=Nat) (fun i=>[(6,(.int .i64 (i:Int))),(3,v)]) (fun i w1=>Heap [bx b1 24 [v],base w] w1∧i≤l.length∧∀ i2,i2<i→∀ k,k<i2→¬ (nth l (k:Int)).n=(nth l (i2:Int)).n) (fun i=>l.length - i) (0) (uC Z (uC Z (Sub.nil _))) ?_ ?_)))))))))))
 ·exact ⟨hH14,om,B.all_zero⟩
 rintro i w21 ⟨hH22,hi,hall2⟩
 refine seq (zr (oM hH22 Z (oM hH22 Z (oY hH22 (yA T.yN Z (h0.now hH22 (n:=1) Z).is) (oY hH22 (zY Z Z) (zt ?_))))))
 by_cases hc23:(i:Int)<(l.length:Int)
 ·refine zL Z (dT hc23) (skip (zN (seq (block (zr (oA hH22 Z (zt (block (loop (S:=Nat) (fun m=>[(7,(.int .i64 (m:Int))),(3,v),(6,(.int .i64 (i:Int)))]) (fun m w1=>Heap [bx b1 24 [v],base w] w1∧m≤i∧∀ k,k<m→¬ (nth l (k:Int)).n=(nth l (i:Int)).n) (fun m=>i - m) (0) (uC Z (uC Z (uC Z (Sub.nil _)))) ?_ ?_)))))))))
  ·exact ⟨hH22,om,B.all_zero⟩
  rintro m w24 ⟨hH25,hm,hall3⟩
  refine seq (zr (oM hH25 Z (oM hH25 Z (oY hH25 (zY Z Z) (zt ?_)))))
  by_cases hc26:(m:Int)<(i:Int)
  ·refine zL Z (dT hc26) (skip (zN (seq (block (seq (yP (fun w'=>Heap [bx b1 24 [v],base w] w') T.mixed (fun w27 hr28=>?_)))))))
   have hH29:=hH25.redrawn hr28
   refine yJ [0,1,2,3,4,5,6,7,8,9,10] kz hH29 _ _ _ kz (qM Z Z Z (qM Z Z Z (yD Z Z (zW T.yN Z Z (h0.now hH29 (n:=1) Z).is om) (yD Z Z (zC T.yE Z) (yD Z Z (zD T.zP Z (fun _ hw=>Rd.at (h0.now hw (n:=1) Z) (i:=(m:Int)) om (j:=0) Z)) (qM Z Z Z (qM Z Z Z (yD Z Z (zW T.yN Z Z (h0.now hH29 (n:=1) Z).is om) (yD Z Z (zC T.yE Z) (yD Z Z (zD T.zP Z (fun _ hw=>Rd.at (h0.now hw (n:=1) Z) (i:=(i:Int)) om (j:=0) Z)) (yD Z Z (yF Z Z) (yQ (xH kz (zN ?_))))))))))))))
   by_cases hc30:((nth l (m:Int)).n)=((nth l (i:Int)).n)
   ·have hnd:¬ B.NoDup l:=fun h=>h i (by omega) m (by omega) ‹_›
    refine zL Z (dT hc30) (zr (oA hH29 Z (zt (ret (z8 (zV (xV (z8 (z8 (zV (xV (z8 (zV (fin (hH29.sub (sC sR)) (fun w' hf=>(zU Z (rt Z))) (fun w' hf=>?_)))))))))))))))
    first | exact congrArg (Value.int .i64) (B.ck1 (by omega)).symm | exact congrArg (Value.int .i64) (B.ck2 (by omega) hnr).symm | exact congrArg (Value.int .i64) (B.ck3 (by omega) hin hns).symm | exact congrArg (Value.int .i64) (B.ck4 (by omega) hin hself hnd).symm | exact congrArg (Value.int .i64) (B.ck5 (by omega) hin hself hdup hno).symm | exact congrArg (Value.int .i64) (B.ck6 (by omega) hin hself hdup hord).symm
   refine zM Z (dF hc30) (skip (zX (zN (region (oM hH29 Z (oY hH29 (zR Z Z om) (oA hH29 Z (zG (yH (m+1) (uC Z (uC Z (uC Z (Sub.nil _)))) (⟨hH29,om,B.all_snoc hall3 ‹_›⟩) om3)))))))))
  refine zM Z (dF hc26) (exit (yS (xO (z6 (zX (zN (region (oM hH25 Z (oY hH25 (zR Z Z om) (oA hH25 Z (zG (yH (i+1) (uC Z (uC Z (Sub.nil _))) (⟨hH25,om,B.all_snoc hall2 (fun k hk=>hall3 k om)⟩) om3))))))))))))
 have hdup:B.NoDup l:=fun i2 hi2=>hall2 i2 (by omega)
 refine zM Z (dF hc23) (exit (yS (xO (z6 (zN (seq (zr (oA hH22 Z (zt (block (loop (S:=Nat) (fun j=>[(8,(.int .i64 (j:Int))),(3,v)]) (fun j w1=>Heap [bx b1 24 [v],base w] w1∧1≤j∧(j≤l.length∨j=1)∧∀ i,i<j→1≤i→B.bef (nth l ((i:Int) - 1)) (nth l (i:Int))) (fun j=>l.length - j) (1) (uC Z (uC Z (Sub.nil _))) ?_ ?_)))))))))))
 ·exact ⟨hH22,om,om,fun i h1 h2=>by omega⟩
 rintro j w32 ⟨hH33,hj1,hj,hall4⟩
 refine seq (zr (oM hH33 Z (oM hH33 Z (oY hH33 (yA T.yN Z (h0.now hH33 (n:=1) Z).is) (oY hH33 (zY Z Z) (zt ?_))))))
 by_cases hc34:(j:Int)<(l.length:Int)
 ·refine zL Z (dT hc34) (skip (zN (seq (block (seq (yP (fun w'=>Heap [bx b1 24 [v],base w] w') T.mixed (fun w35 hr36=>?_)))))))
  have hH37:=hH33.redrawn hr36
  refine yJ [0,1,2,3,4,5,6,7,8] kz hH37 _ _ _ kz (qM Z Z Z (qM Z Z Z (yD Z Z (z7 Z Z om) (yD Z Z (zW T.yN Z Z (h0.now hH37 (n:=1) Z).is om) (yD Z Z (yC (cs:=[(.int .i64 ((nth l ((j:Int) - 1)).n)),(.int .i64 ((nth l ((j:Int) - 1)).d)),(.int .i64 ((nth l ((j:Int) - 1)).f)),(.int .i64 ((nth l ((j:Int) - 1)).t)),(.int .i64 ((nth l ((j:Int) - 1)).a))]) T.xJ Z Z (fun _ hw=>Rd.qR (h0.now hw (n:=1) Z) (i:=(j:Int) - 1) om)) (qM Z Z Z (qM Z Z Z (yD Z Z (zW T.yN Z Z (h0.now hH37 (n:=1) Z).is om) (yD Z Z (yC (cs:=[(.int .i64 ((nth l (j:Int)).n)),(.int .i64 ((nth l (j:Int)).d)),(.int .i64 ((nth l (j:Int)).f)),(.int .i64 ((nth l (j:Int)).t)),(.int .i64 ((nth l (j:Int)).a))]) T.xJ Z Z (fun _ hw=>Rd.qR (h0.now hw (n:=1) Z) (i:=(j:Int)) om)) (yQ (z1 9 kz Z (zQ Z Z Z hH37 (c67 ) (fun w38 hH39=>(zG (⟨hH39,(yJ [10] kz hH39 _ _ _ kz (yD Z Z (xK Z) (yQ (xH kz (zN ?_)))))⟩)))))))))))))))
  by_cases hc40:B.bef (nth l ((j:Int) - 1)) (nth l (j:Int))
  ·refine zM Z (zJ hc40) (skip (zX (zN (region (oM hH39 Z (oY hH39 (zR Z Z om) (oA hH39 Z (zG (yH (j+1) (uC Z (uC Z (Sub.nil _))) (⟨hH39,om,om,B.all_snoc hall4 (fun _ => ‹_›)⟩) om3)))))))))
  have hno:¬ B.Ord l:=fun h=>absurd (h j (by omega) hj1) ‹_›
  refine zL Z (zI hc40) (zr (oA hH39 Z (zt (ret (z8 (zV (xV (z8 (zV (fin (hH39.sub (sC sR)) (fun w' hf=>(zU Z (rt Z))) (fun w' hf=>?_)))))))))))
  first | exact congrArg (Value.int .i64) (B.ck1 (by omega)).symm | exact congrArg (Value.int .i64) (B.ck2 (by omega) hnr).symm | exact congrArg (Value.int .i64) (B.ck3 (by omega) hin hns).symm | exact congrArg (Value.int .i64) (B.ck4 (by omega) hin hself hnd).symm | exact congrArg (Value.int .i64) (B.ck5 (by omega) hin hself hdup hno).symm | exact congrArg (Value.int .i64) (B.ck6 (by omega) hin hself hdup hord).symm
 have hord:B.Ord l:=fun i hi=>hall4 i (by omega)
 refine zM Z (dF hc34) (exit (yS (xO (z6 (zu (oA hH33 Z (zt (ret (fin (hH33.sub (sC sR)) (fun w' hf=>(zU Z (rt Z))) (fun w' hf=>?_))))))))))
 first | exact congrArg (Value.int .i64) (B.ck1 (by omega)).symm | exact congrArg (Value.int .i64) (B.ck2 (by omega) hnr).symm | exact congrArg (Value.int .i64) (B.ck3 (by omega) hin hns).symm | exact congrArg (Value.int .i64) (B.ck4 (by omega) hin hself hnd).symm | exact congrArg (Value.int .i64) (B.ck5 (by omega) hin hself hdup hno).symm | exact congrArg (Value.int .i64) (B.ck6 (by omega) hin hself hdup hord).symm
end Go.Fip
namespace Go.Fip
open Go.Proofs Go.RowKit
theorem uS {l:List Int} {lo hi:Int}:(∀ i,i<l.length→(fun x:Int=>decide (x<lo∨hi<x)) (nth l (i:Int))=false)↔∀ x∈l,lo≤x∧x≤hi:=by
 constructor
 ·intro h x hx
  obtain ⟨i,hi',rfl⟩:=List.getElem_of_mem hx
  have:=h i hi'
  rw [nth_nat hi'] at this
  simp at this
  omega
 ·intro h i hi'
  have:=h (nth l (i:Int)) (by rw [nth_nat hi']; exact List.getElem_mem hi')
  simp
  omega
theorem XC {n:Int} {lo hi:Int} {b1 b2:Nat} {w:World} (k1:Bx b1 2 [.int .i64 lo] w) (k2:Bx b2 2 [.int .i64 hi] w)  :
  Fn Tryz.prog 49 [(.int .i64 n),(.pointer (some ⟨b1,0,none⟩)),(.pointer (some ⟨b2,0,none⟩))].toArray w (fun u _=>u=.bool (decide (n<lo∨hi<n))):=by
 refine fz Tryz.func49 Z kz Z Z (fun hH=>(zr (oA hH Z (zs (oM hH Z (oY hH (zD T.zP Z (fun _ hw=>xM (k1.now hw (n:=0) Z) Z)) (oY hH (zY Z Z) (oM hH Z ?_))))))))
 by_cases hc1:n<lo
 ·refine zA Z Z (dT hc1) Z (zA Z Z (dT hc1) Z (zA Z Z (dT hc1) Z (oY hH (zH Z (dT hc1) Z) (oA hH Z (zt (ret (fin hH (fun w' hf=>(zU Z (rt Z))) (fun w' hf=>?_))))))))
  first | (show Value.bool _=Value.bool _; congr 1; rw [Bool.eq_iff_iff]; simp; done) | (show Value.bool _=Value.bool _; congr 1; rw [Bool.eq_iff_iff]; simp; omega)
 refine zB Z Z (dF hc1) (oM hH Z (zB Z Z (dF hc1) (oY hH (zD T.zP Z (fun _ hw=>xM (k2.now hw (n:=0) Z) Z)) (zB Z Z (dF hc1) (oY hH (zZ Z Z) (oY hH (zF Z (dF hc1) Z) (oA hH Z (zt (ret (fin hH (fun w' hf=>(zU Z (rt Z))) (fun w' hf=>?_)))))))))))
 first | (show Value.bool _=Value.bool _; congr 1; rw [Bool.eq_iff_iff]; simp; done) | (show Value.bool _=Value.bool _; congr 1; rw [Bool.eq_iff_iff]; simp; omega)
theorem XI {v:Value} {l:List Int} {lo hi:Int} {b1 b2:Nat} {w:World} (h0:Rd encI 1 v l w) (k1:Bx b1 2 [.int .i64 lo] w) (k2:Bx b2 2 [.int .i64 hi] w) (hn:l.length≤1000000)  :
  Fn Tryz.prog 95 [v,(.func (.func 49) #[] #[(.pointer (some ⟨b1,0,none⟩)),(.pointer (some ⟨b2,0,none⟩))])].toArray w (fun u _=>u=.int .i64 (idx (fun x:Int=>decide (x<lo∨hi<x)) l)):=by
 refine fz Tryz.func95 Z kz Z Z (fun hH=>(zr (oA hH Z (zt (seq (zr (oM hH Z (oY hH (yA T.jZ Z (h0.now hH (n:=0) Z).is) (oM hH Z (zt (block (loop (S:=Nat) (fun k=>[(8,(.int .i64 (k:Int))),(0,v),(1,(.func (.func 49) #[] #[(.pointer (some ⟨b1,0,none⟩)),(.pointer (some ⟨b2,0,none⟩))])),(7,(.int .i64 (l.length:Int)))]) (fun k w1=>Heap [base w] w1∧k≤l.length∧∀ i,i<k→(fun x:Int=>decide (x<lo∨hi<x)) (nth l (i:Int))=false) (fun k=>l.length - k) (0) (uC Z (uC Z (uC Z (uC Z (Sub.nil _))))) ?_ ?_))))))))))))
 ·exact ⟨hH,om,B.all_zero⟩
 rintro k w1 ⟨hH2,hk,hall⟩
 refine zr (oY hH2 (zY Z Z) (zt (seq ?_)))
 by_cases hc3:(k:Int)<(l.length:Int)
 ·refine zL Z (dT hc3) (skip (zN (seq (block (zr (oM hH2 Z (oA hH2 Z (zs (oM hH2 Z (oM hH2 Z (oM hH2 Z (oY hH2 (zW T.jZ Z Z (h0.now hH2 (n:=0) Z).is om) (oY hH2 (zD T.zP Z (fun _ hw=>Rd.at (h0.now hw (n:=0) Z) (i:=(k:Int)) om (j:=0) Z)) (zQ Z Z Z hH2 (XC (k1.now hH2 (n:=0) Z) (k2.now hH2 (n:=0) Z)) (fun w4 hH5=>(zt ?_))))))))))))))))
  by_cases hc6:nth l (k:Int)<lo∨hi<nth l (k:Int)
  ·have hp:(fun x:Int=>decide (x<lo∨hi<x)) (nth l (k:Int))=true:=(decide_eq_true hc6)
   refine zL Z (dT hc6) (zr (oM hH5 Z (oA hH5 Z (zt (ret (z8 (zV (xV (z8 (zV (fin hH5 (fun w' hf=>(zU Z (rt Z))) (fun w' hf=>?_))))))))))))
   first | exact congrArg (Value.int .i64) (yX (k:=k) (by omega) hall hp).symm | exact congrArg (Value.int .i64) (yO (fun i hi=>hall i (by omega))).symm
  have hp:(fun x:Int=>decide (x<lo∨hi<x)) (nth l (k:Int))=false:=(decide_eq_false hc6)
  refine zM Z (dF hc6) (skip (zX (zN (region (oY hH5 (zR Z Z om) (oM hH5 Z (zG (yH (k+1) (uC Z (uC Z (uC Z (uC Z (Sub.nil _))))) (⟨hH5,om,B.all_snoc hall hp⟩) om3))))))))
 refine zM Z (dF hc3) (exit (yS (xO (z6 (zu (oA hH2 Z (zt (ret (fin hH2 (fun w' hf=>(zU Z (rt Z))) (fun w' hf=>?_))))))))))
 first | exact congrArg (Value.int .i64) (yX (k:=k) (by omega) hall hp).symm | exact congrArg (Value.int .i64) (yO (fun i hi=>hall i (by omega))).symm
theorem XB {v:Value} {l:List Int} {lo hi:Int} {b1 b2:Nat} {w:World} (h0:Rd encI 1 v l w) (k1:Bx b1 2 [.int .i64 lo] w) (k2:Bx b2 2 [.int .i64 hi] w) (hn:l.length≤1000000)  :
  Fn Tryz.prog 41 [v,(.func (.func 49) #[] #[(.pointer (some ⟨b1,0,none⟩)),(.pointer (some ⟨b2,0,none⟩))])].toArray w (fun u _=>u=.bool (has (fun x:Int=>decide (x<lo∨hi<x)) l)):=by
 refine fz Tryz.func41 Z kz Z Z (fun hH=>(zr (oA hH Z (zs (oM hH Z (oM hH Z (zQ Z Z Z hH (XI (h0.now hH (n:=0) Z) (k1.now hH (n:=0) Z) (k2.now hH (n:=0) Z) om) (fun w1 hH2=>(oY hH2 (xG Z Z) (oA hH2 Z (zt (ret (fin hH2 (fun w' hf=>(zU Z (rt Z))) (fun w' hf=>Z))))))))))))))
theorem c57 {v:Value} {l:List Int} {lo hi:Int} {w:World} (h0:Rd encI 1 v l w) (hn:l.length≤1000000)  :
  Fn Tryz.prog 20 [(.int .i64 lo),(.int .i64 hi),v].toArray w (fun u _=>u=.bool (decide (∀ x∈l,lo≤x∧x≤hi))):=by
 refine fz Tryz.func20 Z kz Z Z (fun hH=>(zr (yM Z Z Z hH (fun b1 w2 hH3=>(yM Z Z Z hH3 (fun b4 w5 hH6=>(oA hH6 Z (zs (oM hH6 Z (oY hH6 (qB Z Z) (zQ Z Z Z hH6 (XB (h0.now hH6 (n:=2) Z) (Heap.XA hH6 (n:=1) Z) (Heap.XA hH6 (n:=0) Z) hn) (fun w7 hH8=>(oY hH8 (xK Z) (oA hH8 Z (zt (ret (fin (hH8.sub (sC (sC sR))) (fun w' hf=>(zU Z (rt Z))) (fun w' hf=>?_))))))))))))))))))
 refine congrArg Value.bool ?_; rw [Bool.eq_iff_iff,Bool.not_eq_true',jY,decide_eq_true_eq]; exact uS
theorem jL {v:Value} {a lo hi:Int} {w:World} (h0:Rd encI 1 v [a] w):Fn Tryz.prog 20 [.int .i64 lo,.int .i64 hi,v].toArray w (fun u _=>u=.bool (decide (lo≤a∧a≤hi))):=by
 have h:=c57 (lo:=lo) (hi:=hi) h0 (by simp)
 rwa [show decide (∀ x∈[a],lo≤x∧x≤hi)=decide (lo≤a∧a≤hi) from decide_eq_decide.2 (by simp)] at h
theorem YI {v:Value} {a b lo hi:Int} {w:World} (h0:Rd encI 1 v [a,b] w):Fn Tryz.prog 20 [.int .i64 lo,.int .i64 hi,v].toArray w (fun u _=>u=.bool (decide ((lo≤a∧a≤hi)∧lo≤b∧b≤hi))):=by
 have h:=c57 (lo:=lo) (hi:=hi) h0 (by simp)
 rwa [show decide (∀ x∈[a,b],lo≤x∧x≤hi)=decide ((lo≤a∧a≤hi)∧lo≤b∧b≤hi) from decide_eq_decide.2 (by simp)] at h
theorem c61 {e:En} {w:World}  :
  Fn Tryz.prog 54 [(.agg #[(.int .i64 e.n),(.int .i64 e.d),(.int .i64 e.f),(.int .i64 e.t),(.int .i64 e.a)])].toArray w (fun u _=>u=.bool (decide (¬ B.isEn e))):=by
 refine fz Tryz.func54 Z kz Z Z (fun hH=>(zr (yM Z Z Z hH (fun b1 w2 hH3=>(oA hH3 Z (zs (oY hH3 (zC T.yE Z) (oY hH3 (zD T.zP Z (cw (n:=0) Z Z)) (xT (us:=[(0,(.int .i64 e.n))]) T.yB [e.n] Z (by decide) Z (fun a ha=>by simp [ha.ev (show ev _ (.tmp 4)=some _ from rfl)]) (fun w=>by kernel_rfl) hH3 (fun u4 lo6 hi7 w5 hH8=>(zQ Z Z Z hH8 (jL (Heap.jO T.yB hH8 (n:=0) Z)) (fun w9 hH10=>(oY hH10 (xK Z) (oM hH10 Z ?_))))))))))))))
 by_cases hc11:1≤e.n∧e.n≤1099511627776
 ·refine zB Z Z (zJ hc11) (oY hH10 (zC T.zS Z) (zB Z Z (zJ hc11) (oY hH10 (zD T.zP Z (cw (n:=1) Z Z)) (zB Z Z (zJ hc11) (xT (us:=[(0,(.int .i64 e.d))]) T.yB [e.d] Z (by decide) Z (fun a ha=>by simp [ha.ev (show ev _ (.tmp 10)=some _ from rfl)]) (fun w=>by kernel_rfl) hH10 (fun u12 lo14 hi15 w13 hH16=>(zB Z Z (zJ hc11) (zQ Z Z Z hH16 (jL (Heap.jO T.yB hH16 (n:=0) Z)) (fun w17 hH18=>(zB Z Z (zJ hc11) (oY hH18 (xK Z) (oY hH18 (zF Z (zJ hc11) Z) (oM hH18 Z ?_)))))))))))))
  by_cases hc19:0≤e.d∧e.d≤36500
  ·refine zB Z Z (zJ hc19) (oY hH18 (zC T.vE Z) (zB Z Z (zJ hc19) (oY hH18 (zD T.zP Z (cw (n:=2) Z Z)) (zB Z Z (zJ hc19) (oY hH18 (zC T.vK Z) (zB Z Z (zJ hc19) (oY hH18 (zD T.zP Z (cw (n:=2) Z Z)) (zB Z Z (zJ hc19) (xT (us:=[(0,(.int .i64 e.f)),(1,(.int .i64 e.t))]) T.yB [e.f,e.t] Z (by decide) Z (fun a ha=>by simp [ha.ev (show ev _ (.tmp 17)=some _ from rfl),ha.ev (show ev _ (.tmp 19)=some _ from rfl)]) (fun w=>by kernel_rfl) hH18 (fun u20 lo22 hi23 w21 hH24=>(zB Z Z (zJ hc19) (zQ Z Z Z hH24 (YI (Heap.jO T.yB hH24 (n:=0) Z)) (fun w25 hH26=>(zB Z Z (zJ hc19) (oY hH26 (xK Z) (oY hH26 (zF Z (zJ hc19) Z) (oM hH26 Z ?_)))))))))))))))))
   by_cases hc27:(0≤e.f∧e.f≤9)∧0≤e.t∧e.t≤9
   ·refine zB Z Z (zJ hc27) (oY hH26 (zC T.u6 Z) (zB Z Z (zJ hc27) (oY hH26 (zD T.zP Z (cw (n:=3) Z Z)) (zB Z Z (zJ hc27) (xT (us:=[(0,(.int .i64 e.a))]) T.yB [e.a] Z (by decide) Z (fun a ha=>by simp [ha.ev (show ev _ (.tmp 26)=some _ from rfl)]) (fun w=>by kernel_rfl) hH26 (fun u28 lo30 hi31 w29 hH32=>(zB Z Z (zJ hc27) (zQ Z Z Z hH32 (jL (Heap.jO T.yB hH32 (n:=0) Z)) (fun w33 hH34=>(zB Z Z (zJ hc27) (oY hH34 (xK Z) (oY hH34 (zF Z (zJ hc27) Z) (oA hH34 Z (zt (ret (fin (hH34.sub (sC (sC (sC (sC (sC sR)))))) (fun w' hf=>(zU Z (rt Z))) (fun w' hf=>?_)))))))))))))))))
    first | exact congrArg Value.bool (decide_eq_true (show ¬ B.isEn e by unfold B.isEn; omega)).symm | exact congrArg Value.bool (decide_eq_false (show ¬ ¬ B.isEn e by unfold B.isEn; omega)).symm | (refine congrArg Value.bool ?_; rw [Bool.eq_iff_iff]; simp only [Bool.not_eq_true',decide_eq_true_eq,decide_eq_false_iff_not]; unfold B.isEn; omega)
   refine zA Z Z (zI hc27) Z (zA Z Z (zI hc27) Z (zA Z Z (zI hc27) Z (zA Z Z (zI hc27) Z (zA Z Z (zI hc27) Z (oY hH26 (zH Z (zI hc27) Z) (oA hH26 Z (zt (ret (fin (hH26.sub (sC (sC (sC (sC sR))))) (fun w' hf=>(zU Z (rt Z))) (fun w' hf=>?_))))))))))
   first | exact congrArg Value.bool (decide_eq_true (show ¬ B.isEn e by unfold B.isEn; omega)).symm | exact congrArg Value.bool (decide_eq_false (show ¬ ¬ B.isEn e by unfold B.isEn; omega)).symm | (refine congrArg Value.bool ?_; rw [Bool.eq_iff_iff]; simp only [Bool.not_eq_true',decide_eq_true_eq,decide_eq_false_iff_not]; unfold B.isEn; omega)
  refine zA Z Z (zI hc19) Z (zA Z Z (zI hc19) Z (zA Z Z (zI hc19) Z (zA Z Z (zI hc19) Z (zA Z Z (zI hc19) Z (zA Z Z (zI hc19) Z (zA Z Z (zI hc19) Z (oY hH18 (zH Z (zI hc19) Z) (oM hH18 Z (zA Z Z Z Z (zA Z Z Z Z (zA Z Z Z Z (zA Z Z Z Z (zA Z Z Z Z (oY hH18 (zH Z Z Z) (oA hH18 Z (zt (ret (fin (hH18.sub (sC (sC (sC sR)))) (fun w' hf=>(zU Z (rt Z))) (fun w' hf=>?_)))))))))))))))))))
  first | exact congrArg Value.bool (decide_eq_true (show ¬ B.isEn e by unfold B.isEn; omega)).symm | exact congrArg Value.bool (decide_eq_false (show ¬ ¬ B.isEn e by unfold B.isEn; omega)).symm | (refine congrArg Value.bool ?_; rw [Bool.eq_iff_iff]; simp only [Bool.not_eq_true',decide_eq_true_eq,decide_eq_false_iff_not]; unfold B.isEn; omega)
 refine zA Z Z (zI hc11) Z (zA Z Z (zI hc11) Z (zA Z Z (zI hc11) Z (zA Z Z (zI hc11) Z (zA Z Z (zI hc11) Z (oY hH10 (zH Z (zI hc11) Z) (oM hH10 Z (zA Z Z Z Z (zA Z Z Z Z (zA Z Z Z Z (zA Z Z Z Z (zA Z Z Z Z (zA Z Z Z Z (zA Z Z Z Z (oY hH10 (zH Z Z Z) (oM hH10 Z (zA Z Z Z Z (zA Z Z Z Z (zA Z Z Z Z (zA Z Z Z Z (zA Z Z Z Z (oY hH10 (zH Z Z Z) ?_)))))))))))))))))))))
 refine oA hH10 Z (zt (ret (fin (hH10.sub (sC (sC sR))) (fun w' hf=>(zU Z (rt Z))) (fun w' hf=>?_))))
 first | exact congrArg Value.bool (decide_eq_true (show ¬ B.isEn e by unfold B.isEn; omega)).symm | exact congrArg Value.bool (decide_eq_false (show ¬ ¬ B.isEn e by unfold B.isEn; omega)).symm | (refine congrArg Value.bool ?_; rw [Bool.eq_iff_iff]; simp only [Bool.not_eq_true',decide_eq_true_eq,decide_eq_false_iff_not]; unfold B.isEn; omega)
theorem c62 {e:En} {w:World}  :
  Fn Tryz.prog 55 [(.agg #[(.int .i64 e.n),(.int .i64 e.d),(.int .i64 e.f),(.int .i64 e.t),(.int .i64 e.a)])].toArray w (fun u _=>u=.bool (decide (e.f=e.t))):=by
 refine fz Tryz.func55 Z kz Z Z (fun hH=>(zr (yM Z Z Z hH (fun b1 w2 hH3=>(oA hH3 Z (zs (oY hH3 (zC T.vE Z) (oY hH3 (zD T.zP Z (cw (n:=0) Z Z)) (oY hH3 (zC T.vK Z) (oY hH3 (zD T.zP Z (cw (n:=0) Z Z)) (oY hH3 (yF Z Z) (oA hH3 Z (zt (ret (fin (hH3.sub (sC sR)) (fun w' hf=>(zU Z (rt Z))) (fun w' hf=>Z))))))))))))))))
theorem c63 {x e:En} {b1:Nat} {w:World} (k1:Bx b1 38 [.int .i64 e.n,.int .i64 e.d,.int .i64 e.f,.int .i64 e.t,.int .i64 e.a] w)  :
  Fn Tryz.prog 99 [(.agg #[(.int .i64 x.n),(.int .i64 x.d),(.int .i64 x.f),(.int .i64 x.t),(.int .i64 x.a)]),(.pointer (some ⟨b1,0,none⟩))].toArray w (fun u _=>u=.bool (decide (x.n=e.n))):=by
 refine fz Tryz.func99 Z kz Z Z (fun hH=>(zr (yM Z Z Z hH (fun b1 w2 hH3=>(oA hH3 Z (zs (oY hH3 (zC T.yE Z) (oY hH3 (zD T.zP Z (cw (n:=0) Z Z)) (oY hH3 (zC T.yE Z) (oY hH3 (zD T.zP Z (fun _ hw=>xM (k1.now hw (n:=1) Z) Z)) (oY hH3 (yF Z Z) (oA hH3 Z (zt (ret (fin (hH3.sub (sC sR)) (fun w' hf=>(zU Z (rt Z))) (fun w' hf=>Z))))))))))))))))
theorem YG {v:Value} {l:List En} {w:World} (h0:Rd encE 5 v l w) (hn:l.length≤1000000)  :
  Fn Tryz.prog 164 [v,(.func (.func 54) #[] #[])].toArray w (fun u _=>u=.int .i64 (idx (fun x:En=>decide (¬ B.isEn x)) l)):=by
 refine fz Tryz.func164 Z kz Z Z (fun hH=>(zr (oA hH Z (zt (seq (zr (oM hH Z (oY hH (yA T.yN Z (h0.now hH (n:=0) Z).is) (oM hH Z (zt (block (loop (S:=Nat) (fun k=>[(8,(.int .i64 (k:Int))),(0,v),(1,(.func (.func 54) #[] #[])),(7,(.int .i64 (l.length:Int)))]) (fun k w1=>Heap [base w] w1∧k≤l.length∧∀ i,i<k→(fun x:En=>decide (¬ B.isEn x)) (nth l (i:Int))=false) (fun k=>l.length - k) (0) (uC Z (uC Z (uC Z (uC Z (Sub.nil _))))) ?_ ?_))))))))))))
 ·exact ⟨hH,om,B.all_zero⟩
 rintro k w1 ⟨hH2,hk,hall⟩
 refine zr (oY hH2 (zY Z Z) (zt (seq ?_)))
 by_cases hc3:(k:Int)<(l.length:Int)
 ·refine zL Z (dT hc3) (skip (zN (seq (block (zr (oM hH2 Z (oA hH2 Z (zs (oM hH2 Z (oM hH2 Z (oM hH2 Z (oY hH2 (zW T.yN Z Z (h0.now hH2 (n:=0) Z).is om) (oY hH2 (yC (cs:=[(.int .i64 ((nth l (k:Int)).n)),(.int .i64 ((nth l (k:Int)).d)),(.int .i64 ((nth l (k:Int)).f)),(.int .i64 ((nth l (k:Int)).t)),(.int .i64 ((nth l (k:Int)).a))]) T.xJ Z Z (fun _ hw=>Rd.qR (h0.now hw (n:=0) Z) (i:=(k:Int)) om)) (zQ Z Z Z hH2 (c61 ) (fun w4 hH5=>(zt ?_))))))))))))))))
  by_cases hc6:¬ B.isEn (nth l (k:Int))
  ·have hp:(fun x:En=>decide (¬ B.isEn x)) (nth l (k:Int))=true:=(decide_eq_true hc6)
   refine zL Z (dT hc6) (zr (oM hH5 Z (oA hH5 Z (zt (ret (z8 (zV (xV (z8 (zV (fin hH5 (fun w' hf=>(zU Z (rt Z))) (fun w' hf=>?_))))))))))))
   first | exact congrArg (Value.int .i64) (yX (k:=k) (by omega) hall hp).symm | exact congrArg (Value.int .i64) (yO (fun i hi=>hall i (by omega))).symm
  have hp:(fun x:En=>decide (¬ B.isEn x)) (nth l (k:Int))=false:=(decide_eq_false hc6)
  refine zM Z (dF hc6) (skip (zX (zN (region (oY hH5 (zR Z Z om) (oM hH5 Z (zG (yH (k+1) (uC Z (uC Z (uC Z (uC Z (Sub.nil _))))) (⟨hH5,om,B.all_snoc hall hp⟩) om3))))))))
 refine zM Z (dF hc3) (exit (yS (xO (z6 (zu (oA hH2 Z (zt (ret (fin hH2 (fun w' hf=>(zU Z (rt Z))) (fun w' hf=>?_))))))))))
 first | exact congrArg (Value.int .i64) (yX (k:=k) (by omega) hall hp).symm | exact congrArg (Value.int .i64) (yO (fun i hi=>hall i (by omega))).symm
theorem XN {v:Value} {l:List En} {w:World} (h0:Rd encE 5 v l w) (hn:l.length≤1000000)  :
  Fn Tryz.prog 98 [v,(.func (.func 54) #[] #[])].toArray w (fun u _=>u=.bool (has (fun x:En=>decide (¬ B.isEn x)) l)):=by
 refine fz Tryz.func98 Z kz Z Z (fun hH=>(zr (oA hH Z (zs (oM hH Z (oM hH Z (zQ Z Z Z hH (YG (h0.now hH (n:=0) Z) (by first | omega | assumption)) (fun w1 hH2=>(oY hH2 (xG Z Z) (oA hH2 Z (zt (ret (fin hH2 (fun w' hf=>(zU Z (rt Z))) (fun w' hf=>Z))))))))))))))
theorem Y8 {v:Value} {l:List En} {w:World} (h0:Rd encE 5 v l w) (hn:l.length≤1000000)  :
  Fn Tryz.prog 164 [v,(.func (.func 55) #[] #[])].toArray w (fun u _=>u=.int .i64 (idx (fun x:En=>decide (x.f=x.t)) l)):=by
 refine fz Tryz.func164 Z kz Z Z (fun hH=>(zr (oA hH Z (zt (seq (zr (oM hH Z (oY hH (yA T.yN Z (h0.now hH (n:=0) Z).is) (oM hH Z (zt (block (loop (S:=Nat) (fun k=>[(8,(.int .i64 (k:Int))),(0,v),(1,(.func (.func 55) #[] #[])),(7,(.int .i64 (l.length:Int)))]) (fun k w1=>Heap [base w] w1∧k≤l.length∧∀ i,i<k→(fun x:En=>decide (x.f=x.t)) (nth l (i:Int))=false) (fun k=>l.length - k) (0) (uC Z (uC Z (uC Z (uC Z (Sub.nil _))))) ?_ ?_))))))))))))
 ·exact ⟨hH,om,B.all_zero⟩
 rintro k w1 ⟨hH2,hk,hall⟩
 refine zr (oY hH2 (zY Z Z) (zt (seq ?_)))
 by_cases hc3:(k:Int)<(l.length:Int)
 ·refine zL Z (dT hc3) (skip (zN (seq (block (zr (oM hH2 Z (oA hH2 Z (zs (oM hH2 Z (oM hH2 Z (oM hH2 Z (oY hH2 (zW T.yN Z Z (h0.now hH2 (n:=0) Z).is om) (oY hH2 (yC (cs:=[(.int .i64 ((nth l (k:Int)).n)),(.int .i64 ((nth l (k:Int)).d)),(.int .i64 ((nth l (k:Int)).f)),(.int .i64 ((nth l (k:Int)).t)),(.int .i64 ((nth l (k:Int)).a))]) T.xJ Z Z (fun _ hw=>Rd.qR (h0.now hw (n:=0) Z) (i:=(k:Int)) om)) (zQ Z Z Z hH2 (c62 ) (fun w4 hH5=>(zt ?_))))))))))))))))
  by_cases hc6:(nth l (k:Int)).f=(nth l (k:Int)).t
  ·have hp:(fun x:En=>decide (x.f=x.t)) (nth l (k:Int))=true:=(decide_eq_true hc6)
   refine zL Z (dT hc6) (zr (oM hH5 Z (oA hH5 Z (zt (ret (z8 (zV (xV (z8 (zV (fin hH5 (fun w' hf=>(zU Z (rt Z))) (fun w' hf=>?_))))))))))))
   first | exact congrArg (Value.int .i64) (yX (k:=k) (by omega) hall hp).symm | exact congrArg (Value.int .i64) (yO (fun i hi=>hall i (by omega))).symm
  have hp:(fun x:En=>decide (x.f=x.t)) (nth l (k:Int))=false:=(decide_eq_false hc6)
  refine zM Z (dF hc6) (skip (zX (zN (region (oY hH5 (zR Z Z om) (oM hH5 Z (zG (yH (k+1) (uC Z (uC Z (uC Z (uC Z (Sub.nil _))))) (⟨hH5,om,B.all_snoc hall hp⟩) om3))))))))
 refine zM Z (dF hc3) (exit (yS (xO (z6 (zu (oA hH2 Z (zt (ret (fin hH2 (fun w' hf=>(zU Z (rt Z))) (fun w' hf=>?_))))))))))
 first | exact congrArg (Value.int .i64) (yX (k:=k) (by omega) hall hp).symm | exact congrArg (Value.int .i64) (yO (fun i hi=>hall i (by omega))).symm
theorem XJ {v:Value} {l:List En} {w:World} (h0:Rd encE 5 v l w) (hn:l.length≤1000000)  :
  Fn Tryz.prog 98 [v,(.func (.func 55) #[] #[])].toArray w (fun u _=>u=.bool (has (fun x:En=>decide (x.f=x.t)) l)):=by
 refine fz Tryz.func98 Z kz Z Z (fun hH=>(zr (oA hH Z (zs (oM hH Z (oM hH Z (zQ Z Z Z hH (Y8 (h0.now hH (n:=0) Z) (by first | omega | assumption)) (fun w1 hH2=>(oY hH2 (xG Z Z) (oA hH2 Z (zt (ret (fin hH2 (fun w' hf=>(zU Z (rt Z))) (fun w' hf=>Z))))))))))))))
theorem ZI {v:Value} {l:List En} {e:En} {b1:Nat} {w:World} (h0:Rd encE 5 v l w) (k1:Bx b1 38 [.int .i64 e.n,.int .i64 e.d,.int .i64 e.f,.int .i64 e.t,.int .i64 e.a] w) (hn:l.length≤1000000)  :
  Fn Tryz.prog 164 [v,(.func (.func 99) #[] #[(.pointer (some ⟨b1,0,none⟩))])].toArray w (fun u _=>u=.int .i64 (idx (fun x:En=>decide (x.n=e.n)) l)):=by
 refine fz Tryz.func164 Z kz Z Z (fun hH=>(zr (oA hH Z (zt (seq (zr (oM hH Z (oY hH (yA T.yN Z (h0.now hH (n:=0) Z).is) (oM hH Z (zt (block (loop (S:=Nat) (fun k=>[(8,(.int .i64 (k:Int))),(0,v),(1,(.func (.func 99) #[] #[(.pointer (some ⟨b1,0,none⟩))])),(7,(.int .i64 (l.length:Int)))]) (fun k w1=>Heap [base w] w1∧k≤l.length∧∀ i,i<k→(fun x:En=>decide (x.n=e.n)) (nth l (i:Int))=false) (fun k=>l.length - k) (0) (uC Z (uC Z (uC Z (uC Z (Sub.nil _))))) ?_ ?_))))))))))))
 ·exact ⟨hH,om,B.all_zero⟩
 rintro k w1 ⟨hH2,hk,hall⟩
 refine zr (oY hH2 (zY Z Z) (zt (seq ?_)))
 by_cases hc3:(k:Int)<(l.length:Int)
 ·refine zL Z (dT hc3) (skip (zN (seq (block (zr (oM hH2 Z (oA hH2 Z (zs (oM hH2 Z (oM hH2 Z (oM hH2 Z (oY hH2 (zW T.yN Z Z (h0.now hH2 (n:=0) Z).is om) (oY hH2 (yC (cs:=[(.int .i64 ((nth l (k:Int)).n)),(.int .i64 ((nth l (k:Int)).d)),(.int .i64 ((nth l (k:Int)).f)),(.int .i64 ((nth l (k:Int)).t)),(.int .i64 ((nth l (k:Int)).a))]) T.xJ Z Z (fun _ hw=>Rd.qR (h0.now hw (n:=0) Z) (i:=(k:Int)) om)) (zQ Z Z Z hH2 (c63 (k1.now hH2 (n:=0) Z)) (fun w4 hH5=>(zt ?_))))))))))))))))
  by_cases hc6:(nth l (k:Int)).n=e.n
  ·have hp:(fun x:En=>decide (x.n=e.n)) (nth l (k:Int))=true:=(decide_eq_true hc6)
   refine zL Z (dT hc6) (zr (oM hH5 Z (oA hH5 Z (zt (ret (z8 (zV (xV (z8 (zV (fin hH5 (fun w' hf=>(zU Z (rt Z))) (fun w' hf=>?_))))))))))))
   first | exact congrArg (Value.int .i64) (yX (k:=k) (by omega) hall hp).symm | exact congrArg (Value.int .i64) (yO (fun i hi=>hall i (by omega))).symm
  have hp:(fun x:En=>decide (x.n=e.n)) (nth l (k:Int))=false:=(decide_eq_false hc6)
  refine zM Z (dF hc6) (skip (zX (zN (region (oY hH5 (zR Z Z om) (oM hH5 Z (zG (yH (k+1) (uC Z (uC Z (uC Z (uC Z (Sub.nil _))))) (⟨hH5,om,B.all_snoc hall hp⟩) om3))))))))
 refine zM Z (dF hc3) (exit (yS (xO (z6 (zu (oA hH2 Z (zt (ret (fin hH2 (fun w' hf=>(zU Z (rt Z))) (fun w' hf=>?_))))))))))
 first | exact congrArg (Value.int .i64) (yX (k:=k) (by omega) hall hp).symm | exact congrArg (Value.int .i64) (yO (fun i hi=>hall i (by omega))).symm
theorem XP {v:Value} {l:List En} {e:En} {b1:Nat} {w:World} (h0:Rd encE 5 v l w) (k1:Bx b1 38 [.int .i64 e.n,.int .i64 e.d,.int .i64 e.f,.int .i64 e.t,.int .i64 e.a] w) (hn:l.length≤1000000)  :
  Fn Tryz.prog 98 [v,(.func (.func 99) #[] #[(.pointer (some ⟨b1,0,none⟩))])].toArray w (fun u _=>u=.bool (has (fun x:En=>decide (x.n=e.n)) l)):=by
 refine fz Tryz.func98 Z kz Z Z (fun hH=>(zr (oA hH Z (zs (oM hH Z (oM hH Z (zQ Z Z Z hH (ZI (h0.now hH (n:=0) Z) (e:=e) (k1.now hH (n:=0) Z) (by first | omega | assumption)) (fun w1 hH2=>(oY hH2 (xG Z Z) (oA hH2 Z (zt (ret (fin hH2 (fun w' hf=>(zU Z (rt Z))) (fun w' hf=>Z))))))))))))))
theorem YR {a:Int} {w:World}  :
  Fn Tryz.prog 226 [(.int .i64 a)].toArray w (fun u _=>u=.bool false):=by
 refine fz Tryz.func226 Z kz Z Z (fun hH=>(zr (oA hH Z (zs (oM hH Z (oM hH Z (oY hH (xA Z Z) (oA hH Z (zt (ret (fin hH (fun w' hf=>(zU Z (rt Z))) (fun w' hf=>?_))))))))))))
 simp
def B.cmpI (a b:Int):Int:=if a<b then -1 else if b<a then 1 else 0
def B.cmpE (a b:En):Int:=if B.cmpI a.d b.d=0 then B.cmpI a.n b.n else B.cmpI a.d b.d
theorem B.cmpE_neg {a b:En}:B.cmpE a b<0↔B.bef a b:=by
 unfold B.cmpE B.cmpI B.bef
 repeat' split
 all_goals omega
theorem YZ {a b:Int} {w:World}  :
  Fn Tryz.prog 149 [(.int .i64 a),(.int .i64 b)].toArray w (fun u _=>u=.int .i64 (B.cmpI a b)):=by
 refine fz Tryz.func149 Z kz Z Z (fun hH=>(zr (oA hH Z (zs (oM hH Z (zQ Z Z Z hH (YR ) (fun w1 hH2=>(oA hH2 Z (zs (oM hH2 Z (zQ Z Z Z hH2 (YR ) (fun w3 hH4=>(oA hH4 Z (zt (seq (seq ?_))))))))))))))))
 refine region (oM hH4 Z (zt (zM Z Z (skip (zN (seq (zr (oM hH4 Z (zt (zM Z Z (skip (zN (seq (zr (oM hH4 Z (oM hH4 Z (oY hH4 (zY Z Z) ?_)))))))))))))))))
 refine zt ?_
 by_cases hc5:a<b
 ·refine zL Z (dT hc5) (zr (oA hH4 Z (zt (ret (zV (fin hH4 (fun w' hf=>(zU Z (rt Z))) (fun w' hf=>?_)))))))
  first | exact congrArg (Value.int .i64) (show _=B.cmpI a b by unfold B.cmpI; (repeat split) <;> omega)
 refine zM Z (dF hc5) (skip (zN (seq (zr (oM hH4 Z (oM hH4 Z (oY hH4 (zZ Z Z) (zt ?_))))))))
 by_cases hc6:b<a
 ·refine zL Z (dT hc6) (zr (oA hH4 Z (zt (ret (zV (fin hH4 (fun w' hf=>(zU Z (rt Z))) (fun w' hf=>?_)))))))
  first | exact congrArg (Value.int .i64) (show _=B.cmpI a b by unfold B.cmpI; (repeat split) <;> omega)
 refine zM Z (dF hc6) (skip (zu (oA hH4 Z (zt (ret (fin hH4 (fun w' hf=>(zU Z (rt Z))) (fun w' hf=>?_)))))))
 first | exact congrArg (Value.int .i64) (show _=B.cmpI a b by unfold B.cmpI; (repeat split) <;> omega)
theorem B.two_at {a b:Int} {k:Nat}:(k=0→nth [a,b] (k:Int)=a)∧(k=1→nth [a,b] (k:Int)=b):=⟨fun h=>by subst h; rfl,fun h=>by subst h; rfl⟩
theorem XH {v:Value} {a b:Int} {w:World} (h0:Rd encI 1 v [a,b] w)  :
  Fn Tryz.prog 148 [v].toArray w (fun u _=>u=.int .i64 (if a=0 then b else a)):=by
 refine fz Tryz.func148 Z kz Z Z (fun hH=>(zr (oA hH Z (zs (oA hH Z (zt (seq (zr (oM hH Z (oY hH (yA T.vN Z (h0.now hH (n:=0) Z).is) (oM hH Z (zt (block (loop (S:=Nat) (fun k=>[(8,(.int .i64 (k:Int))),(3,(.int .i64 0)),(6,v),(7,(.int .i64 ([a,b].length:Int)))]) (fun k w1=>Heap [base w] w1∧k≤2∧(1≤k→a=0)∧(2≤k→b=0)) (fun k=>2 - k) (0) (uC Z (uC Z (uC Z (uC Z (Sub.nil _))))) ?_ ?_))))))))))))))
 ·exact ⟨hH,om,om,om⟩
 rintro k w1 ⟨hH2,hk,h1,h2⟩
 refine zr (oY hH2 (zY Z Z) (zt (seq ?_)))
 by_cases hc3:(k:Int)<([a,b].length:Int)
 ·refine zL Z (dT hc3) (skip (zN (seq (block (zr (oY hH2 (zW T.vN Z Z (h0.now hH2 (n:=0) Z).is (by simp only [List.length_cons,List.length_nil] at *; omega)) (oY hH2 (zD T.YF Z (fun _ hw=>Rd.at (h0.now hw (n:=0) Z) (i:=(k:Int)) (by simp only [List.length_cons,List.length_nil] at *; omega) (j:=0) Z)) (oA hH2 Z (zs (oM hH2 Z (oM hH2 Z (oY hH2 (xA Z Z) (zt ?_)))))))))))))
  by_cases hc4:(nth [a,b] (k:Int))=0
  ·refine zM Z (zJ hc4) (skip (zX (zN (region (oY hH2 (zR Z Z om) (oM hH2 Z (zG (yH (k+1) (uC Z (uC Z (uC Z (uC Z (Sub.nil _))))) ?_ ?_))))))))
   ·exact ⟨hH2,by simp only [List.length_cons,List.length_nil] at *; omega,(fun h=>by have h7:=B.two_at (a:=a) (b:=b) (k:=k); omega),(fun h=>by have h7:=B.two_at (a:=a) (b:=b) (k:=k); omega)⟩
   ·(simp only [List.length_cons,List.length_nil] at *; omega)
  refine zL Z (zI hc4) (zr (oM hH2 Z (oA hH2 Z (zt (ret (z8 (zV (xV (z8 (zV (fin hH2 (fun w' hf=>(zU Z (rt Z))) (fun w' hf=>?_))))))))))))
  have h7:=B.two_at (a:=a) (b:=b) (k:=k); first | exact congrArg (Value.int .i64) (by simp only [List.length_cons,List.length_nil] at *; split <;> omega)
 refine zM Z (dF hc3) (exit (yS (xO (z6 (zu (oM hH2 Z (oA hH2 Z (zt (ret (fin hH2 (fun w' hf=>(zU Z (rt Z))) (fun w' hf=>?_)))))))))))
 have h7:=B.two_at (a:=a) (b:=b) (k:=k); first | exact congrArg (Value.int .i64) (by simp only [List.length_cons,List.length_nil] at *; split <;> omega)
theorem c65 {a b:En} {w:World}  :
  Fn Tryz.prog 87 [(.agg #[(.int .i64 a.n),(.int .i64 a.d),(.int .i64 a.f),(.int .i64 a.t),(.int .i64 a.a)]),(.agg #[(.int .i64 b.n),(.int .i64 b.d),(.int .i64 b.f),(.int .i64 b.t),(.int .i64 b.a)])].toArray w (fun u _=>u=.int .i64 (B.cmpE a b)):=by
 refine fz Tryz.func87 Z kz Z Z (fun hH=>(zr (yM Z Z Z hH (fun b1 w2 hH3=>(yM Z Z Z hH3 (fun b4 w5 hH6=>(oA hH6 Z (zt (seq (yP (fun w'=>Heap [bx b4 38 [(.int .i64 b.n),(.int .i64 b.d),(.int .i64 b.f),(.int .i64 b.t),(.int .i64 b.a)],bx b1 38 [(.int .i64 a.n),(.int .i64 a.d),(.int .i64 a.f),(.int .i64 a.t),(.int .i64 a.a)],base w] w') T.mixed (fun w7 hr8=>?_)))))))))))
 have hH9:=hH6.redrawn hr8
 refine yJ [0,1,2,3,5,6,7,8] kz hH9 _ _ _ kz (yD Z Z (zC T.zS Z) (yD Z Z (zD T.zP Z (cw (n:=1) Z Z)) (yD Z Z (zC T.zS Z) (yD Z Z (zD T.zP Z (cw (n:=0) Z Z)) (yD Z Z (zC T.yE Z) (yD Z Z (zD T.zP Z (cw (n:=1) Z Z)) (yD Z Z (zC T.yE Z) (yD Z Z (zD T.zP Z (cw (n:=0) Z Z)) (yQ (z1 4 kz Z (zQ Z Z Z hH9 (YZ ) (fun w10 hH11=>(zG (⟨hH11,(z1 9 kz Z (zQ Z Z Z hH11 (YZ ) (fun w12 hH13=>(zG (⟨hH13,(z1 10 kz Z ?_)⟩)))))⟩))))))))))))))
 refine xT (us:=[(0,(.int .i64 (B.cmpI a.d b.d))),(1,(.int .i64 (B.cmpI a.n b.n)))]) T.vH [(B.cmpI a.d b.d),(B.cmpI a.n b.n)] Z (by decide) Z (fun a ha=>by simp [ha.ev (show ev _ (.tmp 9)=some _ from rfl),ha.ev (show ev _ (.tmp 14)=some _ from rfl)]) (fun w=>by kernel_rfl) hH13 (fun u14 lo16 hi17 w15 hH18=>(zG (⟨(hH18.sub (sC sR)),(z1 11 kz Z (zQ Z Z Z hH18 (XH (Heap.jO T.vH hH18 (n:=0) Z)) (fun w19 hH20=>(zG (⟨(hH20.sub (sC sR)),(yJ [12] kz (hH20.sub (sC sR)) _ _ _ kz (yD Z Z (vL Z) (yQ (xH kz (zN (ret (fin (hH20.sub (sC (sC (sC sR)))) (fun w' hf=>(zU Z (rt Z))) (fun w' hf=>Z))))))))⟩)))))⟩)))
end Go.Fip
namespace Go.Fip
open Go.Proofs Go.RowKit
theorem B.has_stray {l:List En}:has (fun x:En=>decide (¬ B.isEn x)) l=true↔¬ B.InR l:=by
 rw [xY]
 unfold B.InR
 constructor
 ·rintro ⟨i,hi,hp⟩ h
  exact (of_decide_eq_true hp) (h i hi)
 ·intro h
  have:∃ i,¬ (i<l.length→B.isEn (nth l (i:Int))):=Classical.not_forall.1 h
  obtain ⟨i,hi⟩:=this
  obtain ⟨h1,h2⟩:=Classical.not_imp.1 hi
  exact ⟨i,h1,dT h2⟩
theorem B.has_self {l:List En}:has (fun x:En=>decide (x.f=x.t)) l=true↔¬ B.NoSelf l:=by
 rw [xY]
 unfold B.NoSelf
 constructor
 ·rintro ⟨i,hi,hp⟩ h
  exact h i hi (of_decide_eq_true hp)
 ·intro h
  obtain ⟨i,hi⟩:=Classical.not_forall.1 h
  obtain ⟨h1,h2⟩:=Classical.not_imp.1 hi
  exact ⟨i,h1,dT (Classical.not_not.1 h2)⟩
theorem B.has_dup {l:List En} {k:Nat} {n:Int} (hk:k≤l.length):has (fun x:En=>decide (x.n=n)) (l.take k)=true↔∃ i:Nat,i<k∧(nth l (i:Int)).n=n:=by
 rw [xY,List.length_take,Nat.min_eq_left hk]
 constructor
 ·rintro ⟨i,hi,hp⟩
  have h:=of_decide_eq_true hp
  rw [nth_nat (by rw [List.length_take]; omega),List.getElem_take] at h
  exact ⟨i,hi,by rw [nth_nat om]; exact h⟩
 ·rintro ⟨i,hi,hp⟩
  refine ⟨i,hi,dT ?_⟩
  rw [nth_nat (by rw [List.length_take]; omega),List.getElem_take]
  rwa [nth_nat (by omega)] at hp
theorem c64 {v:Value} {l:List En} {w:World} (h0:Rd encE 5 v l w) (hn:l.length≤1000000)  :
  Fn Tryz.prog 100 [v,(.func (.func 87) #[] #[])].toArray w (fun u _=>u=.bool (decide (∀ i:Nat,i<l.length→1≤i→¬ B.bef (nth l (i:Int)) (nth l ((i:Int) - 1))))):=by
 refine fz Tryz.func100 Z kz Z Z (fun hH=>(zr (oA hH Z (zt (seq (zr (oM hH Z (oY hH (yA T.yN Z (h0.now hH (n:=0) Z).is) (oY hH (z7 Z Z om) (oA hH Z (zt (block (loop (S:=Int) (fun k=>[(5,(.int .i64 k)),(0,v),(1,(.func (.func 87) #[] #[]))]) (fun k w1=>Heap [base w] w1 ∧ -1≤k∧k<l.length∧∀ i:Nat,k<(i:Int)→i<l.length→1≤i→¬ B.bef (nth l (i:Int)) (nth l ((i:Int) - 1))) (fun k=>(k+1).toNat) ((l.length:Int) - 1) (uC Z (uC Z (uC Z (Sub.nil _)))) ?_ ?_)))))))))))))
 ·exact ⟨hH,om,om,fun i h1 h2=>by omega⟩
 rintro k w1 ⟨hH2,hk0,hk,hall⟩
 refine seq (zr (oM hH2 Z (oY hH2 (zZ Z Z) (zt ?_))))
 by_cases hc3:0<k
 ·refine zL Z (dT hc3) (skip (zN (seq (block (seq (yP (fun w'=>Heap [base w] w') T.mixed (fun w4 hr5=>?_)))))))
  have hH6:=hH2.redrawn hr5
  refine yJ [0,1,2,3,4,5,6,7,8,9] kz hH6 _ _ _ kz (qM Z Z Z (qM Z Z Z (qM Z Z Z (yD Z Z (zW T.yN Z Z (h0.now hH6 (n:=0) Z).is om) (yD Z Z (yC (cs:=[(.int .i64 ((nth l k).n)),(.int .i64 ((nth l k).d)),(.int .i64 ((nth l k).f)),(.int .i64 ((nth l k).t)),(.int .i64 ((nth l k).a))]) T.xJ Z Z (fun _ hw=>Rd.qR (h0.now hw (n:=0) Z) (i:=k) om)) (qM Z Z Z (qM Z Z Z (yD Z Z (z7 Z Z om) (yD Z Z (zW T.yN Z Z (h0.now hH6 (n:=0) Z).is om) (yD Z Z (yC (cs:=[(.int .i64 ((nth l (k - 1)).n)),(.int .i64 ((nth l (k - 1)).d)),(.int .i64 ((nth l (k - 1)).f)),(.int .i64 ((nth l (k - 1)).t)),(.int .i64 ((nth l (k - 1)).a))]) T.xJ Z Z (fun _ hw=>Rd.qR (h0.now hw (n:=0) Z) (i:=k - 1) om)) (yQ (z1 10 kz Z (zQ Z Z Z hH6 (c65 ) (fun w7 hH8=>(zG (⟨hH8,(yJ [11] kz hH8 _ _ _ kz (yD Z Z (zY Z Z) (yQ (xH kz (zN ?_)))))⟩))))))))))))))))
  by_cases hc9:(B.cmpE (nth l k) (nth l (k - 1)))<0
  ·have hbad:B.bef (nth l k) (nth l (k - 1)):=B.cmpE_neg.1 ‹_›
   refine zL Z (dT hc9) (zr (oA hH8 Z (zt (ret (z8 (zV (xV (z8 (zV (fin hH8 (fun w' hf=>(zU Z (rt Z))) (fun w' hf=>?_)))))))))))
   first | exact congrArg Value.bool (decide_eq_false (fun h=>h k.toNat (by omega) (by omega) (by rw [Int.toNat_of_nonneg (by omega)]; exact hbad))).symm | exact congrArg Value.bool (decide_eq_true (fun i h1 h2=>hall i (by omega) h1 h2)).symm
  refine zM Z (dF hc9) (skip (zX (zN (region (oM hH8 Z (oY hH8 (z7 Z Z om) (oA hH8 Z (zG (yH (k - 1) (uC Z (uC Z (uC Z (Sub.nil _)))) (⟨hH8,om,om,fun i h1 h2 h3=>if e:k<(i:Int) then hall i e h2 h3 else by rw [show (i:Int)=k by omega]; exact fun c=>absurd (B.cmpE_neg.2 c) ‹_›⟩) om3)))))))))
 refine zM Z (dF hc3) (exit (yS (xO (z6 (zu (oA hH2 Z (zt (ret (fin hH2 (fun w' hf=>(zU Z (rt Z))) (fun w' hf=>?_))))))))))
 first | exact congrArg Value.bool (decide_eq_false (fun h=>h k.toNat (by omega) (by omega) (by rw [Int.toNat_of_nonneg (by omega)]; exact hbad))).symm | exact congrArg Value.bool (decide_eq_true (fun i h1 h2=>hall i (by omega) h1 h2)).symm
theorem c21 {v:Value} {l:List En} {w:World} (h0:Rd encE 5 v l w) (hn:l.length≤1000000)  :
  Fn Tryz.prog 47 [(.agg #[v])].toArray w (fun u _=>u=.int .i64 (B.ck l)):=by
 refine fz Tryz.func47 Z kz Z Z (fun hH=>(zr (yM Z Z Z hH (fun b1 w2 hH3=>(oA hH3 Z (zs (oY hH3 (zC T.vW Z) (oY hH3 (zD T.uD Z (cw (n:=0) Z Z)) (oA hH3 Z (zt (seq (block (zr (oM hH3 Z (oY hH3 (yA T.yN Z (h0.now hH3 (n:=1) Z).is) (oY hH3 (zZ Z Z) (oA hH3 Z ?_)))))))))))))))))
 refine zt ?_
 by_cases hc4:24<(l.length:Int)
 ·refine zL Z (dT hc4) (zr (oA hH3 Z (zt (ret (z8 (zV (fin (hH3.sub (sC sR)) (fun w' hf=>(zU Z (rt Z))) (fun w' hf=>?_))))))))
  first | exact congrArg (Value.int .i64) (B.ck1 (by omega)).symm | exact congrArg (Value.int .i64) (B.ck2 (by omega) hnr).symm | exact congrArg (Value.int .i64) (B.ck3 (by omega) hin hns).symm | exact congrArg (Value.int .i64) (B.ck4 (by omega) hin hself hnd).symm | exact congrArg (Value.int .i64) (B.ck5 (by omega) hin hself hdup hno).symm | exact congrArg (Value.int .i64) (B.ck6 (by omega) hin hself hdup hord).symm
 refine zM Z (dF hc4) (zr (oM hH3 Z (zQ Z Z Z hH3 (XN (h0.now hH3 (n:=1) Z) (by first | omega | (rw [List.length_take]; omega))) (fun w6 hH7=>(oA hH7 Z (zt ?_))))))
 by_cases hc8:has (fun x:En=>decide (¬ B.isEn x)) l=true
 ·have hnr:¬ B.InR l:=B.has_stray.1 hc8
  refine zL Z hc8 (zr (oA hH7 Z (zt (ret (z8 (zV (fin (hH7.sub (sC sR)) (fun w' hf=>(zU Z (rt Z))) (fun w' hf=>?_))))))))
  first | exact congrArg (Value.int .i64) (B.ck1 (by omega)).symm | exact congrArg (Value.int .i64) (B.ck2 (by omega) hnr).symm | exact congrArg (Value.int .i64) (B.ck3 (by omega) hin hns).symm | exact congrArg (Value.int .i64) (B.ck4 (by omega) hin hself hnd).symm | exact congrArg (Value.int .i64) (B.ck5 (by omega) hin hself hdup hno).symm | exact congrArg (Value.int .i64) (B.ck6 (by omega) hin hself hdup hord).symm
 have hin:B.InR l:=by have h:=(Bool.eq_false_iff.2 hc8); rw [Bool.eq_false_iff] at h; exact Classical.not_not.1 (fun c=>h (B.has_stray.2 c))
 refine zM Z (Bool.eq_false_iff.2 hc8) (zr (oM hH7 Z (zQ Z Z Z hH7 (XJ (h0.now hH7 (n:=1) Z) (by first | omega | (rw [List.length_take]; omega))) (fun w10 hH11=>(oA hH11 Z (zt ?_))))))
 by_cases hc12:has (fun x:En=>decide (x.f=x.t)) l=true
 ·have hns:¬ B.NoSelf l:=B.has_self.1 hc12
  refine zL Z hc12 (zr (oA hH11 Z (zt (ret (z8 (zV (fin (hH11.sub (sC sR)) (fun w' hf=>(zU Z (rt Z))) (fun w' hf=>?_))))))))
  first | exact congrArg (Value.int .i64) (B.ck1 (by omega)).symm | exact congrArg (Value.int .i64) (B.ck2 (by omega) hnr).symm | exact congrArg (Value.int .i64) (B.ck3 (by omega) hin hns).symm | exact congrArg (Value.int .i64) (B.ck4 (by omega) hin hself hnd).symm | exact congrArg (Value.int .i64) (B.ck5 (by omega) hin hself hdup hno).symm | exact congrArg (Value.int .i64) (B.ck6 (by omega) hin hself hdup hord).symm
 have hself:B.NoSelf l:=by have h:=(Bool.eq_false_iff.2 hc12); rw [Bool.eq_false_iff] at h; exact Classical.not_not.1 (fun c=>h (B.has_self.2 c))
 refine zM Z (Bool.eq_false_iff.2 hc12) (skip (zX (zN (seq (zr (oM hH11 Z (oY hH11 (yA T.yN Z (h0.now hH11 (n:=1) Z).is) (oM hH11 Z (zt (block (loop (S:=Nat) (fun i=>[(20,(.int .i64 (i:Int))),(3,v),(18,v),(19,(.int .i64 (l.length:Int)))]) (fun i w1=>Heap [bx b1 24 [v],base w] w1∧i≤l.length∧∀ i2,i2<i→∀ k,k<i2→¬ (nth l (k:Int)).n=(nth l (i2:Int)).n) (fun i=>l.length - i) (0) (uC Z (uC Z (uC Z (uC Z (Sub.nil _))))) ?_ ?_)))))))))))
 ·exact ⟨hH11,om,B.all_zero⟩
 rintro i w14 ⟨hH15,hi,hall2⟩
 refine zr (oY hH15 (zY Z Z) (zt (seq ?_)))
 by_cases hc16:(i:Int)<(l.length:Int)
 ·refine zL Z (dT hc16) (skip (zN (seq (block (zr (oM hH15 Z (oY hH15 (zW T.yN Z Z (h0.now hH15 (n:=1) Z).is om) (oY hH15 (yC (cs:=[(.int .i64 ((nth l (i:Int)).n)),(.int .i64 ((nth l (i:Int)).d)),(.int .i64 ((nth l (i:Int)).f)),(.int .i64 ((nth l (i:Int)).t)),(.int .i64 ((nth l (i:Int)).a))]) T.xJ Z Z (fun _ hw=>Rd.qR (h0.now hw (n:=1) Z) (i:=(i:Int)) om)) (yY (z:=(.agg #[(.int .i64 0),(.int .i64 0),(.int .i64 0),(.int .i64 0),(.int .i64 0)])) (fun _=>by kernel_rfl) Z Z hH15 (fun b17 w18 hH19=>(oA hH19 Z (y7 (n:=0) (j:=0) Z Z hH19 Z T.qL Z Z Z (by rfl) (fun w20 hH21=>(zs (oM hH21 Z (oM hH21 Z (oY hH21 (qC T.yN Z Z (h0.now hH21 (n:=2) Z).is om) (oY hH21 (qB Z Z) (zQ Z Z Z hH21 (XP (Rd.XR (h0.now hH21 (n:=2) Z) (hi:=(i:Int).toNat) om) (e:=(nth l (i:Int))) (Heap.XA hH21 (n:=0) Z) (by first | omega | (rw [List.length_take]; omega))) (fun w22 hH23=>?_))))))))))))))))))))
  refine zt ?_
  by_cases hc24:has (fun x:En=>decide (x.n=(nth l (i:Int)).n)) (l.take (i:Int).toNat)=true
  ·have hnd:¬ B.NoDup l:=fun h=>by obtain ⟨k,hk,he⟩:=(B.has_dup (by omega)).1 hc24; exact h i (by omega) k hk he
   refine zL Z hc24 (zr (oA hH23 Z (zt (ret (z8 (zV (xV (z8 (zV (fin (hH23.sub (sC (sC sR))) (fun w' hf=>(zU Z (rt Z))) (fun w' hf=>?_)))))))))))
   first | exact congrArg (Value.int .i64) (B.ck1 (by omega)).symm | exact congrArg (Value.int .i64) (B.ck2 (by omega) hnr).symm | exact congrArg (Value.int .i64) (B.ck3 (by omega) hin hns).symm | exact congrArg (Value.int .i64) (B.ck4 (by omega) hin hself hnd).symm | exact congrArg (Value.int .i64) (B.ck5 (by omega) hin hself hdup hno).symm | exact congrArg (Value.int .i64) (B.ck6 (by omega) hin hself hdup hord).symm
  have hndk:¬ ∃ k:Nat,k<i∧(nth l (k:Int)).n=(nth l (i:Int)).n:=fun hc=>by have h:=(Bool.eq_false_iff.2 hc24); rw [Bool.eq_false_iff] at h; exact h ((B.has_dup (by omega)).2 hc)
  refine zM Z (Bool.eq_false_iff.2 hc24) (skip (zX (zN (region (oY hH23 (zR Z Z om) (oM hH23 Z (zG (yH (i+1) (uC Z (uC Z (uC Z (uC Z (Sub.nil _))))) (⟨(hH23.sub (sC sR)),om,B.all_snoc hall2 (fun k hk hc=>hndk ⟨k,hk,hc⟩)⟩) om3))))))))
 have hdup:B.NoDup l:=fun i2 hi2=>hall2 i2 (by omega)
 refine zM Z (dF hc16) (exit (yS (xO (z6 (zN (seq (zr (oM hH15 Z (zQ Z Z Z hH15 (c64 (h0.now hH15 (n:=1) Z) om) (fun w27 hH28=>(oY hH28 (xK Z) (zt ?_))))))))))))
 by_cases hc29:∀ i:Nat,i<l.length→1≤i→¬ B.bef (nth l (i:Int)) (nth l ((i:Int) - 1))
 ·have hs6:∀ i:Nat,i<l.length→1≤i→¬ B.bef (nth l (i:Int)) (nth l ((i:Int) - 1)):=by first | assumption | exact Decidable.not_not.1 ‹_›
  have hord:B.Ord l:=fun i h1 h2=>B.bef_total (fun c=>hdup i h1 (i - 1) (by omega) (by rw [show ((i - 1:Nat):Int)=(i:Int) - 1 by omega]; exact c.symm)) (hs6 i h1 h2)
  refine zM Z (zJ hc29) (skip (zu (oA hH28 Z (zt (ret (fin (hH28.sub (sC sR)) (fun w' hf=>(zU Z (rt Z))) (fun w' hf=>?_)))))))
  first | exact congrArg (Value.int .i64) (B.ck1 (by omega)).symm | exact congrArg (Value.int .i64) (B.ck2 (by omega) hnr).symm | exact congrArg (Value.int .i64) (B.ck3 (by omega) hin hns).symm | exact congrArg (Value.int .i64) (B.ck4 (by omega) hin hself hnd).symm | exact congrArg (Value.int .i64) (B.ck5 (by omega) hin hself hdup hno).symm | exact congrArg (Value.int .i64) (B.ck6 (by omega) hin hself hdup hord).symm
 have hno:¬ B.Ord l:=fun h=>absurd (fun (i:Nat) (h1:i<l.length) (h2:1≤i)=>B.bef_asymm (h i h1 h2)) ‹_›
 refine zL Z (zI hc29) (zr (oA hH28 Z (zt (ret (zV (fin (hH28.sub (sC sR)) (fun w' hf=>(zU Z (rt Z))) (fun w' hf=>?_)))))))
 first | exact congrArg (Value.int .i64) (B.ck1 (by omega)).symm | exact congrArg (Value.int .i64) (B.ck2 (by omega) hnr).symm | exact congrArg (Value.int .i64) (B.ck3 (by omega) hin hns).symm | exact congrArg (Value.int .i64) (B.ck4 (by omega) hin hself hnd).symm | exact congrArg (Value.int .i64) (B.ck5 (by omega) hin hself hdup hno).symm | exact congrArg (Value.int .i64) (B.ck6 (by omega) hin hself hdup hord).symm
end Go.Fip
namespace Go.Proofs
open Go.Shelf
def Tryz.lays156_ren:Go.Shelf.Ren:=⟨fun | 156=>107 | 165=>166 | 166=>88 | 169=>90 | 240=>150 | 241=>245 | 276=>227 | 277=>321 | n=>n,fun | 31=>135 | 9=>9 | 3=>3 | 4=>4 | 0=>0 | 20=>20 | 72=>129 | 76=>132 | 70=>126 | 37=>127 | 75=>131 | 127=>207 | 164=>271 | 5=>5 | 80=>134 | n=>n,fun | n=>n⟩
theorem Tryz.lays156 : Go.Proofs.Lays.n156 Tryz.prog Tryz.lays156_ren := {
  mixed := by kernel_rfl
  f156 := Tryz.func107.trans (congrArg some (by kernel_rfl))
  f165 := Tryz.func166.trans (congrArg some (by kernel_rfl))
  f166 := Tryz.func88.trans (congrArg some (by kernel_rfl))
  f169 := Tryz.func90.trans (congrArg some (by kernel_rfl))
  f240 := Tryz.func150.trans (congrArg some (by kernel_rfl))
  f241 := Tryz.func245.trans (congrArg some (by kernel_rfl))
  f276 := Tryz.func227.trans (congrArg some (by kernel_rfl))
  f277 := Tryz.func321.trans (congrArg some (by kernel_rfl))
  t0 := Tryz.underlying0
  a0 := Tryz.isAgg0
  z0 := Tryz.sizeOf0
  v0 := Tryz.zeroValue0
  t3 := Tryz.underlying3
  a3 := Tryz.isAgg3
  z3 := Tryz.sizeOf3
  v3 := Tryz.zeroValue3
  t4 := Tryz.underlying4
  a4 := Tryz.isAgg4
  z4 := Tryz.sizeOf4
  v4 := Tryz.zeroValue4
  t9 := Tryz.underlying9
  a9 := Tryz.isAgg9
  z9 := Tryz.sizeOf9
  v9 := Tryz.zeroValue9
  t20 := Tryz.underlying20
  a20 := Tryz.isAgg20
  z20 := Tryz.sizeOf20
  v20 := Tryz.zeroValue20
  t31 := Tryz.underlying135
  a31 := Tryz.isAgg135
  z31 := Tryz.sizeOf135
  v31 := Tryz.zeroValue135
  t37 := Tryz.underlying127
  a37 := Tryz.isAgg127
  z37 := Tryz.sizeOf127
  v37 := Tryz.zeroValue127
  t70 := Tryz.underlying126
  a70 := Tryz.isAgg126
  z70 := Tryz.sizeOf126
  v70 := Tryz.zeroValue126
  t72 := Tryz.underlying129
  a72 := Tryz.isAgg129
  z72 := Tryz.sizeOf129
  v72 := Tryz.zeroValue129
  t75 := Tryz.underlying131
  a75 := Tryz.isAgg131
  z75 := Tryz.sizeOf131
  v75 := Tryz.zeroValue131
  t76 := Tryz.underlying132
  a76 := Tryz.isAgg132
  z76 := Tryz.sizeOf132
  v76 := Tryz.zeroValue132
  t127 := Tryz.underlying207
  a127 := Tryz.isAgg207
  z127 := Tryz.sizeOf207
  v127 := Tryz.zeroValue207
  t164 := Tryz.underlying271
  a164 := Tryz.isAgg271
  z164 := Tryz.sizeOf271
  v164 := Tryz.zeroValue271 }
theorem Tryz.Builder_Extra_156 : Builder.Extra Tryz.prog Tryz.lays156_ren := {
  sizeBuilder := by kernel_rfl
  liesBuilder := by kernel_rfl
  t5 := Tryz.underlying5
  a5 := Tryz.isAgg5
  z5 := Tryz.sizeOf5
  v5 := Tryz.zeroValue5
  infoByte := by kernel_rfl
  cellsByte := by kernel_rfl
  sizeByte := by kernel_rfl
  neB5 := by decide }
open Go.RowKit in
theorem Tryz.strings_Join_none (a : Option Addr) (c : Nat) (sep : ByteArray) (w : World) :
    Calls Tryz.prog 107 #[.slice a 0 c, .string sep] w fun e w' => e = .returned (.string ⟨#[]⟩) ∧ w' = w := Any.strings_Join_none Tryz.lays156 Tryz.Builder_Extra_156 a c sep w
open Go.RowKit in
theorem Tryz.strings_Join (bk o c : Nat) (xs : List ByteArray) (sep : ByteArray) (w : World) (hcells : ∀ (j : Nat) x, xs[j]? = some x → w.cell? ⟨bk, o + j, none⟩ = some (.string x)) (hbk : bk < w.heap.size) (hN : xs.length ≤ 140737488355328) (hcap : xs.length ≤ c) (hlen : (Lib.join (xs.map (·.data.toList)) sep.data.toList).length ≤ 140737488355328) :
    Calls Tryz.prog 107 #[.slice (some ⟨bk, o, none⟩) xs.length c, .string sep] w fun e w' => e = .returned (.string ⟨(Lib.join (xs.map (·.data.toList)) sep.data.toList).toArray⟩) ∧ Below w.heap.size w w' := Any.strings_Join Tryz.lays156 Tryz.Builder_Extra_156 bk o c xs sep w hcells hbk hN hcap hlen
def Tryz.laysM173_ren:Go.Shelf.Ren:=⟨fun | 173=>106 | 246=>165 | 283=>241 | 284=>242 | 285=>243 | 286=>244 | 129=>225 | 317=>317 | 318=>318 | 319=>319 | 320=>320 | 337=>392 | 338=>393 | n=>n,fun | 2=>2 | 3=>3 | 9=>9 | 4=>4 | 171=>286 | 0=>0 | 53=>51 | 37=>127 | 5=>5 | 173=>288 | 212=>356 | 51=>269 | 20=>20 | 213=>357 | 46=>202 | 232=>468 | 233=>469 | n=>n,fun | 17=>0 | 18=>6 | 19=>7 | n=>n⟩
theorem Tryz.laysM173 : Go.Proofs.LaysM.n173 Tryz.prog Tryz.laysM173_ren := {
  mixed := by kernel_rfl
  f129 := Tryz.func225.trans (congrArg some (by kernel_rfl))
  f173 := Tryz.func106.trans (congrArg some (by kernel_rfl))
  f246 := Tryz.func165.trans (congrArg some (by kernel_rfl))
  f283 := Tryz.func241.trans (congrArg some (by kernel_rfl))
  f284 := Tryz.func242.trans (congrArg some (by kernel_rfl))
  f285 := Tryz.func243.trans (congrArg some (by kernel_rfl))
  f286 := Tryz.func244.trans (congrArg some (by kernel_rfl))
  f317 := Tryz.func317.trans (congrArg some (by kernel_rfl))
  f318 := Tryz.func318.trans (congrArg some (by kernel_rfl))
  f319 := Tryz.func319.trans (congrArg some (by kernel_rfl))
  f320 := Tryz.func320.trans (congrArg some (by kernel_rfl))
  f337 := Tryz.func392.trans (congrArg some (by kernel_rfl))
  f338 := Tryz.func393.trans (congrArg some (by kernel_rfl))
  t0 := Tryz.underlying0
  a0 := Tryz.isAgg0
  z0 := Tryz.sizeOf0
  v0 := Tryz.zeroValue0
  t2 := Tryz.underlying2
  a2 := Tryz.isAgg2
  z2 := Tryz.sizeOf2
  v2 := Tryz.zeroValue2
  t3 := Tryz.underlying3
  a3 := Tryz.isAgg3
  z3 := Tryz.sizeOf3
  v3 := Tryz.zeroValue3
  t4 := Tryz.underlying4
  a4 := Tryz.isAgg4
  z4 := Tryz.sizeOf4
  v4 := Tryz.zeroValue4
  t5 := Tryz.underlying5
  a5 := Tryz.isAgg5
  z5 := Tryz.sizeOf5
  v5 := Tryz.zeroValue5
  t9 := Tryz.underlying9
  a9 := Tryz.isAgg9
  z9 := Tryz.sizeOf9
  v9 := Tryz.zeroValue9
  t20 := Tryz.underlying20
  a20 := Tryz.isAgg20
  z20 := Tryz.sizeOf20
  v20 := Tryz.zeroValue20
  t37 := Tryz.underlying127
  a37 := Tryz.isAgg127
  z37 := Tryz.sizeOf127
  v37 := Tryz.zeroValue127
  t46 := Tryz.underlying202
  a46 := Tryz.isAgg202
  z46 := Tryz.sizeOf202
  v46 := Tryz.zeroValue202
  t51 := Tryz.underlying269
  a51 := Tryz.isAgg269
  z51 := Tryz.sizeOf269
  v51 := Tryz.zeroValue269
  t53 := Tryz.underlying51
  a53 := Tryz.isAgg51
  z53 := Tryz.sizeOf51
  v53 := Tryz.zeroValue51
  t171 := Tryz.underlying286
  a171 := Tryz.isAgg286
  z171 := Tryz.sizeOf286
  v171 := Tryz.zeroValue286
  t173 := Tryz.underlying288
  a173 := Tryz.isAgg288
  z173 := Tryz.sizeOf288
  v173 := Tryz.zeroValue288
  t212 := Tryz.underlying356
  a212 := Tryz.isAgg356
  z212 := Tryz.sizeOf356
  v212 := Tryz.zeroValue356
  t213 := Tryz.underlying357
  a213 := Tryz.isAgg357
  z213 := Tryz.sizeOf357
  t232 := Tryz.underlying468
  a232 := Tryz.isAgg468
  z232 := Tryz.sizeOf468
  v232 := Tryz.zeroValue468
  t233 := Tryz.underlying469
  a233 := Tryz.isAgg469
  z233 := Tryz.sizeOf469
  v233 := Tryz.zeroValue469
  g17 := by kernel_rfl
  g18 := by kernel_rfl
  g19 := by kernel_rfl
  i0 := by kernel_rfl
  i2 := by kernel_rfl
  i3 := by kernel_rfl
  i4 := by kernel_rfl
  i5 := by kernel_rfl
  i9 := by kernel_rfl
  i20 := by kernel_rfl
  i37 := by kernel_rfl
  i46 := by kernel_rfl
  i51 := by kernel_rfl
  i53 := by kernel_rfl
  i171 := by kernel_rfl
  i173 := by kernel_rfl
  i212 := by kernel_rfl
  i232 := by kernel_rfl
  i233 := by kernel_rfl
  m17 := by kernel_rfl
  m18 := by kernel_rfl
  m19 := by kernel_rfl }
open Go.RowKit Go.Sort Go.Lib in
theorem Tryz.strconv_FormatInt_10 (n : Int) (h0 : -9223372036854775808 ≤ n) (h1 : n ≤ 9223372036854775807) (w : World) (htab : Lib.TabIs Tryz.prog w "internal/strconv.uint64pow10" .u64 Lib.pow10Tab) :
    Calls Tryz.prog 106 #[.int .i64 n, .int .i64 10] w fun e w' => e = .returned (.string ⟨(Lib.itoa n).toArray⟩) ∧ ∃ k os, w' = grow (w.drewN k) os := Any.strconv_FormatInt_10 Tryz.laysM173 n h0 h1 w htab
def Tryz.lays105_ren:Go.Shelf.Ren:=⟨fun | 105=>152 | 212=>229 | 99=>230 | 165=>166 | 166=>88 | 170=>231 | 169=>90 | 263=>307 | 264=>308 | 206=>236 | 240=>150 | 241=>245 | 276=>227 | 277=>321 | n=>n,fun | 9=>9 | 3=>3 | 4=>4 | 20=>20 | 0=>0 | 46=>202 | 109=>273 | 5=>5 | 72=>129 | 76=>132 | 51=>269 | 146=>347 | 53=>51 | 148=>349 | 70=>126 | 37=>127 | 75=>131 | 127=>207 | 164=>271 | 80=>134 | n=>n,fun | n=>n⟩
theorem Tryz.lays105 : Go.Proofs.Lays.n105 Tryz.prog Tryz.lays105_ren := {
  mixed := by kernel_rfl
  f99 := Tryz.func230.trans (congrArg some (by kernel_rfl))
  f105 := Tryz.func152.trans (congrArg some (by kernel_rfl))
  f165 := Tryz.func166.trans (congrArg some (by kernel_rfl))
  f166 := Tryz.func88.trans (congrArg some (by kernel_rfl))
  f169 := Tryz.func90.trans (congrArg some (by kernel_rfl))
  f170 := Tryz.func231.trans (congrArg some (by kernel_rfl))
  f206 := Tryz.func236.trans (congrArg some (by kernel_rfl))
  f212 := Tryz.func229.trans (congrArg some (by kernel_rfl))
  f240 := Tryz.func150.trans (congrArg some (by kernel_rfl))
  f241 := Tryz.func245.trans (congrArg some (by kernel_rfl))
  f263 := Tryz.func307.trans (congrArg some (by kernel_rfl))
  f264 := Tryz.func308.trans (congrArg some (by kernel_rfl))
  f276 := Tryz.func227.trans (congrArg some (by kernel_rfl))
  f277 := Tryz.func321.trans (congrArg some (by kernel_rfl))
  t0 := Tryz.underlying0
  a0 := Tryz.isAgg0
  z0 := Tryz.sizeOf0
  v0 := Tryz.zeroValue0
  t3 := Tryz.underlying3
  a3 := Tryz.isAgg3
  z3 := Tryz.sizeOf3
  v3 := Tryz.zeroValue3
  t4 := Tryz.underlying4
  a4 := Tryz.isAgg4
  z4 := Tryz.sizeOf4
  v4 := Tryz.zeroValue4
  t5 := Tryz.underlying5
  a5 := Tryz.isAgg5
  z5 := Tryz.sizeOf5
  v5 := Tryz.zeroValue5
  t9 := Tryz.underlying9
  a9 := Tryz.isAgg9
  z9 := Tryz.sizeOf9
  v9 := Tryz.zeroValue9
  t20 := Tryz.underlying20
  a20 := Tryz.isAgg20
  z20 := Tryz.sizeOf20
  v20 := Tryz.zeroValue20
  t37 := Tryz.underlying127
  a37 := Tryz.isAgg127
  z37 := Tryz.sizeOf127
  v37 := Tryz.zeroValue127
  t46 := Tryz.underlying202
  a46 := Tryz.isAgg202
  z46 := Tryz.sizeOf202
  v46 := Tryz.zeroValue202
  t51 := Tryz.underlying269
  a51 := Tryz.isAgg269
  z51 := Tryz.sizeOf269
  v51 := Tryz.zeroValue269
  t53 := Tryz.underlying51
  a53 := Tryz.isAgg51
  z53 := Tryz.sizeOf51
  v53 := Tryz.zeroValue51
  t70 := Tryz.underlying126
  a70 := Tryz.isAgg126
  z70 := Tryz.sizeOf126
  v70 := Tryz.zeroValue126
  t72 := Tryz.underlying129
  a72 := Tryz.isAgg129
  z72 := Tryz.sizeOf129
  v72 := Tryz.zeroValue129
  t75 := Tryz.underlying131
  a75 := Tryz.isAgg131
  z75 := Tryz.sizeOf131
  v75 := Tryz.zeroValue131
  t76 := Tryz.underlying132
  a76 := Tryz.isAgg132
  z76 := Tryz.sizeOf132
  v76 := Tryz.zeroValue132
  t109 := Tryz.underlying273
  a109 := Tryz.isAgg273
  z109 := Tryz.sizeOf273
  v109 := Tryz.zeroValue273
  t127 := Tryz.underlying207
  a127 := Tryz.isAgg207
  z127 := Tryz.sizeOf207
  v127 := Tryz.zeroValue207
  t146 := Tryz.underlying347
  a146 := Tryz.isAgg347
  z146 := Tryz.sizeOf347
  v146 := Tryz.zeroValue347
  t148 := Tryz.underlying349
  a148 := Tryz.isAgg349
  z148 := Tryz.sizeOf349
  v148 := Tryz.zeroValue349
  t164 := Tryz.underlying271
  a164 := Tryz.isAgg271
  z164 := Tryz.sizeOf271
  v164 := Tryz.zeroValue271 }
theorem Tryz.Builder_Extra_105 : Builder.Extra Tryz.prog Tryz.lays105_ren := {
  sizeBuilder := by kernel_rfl
  liesBuilder := by kernel_rfl
  t5 := Tryz.underlying5
  a5 := Tryz.isAgg5
  z5 := Tryz.sizeOf5
  v5 := Tryz.zeroValue5
  infoByte := by kernel_rfl
  cellsByte := by kernel_rfl
  sizeByte := by kernel_rfl
  neB5 := by decide }
open Go.RowKit Go.Lib in
theorem Tryz.strings_Repeat (s : ByteArray) (c : Nat) (w : World) (hc : c ≤ 9223372036854775807) (hlen : s.size * c ≤ 140737488355328) :
    Calls Tryz.prog 152 #[.string s, .int .i64 c] w fun e w' => e = .returned (.string ⟨(Lib.repeatL s.data.toList c).toArray⟩) ∧ Below w.heap.size w w' := Any.strings_Repeat Tryz.lays105 Tryz.Builder_Extra_105 s c w hc hlen
end Go.Proofs
namespace Go.Fip
open Go.Proofs Go.Shelf Go.RowKit Go.Sort
theorem blockAt {w:World} {a:Addr} {v:Value} (h:w.cell? a=some v):∃ o,w.heap[a.block]? = some o:=by
 unfold World.cell? at h
 cases ho:w.heap[a.block]? with
 | none=>rw [ho] at h; simp at h
 | some o=>exact ⟨o,rfl⟩
abbrev Gl:=Go.Ex.GW
theorem Gl.tab {w:World} (h:Gl w):Lib.TabIs Tryz.prog w "internal/strconv.uint64pow10" .u64 Lib.pow10Tab:=by
 obtain ⟨E,fz,h0⟩:=Go.Ex.GW.tab h
 have hg:Tryz.prog.globalNamed "internal/strconv.uint64pow10" = some 0:=by kernel_rfl
 unfold Lib.TabIs World.var?
 rw [hg]
 simp [h0]
theorem Gl.tz {w:World} (h:Gl w):w.cell? ⟨7,15,none⟩=some (.int .u8 4):=by
 obtain ⟨cs,E,fz,h0,h1⟩:=Go.Ex.GW.tz h
 simp [World.cell?,h0,h1]
theorem Gl.below {w w':World} (h:Gl w) (hb:Below w.heap.size w w'):Gl w':=h.keep (fun b hlt=>hb.block b (Nat.lt_of_lt_of_le hlt h.size)) hb.size
theorem Gl.now {w w':World} (h:Gl w) {H:List Item} {n:Nat} (hH:Heap H w') (hn:H[n]? = some (base w)):Gl w':=h.below (hH.get hn)
section
variable {P : Program} {f : FuncId} {args : Array Value} {w : World} {R : Value → World → Prop}
theorem q6 (hen:∀ w',(callFunc f args).run P w'=.ok (.enter f args) w') (h:Calls P f args w fun e w'=>∃ v,e=.returned v∧Below w.heap.size w w'∧∀ w'',Agree w.heap.size w'.heap.size w' w''→R v w''):Fn P f args w R:=⟨hen,callsIn_wide.2 h⟩
theorem x9 {v:Value} (hen:∀ w',(callFunc f args).run P w'=.ok (.enter f args) w') (h:Calls P f args w fun e w'=>e=.returned v∧Below w.heap.size w w'):Fn P f args w (fun u _=>u=v) :=
 q6 hen (h.mono fun _ _ ⟨he,hb⟩=>⟨v,he,hb,fun _ _=>rfl⟩)
end
theorem uR (w : World) (k : Nat) (os : Array Obj) : Below w.heap.size w (grow (w.drewN k) os) := ⟨rfl, rfl, rfl, by simp [grow, World.drewN], fun i hi => by
  show (w.heap ++ os)[i]? = _
  rw [Array.getElem?_append_left hi]⟩
theorem c108 {n:Int} {w:World} (hG:Gl w) (h0 : -9223372036854775808≤n) (h1:n≤9223372036854775807):Fn Tryz.prog 106 #[.int .i64 n,.int .i64 10] w (fun u _=>u=str (Lib.itoa n)) :=
 x9 (ent Tryz.func106 (by kernel_rfl) rfl _) ((Tryz.strconv_FormatInt_10 n h0 h1 w hG.tab).mono fun _ _ ⟨he,k,os,hw⟩=>⟨he,hw ▸ uR w k os⟩)
theorem XG {v : Value} {xs : List (List UInt8)} {sep : List UInt8} {w : World} (h0 : Rd encT 1 v xs w) (hN : xs.length ≤ 1000) (hlen : (Lib.join xs sep).length ≤ 140737488355328) :
    Fn Tryz.prog 107 #[v, str sep] w (fun u _ => u = str (Lib.join xs sep)) := by
  refine x9 (ent Tryz.func107 (by kernel_rfl) rfl _) ?_
  obtain ⟨a, c, e1, hc, ha⟩ := h0.1
  by_cases hx : xs = []
  · subst hx
    rw [e1]
    exact (Tryz.strings_Join_none a c ⟨sep.toArray⟩ w).mono fun _ _ ⟨he, hw⟩ => ⟨by rw [he]; rfl, hw ▸ Below.refl _ _⟩
  · rcases ha with ⟨rfl, rfl⟩ | ⟨b, o, rfl⟩
    · exact absurd (List.eq_nil_of_length_eq_zero (by omega)) hx
    · have hcell : ∀ (j : Nat) (x : List UInt8), xs[j]? = some x → w.cell? ⟨b, o + j, none⟩ = some (str x) := fun j x hj => by
        have := h0.2 j x hj 0 (str x) rfl
        rw [e1] at this
        simpa [eb, eo] using this
      obtain ⟨x, xs', rfl⟩ := List.exists_cons_of_ne_nil hx
      obtain ⟨ob, hob⟩ := blockAt (hcell 0 x rfl)
      have hb : b < w.heap.size := (Array.getElem?_eq_some_iff.1 hob).1
      have hm : ((x :: xs').map fun l => (⟨l.toArray⟩ : ByteArray)).map (·.data.toList) = x :: xs' := by
        rw [List.map_map]; conv => rhs; rw [← List.map_id (x :: xs')]
        exact List.map_congr_left fun l _ => rfl
      have h := Tryz.strings_Join b o c ((x :: xs').map fun l => (⟨l.toArray⟩ : ByteArray)) ⟨sep.toArray⟩ w (fun j y hj => by
          rw [List.getElem?_map] at hj
          cases hq : (x :: xs')[j]? with
          | none => rw [hq] at hj; simp at hj
          | some z =>
            rw [hq] at hj
            simp at hj
            subst hj
            exact hcell j z hq) hb (by simpa using by have : (x :: xs').length ≤ 1000 := hN; simp at this; omega) (by simpa using hc) (by rw [hm]; exact hlen)
      rw [hm] at h
      rw [e1, show (x :: xs').length = ((x :: xs').map fun l => (⟨l.toArray⟩ : ByteArray)).length from (List.length_map _).symm]
      exact h
theorem XQ {l:List UInt8} {n:Nat} {w:World} (hn:l.length * n≤1000000) (hn2:n≤1000000):Fn Tryz.prog 152 #[str l,.int .i64 (n:Int)] w (fun u _=>u=str (Lib.repeatL l n)) :=
 x9 (ent Tryz.func152 (by kernel_rfl) rfl _) (Tryz.strings_Repeat ⟨l.toArray⟩ n w (by omega) (by rw [yZ]; omega))
end Go.Fip
namespace Go.Fip
open Go.RowKit
def intsB (C:List Int):List Value:=C.map (Value.int .u8)
theorem qH {C:List Int}:(intsB C).length=C.length:=by simp [intsB]
theorem vQ {C:List Int} {i z:Int} (h:0≤i∧i<(C.length:Int)):splice (intsB C) i.toNat [.int .u8 z]=intsB (C.set i.toNat z):=by
 unfold splice intsB
 rw [List.map_set,List.set_eq_take_append_cons_drop,if_pos (by rw [List.length_map]; omega)]
 simp
section
variable {r : Option Nat} {P : Program} {N : Nat} {ds : List Deferred} {env : Env} {w : World} {Q : Post} {all : Array Oper} {rest : List Oper} {H : List Item} {x y : Operand} {ty : TypeId} {pos : String} {after : Array Edge}
theorem v7 {T b n t:Nat} {C:List Int} {i z:Int} (hp:ev env x=some (.pointer (some ⟨b,0+i.toNat * 1,none⟩))) (hx:ev env y=some (.int .u8 z)) (hH:Heap H w) (hn:H[n]? = some (bx b t (intsB C))) (hsz:(P.info? T).map (·.size)=some 1) (hi:0≤i∧i<(C.length:Int))
  (h:∀ w',Heap (H.set n (bx b t (intsB (C.set i.toNat z)))) w'→Ops r P N all rest ds env w' Q):Ops r P N all (⟨none,.store T x y,ty,pos,after,none⟩::rest) ds env w Q :=
 y7 (j:=i.toNat) (us:=[.int .u8 z]) (by rw [hp]; simp) hx hH hn hsz rfl rfl (by rw [Nat.ble_eq,qH]; simp; omega) rfl (fun w' hw=>h w' (by rwa [vQ hi] at hw))
theorem uW {S:World→Prop} {T n E sz b:Nat} {k:IntKind} {i:Int} (hT:TArr P T n E sz) (hsz:sz=1) (hx:ev env x=some (.pointer (some ⟨b,0,none⟩))) (hy:ev env y=some (.int k i)) (hi:0≤i∧i<(n:Int)):Yv P N ds env (.slice T x (some y) none none) (.slice (some ⟨b,i.toNat,none⟩) (n - i.toNat) (n - i.toNat)) S:=fun a ha w _ _ _ _ _ _=>by
 subst hsz
 have e2:=qG (P:=P) (w:=w) (k:=k) (i:=i) (n:=n) (code:=.sliceB) hi.1 (by omega)
 have e:(⟨b,0,none⟩:Addr).add i.toNat=⟨b,i.toNat,none⟩:=by
  unfold Addr.add
  split
  ·simp_all
  ·simp
 have hne:¬ (n - i.toNat=0):=by omega
 simp [execOp,ha.ev hx,ha.ev hy,Instr.sliceAt,run_underlying hT.1,Instr.sliceBounds,e2,run_size hT.2,Result.andThen,Instr.sureAddr,asAddr,e,hne]
 intro h; omega
theorem vA {S:World→Prop} {o:BinOp} {T T':TypeId} {a b v:Value} (hx:ev env x=some a) (hy:ev env y=some b) (h:∀ w,((do eqGuard o T x y a b; binOp o T a b:Sem Value)).run P w=.ok v w):Yv P N ds env (.binOp o T x y T') v S:=fun act hact w _ _ _ _ _ _=>by
 have:=h w
 simp only [Sem.run_bind] at this
 simp only [execOp,hact.ev hx,hact.ev hy,Sem.run_bind]
 simp only [Result.andThen] at this ⊢
 rw [this]; rfl
theorem Z5 {S:World→Prop} {o:UnOp} {T:TypeId} {a v:Value} (hx:ev env x=some a) (h:∀ w,(Op.unary o a).run P w=.ok v w):Yv P N ds env (.unOp o T x) v S:=fun act hact w _ _ _ _ _ _=>by
 have:=h w
 simp only [execOp,hact.ev hx,Sem.run_bind,this,Result.andThen]; rfl
theorem jD {S:World→Prop} {T T':TypeId} {m:Nat} (hx:ev env x=some (.int .u64 (m:Int))) (hy:ev env y=some (.int .u64 15)) (h:m<18446744073709551616):Yv P N ds env (.binOp .and T x y T') (.int .u64 ((m % 16:Nat):Int)) S:=fun act hact w _ _ _ _ _ _=>by
 have e:IntKind.u64.bits=64:=rfl
 have h3:m % 2 ^ IntKind.u64.bits &&& 15 % 2 ^ IntKind.u64.bits=m % 16:=by
  rw [e,Nat.mod_eq_of_lt (by omega),show 15 % 2 ^ 64=2 ^ 4 - 1 from rfl,Nat.and_two_pow_sub_one_eq_mod]
 simp only [execOp,hact.ev hx,hact.ev hy,eqGuard,binOp,Op.intBits,Sem.run_bind]
 simp [Result.andThen,h3]
 exact IntWalk.u64_in _ ⟨by omega,by omega⟩
theorem j5 {S:World→Prop} {T T':TypeId} {m:Nat} {k2:IntKind} (hx:ev env x=some (.int .u64 (m:Int))) (hy:ev env y=some (.int k2 4)):Yv P N ds env (.binOp .shr T x y T') (.int .u64 ((m / 16:Nat):Int)) S:=fun act hact w _ _ _ _ _ _=>by
 have e:=shift_shr .u64 k2 (m:Int) 4 (by omega) (show (4:Int)≤IntKind.u64.bits by decide)
 have e2:(m:Int) / 2 ^ (4:Int).toNat=((m / 16:Nat):Int):=by
  show (m:Int) / 16=_
  omega
 rw [e2] at e
 simp only [execOp,hact.ev hx,hact.ev hy,eqGuard,binOp,Sem.run_bind]
 rw [e]
 rfl
end
theorem Bx.rdB {b t:Nat} {C:List Int} {i:Nat} {w:World} (h:Bx b t (intsB C) w) (hi:i≤C.length):Rd encB 1 (.slice (some ⟨b,i,none⟩) (C.length - i) (C.length - i)) (C.drop i) w:=by
 refine ⟨⟨some ⟨b,i,none⟩,C.length - i,by rw [List.length_drop],by rw [List.length_drop]; exact Nat.le_refl _,.inr ⟨b,i,rfl⟩⟩,fun j x hj k u hk=>?_⟩
 match k,hk with
 | 0,hk =>
  simp [encB] at hk
  subst hk
  rw [List.getElem?_drop] at hj
  simp only [eb,eo,Nat.mul_one,Nat.add_zero]
  exact xM h (by unfold intsB; rw [List.getElem?_map,hj]; rfl)
 | k+1,hk=>simp [encB] at hk
end Go.Fip
namespace Go.Fip
open Go.Proofs Go.RowKit
theorem XS {w:World} (hG:Gl w)  :
  Fn Tryz.prog 393 [(.int .u64 16)].toArray w (fun u _=>u=.int .i64 4):=by
 refine fz Tryz.func393 Z kz Z Z (fun hH=>(zr (oA hH Z (zt (seq (zr (oM hH Z (oY hH (yF Z Z) (zt (zM Z Z (skip (zu (oM hH Z (oM hH Z (oY hH (Z5 (v:=.int .u64 18446744073709551600) Z (fun w=>by kernel_rfl)) (oY hH (vA (v:=.int .u64 16) Z Z (fun w=>by kernel_rfl)) ?_))))))))))))))))
 refine oY hH (vA (v:=.int .u64 4573923408821661840) Z Z (fun w=>by kernel_rfl)) (oY hH (vA (v:=.int .u64 15) Z Z (fun w=>by kernel_rfl)) (oY hH (xW T.kU Z Z om) (oY hH (zD (o:=15) T.ZR (by rfl) (fun _ hw=>(hG.now hw (n:=0) Z).tz)) (oY hH (xE Tryz.underlying5 Tryz.underlying3 Z (wrap_i64 om)) (oA hH Z (zt (ret (fin hH (fun w' hf=>(zU Z (rt Z))) (fun w' hf=>Z)))))))))
theorem XM {w:World} (hG:Gl w)  :
  Fn Tryz.prog 320 [(.int .u64 16)].toArray w (fun u _=>u=.int .i64 4):=by
 refine fz Tryz.func320 Z kz Z Z (fun hH=>(zr (oA hH Z (zt (seq (zM Z Z (skip (zu (oM hH Z (zQ Z Z Z hH (XS (hG.now hH (n:=0) Z)) (fun w1 hH2=>(oA hH2 Z (zt (ret (fin hH2 (fun w' hf=>(zU Z (rt Z))) (fun w' hf=>Z))))))))))))))))
theorem XE {w:World}  :
  Fn Tryz.prog 319 [(.int .i64 16)].toArray w (fun u _=>u=.bool true):=by
 refine fz Tryz.func319 Z kz Z Z (fun hH=>(zr (oA hH Z (zs (oM hH Z (oM hH Z (oY hH (vA (v:=.int .i64 15) Z Z (fun w=>by kernel_rfl)) (oY hH (vA (v:=.int .i64 0) Z Z (fun w=>by kernel_rfl)) (oY hH (yF Z Z) (oA hH Z (zt (ret (fin hH (fun w' hf=>(zU Z (rt Z))) (fun w' hf=>Z))))))))))))))
theorem XF {x:UInt64} {w:World} (hG:Gl w)  :
  Fn Tryz.prog 244 [(.slice none 0 0),(.int .u64 (x.toNat:Int)),(.int .i64 16),(.bool false),(.bool false)].toArray w (fun u _=>u=.tuple #[.slice none 0 0,str (B.hexM x.toNat)]):=by
 refine fz Tryz.func244 Z kz Z Z (fun hH=>?_)
 have hx:=x.toNat_lt
 have hxl:=B.hexM_length x.toNat
 refine zr (oA hH Z (oA hH Z (zt (seq (zr (oM hH Z (oY hH (zY Z Z) (oM hH Z (zB Z Z Z (oM hH Z (zB Z Z Z (oY hH (yF Z Z) (oY hH (zF Z Z Z) (oM hH Z (zB Z Z Z (oM hH Z (zB Z Z Z (oY hH (zZ Z Z) ?_))))))))))))))))))
 refine oY hH (zF Z Z Z) (zt (zM Z Z (skip (zu (yY (z:=(.agg #[(.int .u8 0),(.int .u8 0),(.int .u8 0),(.int .u8 0),(.int .u8 0),(.int .u8 0),(.int .u8 0),(.int .u8 0),(.int .u8 0),(.int .u8 0),(.int .u8 0),(.int .u8 0),(.int .u8 0),(.int .u8 0),(.int .u8 0),(.int .u8 0),(.int .u8 0),(.int .u8 0),(.int .u8 0),(.int .u8 0),(.int .u8 0),(.int .u8 0),(.int .u8 0),(.int .u8 0),(.int .u8 0),(.int .u8 0),(.int .u8 0),(.int .u8 0),(.int .u8 0),(.int .u8 0),(.int .u8 0),(.int .u8 0),(.int .u8 0),(.int .u8 0),(.int .u8 0),(.int .u8 0),(.int .u8 0),(.int .u8 0),(.int .u8 0),(.int .u8 0),(.int .u8 0),(.int .u8 0),(.int .u8 0),(.int .u8 0),(.int .u8 0),(.int .u8 0),(.int .u8 0),(.int .u8 0),(.int .u8 0),(.int .u8 0),(.int .u8 0),(.int .u8 0),(.int .u8 0),(.int .u8 0),(.int .u8 0),(.int .u8 0),(.int .u8 0),(.int .u8 0),(.int .u8 0),(.int .u8 0),(.int .u8 0),(.int .u8 0),(.int .u8 0),(.int .u8 0),(.int .u8 0)])) (fun _=>by kernel_rfl) Z Z hH (fun b1 w2 hH3=>(zs (oA hH3 Z (zt (seq (zr (oM hH3 Z (zt ?_)))))))))))))
 refine zM Z Z (skip (zN (seq (zr (oM hH3 Z (zQ Z Z Z hH3 (XE) (fun w4 hH5=>(zt (zL Z Z (zr (oM hH5 Z (oY hH5 (xE Tryz.underlying3 Tryz.underlying202 Z (y8 om)) (zQ Z Z Z hH5 (XM (hG.now hH5 (n:=1) Z)) (fun w6 hH7=>(oY hH7 (xE Tryz.underlying3 Tryz.underlying202 Z (y8 om)) (oA hH7 Z (zs ?_)))))))))))))))))
 refine oM hH7 Z (oY hH7 (xE Tryz.underlying3 Tryz.underlying51 Z (y8 om)) (oA hH7 Z (zs (oM hH7 Z (oY hH7 (xE Tryz.underlying3 Tryz.underlying202 Z (y8 om)) (oY hH7 (jX Z Z (y8 om)) (oA hH7 Z (zt (seq (block (loop (S:=Nat×Nat×List Int) (fun (i,m,C)=>[(1,(.int .u64 (m:Int))),(13,(.int .i64 (i:Int))),(0,(.slice none 0 0)),(3,(.bool false)),(4,(.bool false)),(10,(.slice none 0 0)),(11,(str ([]:List UInt8))),(12,(.pointer (some ⟨b1,0,none⟩))),(14,(.int .u64 4)),(15,(.int .u64 16)),(16,(.int .u64 (16 - 1)))]) (fun (i,m,C) w1=>Heap [bx b1 357 (intsB C),base w] w1∧i≤65∧m<18446744073709551616∧C.length=65∧(∀ n∈C,0≤n∧n≤255)∧(B.hexM m).length+(65 - i)=(B.hexM x.toNat).length∧B.hexM m++ofB (C.drop i)=B.hexM x.toNat) (fun (i,m,C)=>m) (65,x.toNat,(List.replicate 65 0)) (uC Z (uC Z (uC Z (uC Z (uC Z (uC Z (uC Z (uC Z (uC Z (uC Z (uC Z (Sub.nil _)))))))))))) ?_ ?_)))))))))))
 ·exact ⟨(Heap.v6 (n:=0) hH7 Z (Z)),om,hx,Z,(by intro n hn; rw [List.eq_of_mem_replicate hn]; omega),Z,(by rw [show (List.replicate 65 (0:Int)).drop 65=[] from rfl]; exact List.append_nil _)⟩
 rintro ⟨i,m,C⟩ w8 ⟨hH9,hi,hm,hCl,hCb,hl,hh⟩
 have hml:=B.hexM_length m
 refine seq (zr (oM hH9 Z (oM hH9 Z (oY hH9 (xG Z Z) (zt ?_)))))
 by_cases hc10:16≤(m:Int)
 ·have h16:16≤m:=by omega
  refine zL Z (dT hc10) (skip (zN (block (zr (oM hH9 Z (oY hH9 (z7 Z Z om) (oA hH9 Z (zs (oM hH9 Z (oM hH9 Z (oM hH9 Z (oY hH9 (jD Z Z hm) (oY hH9 (xL (B.digs_at m) (u5 Tryz.underlying9 Z Z (by first | (rw [B.digs_len]; omega) | (simp only [List.length_cons,List.length_nil]; omega)))) (oY hH9 (xW T.uK Z Z om) (v7 (n:=0) Z Z hH9 Z T.sz5 om (fun w11 hH12=>(zt ?_)))))))))))))))))
  refine region (oM hH12 Z (oM hH12 Z (oY hH12 (j5 Z Z) (oA hH12 Z (zG (zX (yH ((i - 1),(m / 16),(C.set (i - 1) ((B.hd m).toNat:Int))) (uC Z (Sub.cons (congrArg (fun z:Int=>some (Value.int .i64 z)) om) (uC Z (uC Z (uC Z (uC Z (uC Z (uC Z (uC Z (uC Z (uC Z (Sub.nil _)))))))))))) (⟨(Heap.v6 (n:=0) hH12 Z (congrArg (fun k=>intsB (C.set k _)) (show ((i:Int) - 1).toNat=i - 1 by omega))),om,om,(by rw [List.length_set]; exact hCl),B.hex_bytes hCb,(by rw [B.hexM_rec h16 hm,List.length_append,List.length_singleton] at hl; omega),B.hex_step h16 hm om (by rw [show i - 1+1=i by omega]; exact hh)⟩) om3)))))))
 have hs16:m<16:=by omega
 refine zM Z (dF hc10) (exit (yS (xO (z6 (zu (oM hH9 Z (oY hH9 (z7 Z Z om) (oA hH9 Z (zq (oM hH9 Z (oM hH9 Z (oY hH9 (xL (B.digs_at2 hs16) (u5 Tryz.underlying9 Z Z (by first | (rw [B.digs_len]; omega) | (simp only [List.length_cons,List.length_nil]; omega)))) (oY hH9 (xW T.uK Z Z om) (v7 (n:=0) Z Z hH9 Z T.sz5 om (fun w13 hH14=>(zt (seq ?_)))))))))))))))))
 refine zr (oM hH14 Z (zt (zM Z Z (skip (zN (seq (zr (oM hH14 Z (zt (zM Z Z (skip (zu (oM hH14 Z (oY hH14 (uW T.uK Z Z Z om) (oY hH14 (vU (show _=B.hexM x.toNat by rw [show ((i:Int) - 1).toNat=i - 1 by omega]; exact B.hex_last hs16 om (by rw [show i - 1+1=i by omega]; exact hh)) (kY Tryz.underlying127 Tryz.underlying9 Tryz.underlying5 Z (fun _ hw=>((show Rd encB 1 (.slice (some ⟨b1,((i:Int) - 1).toNat,none⟩) (65 - ((i:Int) - 1).toNat) (65 - ((i:Int) - 1).toNat)) _ _ from (show (C.set ((i:Int) - 1).toNat ((B.hd m).toNat:Int)).length=65 from by rw [List.length_set]; exact hCl) ▸ Bx.rdB (Heap.XA hw (n:=0) Z) (i:=((i:Int) - 1).toNat) (by rw [List.length_set]; omega)))) ((fun n hn=>B.hex_bytes hCb n (by have h:=List.mem_of_mem_drop hn; rwa [show ((i:Int) - 1).toNat=i - 1 by omega] at h))))) ?_)))))))))))))))
 refine oA hH14 Z (zt (ret (fin (hH14.sub (sC sR)) (fun w' hf=>(XD Z (rt Z) (rt Z))) (fun w' hf=>Z))))
theorem XL {x:UInt64} {w:World} (hG:Gl w)  :
  Fn Tryz.prog 228 [(.int .u64 (x.toNat:Int)),(.int .i64 16)].toArray w (fun u _=>u=str (B.hexM x.toNat)):=by
 refine fz Tryz.func228 Z kz Z Z (fun hH=>(zr (oA hH Z (zt (seq (zr (oM hH Z (oY hH (yF Z Z) (zt (zM Z Z (skip (zu (oM hH Z (oM hH Z (zQ Z Z Z hH (XF (x:=x) (hG.now hH (n:=0) Z)) (fun w1 hH2=>(oM hH2 Z ?_)))))))))))))))))
 refine oY hH2 (yI Z Z) (oY hH2 (yI Z Z) (oA hH2 Z (oA hH2 Z (zs (oM hH2 Z (oA hH2 Z (zt (ret (fin hH2 (fun w' hf=>(zU Z (rt Z))) (fun w' hf=>Z))))))))))
theorem XK {x:UInt64} {w:World} (hG:Gl w)  :
  Fn Tryz.prog 151 [(.int .u64 (x.toNat:Int)),(.int .i64 16)].toArray w (fun u _=>u=str (B.hexM x.toNat)):=by
 refine fz Tryz.func151 Z kz Z Z (fun hH=>(zr (oA hH Z (zs (oM hH Z (oM hH Z (zQ Z Z Z hH (XL (x:=x) (hG.now hH (n:=0) Z)) (fun w1 hH2=>(oA hH2 Z (zt (ret (fin hH2 (fun w' hf=>(zU Z (rt Z))) (fun w' hf=>Z)))))))))))))
theorem c86 {x:UInt64} {w:World} (hG:Gl w)  :
  Fn Tryz.prog 89 [(.int .u64 (x.toNat:Int))].toArray w (fun u _=>u=str (B.hex x)):=by
 refine fz Tryz.func89 Z kz Z Z (fun hH=>?_)
 have hxl:=B.hexM_length x.toNat
 have hxp:=B.hex_pad x
 have hxr:=Lib.repeatL_length [48] (16 - (B.hexM x.toNat).length)
 refine zr (oA hH Z (zs (oM hH Z (zQ Z Z Z hH (XK (x:=x) (hG.now hH (n:=0) Z)) (fun w1 hH2=>(oA hH2 Z (zs (oM hH2 Z (oY hH2 (kC Tryz.underlying9 Z) (oY hH2 (xL (show _=((16 - (B.hexM x.toNat).length:Nat):Int) by omega) (z7 Z Z om)) (zQ Z Z Z hH2 (XQ (l:=([48]:List UInt8)) (n:=(16 - (B.hexM x.toNat).length:Nat)) (by simp only [List.length_cons,List.length_nil]; omega) om) (fun w3 hH4=>(oM hH4 Z (oY hH4 (vU hxp (uU Z Z (by rw [hxr]; simp only [List.length_cons,List.length_nil]; omega))) (oA hH4 Z (zG ?_))))))))))))))))
 refine zN (ret (fin hH4 (fun w' hf=>(zU Z (rt Z))) (fun w' hf=>Z)))
end Go.Fip
namespace Go.Fip
open Go.Proofs Go.RowKit
theorem B.decD:∀ n:Nat,n<10 ^ 20→Lib.decDigits n=B.dig n:=by
 intro n
 induction n using Nat.strongRecOn with
 | _ n ih =>
  intro h
  rw [Lib.decDigits]
  by_cases h9:n<10
  ·rw [dif_pos h9,B.dig_small h9]
   unfold B.dg
   rw [Nat.mod_eq_of_lt h9]
  ·rw [dif_neg h9,ih (n / 10) (by omega) (by omega),B.dig_rec (by omega) h]; rfl
theorem B.itoa_dig {n:Int} (h:0≤n) (h2:n<1000000000000000000):Lib.itoa n=B.dig n.toNat:=by
 unfold Lib.itoa
 rw [if_neg (by omega),B.decD _ (Nat.lt_of_lt_of_le (show n.toNat<1000000000000000000 by omega) B.p18)]
def B.nums (e:En):List Int:=[e.n,e.d,e.f,e.t,e.a]
def B.txtTo (e:En) (k:Nat):List (List UInt8):=((B.nums e).take k).map fun n=>Lib.itoa n
theorem B.nums_bd {e:En} (h:B.isEn e) {k:Nat} (hk:k<5):0≤nth (B.nums e) (k:Int)∧nth (B.nums e) (k:Int)≤1099511627776:=by
 unfold B.isEn at h
 match k,hk with
 | 0,_=>exact ⟨by show 0≤e.n; omega,by show e.n≤_; omega⟩
 | 1,_=>exact ⟨by show 0≤e.d; omega,by show e.d≤_; omega⟩
 | 2,_=>exact ⟨by show 0≤e.f; omega,by show e.f≤_; omega⟩
 | 3,_=>exact ⟨by show 0≤e.t; omega,by show e.t≤_; omega⟩
 | 4,_=>exact ⟨by show 0≤e.a; omega,by show e.a≤_; omega⟩
theorem B.txtTo_succ {e:En} {k:Nat} (hk:k<5):B.txtTo e (k+1)=B.txtTo e k++[Lib.itoa (nth (B.nums e) (k:Int))]:=by
 unfold B.txtTo
 rw [List.take_succ_eq_append_getElem (show k<(B.nums e).length from hk),List.map_append,nth_nat (show k<(B.nums e).length from hk)]; rfl
theorem B.txtTo_len {e:En} {k:Nat}:(B.txtTo e k).length≤5:=by unfold B.txtTo; rw [List.length_map,List.length_take]; exact Nat.min_le_right _ _
theorem B.txt_all {e:En} (h:B.isEn e):Lib.join (B.txtTo e 5) [32]=B.text e:=by
 unfold B.isEn at h
 unfold B.text
 rw [← B.itoa_dig (n:=e.n) (by omega) (by omega), ← B.itoa_dig (n:=e.d) (by omega) (by omega), ← B.itoa_dig (n:=e.f) (by omega) (by omega), ← B.itoa_dig (n:=e.t) (by omega) (by omega), ← B.itoa_dig (n:=e.a) (by omega) (by omega)]
 show Lib.join [Lib.itoa e.n,Lib.itoa e.d,Lib.itoa e.f,Lib.itoa e.t,Lib.itoa e.a] [32]=_
 rw [Lib.join_cons]
 simp [Lib.joinTail]
theorem B.dig_len7 {n:Int} (h:0≤n) (h2:n≤1099511627776):(B.dig n.toNat).length≤21:=B.dig_len (by omega)
theorem B.text_len {e:En} (h:B.isEn e):(B.text e).length≤109:=by
 unfold B.isEn at h
 have h1:=B.dig_len7 (n:=e.n) (by omega) (by omega)
 have h2:=B.dig_len7 (n:=e.d) (by omega) (by omega)
 have h3:=B.dig_len7 (n:=e.f) (by omega) (by omega)
 have h4:=B.dig_len7 (n:=e.t) (by omega) (by omega)
 have h5:=B.dig_len7 (n:=e.a) (by omega) (by omega)
 unfold B.text
 simp only [List.length_append,List.length_cons,List.length_nil]
 omega
theorem B.nth_toB {l:List UInt8} {k:Nat} (h:k<l.length):nth (toB l) (k:Int)=((l.getD k 0).toUInt64.toNat:Int):=by
 rw [nth_nat (by rw [yV]; exact h)]
 unfold toB
 rw [List.getElem_map,List.getD_eq_getElem?_getD,List.getElem?_eq_getElem h]; simp
theorem c73 {e:En} {w:World} (hG:Gl w) (he:B.isEn e)  :
  Fn Tryz.prog 57 [(.agg #[(.int .i64 e.n),(.int .i64 e.d),(.int .i64 e.f),(.int .i64 e.t),(.int .i64 e.a)])].toArray w (fun u _=>u=str (B.text e)):=by
 refine fz Tryz.func57 Z kz Z Z (fun hH=>?_)
 have htl:=B.text_len he
 have hall:=B.txt_all he
 refine zr (yM Z Z Z hH (fun b1 w2 hH3=>(oA hH3 Z (zs (oA hH3 Z (zt (seq (zr (oY hH3 (zC T.yE Z) (oY hH3 (zD T.zP Z (cw (n:=0) Z Z)) (oY hH3 (zC T.zS Z) (oY hH3 (zD T.zP Z (cw (n:=0) Z Z)) (oY hH3 (zC T.vE Z) (oY hH3 (zD T.zP Z (cw (n:=0) Z Z)) (oY hH3 (zC T.vK Z) (oY hH3 (zD T.zP Z (cw (n:=0) Z Z)) ?_))))))))))))))))
 refine oY hH3 (zC T.u6 Z) (oY hH3 (zD T.zP Z (cw (n:=0) Z Z)) (xT (us:=[(0,(.int .i64 e.n)),(1,(.int .i64 e.d)),(2,(.int .i64 e.f)),(3,(.int .i64 e.t)),(4,(.int .i64 e.a))]) T.yB [e.n,e.d,e.f,e.t,e.a] Z (by decide) Z (fun a ha=>by simp [ha.ev (show ev _ (.tmp 7)=some _ from rfl),ha.ev (show ev _ (.tmp 9)=some _ from rfl),ha.ev (show ev _ (.tmp 11)=some _ from rfl),ha.ev (show ev _ (.tmp 13)=some _ from rfl),ha.ev (show ev _ (.tmp 15)=some _ from rfl)]) (fun w=>by kernel_rfl) hH3 (fun u4 lo6 hi7 w5 hH8=>(oY hH8 (yA T.jZ Z (Heap.jO T.yB hH8 (n:=0) Z).is) (oM hH8 Z (zt (block ?_)))))))
 have hH9:=YB (enc:=encT) 9 1 hH8
 refine loop (S:=Nat×Value×Nat×Nat) (fun (k,v_3,lo_3,hi_3)=>[(18,(.int .i64 (k:Int))),(3,v_3),(2,(str ([]:List UInt8))),(16,u4),(17,(.int .i64 ([e.n,e.d,e.f,e.t,e.a].length:Int)))]) (fun (k,v_3,lo_3,hi_3) w1=>Heap [ow lo_3 hi_3 9 1 encT v_3 (B.txtTo e k),ow lo6 hi7 2 1 encI u4 [e.n,e.d,e.f,e.t,e.a],bx b1 38 [(.int .i64 e.n),(.int .i64 e.d),(.int .i64 e.f),(.int .i64 e.t),(.int .i64 e.a)],base w] w1∧k≤5) (fun (k,v_3,lo_3,hi_3)=>5 - k) (0,(.slice none 0 0),w5.heap.size,w5.heap.size) (uC Z (uC Z (uC Z (uC Z (uC Z (Sub.nil _)))))) ?_ ?_
 ·exact ⟨(Heap.recast (n:=0) hH9 Z (Z)),om⟩
 rintro ⟨k,v_3,lo_3,hi_3⟩ w10 ⟨hH11,hk⟩
 refine zr (oY hH11 (zY Z Z) (zt (seq ?_)))
 by_cases hc12:(k:Int)<([e.n,e.d,e.f,e.t,e.a].length:Int)
 ·refine zL Z (dT hc12) (skip (zN (seq (block (zr (oY hH11 (zW T.jZ Z Z (Heap.jO T.yB hH11 (n:=1) Z).is (by simp only [List.length_cons,List.length_nil] at *; omega)) (oY hH11 (zD T.zP Z (fun _ hw=>Rd.at (Heap.jO T.yB hw (n:=1) Z) (i:=(k:Int)) (by simp only [List.length_cons,List.length_nil] at *; omega) (j:=0) Z)) (oA hH11 Z (zt ?_)))))))))
  have hk5:k<5:=by simp only [List.length_cons,List.length_nil] at *; omega
  have hnb:0≤nth [e.n,e.d,e.f,e.t,e.a] (k:Int)∧nth [e.n,e.d,e.f,e.t,e.a] (k:Int)≤1099511627776:=B.nums_bd he hk5
  have htl5:=B.txtTo_len (e:=e) (k:=k)
  refine region (oM hH11 Z (oM hH11 Z (zQ Z Z Z hH11 (c108 (n:=nth [e.n,e.d,e.f,e.t,e.a] (k:Int)) (hG.now hH11 (n:=3) Z) om om) (fun w13 hH14=>(xT (us:=[(0,(str (Lib.itoa (nth [e.n,e.d,e.f,e.t,e.a] (k:Int)))))]) T.el135_encT [(Lib.itoa (nth [e.n,e.d,e.f,e.t,e.a] (k:Int)))] Z (by decide) Z (fun a ha=>by simp [ha.ev (show ev _ (.tmp 24)=some _ from rfl)] <;> rfl) (fun w=>by kernel_rfl) hH14 (fun u15 lo17 hi18 w16 hH19=>(qK (n:=1) T.el135_encT Z Z Z hH19 Z (Heap.jO T.el135_encT hH19 (n:=0) Z) (by first | omega | (simp only [List.length_append,List.length_cons,List.length_nil]; omega)) (fun u20 lo22 hi23 w21 hH24=>(oA hH24 Z (zG (zX (zN (region (oY hH24 (zR Z Z om) (oM hH24 Z (zG ?_))))))))))))))))
  have hH25:=(hH24.sub (sC sR))
  refine yH (k+1,u20,lo22,hi23) (uC Z (uC Z (uC Z (uC Z (uC Z (Sub.nil _)))))) ?_ ?_
  ·exact ⟨(Heap.recast (n:=0) hH25 Z ((B.txtTo_succ (by simp only [List.length_cons,List.length_nil] at *; omega)).symm)),by simp only [List.length_cons,List.length_nil] at *; omega⟩
  ·(simp only [List.length_cons,List.length_nil] at *; omega)
 refine zM Z (dF hc12) (exit (yS (xO (z6 (zN (seq ?_))))))
 have hk5:k=5:=by simp only [List.length_cons,List.length_nil] at *; omega
 subst hk5
 have htl5:=B.txtTo_len (e:=e) (k:=5)
 refine region (oM hH11 Z (zQ Z Z Z hH11 (XG (sep:=([32]:List UInt8)) (Heap.jO T.el135_encT hH11 (n:=0) Z) om (by rw [hall]; omega)) (fun w26 hH27=>(oA hH27 Z (zt (ret (fin (hH27.sub (sC (sC (sC sR)))) (fun w' hf=>(zU Z (rt Z))) (fun w' hf=>?_))))))))
 first | exact congrArg str hall
theorem c68 {l:List UInt8} {w:World} (hn:l.length≤1000000)  :
  Fn Tryz.prog 56 [(str l)].toArray w (fun u _=>u=.int .u64 ((B.sm l).toNat:Int)):=by
 refine fz Tryz.func56 Z kz Z Z (fun hH=>?_)
 have hbl:(toB l).length=l.length:=yV
 refine zr (oA hH Z (zs (oA hH Z (zt (seq (zr (oM hH Z (kP Tryz.underlying9 Tryz.underlying127 Tryz.underlying5 Z Z hH (fun u1 lo2 hi3 w4 hH5 _=>(oY hH5 (yA T.kL Z ((show Rd encB 1 u1 (toB l) _ from hH5.get (n:=0) Z)).is) (oM hH5 Z (zt (block (loop (S:=Nat) (fun k=>[(9,(.int .i64 (k:Int))),(3,(.int .u64 ((B.smTo l k).toNat:Int))),(2,(.int .u64 0)),(7,u1),(8,(.int .i64 ((toB l).length:Int)))]) (fun k w1=>Heap [⟨lo2,hi3,Rd encB 1 u1 (toB l)⟩,base w] w1∧k≤l.length) (fun k=>l.length - k) (0) (uC Z (uC Z (uC Z (uC Z (uC Z (Sub.nil _)))))) ?_ ?_))))))))))))))
 ·exact ⟨hH5,om⟩
 rintro k w6 ⟨hH7,hk⟩
 refine zr (oY hH7 (zY Z Z) (zt (seq ?_)))
 by_cases hc8:(k:Int)<((toB l).length:Int)
 ·refine zL Z (dT hc8) (skip (zN (seq (block (zr (oY hH7 (zW T.kL Z Z ((show Rd encB 1 u1 (toB l) _ from hH7.get (n:=0) Z)).is om) (oY hH7 (zD T.ZR Z (fun _ hw=>Rd.at ((show Rd encB 1 u1 (toB l) _ from hw.get (n:=0) Z)) (i:=(k:Int)) om (j:=0) Z)) (oA hH7 Z (zq (oM hH7 Z (oM hH7 Z (oY hH7 (xL (B.nth_toB om) (xE Tryz.underlying5 Tryz.underlying51 Z (by rw [B.nth_toB om]; exact y8 (by have:=(l.getD k 0).toUInt64.toNat_lt; omega)))) (oY hH7 (kH (a:=B.smTo l k) (b:=(l.getD k 0).toUInt64) Z Z) (oY hH7 (jS (a:=(B.smTo l k) ^^^ ((l.getD k 0).toUInt64)) (b:=(1099511628211:UInt64)) Z Z) (oA hH7 Z (zG (zX (zN ?_))))))))))))))))))
  refine region (oY hH7 (zR Z Z om) (oM hH7 Z (zG (yH (k+1) (uC Z (Sub.cons (congrArg (fun z:Int=>some (Value.int .u64 z)) (by rw [B.smTo_succ om])) (uC Z (uC Z (uC Z (Sub.nil _)))))) (⟨hH7,om⟩) om3))))
 refine zM Z (dF hc8) (exit (yS (xO (z6 (zu (oM hH7 Z (oA hH7 Z (zt (ret (fin (hH7.sub (sC sR)) (fun w' hf=>(zU Z (rt Z))) (fun w' hf=>?_)))))))))))
 rw [B.smTo_all (by omega)]
theorem c76 {x y:UInt64} {w:World} (hG:Gl w)  :
  Fn Tryz.prog 59 [(.int .u64 (x.toNat:Int)),(.int .u64 (y.toNat:Int))].toArray w (fun u _=>u=.int .u64 ((B.sm (B.both x y)).toNat:Int)):=by
 refine fz Tryz.func59 Z kz Z Z (fun hH=>?_)
 have hxl1:=B.hex_length x
 have hxl2:=B.hex_length y
 refine zr (oA hH Z (zs (oM hH Z (zQ Z Z Z hH (c86 (x:=x) (hG.now hH (n:=0) Z)) (fun w1 hH2=>(oY hH2 (uU Z Z (by first | omega | (simp only [List.length_append,List.length_cons,List.length_nil]; omega))) (oM hH2 Z (zQ Z Z Z hH2 (c86 (x:=y) (hG.now hH2 (n:=0) Z)) (fun w3 hH4=>(oY hH4 (uU Z Z (by first | omega | (simp only [List.length_append,List.length_cons,List.length_nil]; omega))) (zQ Z Z Z hH4 (c68 (by first | omega | (simp only [List.length_append,List.length_cons,List.length_nil]; omega))) (fun w5 hH6=>(oA hH6 Z (zt (ret (fin hH6 (fun w' hf=>(zU Z (rt Z))) (fun w' hf=>Z)))))))))))))))))
end Go.Fip
