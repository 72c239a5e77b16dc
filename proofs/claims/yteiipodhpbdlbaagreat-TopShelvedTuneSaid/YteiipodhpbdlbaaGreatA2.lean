/- Joined texts: what the statement needs, walks by program (wip/tools). -/
import Derived.Test.YteiipodhpbdlbaaGreatA1
set_option linter.unusedVariables false
set_option linter.unusedSimpArgs false
set_option linter.unusedSectionVars false
set_option linter.unnecessarySimpa false
namespace Go.Fip
open Go.Proofs Go.RowKit
theorem Z2 {l:List Int} {i k:Nat} (h:k<i) (hi:i<l.length):nth (l.take (i:Int).toNat) (k:Int)=nth l (k:Int):=by
 rw [Int.toNat_natCast,zO (by rw [List.length_take]; omega),zO (by omega),List.getElem_take]
theorem WN {v:Value} {l:List Int} {room:Int} {w:World} (h0:Rd encI 1 v l w) (hd:Sf.Day room l)  :
  Fn Tryz.prog 181 [(.agg #[(.int .i64 room),v])].toArray w (fun u w=>∃ bb:Nat,u=.pointer (some ⟨bb,0,none⟩)∧BnEx Sf.kvS Sf.vvI (Sf.Full l) 138 bb [.int .i64 room,v] (List.replicate 9 0) w):=by
 refine fz Tryz.func181 Z kz Z Z (fun hH=>?_)
 have hn:=hd.n
 have hr9:(List.replicate 9 (0:Int)).length=9:=rfl
 refine zr (yM Z Z Z hH (fun b1 w2 hH3=>(oA hH3 Z (zs (oY hH3 (zZ (cs:=[(.int .i64 room),v]) T.vW Z Z (fun _ hw=>Heap.yQ hw (n:=0) Z (k:=0) Z)) (YO Sf.kvS Sf.vvI Z hH3 (fun b4 w5 hH6=>(oY hH6 (xQ (v:=(.agg #[(.int .i64 room),v,(.int .i64 0),(.int .i64 0),(.int .i64 0),(.int .i64 0),(.int .i64 0),(.int .i64 0),(.int .i64 0),(.int .i64 0),(.int .i64 0),(.map (some b4))])) Z (fun w=>by kernel_rfl)) (yM Z Z Z hH6 (fun b7 w8 hH9=>(oA hH9 Z (zt (seq ?_)))))))))))))
 have hH10:=Heap.u5 hH9 (n:=0) Z (show [(.int .i64 room),v,(.int .i64 0),(.int .i64 0),(.int .i64 0),(.int .i64 0),(.int .i64 0),(.int .i64 0),(.int .i64 0),(.int .i64 0),(.int .i64 0),(.map (some b4))]=(seg [(.int .i64 room),v] (List.replicate 9 0) [(.map (some b4))]) from Z)
 refine region (oM hH10 Z (oY hH10 (z6 Z) (oY hH10 (zD T.VM Z) (oY hH10 (YY T.VG Z) (qO (n:=0) T.zA T.vO Z Z (by simp) om Z hH10 Z (fun w11 hH12=>(zt (seq (zr (oM hH12 Z (oY hH12 (z6 Z) (oY hH12 (zD T.v6 Z) (oY hH12 (zD T.vC Z) (oY hH12 (yD T.xL Z (by rfl) Z (fun _ hw=>(Heap.vY hw (n:=0) Z))) (oY hH12 (zX T.yE Z (h0.now hH12 (n:=3) Z).is) (oM hH12 Z (zt (block (loop (S:=Nat×Sf.Mm) (fun (i,m)=>[(23,(.int .i64 (i:Int))),(2,(.pointer none)),(3,(.pointer (some ⟨b7,0,none⟩))),(21,v),(22,(.int .i64 (l.length:Int)))]) (fun (i,m) w1=>Heap [bx b7 138 (seg [(.int .i64 room),v] (List.replicate 9 0) [(.map (some b4))]),mp Sf.kvS Sf.vvI b4 m,bx b1 35 [(.int .i64 room),v],base w] w1∧i≤l.length∧Sf.Part l i 0 m) (fun (i,m)=>l.length - i) (0,[]) (uC Z (uC Z (uC Z (uC Z (uC Z (Sub.nil _)))))) ?_ ?_)))))))))))))))))))
 ·exact ⟨hH12,om,Sf.Part.start⟩
 rintro ⟨i,m⟩ w13 ⟨hH14,hi,hP⟩
 refine zr (oY hH14 (yF Z Z) (zt (seq ?_)))
 by_cases hc15:(i:Int)<(l.length:Int)
 ·refine zP Z (dT hc15) (skip (zJ (seq (block (zr (oM hH14 Z (oY hH14 (zN T.yE Z Z (h0.now hH14 (n:=3) Z).is om) (oY hH14 (zC T.yB Z (fun _ hw=>Rd.at (h0.now hw (n:=3) Z) (i:=(i:Int)) om (j:=0) Z)) (oA hH14 Z (oA hH14 Z (zt (seq ?_))))))))))))
  have htl:(l.take (i:Int).toNat).length=i:=by rw [List.length_take]; omega
  refine region (oM hH14 Z (oY hH14 (z6 Z) (oY hH14 (zD T.v6 Z) (oY hH14 (zD T.vC Z) (oY hH14 (yD T.xL Z (by rfl) Z (fun _ hw=>(Heap.vY hw (n:=0) Z))) (oM hH14 Z (oY hH14 (vF T.yE Z Z (h0.now hH14 (n:=3) Z).is om) (oY hH14 (zX T.yE Z (Rd.upto (h0.now hH14 (n:=3) Z) (hi:=(i:Int).toNat) om).is) (oM hH14 Z (zt (block (loop (S:=Nat×Sf.Mm) (fun (k,m2)=>[(36,(.int .i64 (k:Int))),(2,(.pointer none)),(3,(.pointer (some ⟨b7,0,none⟩))),(4,(.int .i64 (i:Int))),(5,(.int .i64 (nth l (i:Int)))),(21,v),(22,(.int .i64 (l.length:Int))),(23,(.int .i64 (i:Int))),(34,(cutv v 1 0 (i:Int).toNat)),(35,(.int .i64 ((l.take (i:Int).toNat).length:Int)))]) (fun (k,m2) w1=>Heap [bx b7 138 (seg [(.int .i64 room),v] (List.replicate 9 0) [(.map (some b4))]),mp Sf.kvS Sf.vvI b4 m2,bx b1 35 [(.int .i64 room),v],base w] w1∧k≤i∧Sf.Part l i k m2) (fun (k,m2)=>i - k) (0,m) (uC Z (uC Z (uC Z (uC Z (uC Z (uC Z (uC Z (uC Z (uC Z (uC Z (Sub.nil _))))))))))) ?_ ?_))))))))))))
  ·exact ⟨hH14,om,hP⟩
  rintro ⟨k,m2⟩ w16 ⟨hH17,hk,hp2⟩
  refine zr (oY hH17 (yF Z Z) (zt (seq ?_)))
  by_cases hc18:(k:Int)<((l.take (i:Int).toNat).length:Int)
  ·refine zP Z (dT hc18) (skip (zJ (seq (block (seq ?_)))))
   have hnt:=Z2 (l:=l) (i:=i) (k:=k) (by omega) (by omega)
   refine region (oM hH17 Z (oY hH17 (zN T.yE Z Z (Rd.upto (h0.now hH17 (n:=3) Z) (hi:=(i:Int).toNat) om).is om) (oY hH17 (zC T.yB Z (fun _ hw=>Rd.at (Rd.upto (h0.now hw (n:=3) Z) (hi:=(i:Int).toNat) om) (i:=(k:Int)) om (j:=0) Z)) (oA hH17 Z (oA hH17 Z (zs (oM hH17 Z (oM hH17 Z (oY hH17 (xJ Z Z) (zt ?_))))))))))
   by_cases hc19:(nth l (i:Int))=(nth (l.take (i:Int).toNat) (k:Int))
   ·have heq:nth l (k:Int)=nth l (i:Int):=by have hq:=(decide_eq_true hc19); omega
    refine zP Z (dT hc19) (region (oM hH17 Z (oY hH17 (z6 Z) (oY hH17 (zD T.YM Z) (oY hH17 (uN (m:=9) (j:=0) T.YP Z (by first | omega | (simp only [List.length_set]; omega)) (by rfl) Z (fun _ hw=>(Heap.vY hw (n:=0) Z))) (oM hH17 Z (oM hH17 Z (oY hH17 (xQ (v:=(.agg #[(.int .i64 (k:Int)),(.int .i64 (i:Int))])) Z (fun w=>by kernel_rfl)) (oM hH17 Z (ZI (n:=1) (k:=(((k:Int),(i:Int)):Int×Int)) (v:=nth l (i:Int)) T.VR Z Z Z hH17 Z (fun w20 hH21=>(zE (yC (zJ (region (oY hH21 (zU Z Z om) (oM hH21 Z (zE (yX (k+1,(upd (((k:Int),(i:Int)):Int×Int) (nth l (i:Int)) m2)) (uC Z (uC Z (uC Z (uC Z (uC Z (uC Z (uC Z (uC Z (uC Z (uC Z (Sub.nil _))))))))))) (⟨hH21,om,hp2.yes om om heq Z⟩) om3)))))))))))))))))))
   have hne:¬ nth l (k:Int)=nth l (i:Int):=by have hq:=(decide_eq_false hc19); omega
   refine zM Z (dF hc19) (skip (yC (zJ (region (oY hH17 (zU Z Z om) (oM hH17 Z (zE (yX (k+1,m2) (uC Z (uC Z (uC Z (uC Z (uC Z (uC Z (uC Z (uC Z (uC Z (uC Z (Sub.nil _))))))))))) (⟨hH17,om,hp2.no hne⟩) om3))))))))
  refine zM Z (dF hc18) (exit (yR (xH (zW (yC (zJ (region (oY hH17 (zU Z Z om) (oM hH17 Z (zE (yX (i+1,m2) (uC Z (uC Z (uC Z (uC Z (uC Z (Sub.nil _)))))) (⟨hH17,om,(show Sf.Part l i i m2 from (show k=i by omega) ▸ hp2).turn⟩) om3)))))))))))
 refine zM Z (dF hc15) (exit (yR (xH (zW (zJ (seq (seq ?_)))))))
 have hpt9:Sf.Part l l.length 0 m:=(show i=l.length by omega) ▸ hP
 refine region (oM hH14 Z (oY hH14 (z6 Z) (oY hH14 (zD T.YM Z) (oY hH14 (uN (m:=9) (j:=0) T.YP Z (by first | omega | (simp only [List.length_set]; omega)) (by rfl) Z (fun _ hw=>(Heap.vY hw (n:=0) Z))) ?_))))
 obtain ⟨es,clock,hH22,hv1,hv2,hv3,hv4⟩:=Heap.XW hH14 (n:=1) rfl
 have hents:Ents Sf.kvS Sf.vvI es clock m:=⟨hv1,hv2,hv3,hv4⟩
 refine Z4 T.VR.und Z Z hH22 (Heap.XH hH22 (n:=1) Z) (fun r23 w24 hH25=>(zt (block (loop (S:=Array MapEntry×Sf.Mm×Array Nat) (fun (es2,m3,seen)=>[(2,(.pointer none)),(3,(.pointer (some ⟨b7,0,none⟩))),(58,(.pointer (some ⟨r23,0,none⟩)))]) (fun (es2,m3,seen) w1=>Heap [raw r23 (.mapIter (some b4) clock seen clock),bx b7 138 (seg [(.int .i64 room),v] (List.replicate 9 0) [(.map (some b4))]),raw b4 (.map es2 clock),bx b1 35 [(.int .i64 room),v],base w] w1∧Sf.Outs l es2 clock m3 seen) (fun (es2,m3,seen)=>unseen es2 seen) (es,m, #[]) (uC Z (uC Z (uC Z (Sub.nil _)))) ?_ ?_))))
 ·exact ⟨hH25,Sf.Outs.start hents hpt9⟩
 rintro ⟨es2,m3,seen⟩ w26 ⟨hH27,hO⟩
 refine zr (XS Z Z hH27 (Heap.XH hH27 (n:=2) Z) (k:=0) Z hO.ents.born (fun hall28 w32 hH33=>?_) (fun e29 he30 hns31 w32 hH33=>?_))
 ·have hfull:=hO.full hall28
  refine oY hH33 (zQ Z Z) (zt (seq (zM Z Z (exit (yR (xH (zW (zu (oM hH33 Z (oA hH33 Z (zt (ret (fin ((hH33.sub (sC (sK (sK (sC sR))))).front (n:=2) Z) (fun w' hf=>(yI Z (rt Z))) (fun w' hf=>?_))))))))))))))
  exact ⟨_,Z,_,_,Heap.vY hf (n:=0) Z,hO.ents.mp (Heap.XH hf (n:=1) Z),hfull⟩
 obtain ⟨ai,ak,hkey,⟨xv,hval⟩,hak1,hak2⟩:=hO.entry he30
 have hns:=hns31
 have hen:=he30
 refine oY hH33 (zQ Z Z) (zt (seq (zP Z Z (skip (zJ (block (zr (oY hH33 (ZH hkey hval Z he30 hO.ents.bornNd (fun _ hw=>(Heap.XH hw (n:=2) Z)) (fun _ hw=>Heap.XH hw (n:=0) Z)) (oY hH33 (zQ Z Z) (xG (z:=(.agg #[(.int .i64 0),(.int .i64 0)])) (fun _=>by kernel_rfl) Z Z hH33 (fun b35 w36 hH37=>(yS (n:=0) (j:=0) Z Z hH37 Z T.VT Z Z Z (by rfl) (fun w38 hH39=>(zt (seq ?_)))))))))))))))
 have hbl:((l.take (ak:Int).toNat).drop ((ai:Int)+1).toNat).length≤1000000:=by rw [List.length_drop,List.length_take]; omega
 refine z8 (fun w'=>Heap [bx b35 236 [(.int .i64 (ai:Int)),(.int .i64 (ak:Int))],raw r23 (.mapIter (some b4) clock (seen.push e29.born) clock),bx b7 138 (seg [(.int .i64 room),v] (List.replicate 9 0) [(.map (some b4))]),raw b4 (.map es2 clock),bx b1 35 [(.int .i64 room),v],base w] w') T.mixed (fun w40 hr41=>?_)
 have hH42:=hH39.redrawn hr41
 refine zR [0,1,2,3,4,5,6,7,8,9,10,11,12,13,14,15,16,17,18,19] kz hH42 _ _ _ kz (qM Z Z Z (zI Z Z (z6 Z) (zI Z Z (zD T.v6 Z) (zI Z Z (zD T.vC Z) (zI Z Z (yD T.xL Z (by rfl) Z (fun _ hw=>(Heap.vY hw (n:=2) Z))) (zI Z Z (zD T.VL Z) (zI Z Z (zC T.yB Z (cw (n:=0) Z Z)) (zI Z Z (zU Z Z om) (zI Z Z (zD T.ZR Z) (zI Z Z (zC T.yB Z (cw (n:=0) Z Z)) (zI Z Z (kH T.yE Z Z Z (h0.now hH42 (n:=5) Z).is om) (qM Z Z Z (zI Z Z (z6 Z) (zI Z Z (zD T.v6 Z) (zI Z Z (zD T.vC Z) (zI Z Z (yD T.xL Z (by rfl) Z (fun _ hw=>(Heap.vY hw (n:=2) Z))) (zI Z Z (zD T.ZR Z) (zI Z Z (zC T.yB Z (cw (n:=0) Z Z)) (zI Z Z (zN T.yE Z Z (h0.now hH42 (n:=5) Z).is om) (zI Z Z (zC T.yB Z (fun _ hw=>Rd.at (h0.now hw (n:=5) Z) (i:=(ak:Int)) om (j:=0) Z)) (zV ?_)))))))))))))))))))))
 refine z1 20 kz Z (zS Z Z Z hH42 (c20 (Rd.cut (h0.now hH42 (n:=5) Z) (lo:=((ai:Int)+1).toNat) (hi:=(ak:Int).toNat) om om) om) (fun w43 hH44=>(zE (⟨hH44,(yH kz (zJ ?_))⟩))))
 by_cases hc45:0≤S.place ((l.take (ak:Int).toNat).drop ((ai:Int)+1).toNat) (nth l (ak:Int))
 ·have hbt:Sf.btw l (ai:Int) (ak:Int):=of_decide_eq_true (decide_eq_true hc45)
  refine zP Z (dT hc45) (z8 (fun w'=>Heap [bx b35 236 [(.int .i64 (ai:Int)),(.int .i64 (ak:Int))],raw r23 (.mapIter (some b4) clock (seen.push e29.born) clock),bx b7 138 (seg [(.int .i64 room),v] (List.replicate 9 0) [(.map (some b4))]),bx b1 35 [(.int .i64 room),v],base w] w') T.mixed (fun w46 hr47=>?_))
  have hH48:=hH44.redrawn hr47
  refine zR [0,1,2,3,4] kz (hH48.sub (sK (sK (sK (sC sR))))) _ _ _ kz (qM Z Z Z (zI Z Z (z6 Z) (zI Z Z (zD T.YM Z) (zI Z Z (uN (m:=9) (j:=0) T.YP Z (by first | omega | (simp only [List.length_set]; omega)) (by rfl) Z (fun _ hw=>(Heap.vY hw (n:=2) Z))) (zI Z Z (zZ (cs:=[(.int .i64 (ai:Int)),(.int .i64 (ak:Int))]) T.VQ Z Z (fun _ hw=>Heap.yQ hw (n:=0) Z (k:=0) Z)) (zV (z1 5 kz Z (YN (n:=3) (k:=(((ai:Int),(ak:Int)):Int×Int)) T.VR hO.ents Z Z hH48 Z (fun es9 w49 hents9 hsub9 hH50=>(zE (⟨(hH50.sub (sK (sK (sK (sC sR))))),(yH kz (yC ?_))⟩)))))))))))
  have hH51:=(hH50.sub (sC sR))
  refine yX (es9,(del ((ai:Int),(ak:Int)) m3),(seen.push e29.born)) (uC Z (uC Z (uC Z (Sub.nil _)))) ?_ ?_
  ·exact ⟨hH51,hO.del hen hkey hbt hents9 hsub9⟩
  ·show _<_; first | exact uG hen hns | exact Nat.lt_of_le_of_lt (Sf.unseen_sub hsub9) (uG hen hns)
 have hbn:¬ Sf.btw l (ai:Int) (ak:Int):=of_decide_eq_false (decide_eq_false hc45)
 refine zM Z (dF hc45) (skip (yC ?_))
 have hH52:=(hH44.sub (sC sR))
 refine yX (es2,m3,(seen.push e29.born)) (uC Z (uC Z (uC Z (Sub.nil _)))) ?_ ?_
 ·exact ⟨hH52,hO.keep hen hkey hbn⟩
 ·show _<_; first | exact uG hen hns | exact Nat.lt_of_le_of_lt (Sf.unseen_sub hsub9) (uG hen hns)
end Go.Fip
namespace Go.Fip
open Go.Proofs Go.RowKit
theorem WM {v:Value} {l:List Int} {room:Int} {w:World} (h0:Rd encI 1 v l w) (hn:l.length≤1000000) (hc:Sf.ck room l=0)  :
  Fn Tryz.prog 115 [(.agg #[(.int .i64 room),v])].toArray w (fun u w=>∃ bb:Nat,u=.tuple #[.pointer (some ⟨bb,0,none⟩),.int .i64 0]∧BnEx Sf.kvS Sf.vvI (Sf.Full l) 138 bb [.int .i64 room,v] (List.replicate 9 0) w):=by
 refine fz Tryz.func115 Z kz Z Z (fun hH=>?_)
 have hday:=Sf.ck_iff.1 hc
 refine zr (yM Z Z Z hH (fun b1 w2 hH3=>(oA hH3 Z (oA hH3 Z (zt (seq (zr (oY hH3 (zZ (cs:=[(.int .i64 room),v]) T.vW Z Z (fun _ hw=>Heap.yQ hw (n:=0) Z (k:=0) Z)) (zS Z Z Z hH3 (VU (h0.now hH3 (n:=1) Z) om) (fun w4 hH5=>(oA hH5 Z (zs (oM hH5 Z (oY hH5 (yT Z Z) (zt ?_)))))))))))))))
 have hc6:¬ (¬ ((Sf.ck room l)=0)):=fun h=>h hc
 refine zM Z (yW hc6) (skip (zu (oY hH5 (zZ (cs:=[(.int .i64 room),v]) T.vW Z Z (fun _ hw=>Heap.yQ hw (n:=0) Z (k:=0) Z)) (xR Z Z Z hH5 (WN (h0.now hH5 (n:=1) Z) hday) (fun u9 w7 lo10 hi11 hH8 hv12=>?_)))))
 obtain ⟨bbD14,hu,hrowD14⟩:=hv12
 subst hu
 obtain ⟨mbD14,mmD14,hfullD14,hH13⟩:=Heap.VH hH8 (n:=0) rfl (fun w' h=>by obtain ⟨rb',e,h⟩:=h; cases e; exact h)
 refine oA hH13 Z (oA hH13 Z (zt (ret (fin ((hH13.sub (sK (sK (sC sR)))).front (n:=2) Z) (fun w' hf=>(u0 Z (rt Z) (rt Z))) (fun w' hf=>?_)))))
 exact ⟨_,Z,_,_,Heap.vY hf (n:=1) Z,Heap.WE hf (n:=0) Z,hfullD14⟩
theorem WW {v:Value} {l:List Int} {room:Int} {w:World} (h0:Rd encI 1 v l w) (hn:l.length≤1000000) (hc:¬ Sf.ck room l=0)  :
  Fn Tryz.prog 115 [(.agg #[(.int .i64 room),v])].toArray w (fun u _=>u=.tuple #[.pointer none,.int .i64 (Sf.ck room l)]):=by
 refine fz Tryz.func115 Z kz Z Z (fun hH=>(zr (yM Z Z Z hH (fun b1 w2 hH3=>(oA hH3 Z (oA hH3 Z (zt (seq (zr (oY hH3 (zZ (cs:=[(.int .i64 room),v]) T.vW Z Z (fun _ hw=>Heap.yQ hw (n:=0) Z (k:=0) Z)) (zS Z Z Z hH3 (VU (h0.now hH3 (n:=1) Z) om) (fun w4 hH5=>(oA hH5 Z (zs (oM hH5 Z (oY hH5 (yT Z Z) (zt ?_)))))))))))))))))
 have hc6:¬ ((Sf.ck room l)=0):=hc
 refine zP Z (zG hc6) (zr (oM hH5 Z (oA hH5 Z (oA hH5 Z (zt (ret (yP (fin (hH5.sub (sC sR)) (fun w' hf=>(u0 Z (rt Z) (rt Z))) (fun w' hf=>Z)))))))))
theorem WL {v:Value} {l:List Int} {room:Int} {w:World} (h0:Rd encI 1 v l w) (hn:l.length≤1000000) {rule:Int} (hc:Sf.ck room l=0) (hr:1≤rule∧rule≤3)  :
  Fn Tryz.prog 54 [(.agg #[(.int .i64 room),v]),(.int .i64 rule)].toArray w (fun u w=>∃ bb:Nat,u=.tuple #[.pointer (some ⟨bb,0,none⟩),.int .i64 0]∧BnEx Sf.kvS Sf.vvI (Sf.Full l) 138 bb [.int .i64 room,v] (List.replicate 9 0) w):=by
 refine fz Tryz.func54 Z kz Z Z (fun hH=>?_)
 have hday:=Sf.ck_iff.1 hc
 have hc0:=hc
 refine zr (yM Z Z Z hH (fun b1 w2 hH3=>(oA hH3 Z (oA hH3 Z (zs (oY hH3 (zZ (cs:=[(.int .i64 room),v]) T.vW Z Z (fun _ hw=>Heap.yQ hw (n:=0) Z (k:=0) Z)) (xR Z Z Z hH3 (WM (h0.now hH3 (n:=1) Z) om hc0) (fun u6 w4 lo7 hi8 hH5 hv9=>?_))))))))
 obtain ⟨bbD11,hu,hrowD11⟩:=hv9
 subst hu
 obtain ⟨mbD11,mmD11,hfullD11,hH10⟩:=Heap.VH hH5 (n:=0) rfl (fun w' h=>by obtain ⟨rb',e,h⟩:=h; cases e; exact h)
 refine oM hH10 Z (oY hH10 (zQ Z Z) (oY hH10 (zQ Z Z) (oA hH10 Z (oA hH10 Z (zt (seq (block (zr (oM hH10 Z (oY hH10 (yT Z Z) (oA hH10 Z (zt (zM Z Z (zr (oM hH10 Z (yJ T.zA [rule] Z (fun w=>by kernel_rfl) hH10 (fun u12 lo14 hi15 w13 hH16=>(zS Z Z Z hH16 (X9 (Heap.yU T.zA hH16 (n:=0) Z)) (fun w17 hH18=>?_)))))))))))))))))))
 refine oY hH18 (xD Z) (oA hH18 Z (zt ?_))
 have hc19:¬ (¬ (1≤rule∧rule≤3)):=by simp; omega
 refine zM Z (yW hc19) (skip (yC (zu (oM hH18 Z (oA hH18 Z (oA hH18 Z (zt (ret (fin ((hH18.sub (sC (sK (sK (sC sR))))).front (n:=2) Z) (fun w' hf=>(u0 Z (rt Z) (rt Z))) (fun w' hf=>?_))))))))))
 exact ⟨_,Z,_,_,Heap.vY hf (n:=1) Z,Heap.WE hf (n:=0) Z,hfullD11⟩
theorem WT {v:Value} {l:List Int} {room:Int} {w:World} (h0:Rd encI 1 v l w) (hn:l.length≤1000000) {rule:Int} (hc:¬ Sf.ck room l=0)  :
  Fn Tryz.prog 54 [(.agg #[(.int .i64 room),v]),(.int .i64 rule)].toArray w (fun u _=>u=.tuple #[.pointer none,.int .i64 (Sf.ck room l)]):=by
 refine fz Tryz.func54 Z kz Z Z (fun hH=>?_)
 have hcn:=hc
 refine zr (yM Z Z Z hH (fun b1 w2 hH3=>(oA hH3 Z (oA hH3 Z (zs (oY hH3 (zZ (cs:=[(.int .i64 room),v]) T.vW Z Z (fun _ hw=>Heap.yQ hw (n:=0) Z (k:=0) Z)) (zS Z Z Z hH3 (WW (h0.now hH3 (n:=1) Z) om hcn) (fun w4 hH5=>(oM hH5 Z (oY hH5 (zQ Z Z) (oY hH5 (zQ Z Z) (oA hH5 Z (oA hH5 Z (zt (seq (block (zr ?_)))))))))))))))))
 refine oM hH5 Z (oY hH5 (yT Z Z) (oA hH5 Z (zt ?_)))
 have hc6:¬ ((Sf.ck room l)=0):=hc
 refine zP Z (zG hc6) (zr (oM hH5 Z (oA hH5 Z (oA hH5 Z (zt (ret (y7 (yP (fin (hH5.sub (sC sR)) (fun w' hf=>(u0 Z (rt Z) (rt Z))) (fun w' hf=>Z))))))))))
end Go.Fip
namespace Go.Fip
open Go.RowKit
section
variable {r : Option Nat} {P : Program} {N : Nat} {ds : List Deferred} {env : Env} {w : World} {Q : Post} {all : Array Oper} {rest : List Oper} {H : List Item} {x y : Operand} {v : Value} {d : Nat} {ty : TypeId} {pos : String} {after : Array Edge}
theorem j9 {α : Type} {T E sz n lo hi i j : Nat} {enc : α → List Value} (hE : El P T E sz enc) {xs : List α} (hs : ev env x = some (cutv v sz 0 i)) (hx : ev env y = some (cutv v sz j xs.length)) (hd : Nat.blt d N = true) (hH : Heap H w)
    (hn : H[n]? = some (ow lo hi E sz enc v xs)) (hij : i ≤ j) (hj : j ≤ xs.length) (h1 : 1 ≤ xs.length)
    (h : ∀ w', Heap (H.set n (ow lo hi E sz enc v (xs.take i ++ xs.drop j ++ xs.drop (i + (xs.length - j))))) w' → Ops r P N all rest ds ((d, cutv v sz 0 (i + (xs.length - j))) :: env) w' Q) :
    Ops r P N all (⟨some d, .call ⟨.builtin .append, #[x, y], #[T, T]⟩, ty, pos, after, none⟩ :: rest) ds env w Q := by
  have hok := hH.okAt hn
  have how : Ow lo hi E sz enc v xs w := hH.get hn
  obtain ⟨inf, z, hi1, hz, hsz, hby, hzs⟩ := hE.info
  rcases how.1.2 with ⟨rfl, h3⟩ | ⟨g, cap, cur, hsv, hb0, hg, h4, h5, h6, h7⟩
  · omega
  · subst hsv
    subst hsz
    have hrd := Rd.cut (Ow.rd hE.len how) (lo := j) (hi := xs.length) hj (Nat.le_refl _)
    rw [List.take_length] at hrd
    have e0 : ∀ k, cutv (.slice (some ⟨g, 0, none⟩) xs.length cap) inf.size 0 k = .slice (some ⟨g, 0, none⟩) k cap := fun k => by simp [cutv, Addr.add]
    obtain ⟨o, eo⟩ : ∃ o, cutv (.slice (some ⟨g, 0, none⟩) xs.length cap) inf.size j xs.length = .slice (some ⟨g, o, none⟩) (xs.length - j) (cap - j) := by
      simp only [cutv]
      by_cases hc : cap = j
      · exact ⟨0, by rw [if_pos hc]⟩
      · exact ⟨j * inf.size, by rw [if_neg hc]; simp [Addr.add]; intro h; exact h.symm⟩
    rw [e0] at hs
    rw [eo] at hx hrd
    have hlen : (xs.drop j).length = xs.length - j := List.length_drop
    have hfl := zL hE.len (xs.drop j)
    have hle2 : xs.length * inf.size ≤ cap * inf.size := Nat.mul_le_mul_right _ h4
    have hle : (i + (xs.length - j)) * inf.size ≤ xs.length * inf.size := Nat.mul_le_mul_right _ (by omega)
    rw [Nat.add_mul] at hle
    have hr := run_append_room (P := P) w T ty E inf hE.und hi1 g i cap cur hg ⟨g, o, none⟩ (xs.length - j) (cap - j) ((xs.drop j).flatMap enc) (by rw [hfl, hlen]) (hrd.flat hE.len hE.pos)
      (fun u hu => by obtain ⟨x, _, hx⟩ := List.mem_flatMap.1 hu; exact hE.one x u hx) (by omega) (by rw [hfl, hlen, h6]; omega)
    have hov := j5 (P := P) (w := w) (lo := lo) (hi := hi) hE (ys := xs.drop j) hg rfl h4 h5 h6 h7 (how.2 g rfl) i (by omega)
    rw [hlen] at hov
    have hh := h _ (hH.set hn ((xY w g _).mono' (how.2 g rfl)) (.inl ⟨Nat.le_refl _, Nat.le_refl _⟩) (vM hov hok.1 (by rw [setRow_size]; exact hok.2.1)))
    rw [e0] at hh
    refine xS hd (fun c hc => by cases hc) (fun a ha => ?_) hh
    simp only [execOp, resolve, invoke, builtin, Sem.run_bind, Sem.run_pure, Result.andThen, List.map_toArray, List.map_cons, List.map_nil, ha.ev hs, ha.ev hx, hr, splice]
theorem ZB {v : Value} {n sz q : Nat} (hv : SliceIs v n) : ∃ a c, v = .slice a n c ∧ n ≤ c ∧ cutv v sz 0 q = .slice a q c := by
  obtain ⟨a, c, rfl, hnc, ha⟩ := hv
  refine ⟨a, c, rfl, hnc, ?_⟩
  rcases ha with ⟨rfl, rfl⟩ | ⟨b, o, rfl⟩
  · simp [cutv]
  · have e : (⟨b, o, none⟩ : Addr).add 0 = ⟨b, o, none⟩ := by unfold Addr.add; split <;> rfl
    simp [cutv, e]
theorem kZ {S:World→Prop} {z p:Operand} {T E sz n q:Nat} {k k2:IntKind} {l h:Int} (hT:TSlice P T E sz) (hx:ev env x=some (cutv v sz 0 q)) (hy:ev env z=some (.int k l)) (hz:ev env p=some (.int k2 h)) (hv:SliceIs v n) (hl:l=(q:Int)) (hh:h=(n:Int)) (hq:q≤n) :
  Yv P N ds env (.slice T x (some z) (some p) none) (cutv v sz q n) S:=fun t ht w _ _ _ _ _ _=>by
 subst hl hh
 obtain ⟨a,c,rfl,hnc,e0⟩:=ZB (sz:=sz) (q:=q) hv
 rw [e0] at hx
 have e1:∀ (k:IntKind) (y:Nat) (q:Int) (code:BoundsCode),0≤q→q≤y→(Instr.sliceBound (.int k q) y code).run P w=.ok q.toNat w:=by
  intro k y q code h0 h1
  simp [Instr.sliceBound,asIntOf,h0,h1]
 have h3:=e1 k2 c (n:Int) .sliceAcap (by omega) (by omega)
 have h4:=e1 k n (q:Int) .sliceB (by omega) (by omega)
 have eb1:(Instr.sliceBounds true q c (some (.int k (q:Int))) (some (.int k2 (n:Int))) none).run P w=.ok (q,n,c) w:=by
  simp [Instr.sliceBounds,h3,h4,Result.andThen]
 simp [execOp,ht.ev hx,ht.ev hy,ht.ev hz,Instr.sliceAt,Instr.slice,run_underlying hT.1,eb1,run_size hT.2,Result.andThen,cutv]
theorem ZO {S:World→Prop} {z p q:Operand} {T E sz n lo hi:Nat} {k k2 k3:IntKind} {l h m:Int} (hT:TSlice P T E sz) (hx:ev env x=some v) (hy:ev env z=some (.int k l)) (hz:ev env p=some (.int k2 h)) (hm:ev env q=some (.int k3 m)) (hv:SliceIs v n) (hl:l=(lo:Int)) (hh:h=(hi:Int)) (hmn:m=(n:Int)) (h1:lo≤hi) (h2:hi≤n) :
  Yv P N ds env (.slice T x (some z) (some p) (some q)) (qC v sz lo hi n) S:=fun t ht w _ _ _ _ _ _=>by
 subst hl hh hmn
 obtain ⟨a,c,rfl,hnc,hp⟩:=hv
 have e1:∀ (k:IntKind) (y:Nat) (q:Int) (code:BoundsCode),0≤q→q≤y→(Instr.sliceBound (.int k q) y code).run P w=.ok q.toNat w:=by
  intro k y q code h0 h1
  simp [Instr.sliceBound,asIntOf,h0,h1]
 have h3:=e1 k3 c (n:Int) .slice3Acap (by omega) (by omega)
 have h4:=e1 k2 n (hi:Int) .slice3B (by omega) (by omega)
 have h5:=e1 k hi (lo:Int) .slice3C (by omega) (by omega)
 have eb1:(Instr.sliceBounds true n c (some (.int k (lo:Int))) (some (.int k2 (hi:Int))) (some (.int k3 (n:Int)))).run P w=.ok (lo,hi,n) w:=by
  simp [Instr.sliceBounds,h3,h4,h5,Result.andThen]
 simp [execOp,ht.ev hx,ht.ev hy,ht.ev hz,ht.ev hm,Instr.sliceAt,Instr.slice,run_underlying hT.1,eb1,run_size hT.2,Result.andThen,qC]
end
end Go.Fip
namespace Go.Fip
open Go.Proofs Go.RowKit
theorem c94 {v:Value} {l:List Int} {g i j:Nat} {w:World} (h0:Own 3 1 encI v l w) (hg:v.ownBlock=some g) (hn:l.length≤1000000) (hij:i<j) (hj:j≤l.length) :
  FnM Tryz.prog 118 [v,(.int .i64 (i:Int)),(.int .i64 (j:Int))].toArray w g (fun u w=>Own 3 1 encI u (l.take i++l.drop j) w):=by
 refine qZ (args:=[v,(.int .i64 (i:Int)),(.int .i64 (j:Int))]) Tryz.func118 Z (ent Tryz.func118 kz Z) Z Z (jE h0 hg) (fun hH=>?_)
 have hll:(l.take i++l.drop j++l.drop (i+(l.length - j))).length=l.length:=by simp; omega
 have htl:((l.take i++l.drop j++l.drop (i+(l.length - j))).take (i+(l.length - j))).length=(i+(l.length - j)):=by rw [List.length_take,hll]; omega
 refine zr (oA hH Z (zs (oM hH Z (oM hH Z (oM hH Z (oM hH Z (oY hH (zX T.yE Z (Heap.yU T.zA hH (n:=0) Z).is) (oY hH (ZO T.yE Z Z Z Z (Heap.yU T.zA hH (n:=0) Z).is Z Z Z om om) (zt (seq (zr (oM hH Z (oM hH Z (oY hH (xJ Z Z) (zE ?_)))))))))))))))
 refine zJ ?_
 have hc1:¬ ((i:Int)=(j:Int)):=(show ¬ ((i:Int)=(j:Int)) by omega)
 refine zM Z (dF hc1) (skip (zu (oM hH Z (oY hH (zX T.yE Z (Heap.yU T.zA hH (n:=0) Z).is) (oA hH Z (zt (seq (z8 (fun w'=>True) T.mixed (fun w2 hr3=>?_)))))))))
 have hH4:=hH.redrawn hr3
 refine zR [0,1,2,3,4,5] kz trivial _ _ _ kz (qM Z Z Z (qM Z Z Z (zI Z Z (vF T.yE Z Z (Heap.yU T.zA hH4 (n:=0) Z).is om) (qM Z Z Z (qM Z Z Z (zI Z Z (vP T.yE Z Z (Heap.yU T.zA hH4 (n:=0) Z).is om) (zV (z1 6 kz Z (j9 (n:=0) (i:=i) (j:=j) T.zA Z Z Z hH4 Z om om om (fun w5 hH6=>(zE (⟨trivial,(zR [7] kz trivial _ _ _ kz (zI Z Z (yO Z) (zV (yH kz (zu (oM hH6 Z (oM hH6 Z ?_)))))))⟩))))))))))))
 refine oY hH6 (zX T.yE Z ((Rd.upto (Heap.yU T.zA hH6 (n:=0) Z) (hi:=(i+(l.length - j))) (by rw [hll]; omega))).is) (oM hH6 Z (oY hH6 (kZ T.yE Z Z Z (Heap.yU T.zA hH6 (n:=0) Z).is om (by rw [hll]) (by rw [hll]; omega)) (uL (n:=0) (q:=(i+(l.length - j))) T.zA (0:Int) T.vO Z Z hH6 Z (by rw [hll]; omega) (fun w7 hH8=>(zs (oM hH8 Z (oA hH8 Z (zt (ret (finM hH8 (yI Z (rt Z)) (fun w' hf=>((congrArg (fun q=>Own 3 1 encI (cutv v 1 0 (i+(l.length - j))) q w') ?_).mp (Own.upto (q:=(i+(l.length - j))) (fun _=>Z) hf.1 (by simp; omega))))))))))))))
 rw [List.take_append_of_le_length (by rw [List.length_take,hll]; omega),List.take_take,Nat.min_self,List.take_left' (by simp; omega)]
end Go.Fip
namespace Go.Fip
open Go.Proofs Go.RowKit
theorem c99 {x n:Int} {b1:Nat} {w:World} (k1:Bx b1 3 [.int .i64 n] w)  :
  Fn Tryz.prog 122 [(.int .i64 x),(.pointer (some ⟨b1,0,none⟩))].toArray w (fun u _=>u=.bool (decide (x=n))):=by
 refine fz Tryz.func122 Z kz Z Z (fun hH=>(zr (oA hH Z (zs (oM hH Z (oY hH (zC T.yB Z (fun _ hw=>yL (k1.now hw (n:=0) Z) Z)) (oY hH (xJ Z Z) (oA hH Z (zt (ret (fin hH (fun w' hf=>(yI Z (rt Z))) (fun w' hf=>Z))))))))))))
theorem V2 {v:Value} {l:List Int} {n:Int} {b1:Nat} {w:World} (h0:Rd encI 1 v l w) (k1:Bx b1 3 [.int .i64 n] w) (hl:l.length≤1000000)  :
  Fn Tryz.prog 114 [v,(.func (.func 122) #[] #[(.pointer (some ⟨b1,0,none⟩))])].toArray w (fun u _=>u=.int .i64 (idx (fun x:Int=>decide (x=n)) l)):=by
 refine fz Tryz.func114 Z kz Z Z (fun hH=>(zr (oA hH Z (zt (seq (zr (oM hH Z (oY hH (zX T.yE Z (h0.now hH (n:=0) Z).is) (oM hH Z (zt (block (loop (S:=Nat) (fun k=>[(8,(.int .i64 (k:Int))),(0,v),(1,(.func (.func 122) #[] #[(.pointer (some ⟨b1,0,none⟩))])),(7,(.int .i64 (l.length:Int)))]) (fun k w1=>Heap [base w] w1∧k≤l.length∧∀ i,i<k→(fun x:Int=>decide (x=n)) (nth l (i:Int))=false) (fun k=>l.length - k) (0) (uC Z (uC Z (uC Z (uC Z (Sub.nil _))))) ?_ ?_))))))))))))
 ·exact ⟨hH,om,S.all_zero⟩
 rintro k w1 ⟨hH2,hk,hall⟩
 refine zr (oY hH2 (yF Z Z) (zt (seq ?_)))
 by_cases hc3:(k:Int)<(l.length:Int)
 ·refine zP Z (dT hc3) (skip (zJ (seq (block (zr (oM hH2 Z (oA hH2 Z (zs (oM hH2 Z (oM hH2 Z (oM hH2 Z (oY hH2 (zN T.yE Z Z (h0.now hH2 (n:=0) Z).is om) (oY hH2 (zC T.yB Z (fun _ hw=>Rd.at (h0.now hw (n:=0) Z) (i:=(k:Int)) om (j:=0) Z)) (zS Z Z Z hH2 (c99 (k1.now hH2 (n:=0) Z)) (fun w4 hH5=>(zt ?_))))))))))))))))
  by_cases hc6:nth l (k:Int)=n
  ·have hp:(fun x:Int=>decide (x=n)) (nth l (k:Int))=true:=(decide_eq_true hc6)
   refine zP Z (dT hc6) (zr (oM hH5 Z (oA hH5 Z (zt (ret (y7 (yP (qD (y7 (yP (fin hH5 (fun w' hf=>(yI Z (rt Z))) (fun w' hf=>?_))))))))))))
   first | exact congrArg (Value.int .i64) (xP (k:=k) (by omega) hall hp).symm | exact congrArg (Value.int .i64) (xE (fun i hi=>hall i (by omega))).symm
  have hp:(fun x:Int=>decide (x=n)) (nth l (k:Int))=false:=(decide_eq_false hc6)
  refine zM Z (dF hc6) (skip (yC (zJ (region (oY hH5 (zU Z Z om) (oM hH5 Z (zE (yX (k+1) (uC Z (uC Z (uC Z (uC Z (Sub.nil _))))) (⟨hH5,om,S.all_snoc hall hp⟩) om3))))))))
 refine zM Z (dF hc3) (exit (yR (xH (zW (zu (oA hH2 Z (zt (ret (fin hH2 (fun w' hf=>(yI Z (rt Z))) (fun w' hf=>?_))))))))))
 first | exact congrArg (Value.int .i64) (xP (k:=k) (by omega) hall hp).symm | exact congrArg (Value.int .i64) (xE (fun i hi=>hall i (by omega))).symm
theorem V1 {v:Value} {l:List Int} {n:Int} {b1 g:Nat} {w:World} (h0:Own 3 1 encI v l w) (hg:v.ownBlock=some g) (k1:Bx b1 3 [.int .i64 n] w) (hne:b1≠g) (hn:l.length≤1000000) :
  FnM Tryz.prog 121 [v,(.func (.func 122) #[] #[(.pointer (some ⟨b1,0,none⟩))])].toArray w g (fun u w=>Own 3 1 encI u (l.filter fun y => !decide (y=n)) w):=by
 refine qZ (args:=[v,(.func (.func 122) #[] #[(.pointer (some ⟨b1,0,none⟩))])]) Tryz.func121 Z (ent Tryz.func121 kz Z) Z Z (jE h0 hg) (fun hH=>?_)
 have hlen:l.length≤1000000:=hn
 refine zr (oA hH Z (zs (oM hH Z (oM hH Z (zS Z Z Z hH (V2 (Heap.yU T.zA hH (n:=0) Z) (Bx.nowM k1 hne hH (n:=1) (m:=2) Z Z) om) (fun w1 hH2=>(oA hH2 Z (zt (seq (zr (oM hH2 Z (oY hH2 (xJ Z Z) (zt ?_)))))))))))))
 by_cases hc3:(idx (fun x:Int=>decide (x=n)) l)=(-1)
 ·have hall:=((vQ (fun y:Int=>decide (y=n)) l).resolve_right (fun h=>by obtain ⟨k,_,h2,_⟩:=h; omega)).2
  refine zP Z (dT hc3) (zr (oM hH2 Z (oA hH2 Z (zt (ret (yP (finM hH2 (yI Z (rt Z)) (fun w' hf=>?_))))))))
  first | exact (congrArg (fun q=>Own 3 1 encI v q w') (Y6 hall)).mp hf.1 | exact (congrArg (fun q=>Own 3 1 encI (cutv v 1 0 i) q w') (hD.done (by omega) 0)).mp (Own.upto (q:=i) (fun _=>rfl) hf.1 (by simp; omega))
 obtain ⟨k,hk,hke,hkp,hkf⟩:=(vQ (fun y:Int=>decide (y=n)) l).resolve_left (fun h=>absurd h.1 ‹_›)
 refine zM Z (dF hc3) (skip (zJ (seq (zr (oM hH2 Z (oY hH2 (zU Z Z om) (oA hH2 Z (zt (block (loop (S:=Nat×Nat×List Int) (fun (i,j,L)=>[(5,(.int .i64 (i:Int))),(6,(.int .i64 (j:Int))),(0,v),(1,(.func (.func 122) #[] #[(.pointer (some ⟨b1,0,none⟩))])),(4,(.slice none 0 0))]) (fun (i,j,L) w1=>Heap [ow g (g+1) 3 1 encI v L,restL w g,restR w g] w1∧DelAt (fun y:Int=>decide (y=n)) l L i j) (fun (i,j,L)=>l.length - j) (k,(k+1),l) (Sub.cons (show some (Value.int .i64 (idx (fun y:Int=>decide (y=n)) l))=some (Value.int .i64 ((k:Nat):Int)) from by rw [hke]) (Sub.cons (show some (Value.int .i64 (idx (fun y:Int=>decide (y=n)) l+1))=some (Value.int .i64 ((k+1:Nat):Int)) from by rw [hke]; rfl) (uC Z (uC Z (uC Z (Sub.nil _)))))) ?_ ?_))))))))))
 ·exact ⟨hH2,⟨om,hk,Z,ZC hk hkf hkp,Z⟩⟩
 rintro ⟨i,j,L⟩ w4 ⟨hH5,hD⟩
 have hD8:=hD
 obtain ⟨hij,hjl0,hLl,_,_⟩:=hD8
 refine seq (zr (oM hH5 Z (oM hH5 Z (oY hH5 (zX T.yE Z (Heap.yU T.zA hH5 (n:=0) Z).is) (oY hH5 (yF Z Z) (zt ?_))))))
 by_cases hc6:(j:Int)<(L.length:Int)
 ·have hjl:j<l.length:=by omega
  refine zP Z (dT hc6) (skip (zJ (seq (block (zr (oM hH5 Z (oM hH5 Z (oY hH5 (zN T.yE Z Z (Heap.yU T.zA hH5 (n:=0) Z).is om) (oY hH5 (zC T.yB Z (fun _ hw=>Rd.at (Heap.yU T.zA hw (n:=0) Z) (i:=(j:Int)) om (j:=0) Z)) (oA hH5 Z (zs (oM hH5 Z (oM hH5 Z (zS Z Z Z hH5 (c99 (Bx.nowM k1 hne hH5 (n:=1) (m:=2) Z Z)) (fun w7 hH8=>(oY hH8 (xD Z) (zt ?_)))))))))))))))))
  by_cases hc9:nth L (j:Int)=n
  ·have hdrop:(fun y:Int=>decide (y=n)) (nth l (j:Int))=true:=by rw [← hD.nth hjl]; exact decide_eq_true ‹_›
   refine zM Z (zH hc9) (skip (yC (zJ (region (oM hH8 Z (oY hH8 (zU Z Z om) (oA hH8 Z (zE (yX (i,j+1,L) (uC Z (uC Z (uC Z (uC Z (uC Z (Sub.nil _)))))) (⟨hH8,hD.drop hjl hdrop⟩) om3)))))))))
  have hkeep:(fun y:Int=>decide (y=n)) (nth l (j:Int))=false:=by rw [← hD.nth hjl]; exact decide_eq_false ‹_›
  refine zP Z (zG hc9) (zr (oM hH8 Z (oM hH8 Z (oM hH8 Z (oY hH8 (zN T.yE Z Z (Heap.yU T.zA hH8 (n:=0) Z).is om) (j0 (n:=0) (i:=(i:Int)) (k:=0) (us:=[(.int .i64 (nth L (j:Int)))]) (z:=nth L (j:Int)) T.zA Z Z hH8 Z om T.sz3 Z Z Z (Nat.le_of_ble_eq_true Z) (fun w10 hH11=>(zq (oM hH11 Z (oY hH11 (zU Z Z om) (oA hH11 Z (zE (yC (zJ (region (oM hH11 Z (oY hH11 (zU Z Z om) (oA hH11 Z (zE ?_)))))))))))))))))))
  refine yX (i+1,j+1,(L.set (i:Int).toNat (nth L (j:Int)))) (uC Z (uC Z (uC Z (uC Z (uC Z (Sub.nil _)))))) (⟨hH11,(by have h:=hD.keep hjl hkeep; rw [← hD.nth hjl] at h; exact h)⟩) om3
 refine zM Z (dF hc6) (exit (yR (xH (zW (zu (oM hH5 Z (oM hH5 Z (oY hH5 (vP T.yE Z Z (Heap.yU T.zA hH5 (n:=0) Z).is om) (uL (n:=0) (q:=(i:Int).toNat) T.zA (0:Int) T.vO Z Z hH5 Z om (fun w12 hH13=>(zs (oM hH13 Z (oM hH13 Z (oY hH13 (vF T.yE Z Z (Heap.yU T.zA hH13 (n:=0) Z).is (by simp; omega)) (oA hH13 Z (zt ?_))))))))))))))))
 refine ret (finM hH13 (yI Z (rt Z)) (fun w' hf=>?_))
 first | exact (congrArg (fun q=>Own 3 1 encI v q w') (Y6 hall)).mp hf.1 | exact (congrArg (fun q=>Own 3 1 encI (cutv v 1 0 i) q w') (hD.done (by omega) 0)).mp (Own.upto (q:=i) (fun _=>rfl) hf.1 (by simp; omega))
theorem WU {v:Value} {l:List Int} {g:Nat} {n lim:Int} {w:World} (h0:Own 3 1 encI v l w) (hg:v.ownBlock=some g) (hn:l.length≤12) (hne:1≤l.length) (hnl:n=(l.length:Int)) :
  FnM Tryz.prog 178 [v,(.int .i64 0),(.int .i64 n),(.int .i64 lim)].toArray w g (fun u w=>u=.tuple #[]∧Own 3 1 encI v (Ps.sorted (fun x y:Int=>decide (x<y)) l) w):=by
 refine qZ (args:=[v,(.int .i64 0),(.int .i64 n),(.int .i64 lim)]) Tryz.func178 Z (ent Tryz.func178 kz Z) Z Z (jE h0 hg) (fun hH=>(zr (oA hH Z (zs (oA hH Z (zt (block (loop (S:=Nat) (fun k=>[(1,(.int .i64 0)),(2,(.int .i64 n)),(3,(.int .i64 lim)),(0,v)]) (fun k w1=>Heap [ow g (g+1) 3 1 encI v l,restL w g,restR w g] w1∧True) (fun k=>k) (0) (uC Z (uC Z (uC Z (uC Z (Sub.nil _))))) ?_ ?_))))))))
 ·exact ⟨hH,trivial⟩
 rintro k w1 ⟨hH2,hT⟩
 refine block (zr (oM hH2 Z (oM hH2 Z (oY hH2 (xI Z Z om) (oA hH2 Z (zt (seq (zr (oM hH2 Z (oY hH2 (jY Z Z) (zt ?_)))))))))))
 have hc3:(n - 0)≤12:=(show n - 0≤12 by omega)
 refine zP Z (dT hc3) (zr (oM hH2 Z (oM hH2 Z (oM hH2 Z ?_))))
 obtain ⟨g4,hgb5,hgl6⟩:=Ow.blk (show Ow _ _ _ _ _ _ _ _ from hH2.get (n:=0) rfl) (by first | assumption | omega | (simp; done) | decide)
 refine uS (g:=g4) (n:=0) Z Z Z hH2 Z hgl6 (WO (Heap.own hH2 (n:=0) Z) hgb5 om om) (fun u9 w7 hH8 hv10=>?_)
 obtain ⟨rfl, -⟩:=hv10
 have hH11:=Heap.vX (Heap.weaken hH8 (n:=0) Z (φ:=Own 3 1 encI v (Ps.sorted (fun x y:Int=>decide (x<y)) l)) (fun w' h=>h.2)) (n:=0) (by rfl)
 refine zt (ret (yP (y7 (qD (y7 (finM hH11 (XJ Z ) (fun w' hf=>?_)))))))
 exact ⟨Z,hf.1⟩
theorem c95 {v:Value} {l:List Int} {g:Nat} {w:World} (h0:Own 3 1 encI v l w) (hg:v.ownBlock=some g) (hn:l.length≤12) (hne:1≤l.length) :
  FnM Tryz.prog 110 [v].toArray w g (fun u w=>u=.tuple #[]∧Own 3 1 encI v (Ps.sorted (fun x y:Int=>decide (x<y)) l) w):=by
 refine qZ (args:=[v]) Tryz.func110 Z (ent Tryz.func110 kz Z) Z Z (jE h0 hg) (fun hH=>(zr (oM hH Z (oY hH (zX T.yE Z (Heap.yU T.zA hH (n:=0) Z).is) (oA hH Z (zq (oM hH Z (oM hH Z (oM hH Z (oY hH (jT Tryz.underlying3 Tryz.underlying214 Z (Z7 om)) (zS Z Z Z hH (WX (x:=(l.length:Int)) om om) (fun w1 hH2=>?_))))))))))))
 obtain ⟨g3,hgb4,hgl5⟩:=Ow.blk (show Ow _ _ _ _ _ _ _ _ from hH2.get (n:=0) rfl) (by first | assumption | omega | (simp; done) | decide)
 refine uS (g:=g3) (n:=0) Z Z Z hH2 Z hgl5 (WU (Heap.own hH2 (n:=0) Z) hgb4 (by first | omega | (simp; done)) (by first | omega | (simp; done)) (by first | omega | (simp; done))) (fun u8 w6 hH7 hv9=>?_)
 obtain ⟨rfl, -⟩:=hv9
 have hH10:=Heap.vX (Heap.weaken hH7 (n:=0) Z (φ:=Own 3 1 encI v (Ps.sorted (fun x y:Int=>decide (x<y)) l)) (fun w' h=>h.2)) (n:=0) (by rfl)
 refine zE (XA hH10 (XJ Z ) (fun w' hf=>?_))
 exact ⟨Z,hf.1⟩
end Go.Fip
namespace Go.Fip
open Go.Proofs Go.RowKit
theorem c97 {bb mb:Nat} {room:Int} {v:Value} {C:List Int} {w:World} (kb:Bx bb 138 (seg [.int .i64 room,v] C [.map (some mb)]) w) (hC:C.length=9) {l:List Int} (h0:Rd encI 1 v l w) (hn:l.length≤16) {x y i:Int} (hi:0≤i∧i<l.length) {b1 b2:Nat} (k1:Bx b1 133 [(.func (.func 117) #[(.pointer (some ⟨bb,0,none⟩))] #[])] w) (k2:Bx b2 3 [.int .i64 i] w)  :
  Fn Tryz.prog 120 [(.int .i64 x),(.int .i64 y),(.pointer (some ⟨b1,0,none⟩)),(.pointer (some ⟨b2,0,none⟩))].toArray w (fun u _=>u=.bool (decide (Sf.next l y i<Sf.next l x i))):=by
 refine fz Tryz.func120 Z kz Z Z (fun hH=>(zr (oA hH Z (zt (seq (z8 (fun w'=>Heap [base w] w') T.mixed (fun w1 hr2=>?_)))))))
 have hH3:=hH.redrawn hr2
 refine zR [0,1,2,4,5,6] kz hH3 _ _ _ kz (zI Z Z (zC T.Z0 Z (fun _ hw=>yL (k1.now hw (n:=0) Z) Z)) (qM Z Z Z (zI Z Z (zC T.yB Z (fun _ hw=>yL (k2.now hw (n:=0) Z) Z)) (zI Z Z (zC T.Z0 Z (fun _ hw=>yL (k1.now hw (n:=0) Z) Z)) (qM Z Z Z (zI Z Z (zC T.yB Z (fun _ hw=>yL (k2.now hw (n:=0) Z) Z)) (zV (z1 3 kz Z (zS Z Z Z hH3 (c92 (kb.now hH3 (n:=0) Z) (by first | omega | assumption | (simp only [List.length_set,List.length_replicate]; done) | (simp only [List.length_set]; omega)) (h0.now hH3 (n:=0) Z) om om) (fun w4 hH5=>(zE (⟨hH5,(z1 7 kz Z (zS Z Z Z hH5 (c92 (kb.now hH5 (n:=0) Z) (by first | omega | assumption | (simp only [List.length_set,List.length_replicate]; done) | (simp only [List.length_set]; omega)) (h0.now hH5 (n:=0) Z) om om) (fun w6 hH7=>(zE (⟨hH7,(zR [8,9] kz hH7 _ _ _ kz (zI Z Z (vS Z Z) (zI Z Z (yO Z) (zV ?_))))⟩)))))⟩))))))))))))
 refine yH kz (zJ (ret (fin hH7 (fun w' hf=>(yI Z (rt Z))) (fun w' hf=>Z))))
end Go.Fip
namespace Go.Fip
namespace Sf
open S (place)
abbrev lti:Int→Int→Bool:=fun x y=>decide (x<y)
def late (l:List Int) (i:Int):Int→Int→Bool:=fun x y=>decide (next l y i<next l x i)
structure Tri where
 on:List Int
 out:List Int
 mis:List Int
def off (rule:Int) (l on:List Int) (i:Int):Int:=if rule=3 then bestTo (late l i) (Ps.sorted lti on) (on.length - 1) else nth on 0
def rest (rule:Int) (l on:List Int) (i:Int):List Int:=(if rule=3 then Ps.sorted lti on else on).filter fun y => !decide (y=off rule l on i)
def step (room rule:Int) (l:List Int) (s:Tri) (i:Nat):Tri :=
 if 0≤place s.on (nth l (i:Int)) then
  ⟨if rule=2 then s.on.take (place s.on (nth l (i:Int))).toNat++s.on.drop ((place s.on (nth l (i:Int))).toNat+1)++[nth l (i:Int)] else s.on,s.out++[0],s.mis⟩
 else if (s.on.length:Int)=room then ⟨rest rule l s.on i++[nth l (i:Int)],s.out++[off rule l s.on i],s.mis++[(i:Int)]⟩
 else ⟨s.on++[nth l (i:Int)],s.out++[0],s.mis++[(i:Int)]⟩
def runTo (room rule:Int) (l:List Int):Nat→Tri
 | 0=>⟨[],[],[]⟩
 | k+1=>step room rule l (runTo room rule l k) k
theorem run_hit2 {room rule:Int} {l:List Int} {k:Nat} (h:0≤place (runTo room rule l k).on (nth l (k:Int))) (h2:rule=2):runTo room rule l (k+1)=⟨(runTo room rule l k).on.take (place (runTo room rule l k).on (nth l (k:Int))).toNat++(runTo room rule l k).on.drop ((place (runTo room rule l k).on (nth l (k:Int))).toNat+1)++[nth l (k:Int)],(runTo room rule l k).out++[0],(runTo room rule l k).mis⟩:=by
 show step _ _ _ _ _=_
 unfold step
 rw [if_pos h,if_pos h2]
theorem run_hit {room rule:Int} {l:List Int} {k:Nat} (h:0≤place (runTo room rule l k).on (nth l (k:Int))) (h2:¬ rule=2):runTo room rule l (k+1)=⟨(runTo room rule l k).on,(runTo room rule l k).out++[0],(runTo room rule l k).mis⟩:=by
 show step _ _ _ _ _=_
 unfold step
 rw [if_pos h,if_neg h2]
theorem run_full {room rule:Int} {l:List Int} {k:Nat} (h:¬ 0≤place (runTo room rule l k).on (nth l (k:Int))) (h2:((runTo room rule l k).on.length:Int)=room):runTo room rule l (k+1)=⟨rest rule l (runTo room rule l k).on k++[nth l (k:Int)],(runTo room rule l k).out++[off rule l (runTo room rule l k).on k],(runTo room rule l k).mis++[(k:Int)]⟩:=by
 show step _ _ _ _ _=_
 unfold step
 rw [if_neg h,if_pos h2]
theorem run_room {room rule:Int} {l:List Int} {k:Nat} (h:¬ 0≤place (runTo room rule l k).on (nth l (k:Int))) (h2:¬ ((runTo room rule l k).on.length:Int)=room):runTo room rule l (k+1)=⟨(runTo room rule l k).on++[nth l (k:Int)],(runTo room rule l k).out++[0],(runTo room rule l k).mis++[(k:Int)]⟩:=by
 show step _ _ _ _ _=_
 unfold step
 rw [if_neg h,if_neg h2]
theorem off_3 {rule:Int} {l on:List Int} {i:Int} (h:rule=3):off rule l on i=bestTo (late l i) (Ps.sorted lti on) (on.length - 1):=by unfold off; rw [if_pos h]
theorem off_n {rule:Int} {l on:List Int} {i:Int} (h:¬ rule=3):off rule l on i=nth on 0:=by unfold off; rw [if_neg h]
theorem rest_3 {rule:Int} {l on:List Int} {i:Int} (h:rule=3):rest rule l on i=(Ps.sorted lti on).filter fun y => !decide (y=off rule l on i):=by unfold rest; rw [if_pos h]
theorem rest_n {rule:Int} {l on:List Int} {i:Int} (h:¬ rule=3):rest rule l on i=on.filter fun y => !decide (y=off rule l on i):=by unfold rest; rw [if_neg h]
theorem q8 {p:Int→Int→Bool} {l:List Int}:∀ {k:Nat},k<l.length→bestTo p l k∈l
 | 0,h=>by show nth l ((0:Nat):Int)∈l; rw [zO h]; exact List.getElem_mem h
 | k+1,h=>by
  show (if _ then _ else _)∈l
  split
  ·rw [zO h]; exact List.getElem_mem h
  ·exact q8 (by omega)
theorem qS {rule:Int} {l on:List Int} {i:Int} (h:1≤on.length):off rule l on i∈on:=by
 by_cases hr:rule=3
 ·rw [off_3 hr]
  have:=q8 (p:=late l i) (l:=Ps.sorted lti on) (k:=on.length - 1) (by rw [Ps.sorted_len]; omega)
  exact (Ps.sorted_perm).mem_iff.1 this
 ·rw [off_n hr]; show nth on ((0:Nat):Int)∈on; rw [zO h]; exact List.getElem_mem h
theorem XI {rule:Int} {l on:List Int} {i:Int} (h:1≤on.length):(rest rule l on i).length<on.length:=by
 have hm:=qS (rule:=rule) (l:=l) (i:=i) h
 have key:∀ (xs:List Int) (d:Int),d∈xs→(xs.filter fun y => !decide (y=d)).length<xs.length:=fun xs d hd=>by
  induction xs with
  | nil=>cases hd
  | cons a xs ih =>
   have hle:=List.length_filter_le (fun y => !decide (y=d)) xs
   by_cases e:a=d
   ·simp only [List.filter_cons,e,decide_true,Bool.not_true,List.length_cons]
    simp only [Bool.false_eq_true,if_false]
    omega
   ·have:=ih ((List.mem_cons.1 hd).resolve_left (fun h=>e h.symm))
    simp only [List.filter_cons,decide_eq_false e,Bool.not_false,if_true,List.length_cons]
    omega
 by_cases hr:rule=3
 ·rw [rest_3 hr]
  have:=key (Ps.sorted lti on) _ ((Ps.sorted_perm).mem_iff.2 hm)
  rwa [Ps.sorted_len] at this
 ·rw [rest_n hr]; exact key _ _ hm
theorem run_len {room rule : Int} {l : List Int} (hr : 1 ≤ room) : ∀ k, ((runTo room rule l k).on.length : Int) ≤ room ∧ (runTo room rule l k).out.length = k ∧ (runTo room rule l k).mis.length ≤ k
  | 0 => by show ((0 : Nat) : Int) ≤ room ∧ 0 = 0 ∧ 0 ≤ 0; omega
  | k + 1 => by
    obtain ⟨h1, h2, h3⟩ := run_len (room := room) (rule := rule) (l := l) hr k
    by_cases h : 0 ≤ place (runTo room rule l k).on (nth l (k : Int))
    · by_cases hu : rule = 2
      · have hp := S.place_lt (runTo room rule l k).on (nth l (k : Int))
        rw [run_hit2 h hu]
        simp only [List.length_append, List.length_take, List.length_drop, List.length_cons, List.length_nil]
        omega
      · rw [run_hit h hu]
        simp only [List.length_append, List.length_cons, List.length_nil]
        omega
    · by_cases hf : ((runTo room rule l k).on.length : Int) = room
      · have := XI (rule := rule) (l := l) (on := (runTo room rule l k).on) (i := k) (by omega)
        rw [run_full h hf]
        simp only [List.length_append, List.length_cons, List.length_nil]
        omega
      · rw [run_room h hf]
        simp only [List.length_append, List.length_cons, List.length_nil]
        omega
end Sf
end Go.Fip
namespace Go.Fip
open Go.Proofs Go.RowKit
theorem c96 {bb mb:Nat} {room:Int} {v:Value} {C:List Int} {w:World} (kb:Bx bb 138 (seg [.int .i64 room,v] C [.map (some mb)]) w) (hC:C.length=9) {l:List Int} (h0:Rd encI 1 v l w) (hn:l.length≤16) {i:Int} (hi:0≤i∧i<l.length) {b1 b2:Nat} (k1:Bx b1 133 [(.func (.func 117) #[(.pointer (some ⟨bb,0,none⟩))] #[])] w) (k2:Bx b2 3 [.int .i64 i] w) {vo:Value} {o:List Int} (hO:Rd encI 1 vo o w) (ho:1≤o.length) (ho2:o.length≤1000000)  :
  Fn Tryz.prog 119 [vo,(.func (.func 120) #[] #[(.pointer (some ⟨b1,0,none⟩)),(.pointer (some ⟨b2,0,none⟩))])].toArray w (fun u _=>u=.int .i64 (bestTo (Sf.late l i) o (o.length - 1))):=by
 refine fz Tryz.func119 Z kz Z Z (fun hH=>?_)
 have hd:(o.drop 1).length=o.length - 1:=List.length_drop
 refine zr (oA hH Z (zs (oM hH Z (oY hH (zN T.yE Z Z (hO.now hH (n:=0) Z).is om) (oY hH (zC T.yB Z (fun _ hw=>Rd.at (hO.now hw (n:=0) Z) (i:=0) om (j:=0) Z)) (oA hH Z (zt (seq (zr (oM hH Z (oY hH (vP T.yE Z Z (hO.now hH (n:=0) Z).is om) (oY hH (zX T.yE Z (Rd.from (hO.now hH (n:=0) Z) (lo:=1) om).is) (oM hH Z (zt ?_))))))))))))))
 refine block (loop (S:=Nat) (fun k=>[(14,(.int .i64 (k:Int))),(5,(.int .i64 (bestTo (Sf.late l i) o k))),(1,(.func (.func 120) #[] #[(.pointer (some ⟨b1,0,none⟩)),(.pointer (some ⟨b2,0,none⟩))])),(4,(.int .i64 0)),(12,(cutv vo 1 1 o.length)),(13,(.int .i64 ((o.drop 1).length:Int)))]) (fun k w1=>Heap [base w] w1∧k≤(o.drop 1).length) (fun k=>(o.drop 1).length - k) (0) (uC Z (uC Z (uC Z (uC Z (uC Z (uC Z (Sub.nil _))))))) ?_ ?_)
 ·exact ⟨hH,om⟩
 rintro k w1 ⟨hH2,hk⟩
 refine zr (oY hH2 (yF Z Z) (zt (seq ?_)))
 by_cases hc3:(k:Int)<((o.drop 1).length:Int)
 ·refine zP Z (dT hc3) (skip (zJ (seq (block (zr (oY hH2 (zN T.yE Z Z (Rd.from (hO.now hH2 (n:=0) Z) (lo:=1) om).is om) (oY hH2 (zC T.yB Z (fun _ hw=>Rd.at (Rd.from (hO.now hw (n:=0) Z) (lo:=1) om) (i:=(k:Int)) om (j:=0) Z)) (oA hH2 Z (zs (oM hH2 Z (oM hH2 Z (oM hH2 Z (zS Z Z Z hH2 (c97 (kb.now hH2 (n:=0) Z) (by first | omega | assumption | (simp only [List.length_set,List.length_replicate]; done) | (simp only [List.length_set]; omega)) (h0.now hH2 (n:=0) Z) om om (k1.now hH2 (n:=0) Z) (k2.now hH2 (n:=0) Z)) (fun w4 hH5=>(zt ?_)))))))))))))))
  by_cases hc6:Sf.late l i (nth (o.drop 1) (k:Int)) (bestTo (Sf.late l i) o k)=true
  ·have hp:Sf.late l i (nth (o.drop 1) (k:Int)) (bestTo (Sf.late l i) o k)=true:=hc6
   refine zP Z hc6 (region (oM hH5 Z (oA hH5 Z (zE (yC (zJ (region (oY hH5 (zU Z Z om) (oM hH5 Z (zE (yX (k+1) (uC Z (Sub.cons (by first | (rw [kO hp]; rfl) | (rw [kP hp]; rfl)) (uC Z (uC Z (uC Z (uC Z (Sub.nil _))))))) (⟨hH5,om⟩) om3)))))))))))
  have hp:Sf.late l i (nth (o.drop 1) (k:Int)) (bestTo (Sf.late l i) o k)=false:=(Bool.eq_false_iff.2 hc6)
  refine zM Z (Bool.eq_false_iff.2 hc6) (skip (yC (zJ (region (oY hH5 (zU Z Z om) (oM hH5 Z (zE (yX (k+1) (uC Z (Sub.cons (by first | (rw [kO hp]; rfl) | (rw [kP hp]; rfl)) (uC Z (uC Z (uC Z (uC Z (Sub.nil _))))))) (⟨hH5,om⟩) om3))))))))
 refine zM Z (dF hc3) (exit (yR (xH (zW (zu (oM hH2 Z (oA hH2 Z (zt (ret (fin hH2 (fun w' hf=>(yI Z (rt Z))) (fun w' hf=>?_)))))))))))
 have hk2:k=o.length - 1:=by omega
 subst hk2; rfl
end Go.Fip
namespace Go.Fip
open Go.Proofs Go.RowKit
theorem c35 {bb mb:Nat} {room:Int} {v:Value} {C:List Int} {w:World} (kb:Bx bb 138 (seg [.int .i64 room,v] C [.map (some mb)]) w) (hC:C.length=9) {l:List Int} (h0:Rd encI 1 v l w) (hn:l.length≤16) {rule:Int} (hr:1≤room∧room≤6)  :
  Fn Tryz.prog 55 [(.pointer (some ⟨bb,0,none⟩)),(.int .i64 rule)].toArray w (fun u w=>∃ p q,u=.tuple #[p,q]∧Own 3 1 encI p (Sf.runTo room rule l l.length).out w∧Own 3 1 encI q (Sf.runTo room rule l l.length).mis w):=by
 refine fz Tryz.func55 Z kz Z Z (fun hH=>(zr (oA hH Z (oA hH Z (zt (scope (zr (oA hH Z (oA hH Z (oA hH Z (zs (oM hH Z (oY hH (x7 Z Z) (xG (z:=(.nilFunc)) (fun _=>by kernel_rfl) Z Z hH (fun b1 w2 hH3=>(yS (n:=0) (j:=0) (us:=[(.func (.func 117) #[(.pointer (some ⟨bb,0,none⟩))] #[])]) Z Z hH3 Z T.V7 Z Z Z (by rfl) (fun w4 hH5=>(zE ?_))))))))))))))))))
 refine zJ (seq (label (zJ (seq (zr (oM hH5 Z (oY hH5 (z6 Z) (oY hH5 (zD T.v6 Z) (oY hH5 (zD T.vC Z) (oY hH5 (yD T.xL Z (by rfl) Z (fun _ hw=>(kb.now hw (n:=1) Z))) (oY hH5 (zX T.yE Z (h0.now hH5 (n:=1) Z).is) (oM hH5 Z (zt (block ?_))))))))))))))
 have hH8:=vJ (enc:=encI) 3 1 (vJ (enc:=encI) 3 1 (vJ (enc:=encI) 3 1 hH5))
 refine loop (S:=Nat×Value×Nat×Nat×Value×Nat×Nat×Value×Nat×Nat) (fun (k,v_6,lo_6,hi_6,v_7,lo_7,hi_7,v_8,lo_8,hi_8)=>[(22,(.int .i64 (k:Int))),(6,v_6),(7,v_7),(8,v_8),(0,(.pointer (some ⟨bb,0,none⟩))),(1,(.int .i64 rule)),(4,(.slice none 0 0)),(5,(.slice none 0 0)),(9,(.pointer (some ⟨b1,0,none⟩))),(20,v),(21,(.int .i64 (l.length:Int)))]) (fun (k,v_6,lo_6,hi_6,v_7,lo_7,hi_7,v_8,lo_8,hi_8) w1=>Heap [ow lo_8 hi_8 3 1 encI v_8 ((Sf.runTo room rule l k).on),ow lo_7 hi_7 3 1 encI v_7 ((Sf.runTo room rule l k).mis),ow lo_6 hi_6 3 1 encI v_6 ((Sf.runTo room rule l k).out),bx b1 133 [(.func (.func 117) #[(.pointer (some ⟨bb,0,none⟩))] #[])],base w] w1∧k≤l.length) (fun (k,v_6,lo_6,hi_6,v_7,lo_7,hi_7,v_8,lo_8,hi_8)=>l.length - k) (0,(.slice none 0 0),w4.heap.size,w4.heap.size,(.slice none 0 0),w4.heap.size,w4.heap.size,(.slice none 0 0),w4.heap.size,w4.heap.size) (uC Z (uC Z (uC Z (uC Z (uC Z (uC Z (uC Z (uC Z (uC Z (uC Z (uC Z (Sub.nil _)))))))))))) ?_ ?_
 ·exact ⟨(Heap.recast (n:=0) (Heap.recast (n:=1) (Heap.recast (n:=2) hH8 Z (Z)) Z (Z)) Z (Z)),om⟩
 rintro ⟨k,v_6,lo_6,hi_6,v_7,lo_7,hi_7,v_8,lo_8,hi_8⟩ w9 ⟨hH10,hk⟩
 obtain ⟨hl1,hl2,hl3⟩:=Sf.run_len (room:=room) (rule:=rule) (l:=l) hr.1 k
 refine zr (oY hH10 (yF Z Z) (zt (seq ?_)))
 by_cases hc11:(k:Int)<(l.length:Int)
 ·refine zP Z (dT hc11) (skip (zJ (seq (block (zr (oM hH10 Z (oY hH10 (zN T.yE Z Z (h0.now hH10 (n:=4) Z).is om) (oY hH10 (zC T.yB Z (fun _ hw=>Rd.at (h0.now hw (n:=4) Z) (i:=(k:Int)) om (j:=0) Z)) (xG (z:=(.int .i64 0)) (fun _=>by kernel_rfl) Z Z hH10 (fun b12 w13 hH14=>(yS (n:=0) (j:=0) Z Z hH14 Z T.sz3 Z Z Z (by rfl) (fun w15 hH16=>(oA hH16 Z (zt (seq (seq ?_))))))))))))))))
  have hpl:=S.place_lt (Sf.runTo room rule l k).on (nth l (k:Int))
  refine region (oM hH16 Z (oM hH16 Z (zS Z Z Z hH16 (c93 (Heap.yU T.zA hH16 (n:=1) Z) om) (fun w17 hH18=>(oA hH18 Z (zs (oM hH18 Z (oY hH18 (vK Z Z) (zt ?_)))))))))
  by_cases hc19:0≤(S.place ((Sf.runTo room rule l k).on) (nth l (k:Int)))
  ·have hat:0≤(S.place (Sf.runTo room rule l k).on (nth l (k:Int))):=by omega
   refine zP Z (dT hc19) (seq (zr (oM hH18 Z (oY hH18 (xJ Z Z) (zt ?_)))))
   by_cases hc20:rule=2
   ·have hr2:rule=2:=by omega
    have htd:((Sf.runTo room rule l k).on.take (S.place (Sf.runTo room rule l k).on (nth l (k:Int))).toNat).length=(S.place (Sf.runTo room rule l k).on (nth l (k:Int))).toNat:=by rw [List.length_take]; omega
    have hdd:((Sf.runTo room rule l k).on.drop ((S.place (Sf.runTo room rule l k).on (nth l (k:Int))).toNat+1)).length=(Sf.runTo room rule l k).on.length - ((S.place (Sf.runTo room rule l k).on (nth l (k:Int))).toNat+1):=List.length_drop
    refine zP Z (dT hc20) (region (oM hH18 Z (oY hH18 (xC (show (S.place (Sf.runTo room rule l k).on (nth l (k:Int)))=(((S.place (Sf.runTo room rule l k).on (nth l (k:Int))).toNat:Nat):Int) by omega) (y8 Z)) (oM hH18 Z (oY hH18 (xC (show (S.place (Sf.runTo room rule l k).on (nth l (k:Int)))+1=(((S.place (Sf.runTo room rule l k).on (nth l (k:Int))).toNat+1:Nat):Int) by omega) (zU Z Z om)) ?_)))))
    obtain ⟨g21,hgb22,hgl23⟩:=Ow.blk (show Ow _ _ _ _ _ _ _ _ from hH18.get (n:=1) rfl) (by first | assumption | omega)
    refine uS (g:=g21) (n:=1) Z Z Z hH18 Z hgl23 ((c94 (i:=(S.place (Sf.runTo room rule l k).on (nth l (k:Int))).toNat) (j:=((S.place (Sf.runTo room rule l k).on (nth l (k:Int))).toNat+1)) (Heap.own hH18 (n:=1) Z) hgb22 om om om)) (fun u26 w24 hH25 hv27=>?_)
    have hH28:=Heap.vX hH25 (n:=1) Z
    refine oM hH28 Z (yJ T.zA [nth l (k:Int)] Z (fun w=>by kernel_rfl) hH28 (fun u29 lo31 hi32 w30 hH33=>(yG (n:=2) T.zA Z Z Z hH33 Z (Heap.yU T.zA hH33 (n:=0) Z) (by first | omega | (simp only [List.length_append,List.length_cons,List.length_nil]; omega)) (fun u34 lo36 hi37 w35 hH38=>(oA hH38 Z (zs (oM hH38 Z (yJ T.zA [0] Z (fun w=>by kernel_rfl) hH38 (fun u39 lo41 hi42 w40 hH43=>(yG (n:=5) T.zA Z Z Z hH43 Z (Heap.yU T.zA hH43 (n:=0) Z) (by first | omega | (simp only [List.length_append,List.length_cons,List.length_nil]; omega)) (fun u44 lo46 hi47 w45 hH48=>(oA hH48 Z (zt (exit (yR (zW (zJ (region (oY hH48 (zU Z Z om) (oM hH48 Z (zE ?_)))))))))))))))))))))
    refine yX (k+1,u44,lo46,hi47,v_7,lo_7,hi_7,u34,lo36,hi37) (uC Z (uC Z (uC Z (uC Z (uC Z (uC Z (uC Z (uC Z (uC Z (uC Z (uC Z (Sub.nil _)))))))))))) (⟨(Heap.recast (n:=0) (Heap.recast (n:=1) (Heap.recast (n:=2) (hH48.sub (sC (sC (sC sR)))) Z (by first | (rw [Sf.run_hit2 hat hr2]; done) | (rw [Sf.run_hit hat hr2]; done) | (rw [Sf.run_room hna hnf]; done) | (rw [Ps.sorted_len, ← Sf.off_3 hr3, ← Sf.rest_3 hr3,Sf.run_full hna hf]; done) | (rw [Ps.sorted_len, ← Sf.off_3 hr3,Sf.run_full hna hf]; done) | (rw [← Sf.off_n hr3 (l:=l) (i:=(k:Int)), ← Sf.rest_n hr3,Sf.run_full hna hf]; done) | (rw [← Sf.off_n hr3 (l:=l) (i:=(k:Int)),Sf.run_full hna hf]; done) | (rw [Sf.run_full hna hf]; done))) Z (by first | (rw [Sf.run_hit2 hat hr2]; done) | (rw [Sf.run_hit hat hr2]; done) | (rw [Sf.run_room hna hnf]; done) | (rw [Ps.sorted_len, ← Sf.off_3 hr3, ← Sf.rest_3 hr3,Sf.run_full hna hf]; done) | (rw [Ps.sorted_len, ← Sf.off_3 hr3,Sf.run_full hna hf]; done) | (rw [← Sf.off_n hr3 (l:=l) (i:=(k:Int)), ← Sf.rest_n hr3,Sf.run_full hna hf]; done) | (rw [← Sf.off_n hr3 (l:=l) (i:=(k:Int)),Sf.run_full hna hf]; done) | (rw [Sf.run_full hna hf]; done))) Z (by first | (rw [Sf.run_hit2 hat hr2]; done) | (rw [Sf.run_hit hat hr2]; done) | (rw [Sf.run_room hna hnf]; done) | (rw [Ps.sorted_len, ← Sf.off_3 hr3, ← Sf.rest_3 hr3,Sf.run_full hna hf]; done) | (rw [Ps.sorted_len, ← Sf.off_3 hr3,Sf.run_full hna hf]; done) | (rw [← Sf.off_n hr3 (l:=l) (i:=(k:Int)), ← Sf.rest_n hr3,Sf.run_full hna hf]; done) | (rw [← Sf.off_n hr3 (l:=l) (i:=(k:Int)),Sf.run_full hna hf]; done) | (rw [Sf.run_full hna hf]; done))),om⟩) om3
   have hr2:¬ rule=2:=by omega
   refine zM Z (dF hc20) (skip (zu (oM hH18 Z (yJ T.zA [0] Z (fun w=>by kernel_rfl) hH18 (fun u50 lo52 hi53 w51 hH54=>(yG (n:=4) T.zA Z Z Z hH54 Z (Heap.yU T.zA hH54 (n:=0) Z) (by first | omega | (simp only [List.length_append,List.length_cons,List.length_nil]; omega)) (fun u55 lo57 hi58 w56 hH59=>(oA hH59 Z (zt (exit (yR (zW (zJ (region (oY hH59 (zU Z Z om) (oM hH59 Z (zE (yX (k+1,u55,lo57,hi58,v_7,lo_7,hi_7,v_8,lo_8,hi_8) (uC Z (uC Z (uC Z (uC Z (uC Z (uC Z (uC Z (uC Z (uC Z (uC Z (uC Z (Sub.nil _)))))))))))) (⟨(Heap.recast (n:=0) (Heap.recast (n:=1) (Heap.recast (n:=2) (hH59.sub (sC (sC sR))) Z (by first | (rw [Sf.run_hit2 hat hr2]; done) | (rw [Sf.run_hit hat hr2]; done) | (rw [Sf.run_room hna hnf]; done) | (rw [Ps.sorted_len, ← Sf.off_3 hr3, ← Sf.rest_3 hr3,Sf.run_full hna hf]; done) | (rw [Ps.sorted_len, ← Sf.off_3 hr3,Sf.run_full hna hf]; done) | (rw [← Sf.off_n hr3 (l:=l) (i:=(k:Int)), ← Sf.rest_n hr3,Sf.run_full hna hf]; done) | (rw [← Sf.off_n hr3 (l:=l) (i:=(k:Int)),Sf.run_full hna hf]; done) | (rw [Sf.run_full hna hf]; done))) Z (by first | (rw [Sf.run_hit2 hat hr2]; done) | (rw [Sf.run_hit hat hr2]; done) | (rw [Sf.run_room hna hnf]; done) | (rw [Ps.sorted_len, ← Sf.off_3 hr3, ← Sf.rest_3 hr3,Sf.run_full hna hf]; done) | (rw [Ps.sorted_len, ← Sf.off_3 hr3,Sf.run_full hna hf]; done) | (rw [← Sf.off_n hr3 (l:=l) (i:=(k:Int)), ← Sf.rest_n hr3,Sf.run_full hna hf]; done) | (rw [← Sf.off_n hr3 (l:=l) (i:=(k:Int)),Sf.run_full hna hf]; done) | (rw [Sf.run_full hna hf]; done))) Z (by first | (rw [Sf.run_hit2 hat hr2]; done) | (rw [Sf.run_hit hat hr2]; done) | (rw [Sf.run_room hna hnf]; done) | (rw [Ps.sorted_len, ← Sf.off_3 hr3, ← Sf.rest_3 hr3,Sf.run_full hna hf]; done) | (rw [Ps.sorted_len, ← Sf.off_3 hr3,Sf.run_full hna hf]; done) | (rw [← Sf.off_n hr3 (l:=l) (i:=(k:Int)), ← Sf.rest_n hr3,Sf.run_full hna hf]; done) | (rw [← Sf.off_n hr3 (l:=l) (i:=(k:Int)),Sf.run_full hna hf]; done) | (rw [Sf.run_full hna hf]; done))),om⟩) om3))))))))))))))))))
  have hna:¬ 0≤(S.place (Sf.runTo room rule l k).on (nth l (k:Int))):=by omega
  refine zM Z (dF hc19) (skip (zu (oM hH18 Z (oY hH18 (zC T.yB Z (cw (n:=0) Z Z)) (yJ T.zA [(k:Int)] Z (fun w=>by kernel_rfl) hH18 (fun u61 lo63 hi64 w62 hH65=>(yG (n:=3) T.zA Z Z Z hH65 Z (Heap.yU T.zA hH65 (n:=0) Z) (by first | omega | (simp only [List.length_append,List.length_cons,List.length_nil]; omega)) (fun u66 lo68 hi69 w67 hH70=>(oA hH70 Z (zs (xG (z:=(.int .i64 0)) (fun _=>by kernel_rfl) Z Z hH70 (fun b71 w72 hH73=>(yS (n:=0) (j:=0) Z Z hH73 Z T.sz3 Z Z Z (by rfl) (fun w74 hH75=>(zt (seq (zr (oM hH75 Z ?_))))))))))))))))))
  refine oY hH75 (zX T.yE Z (Heap.yU T.zA hH75 (n:=3) Z).is) (oM hH75 Z (oY hH75 (z6 Z) (oY hH75 (zD T.v6 Z) (oY hH75 (zD T.q6 Z) (oY hH75 (yD T.yB Z (by rfl) Z (fun _ hw=>(kb.now hw (n:=7) Z))) (oY hH75 (xJ Z Z) (zt ?_)))))))
  by_cases hc76:(((Sf.runTo room rule l k).on).length:Int)=room
  ·have hf:((Sf.runTo room rule l k).on.length:Int)=room:=by omega
   refine zP Z (dT hc76) (zr (oM hH75 Z (oY hH75 (zN T.yE Z Z (Heap.yU T.zA hH75 (n:=3) Z).is om) (oY hH75 (zC T.yB Z (fun _ hw=>Rd.at (Heap.yU T.zA hw (n:=3) Z) (i:=0) om (j:=0) Z)) (yS (n:=0) (j:=0) Z Z hH75 Z T.sz3 Z Z Z (by rfl) (fun w77 hH78=>(zt (seq (zr (oM hH78 Z (oY hH78 (xJ Z Z) (zt ?_))))))))))))
   by_cases hc79:rule=3
   ·have hr3:rule=3:=by omega
    have hsl:(Ps.sorted (fun x y:Int=>decide (x<y)) (Sf.runTo room rule l k).on).length=(Sf.runTo room rule l k).on.length:=Ps.sorted_len
    refine zP Z (dT hc79) (zr (oM hH78 Z ?_))
    obtain ⟨g80,hgb81,hgl82⟩:=Ow.blk (show Ow _ _ _ _ _ _ _ _ from hH78.get (n:=3) rfl) (by first | assumption | omega | (simp; done) | decide)
    refine uS (g:=g80) (n:=3) Z Z Z hH78 Z hgl82 (c95 (Heap.own hH78 (n:=3) Z) hgb81 (by first | omega | (simp; done)) (by first | omega | (simp; done))) (fun u85 w83 hH84 hv86=>?_)
    obtain ⟨rfl, -⟩:=hv86
    have hH87:=Heap.vX (Heap.weaken hH84 (n:=3) Z (φ:=Own 3 1 encI v_8 (Ps.sorted (fun x y:Int=>decide (x<y)) ((Sf.runTo room rule l k).on))) (fun w' h=>h.2)) (n:=3) (by rfl)
    refine zq (oM hH87 Z (oY hH87 (x7 Z Z) (zS Z Z Z hH87 (c96 (kb.now hH87 (n:=7) Z) (by first | omega | assumption | (simp only [List.length_set,List.length_replicate]; done) | (simp only [List.length_set]; omega)) (h0.now hH87 (n:=7) Z) om om (Heap.vY hH87 (n:=6) Z) (Heap.vY hH87 (n:=2) Z) (Heap.yU T.zA hH87 (n:=3) Z) (by first | omega | (rw [Ps.sorted_len]; omega)) (by first | omega | (rw [Ps.sorted_len]; omega))) (fun w88 hH89=>(yS (n:=0) (j:=0) Z Z hH89 Z T.sz3 Z Z Z (by rfl) (fun w90 hH91=>(zq (oM hH91 Z (oY hH91 (x7 Z Z) ?_)))))))))
    obtain ⟨g92,hgb93,hgl94⟩:=Ow.blk (show Ow _ _ _ _ _ _ _ _ from hH91.get (n:=3) rfl) (by first | assumption | omega)
    refine uS (g:=g92) (n:=3) Z Z Z hH91 Z hgl94 (V1 (Heap.own hH91 (n:=3) Z) hgb93 (Heap.vY hH91 (n:=0) Z) (Heap.ne hH91 (n:=3) (m:=0) Z Z hgl94 (by decide)) om) (fun u97 w95 hH96 hv98=>?_)
    have hH99:=Heap.vX hH96 (n:=3) Z
    refine oA hH99 Z (zs (oM hH99 Z (oM hH99 Z (yJ T.zA [nth l (k:Int)] Z (fun w=>by kernel_rfl) hH99 (fun u100 lo102 hi103 w101 hH104=>(yG (n:=4) T.zA Z Z Z hH104 Z (Heap.yU T.zA hH104 (n:=0) Z) (by first | omega | (simp only [List.length_append,List.length_cons,List.length_nil]; omega) | (refine Nat.le_trans (Nat.add_le_add_right (List.length_filter_le _ _) _) ?_; simp only [List.length_cons,List.length_nil]; omega)) (fun u105 lo107 hi108 w106 hH109=>?_)))))))
    refine oA hH109 Z (zq (oM hH109 Z (oY hH109 (zC T.yB Z (cw (n:=1) Z Z)) (yJ T.zA [(bestTo (Sf.late l (k:Int)) (Ps.sorted (fun x y:Int=>decide (x<y)) ((Sf.runTo room rule l k).on)) ((Ps.sorted (fun x y:Int=>decide (x<y)) ((Sf.runTo room rule l k).on)).length - 1))] Z (fun w=>by kernel_rfl) hH109 (fun u110 lo112 hi113 w111 hH114=>(yG (n:=7) T.zA Z Z Z hH114 Z (Heap.yU T.zA hH114 (n:=0) Z) (by first | omega | (simp only [List.length_append,List.length_cons,List.length_nil]; omega)) (fun u115 lo117 hi118 w116 hH119=>(oA hH119 Z (zE (yC (zJ (region (oY hH119 (zU Z Z om) (oM hH119 Z (zE (yX (k+1,u115,lo117,hi118,u66,lo68,hi69,u105,lo107,hi108) (uC Z (uC Z (uC Z (uC Z (uC Z (uC Z (uC Z (uC Z (uC Z (uC Z (uC Z (Sub.nil _)))))))))))) (⟨(Heap.recast (n:=0) (Heap.recast (n:=1) (Heap.recast (n:=2) (hH119.sub (sC (sC (sC (sC (sC sR)))))) Z (by first | (rw [Sf.run_hit2 hat hr2]; done) | (rw [Sf.run_hit hat hr2]; done) | (rw [Sf.run_room hna hnf]; done) | (rw [Ps.sorted_len, ← Sf.off_3 hr3, ← Sf.rest_3 hr3,Sf.run_full hna hf]; done) | (rw [Ps.sorted_len, ← Sf.off_3 hr3,Sf.run_full hna hf]; done) | (rw [← Sf.off_n hr3 (l:=l) (i:=(k:Int)), ← Sf.rest_n hr3,Sf.run_full hna hf]; done) | (rw [← Sf.off_n hr3 (l:=l) (i:=(k:Int)),Sf.run_full hna hf]; done) | (rw [Sf.run_full hna hf]; done))) Z (by first | (rw [Sf.run_hit2 hat hr2]; done) | (rw [Sf.run_hit hat hr2]; done) | (rw [Sf.run_room hna hnf]; done) | (rw [Ps.sorted_len, ← Sf.off_3 hr3, ← Sf.rest_3 hr3,Sf.run_full hna hf]; done) | (rw [Ps.sorted_len, ← Sf.off_3 hr3,Sf.run_full hna hf]; done) | (rw [← Sf.off_n hr3 (l:=l) (i:=(k:Int)), ← Sf.rest_n hr3,Sf.run_full hna hf]; done) | (rw [← Sf.off_n hr3 (l:=l) (i:=(k:Int)),Sf.run_full hna hf]; done) | (rw [Sf.run_full hna hf]; done))) Z (by first | (rw [Sf.run_hit2 hat hr2]; done) | (rw [Sf.run_hit hat hr2]; done) | (rw [Sf.run_room hna hnf]; done) | (rw [Ps.sorted_len, ← Sf.off_3 hr3, ← Sf.rest_3 hr3,Sf.run_full hna hf]; done) | (rw [Ps.sorted_len, ← Sf.off_3 hr3,Sf.run_full hna hf]; done) | (rw [← Sf.off_n hr3 (l:=l) (i:=(k:Int)), ← Sf.rest_n hr3,Sf.run_full hna hf]; done) | (rw [← Sf.off_n hr3 (l:=l) (i:=(k:Int)),Sf.run_full hna hf]; done) | (rw [Sf.run_full hna hf]; done))),om⟩) om3))))))))))))))))
   have hr3:¬ rule=3:=by omega
   refine zM Z (dF hc79) (skip (zJ (region (oM hH78 Z (oY hH78 (x7 Z Z) ?_)))))
   obtain ⟨g121,hgb122,hgl123⟩:=Ow.blk (show Ow _ _ _ _ _ _ _ _ from hH78.get (n:=3) rfl) (by first | assumption | omega)
   refine uS (g:=g121) (n:=3) Z Z Z hH78 Z hgl123 (V1 (Heap.own hH78 (n:=3) Z) hgb122 (Heap.vY hH78 (n:=0) Z) (Heap.ne hH78 (n:=3) (m:=0) Z Z hgl123 (by decide)) om) (fun u126 w124 hH125 hv127=>?_)
   have hH128:=Heap.vX hH125 (n:=3) Z
   refine oA hH128 Z (zs (oM hH128 Z (oM hH128 Z (yJ T.zA [nth l (k:Int)] Z (fun w=>by kernel_rfl) hH128 (fun u129 lo131 hi132 w130 hH133=>(yG (n:=4) T.zA Z Z Z hH133 Z (Heap.yU T.zA hH133 (n:=0) Z) (by first | omega | (simp only [List.length_append,List.length_cons,List.length_nil]; omega) | (refine Nat.le_trans (Nat.add_le_add_right (List.length_filter_le _ _) _) ?_; simp only [List.length_cons,List.length_nil]; omega)) (fun u134 lo136 hi137 w135 hH138=>?_)))))))
   refine oA hH138 Z (zq (oM hH138 Z (oY hH138 (zC T.yB Z (cw (n:=1) Z Z)) (yJ T.zA [nth ((Sf.runTo room rule l k).on) 0] Z (fun w=>by kernel_rfl) hH138 (fun u139 lo141 hi142 w140 hH143=>(yG (n:=7) T.zA Z Z Z hH143 Z (Heap.yU T.zA hH143 (n:=0) Z) (by first | omega | (simp only [List.length_append,List.length_cons,List.length_nil]; omega)) (fun u144 lo146 hi147 w145 hH148=>(oA hH148 Z (zE (yC (zJ (region (oY hH148 (zU Z Z om) (oM hH148 Z (zE (yX (k+1,u144,lo146,hi147,u66,lo68,hi69,u134,lo136,hi137) (uC Z (uC Z (uC Z (uC Z (uC Z (uC Z (uC Z (uC Z (uC Z (uC Z (uC Z (Sub.nil _)))))))))))) (⟨(Heap.recast (n:=0) (Heap.recast (n:=1) (Heap.recast (n:=2) (hH148.sub (sC (sC (sC (sC (sC sR)))))) Z (by first | (rw [Sf.run_hit2 hat hr2]; done) | (rw [Sf.run_hit hat hr2]; done) | (rw [Sf.run_room hna hnf]; done) | (rw [Ps.sorted_len, ← Sf.off_3 hr3, ← Sf.rest_3 hr3,Sf.run_full hna hf]; done) | (rw [Ps.sorted_len, ← Sf.off_3 hr3,Sf.run_full hna hf]; done) | (rw [← Sf.off_n hr3 (l:=l) (i:=(k:Int)), ← Sf.rest_n hr3,Sf.run_full hna hf]; done) | (rw [← Sf.off_n hr3 (l:=l) (i:=(k:Int)),Sf.run_full hna hf]; done) | (rw [Sf.run_full hna hf]; done))) Z (by first | (rw [Sf.run_hit2 hat hr2]; done) | (rw [Sf.run_hit hat hr2]; done) | (rw [Sf.run_room hna hnf]; done) | (rw [Ps.sorted_len, ← Sf.off_3 hr3, ← Sf.rest_3 hr3,Sf.run_full hna hf]; done) | (rw [Ps.sorted_len, ← Sf.off_3 hr3,Sf.run_full hna hf]; done) | (rw [← Sf.off_n hr3 (l:=l) (i:=(k:Int)), ← Sf.rest_n hr3,Sf.run_full hna hf]; done) | (rw [← Sf.off_n hr3 (l:=l) (i:=(k:Int)),Sf.run_full hna hf]; done) | (rw [Sf.run_full hna hf]; done))) Z (by first | (rw [Sf.run_hit2 hat hr2]; done) | (rw [Sf.run_hit hat hr2]; done) | (rw [Sf.run_room hna hnf]; done) | (rw [Ps.sorted_len, ← Sf.off_3 hr3, ← Sf.rest_3 hr3,Sf.run_full hna hf]; done) | (rw [Ps.sorted_len, ← Sf.off_3 hr3,Sf.run_full hna hf]; done) | (rw [← Sf.off_n hr3 (l:=l) (i:=(k:Int)), ← Sf.rest_n hr3,Sf.run_full hna hf]; done) | (rw [← Sf.off_n hr3 (l:=l) (i:=(k:Int)),Sf.run_full hna hf]; done) | (rw [Sf.run_full hna hf]; done))),om⟩) om3))))))))))))))))
  have hnf:¬ ((Sf.runTo room rule l k).on.length:Int)=room:=by omega
  refine zM Z (dF hc76) (skip (zu (oM hH75 Z (oM hH75 Z (yJ T.zA [nth l (k:Int)] Z (fun w=>by kernel_rfl) hH75 (fun u150 lo152 hi153 w151 hH154=>(yG (n:=4) T.zA Z Z Z hH154 Z (Heap.yU T.zA hH154 (n:=0) Z) (by first | omega | (simp only [List.length_append,List.length_cons,List.length_nil]; omega) | (refine Nat.le_trans (Nat.add_le_add_right (List.length_filter_le _ _) _) ?_; simp only [List.length_cons,List.length_nil]; omega)) (fun u155 lo157 hi158 w156 hH159=>?_))))))))
  refine oA hH159 Z (zq (oM hH159 Z (oY hH159 (zC T.yB Z (cw (n:=1) Z Z)) (yJ T.zA [0] Z (fun w=>by kernel_rfl) hH159 (fun u160 lo162 hi163 w161 hH164=>(yG (n:=7) T.zA Z Z Z hH164 Z (Heap.yU T.zA hH164 (n:=0) Z) (by first | omega | (simp only [List.length_append,List.length_cons,List.length_nil]; omega)) (fun u165 lo167 hi168 w166 hH169=>(oA hH169 Z (zE (yC (zJ (region (oY hH169 (zU Z Z om) (oM hH169 Z (zE (yX (k+1,u165,lo167,hi168,u66,lo68,hi69,u155,lo157,hi158) (uC Z (uC Z (uC Z (uC Z (uC Z (uC Z (uC Z (uC Z (uC Z (uC Z (uC Z (Sub.nil _)))))))))))) (⟨(Heap.recast (n:=0) (Heap.recast (n:=1) (Heap.recast (n:=2) (hH169.sub (sC (sC (sC (sC (sC sR)))))) Z (by first | (rw [Sf.run_hit2 hat hr2]; done) | (rw [Sf.run_hit hat hr2]; done) | (rw [Sf.run_room hna hnf]; done) | (rw [Ps.sorted_len, ← Sf.off_3 hr3, ← Sf.rest_3 hr3,Sf.run_full hna hf]; done) | (rw [Ps.sorted_len, ← Sf.off_3 hr3,Sf.run_full hna hf]; done) | (rw [← Sf.off_n hr3 (l:=l) (i:=(k:Int)), ← Sf.rest_n hr3,Sf.run_full hna hf]; done) | (rw [← Sf.off_n hr3 (l:=l) (i:=(k:Int)),Sf.run_full hna hf]; done) | (rw [Sf.run_full hna hf]; done))) Z (by first | (rw [Sf.run_hit2 hat hr2]; done) | (rw [Sf.run_hit hat hr2]; done) | (rw [Sf.run_room hna hnf]; done) | (rw [Ps.sorted_len, ← Sf.off_3 hr3, ← Sf.rest_3 hr3,Sf.run_full hna hf]; done) | (rw [Ps.sorted_len, ← Sf.off_3 hr3,Sf.run_full hna hf]; done) | (rw [← Sf.off_n hr3 (l:=l) (i:=(k:Int)), ← Sf.rest_n hr3,Sf.run_full hna hf]; done) | (rw [← Sf.off_n hr3 (l:=l) (i:=(k:Int)),Sf.run_full hna hf]; done) | (rw [Sf.run_full hna hf]; done))) Z (by first | (rw [Sf.run_hit2 hat hr2]; done) | (rw [Sf.run_hit hat hr2]; done) | (rw [Sf.run_room hna hnf]; done) | (rw [Ps.sorted_len, ← Sf.off_3 hr3, ← Sf.rest_3 hr3,Sf.run_full hna hf]; done) | (rw [Ps.sorted_len, ← Sf.off_3 hr3,Sf.run_full hna hf]; done) | (rw [← Sf.off_n hr3 (l:=l) (i:=(k:Int)), ← Sf.rest_n hr3,Sf.run_full hna hf]; done) | (rw [← Sf.off_n hr3 (l:=l) (i:=(k:Int)),Sf.run_full hna hf]; done) | (rw [Sf.run_full hna hf]; done))),om⟩) om3))))))))))))))))
 refine zM Z (dF hc11) (exit (yR (xH (zW (zu (oM hH10 Z (oM hH10 Z (oA hH10 Z (oA hH10 Z (zt (ret (X5 (fin ((hH10.sub (sC (sK (sK (sC sR))))).front (n:=2) Z) (fun w' hf=>(u0 Z (rt Z) (rt Z))) (fun w' hf=>?_))))))))))))))
 have hk2:k=l.length:=by omega
 subst hk2; exact ⟨_,_,rfl,Heap.own hf (n:=1) rfl,Heap.own hf (n:=0) rfl⟩
end Go.Fip
namespace Go.Fip
open Go.Proofs Go.RowKit
theorem WS {v:Value} {l:List Int} {room:Int} {w:World} (h0:Rd encI 1 v l w) (hn:l.length≤1000000) {rule:Int} (hc:Sf.ck room l=0) (hr:1≤rule∧rule≤3)  :
  Fn Tryz.prog 21 [(.agg #[(.int .i64 room),v]),(.int .i64 rule)].toArray w (fun u w=>∃ q,u=.tuple #[q,.int .i64 0]∧Own 3 1 encI q (Sf.runTo room rule l l.length).mis w):=by
 refine fz Tryz.func21 Z kz Z Z (fun hH=>?_)
 have hday:=Sf.ck_iff.1 hc
 have hd1:=hday.r1
 have hd2:=hday.r2
 have hd3:=hday.n
 obtain ⟨hl1,hl2,hl3⟩:=Sf.run_len (room:=room) (rule:=rule) (l:=l) hd1 l.length
 have hrp:(List.replicate ((((Sf.runTo room rule l l.length).mis.length:Nat):Int)).toNat (0:Int)).length=(Sf.runTo room rule l l.length).mis.length:=by simp
 refine zr (yM Z Z Z hH (fun b1 w2 hH3=>(oA hH3 Z (oA hH3 Z (zs (oY hH3 (zZ (cs:=[(.int .i64 room),v]) T.vW Z Z (fun _ hw=>Heap.yQ hw (n:=0) Z (k:=0) Z)) (oM hH3 Z (xR Z Z Z hH3 (WL (rule:=rule) (h0.now hH3 (n:=1) Z) om hc hr) (fun u6 w4 lo7 hi8 hH5 hv9=>?_)))))))))
 obtain ⟨bbD11,hu,hrowD11⟩:=hv9
 subst hu
 obtain ⟨mbD11,mmD11,hfullD11,hH10⟩:=Heap.VH hH5 (n:=0) rfl (fun w' h=>by obtain ⟨rb',e,h⟩:=h; cases e; exact h)
 refine oM hH10 Z (oY hH10 (zQ Z Z) (oY hH10 (zQ Z Z) (oA hH10 Z (oA hH10 Z (zt (seq (zr (oM hH10 Z (oY hH10 (yT Z Z) (zt (zM Z Z (skip (zu (oM hH10 Z (oM hH10 Z (xR Z Z Z hH10 (c35 (rule:=rule) (Heap.vY hH10 (n:=1) Z) (by first | omega | assumption | (simp only [List.length_set,List.length_replicate]; done) | (simp only [List.length_set]; omega)) (h0.now hH10 (n:=3) Z) om ⟨om,om⟩) (fun u14 w12 lo15 hi16 hH13 hv17=>?_)))))))))))))))))
 obtain ⟨pR18,qR18,hu, -, -⟩:=hv17
 subst hu
 have hH20:=Heap.vX (Heap.weaken hH13 (n:=0) Z (φ:=Own 3 1 encI qR18 (Sf.runTo room rule l l.length).mis) (fun w' h=>by obtain ⟨p',q',e,h1,h2⟩:=h; cases e; exact h2)) (n:=0) (by rfl)
 refine oM hH20 Z (oY hH20 (zQ Z Z) (oY hH20 (zQ Z Z) (oA hH20 Z (oA hH20 Z (zs (oM hH20 Z (oY hH20 (zX T.yE Z (Heap.yU T.zA hH20 (n:=0) Z).is) (YX T.zA (0:Int) T.vO Z Z Z hH20 om om (fun u21 lo23 hi24 w22 hH25=>(oA hH25 Z (zs (oM hH25 Z (oM hH25 Z (XN (n:=0) T.zA Z Z Z hH25 Z (Heap.yU T.zA hH25 (n:=1) Z) om (fun w26 hH27=>(zt ?_))))))))))))))))
 refine zr (oM hH27 Z (oA hH27 Z (oA hH27 Z (zt (ret (fin ((hH27.sub (sK (sC (sC (sC (sC sR)))))).front (n:=1) Z) (fun w' hf=>(u0 Z (rt Z) (rt Z))) (fun w' hf=>?_)))))))
 exact ⟨_,Z,by have h:=Heap.own hf (n:=0) rfl; simpa using h⟩
theorem WQ {v:Value} {l:List Int} {room:Int} {w:World} (h0:Rd encI 1 v l w) (hn:l.length≤1000000) {rule:Int} (hc:¬ Sf.ck room l=0)  :
  Fn Tryz.prog 21 [(.agg #[(.int .i64 room),v]),(.int .i64 rule)].toArray w (fun u _=>u=.tuple #[.slice none 0 0,.int .i64 (Sf.ck room l)]):=by
 refine fz Tryz.func21 Z kz Z Z (fun hH=>(zr (yM Z Z Z hH (fun b1 w2 hH3=>(oA hH3 Z (oA hH3 Z (zs (oY hH3 (zZ (cs:=[(.int .i64 room),v]) T.vW Z Z (fun _ hw=>Heap.yQ hw (n:=0) Z (k:=0) Z)) (oM hH3 Z (zS Z Z Z hH3 (WT (rule:=rule) (h0.now hH3 (n:=1) Z) om hc) (fun w4 hH5=>(oM hH5 Z (oY hH5 (zQ Z Z) (oY hH5 (zQ Z Z) (oA hH5 Z (oA hH5 Z (zt (seq (seq ?_)))))))))))))))))))
 refine region (oM hH5 Z (oY hH5 (yT Z Z) (zt ?_)))
 have hc6:¬ ((Sf.ck room l)=0):=hc
 refine zP Z (zG hc6) (zr (oM hH5 Z (oA hH5 Z (oA hH5 Z (zt (ret (yP (fin (hH5.sub (sC sR)) (fun w' hf=>(u0 Z (rt Z) (rt Z))) (fun w' hf=>Z)))))))))
end Go.Fip
namespace Go.Fip
open Go.Proofs Go.RowKit
def Sf.fewest (room:Int) (l:List Int):Int×Int:=if Sf.ck room l=0 then (((Sf.runTo room 3 l l.length).mis.length:Int),0) else (0,Sf.ck room l)
theorem Sf.fewest_t {room:Int} {l:List Int} (h:Sf.ck room l=0):Sf.fewest room l=(((Sf.runTo room 3 l l.length).mis.length:Int),0):=if_pos h
theorem Sf.fewest_f {room:Int} {l:List Int} (h:¬ Sf.ck room l=0):Sf.fewest room l=(0,Sf.ck room l):=if_neg h
theorem WH {v:Value} {l:List Int} {room:Int} {w:World} (h0:Rd encI 1 v l w) (hn:l.length≤1000000) (hc:Sf.ck room l=0)  :
  Fn Tryz.prog 10 [(.agg #[(.int .i64 room),v])].toArray w (fun u _=>u=.tuple #[.int .i64 (Sf.fewest room l).1,.int .i64 (Sf.fewest room l).2]):=by
 refine fz Tryz.func10 Z kz Z Z (fun hH=>?_)
 obtain ⟨hl1,hl2,hl3⟩:=Sf.run_len (room:=room) (rule:=3) (l:=l) (Sf.ck_iff.1 hc).r1 l.length
 refine zr (yM Z Z Z hH (fun b1 w2 hH3=>(oA hH3 Z (oA hH3 Z (zs (oY hH3 (zZ (cs:=[(.int .i64 room),v]) T.vW Z Z (fun _ hw=>Heap.yQ hw (n:=0) Z (k:=0) Z)) (xR Z Z Z hH3 (WS (rule:=3) (h0.now hH3 (n:=1) Z) om hc (by decide)) (fun u6 w4 lo7 hi8 hH5 hv9=>?_))))))))
 obtain ⟨pR10,hu, -⟩:=hv9
 subst hu
 have hH12:=Heap.vX (Heap.weaken hH5 (n:=0) Z (φ:=Own 3 1 encI pR10 (Sf.runTo room 3 l l.length).mis) (fun w' h=>by obtain ⟨p',e,h1⟩:=h; cases e; exact h1)) (n:=0) (by rfl)
 refine oM hH12 Z (oY hH12 (zQ Z Z) (oY hH12 (zQ Z Z) (oA hH12 Z (oA hH12 Z (zs (oM hH12 Z (oY hH12 (zX T.yE Z (Heap.yU T.zA hH12 (n:=0) Z).is) (oM hH12 Z (oA hH12 Z (oA hH12 Z (zt (ret (fin (hH12.sub (sC (sC sR))) (fun w' hf=>(u0 Z (rt Z) (rt Z))) (fun w' hf=>?_))))))))))))))
 rw [Sf.fewest_t hc]; rfl
theorem WG {v:Value} {l:List Int} {room:Int} {w:World} (h0:Rd encI 1 v l w) (hn:l.length≤1000000) (hc:¬ Sf.ck room l=0)  :
  Fn Tryz.prog 10 [(.agg #[(.int .i64 room),v])].toArray w (fun u _=>u=.tuple #[.int .i64 (Sf.fewest room l).1,.int .i64 (Sf.fewest room l).2]):=by
 refine fz Tryz.func10 Z kz Z Z (fun hH=>(zr (yM Z Z Z hH (fun b1 w2 hH3=>(oA hH3 Z (oA hH3 Z (zs (oY hH3 (zZ (cs:=[(.int .i64 room),v]) T.vW Z Z (fun _ hw=>Heap.yQ hw (n:=0) Z (k:=0) Z)) (zS Z Z Z hH3 (WQ (rule:=3) (h0.now hH3 (n:=1) Z) om hc) (fun w4 hH5=>(oM hH5 Z (oY hH5 (zQ Z Z) (oY hH5 (zQ Z Z) (oA hH5 Z (oA hH5 Z (zs (oM hH5 Z ?_)))))))))))))))))
 refine oY hH5 (zX (n:=0) T.yE Z ⟨none,0,Z,Nat.le_refl _,.inl ⟨Z,Z⟩⟩) (oM hH5 Z (oA hH5 Z (oA hH5 Z (zt (ret (fin (hH5.sub (sC sR)) (fun w' hf=>(u0 Z (rt Z) (rt Z))) (fun w' hf=>?_)))))))
 rw [Sf.fewest_f hc]; rfl
theorem c15 {v:Value} {l:List Int} {room:Int} {w:World} (h0:Rd encI 1 v l w) (hn:l.length≤1000000):Fn Tryz.prog 10 [(.agg #[(.int .i64 room),v])].toArray w (fun u _=>u=.tuple #[.int .i64 (Sf.fewest room l).1,.int .i64 (Sf.fewest room l).2]):=by
 by_cases hc:Sf.ck room l=0
 ·exact WH h0 hn hc
 ·exact WG h0 hn hc
end Go.Fip
namespace Go.Fip
namespace Tn
abbrev Pr:=Int×Int
def okP (n:Int) (p:Pr):Prop:=(0≤p.1∧p.1<n)∧0≤p.2∧p.2<n
instance (n:Int) (p:Pr):Decidable (okP n p):=inferInstanceAs (Decidable (_∧_))
structure Book (n:Int) (sl:List Pr):Prop where
 n1:1≤n
 n8:n≤8
 l1:1≤sl.length
 l14:sl.length≤14
 ok:∀ i:Nat,i<sl.length→okP n (nth sl (i:Int))
def ck (n:Int) (sl:List Pr):Int:=if ¬ ((1≤n∧n≤8)∧1≤sl.length∧sl.length≤14) then 6 else if ∀ i:Nat,i<sl.length→okP n (nth sl (i:Int)) then 0 else 2
theorem ck1 {n:Int} {sl:List Pr} (h:¬ ((1≤n∧n≤8)∧1≤sl.length∧sl.length≤14)):6=ck n sl:=by unfold ck; rw [if_pos h]
theorem ck2 {n:Int} {sl:List Pr} (h:(1≤n∧n≤8)∧1≤sl.length∧sl.length≤14) (h2:¬ ∀ i:Nat,i<sl.length→okP n (nth sl (i:Int))):2=ck n sl:=by unfold ck; rw [if_neg (fun hh=>hh h),if_neg h2]
theorem ck3 {n:Int} {sl:List Pr} (h:(1≤n∧n≤8)∧1≤sl.length∧sl.length≤14) (h2:∀ i:Nat,i<sl.length→okP n (nth sl (i:Int))):0=ck n sl:=by unfold ck; rw [if_neg (fun hh=>hh h),if_pos h2]
theorem ck_iff {n:Int} {sl:List Pr}:ck n sl=0↔Book n sl:=by
 constructor
 ·intro h
  unfold ck at h
  split at h
  ·cases h
  ·rename_i h1
   split at h
   ·rename_i h2
    have h1:=Decidable.not_not.1 h1
    exact ⟨h1.1.1,h1.1.2,h1.2.1,h1.2.2,h2⟩
   ·cases h
 ·intro h; exact (ck3 ⟨⟨h.n1,h.n8⟩,h.l1,h.l14⟩ h.ok).symm
def YL (C:List Int) (x:Int):List Int:=C.set x.toNat (nth C x+1)
def WI (C:List Int) (x:Int):List Int:=C.set x.toNat (nth C x - 1)
def spTo (sl:List Pr):Nat→List Int
 | 0=>List.replicate 8 0
 | k+1=>WI (YL (spTo sl k) (nth sl (k:Int)).1) (nth sl (k:Int)).2
theorem sp_len (sl:List Pr):∀ k,(spTo sl k).length=8
 | 0=>rfl
 | k+1=>by show ((List.set (List.set _ _ _) _ _).length=8); rw [List.length_set,List.length_set]; exact sp_len sl k
def d1 (x y:Int):Int:=if x=y then 1 else 0
def sur:List Pr→Int→Int
 | [],_=>0
 | p::l,x=>d1 p.1 x - d1 p.2 x+sur l x
theorem qB:∀ (a b:List Pr) (x:Int),sur (a++b) x=sur a x+sur b x
 | [],b,x=>by simp [sur]
 | p::a,b,x=>by
  show d1 p.1 x - d1 p.2 x+sur (a++b) x=d1 p.1 x - d1 p.2 x+sur a x+sur b x
  rw [qB a b x]; omega
theorem kY {C:List Int} {x v y:Int} (hx:0≤x∧x<C.length) (hy:0≤y∧y<C.length):nth (C.set x.toNat v) y=if x=y then v else nth C y:=by
 obtain ⟨i,rfl⟩:∃ i:Nat,x=(i:Int):=⟨x.toNat,by omega⟩
 obtain ⟨j,rfl⟩:∃ j:Nat,y=(j:Int):=⟨y.toNat,by omega⟩
 rw [zO (by rw [List.length_set]; omega),Int.toNat_natCast,List.getElem_set,zO (by omega)]
 by_cases e:i=j
 ·subst e; simp
 ·rw [if_neg e,if_neg (by omega)]
theorem set_bd {C:List Int} {i:Nat} {v m:Int} (h:∀ y, -m≤nth C y∧nth C y≤m) (hv : -m - 1≤v∧v≤m+1):∀ y, -(m+1)≤nth (C.set i v) y∧nth (C.set i v) y≤m+1:=fun y=>by
 have hy:=h y
 unfold nth at hy ⊢
 rw [List.getD_eq_getElem?_getD] at hy ⊢
 rw [List.getElem?_set]
 by_cases e:i=y.toNat
 ·rw [if_pos e]
  by_cases h2:i<C.length
  ·rw [if_pos h2]; simp; omega
  ·rw [if_neg h2]
   rw [List.getElem?_eq_none (by omega)] at hy
   simp only [Option.getD_none] at hy ⊢; omega
 ·rw [if_neg e]; omega
theorem sp_bd (sl:List Pr):∀ (k:Nat) (y:Int), -(2 * k:Int)≤nth (spTo sl k) y∧nth (spTo sl k) y≤2 * k
 | 0,y=>by
  have:nth (spTo sl 0) y=0:=by
   unfold nth spTo
   rw [List.getD_eq_getElem?_getD,List.getElem?_replicate]
   split <;> rfl
  rw [this]; omega
 | k+1,y=>by
  have h0:=sp_bd sl k
  have h1:∀ y, -((2 * k:Int)+1)≤nth (YL (spTo sl k) (nth sl (k:Int)).1) y∧nth (YL (spTo sl k) (nth sl (k:Int)).1) y≤2 * k+1:=set_bd h0 (by have:=h0 (nth sl (k:Int)).1; omega)
  have h2:=set_bd (i:=(nth sl (k:Int)).2.toNat) (v:=nth (YL (spTo sl k) (nth sl (k:Int)).1) (nth sl (k:Int)).2 - 1) h1 (by have:=h1 (nth sl (k:Int)).2; omega) y
  show _≤nth (List.set _ _ _) y∧nth (List.set _ _ _) y≤_
  constructor
  ·have:=h2.1; omega
  ·have:=h2.2; omega
theorem uM {sl:List Pr} {k:Nat} (hk:k<sl.length):sl.take (k+1)=sl.take k++[nth sl (k:Int)]:=by rw [zO hk,List.take_succ_eq_append_getElem hk]
theorem XB {n:Int} {sl:List Pr} (h:∀ i:Nat,i<sl.length→okP n (nth sl (i:Int))) (h8:n≤8) {x:Int} (hx:0≤x∧x<8):∀ k,k≤sl.length→nth (spTo sl k) x=sur (sl.take k) x
 | 0,_=>by
  obtain ⟨i,rfl⟩:∃ i:Nat,x=(i:Int):=⟨x.toNat,by omega⟩
  show nth (List.replicate 8 (0:Int)) _=_
  rw [zO (by simp; omega),List.getElem_replicate]; simp [sur]
 | k+1,hk=>by
  have hp:=h k (by omega)
  have hl:=sp_len sl k
  have hl2:(YL (spTo sl k) (nth sl (k:Int)).1).length=8:=by unfold YL; rw [List.length_set]; exact hl
  have h1:∀ y:Int,0≤y∧y<8→nth (YL (spTo sl k) (nth sl (k:Int)).1) y=if (nth sl (k:Int)).1=y then nth (spTo sl k) (nth sl (k:Int)).1+1 else nth (spTo sl k) y:=fun y hy =>
   kY (by rw [hl]; have:=hp.1; omega) (by rw [hl]; omega)
  show nth (List.set _ _ _) x=_
  rw [kY (by rw [hl2]; have:=hp.2; omega) (by rw [hl2]; omega),h1 _ (by have:=hp.2; omega),h1 x hx,uM (by omega),qB, ← XB h h8 hx k (by omega)]
  simp only [sur,d1]
  by_cases e1:(nth sl (k:Int)).1=x <;> by_cases e2:(nth sl (k:Int)).2=x <;> simp [e1,e2] <;> (try split) <;> simp_all <;> omega
def Shut (sl:List Pr) (C:Int→Prop):Prop:=∀ i:Nat,i<sl.length→(C (nth sl (i:Int)).1↔C (nth sl (i:Int)).2)
structure Comes (n:Int) (sl:List Pr) (from_:Int) (out:List Int):Prop where
 nd:out.Nodup
 inn:∀ x∈out,0≤x∧x<n
 mem:from_∈out
 least:∀ C:Int→Prop,Shut sl C→C from_→∀ x∈out,C x
theorem Comes.start {n:Int} {sl:List Pr} {f:Int} (hf:0≤f∧f<n):Comes n sl f [f] :=
 ⟨by simp,fun x hx=>by rw [List.mem_singleton.1 hx]; exact hf,by simp,fun C _ h x hx=>by rw [List.mem_singleton.1 hx]; exact h⟩
theorem Comes.add {n : Int} {sl : List Pr} {f x y : Int} {out : List Int} (h : Comes n sl f out) (hx : x ∈ out) (hy : y ∉ out) (hn : 0 ≤ y ∧ y < n) (hs : ∀ C : Int → Prop, Shut sl C → (C x ↔ C y)) : Comes n sl f (out ++ [y]) :=
  ⟨List.nodup_append.2 ⟨h.nd, by simp, fun a ha b hb e => hy (by rw [← List.mem_singleton.1 hb, ← e]; exact ha)⟩, fun z hz => (List.mem_append.1 hz).elim (h.inn z) fun hz => by rw [List.mem_singleton.1 hz]; exact hn, List.mem_append_left _ h.mem,
   fun C hC hf z hz => (List.mem_append.1 hz).elim (h.least C hC hf z) fun hz => by rw [List.mem_singleton.1 hz]; exact (hs C hC).1 (h.least C hC hf x hx)⟩
theorem jK:∀ (n:Nat) (l:List Int),l.Nodup→(∀ x∈l,0≤x∧x<(n:Int))→l.length≤n
 | 0,l,_,h=>by
  cases l with
  | nil=>simp
  | cons x l=>have:=h x (by simp); omega
 | n+1,l,hd,h=>by
  have h1:=jK n (l.erase (n:Int)) (hd.erase _) fun x hx=>by
   obtain ⟨h1,h2⟩:=(List.Nodup.mem_erase_iff hd).1 hx
   have:=h x h2
   omega
  have:l.length≤(l.erase (n:Int)).length+1:=by
   rw [List.length_erase]
   split <;> omega
  omega
theorem Comes.len {n:Int} {sl:List Pr} {f:Int} {out:List Int} (h:Comes n sl f out) (h8:n≤8):out.length≤8 :=
 jK 8 out h.nd fun x hx=>by have:=h.inn x hx; omega
structure Part (sl:List Pr) (from_:Int) (P:List Int):Prop where
 len:P.length≤8
 mem:from_∈P
 shut:Shut sl (· ∈ P)
 least:∀ C:Int→Prop,Shut sl C→C from_→∀ x∈P,C x
def Conn (sl:List Pr):Prop:=∀ C:Int→Prop,Shut sl C→C (nth sl 0).1→∀ i:Nat,i<sl.length→C (nth sl (i:Int)).1
def inTo (sl:List Pr) (P:List Int):Nat→Nat
 | 0=>0
 | k+1=>inTo sl P k+if (nth sl (k:Int)).1∈P then 1 else 0
theorem inTo_le (sl:List Pr) (P:List Int):∀ k,inTo sl P k≤k
 | 0=>Nat.le_refl _
 | k+1=>by have:=inTo_le sl P k; show inTo sl P k+_≤_; split <;> omega
theorem YD {sl:List Pr} {P:List Int}:∀ k,(inTo sl P k=k↔∀ i:Nat,i<k→(nth sl (i:Int)).1∈P)
 | 0=>⟨fun _ i hi=>by omega,fun _=>rfl⟩
 | k+1=>by
  have ih:=YD (sl:=sl) (P:=P) k
  have hle:=inTo_le sl P k
  show inTo sl P k+_=_↔_
  by_cases h:(nth sl (k:Int)).1∈P
  ·rw [if_pos h]
   constructor
   ·intro e i hi
    by_cases ei:i=k
    ·subst ei; exact h
    ·exact ih.1 (by omega) i (by omega)
   ·intro e; have:=ih.2 fun i hi=>e i (by omega); omega
  ·rw [if_neg h]
   exact ⟨fun e=>by omega,fun e=>absurd (e k (by omega)) h⟩
theorem kX {sl:List Pr} {P:List Int} (h:(nth sl 0).1∈P):∀ k,1≤k→1≤inTo sl P k
 | 1,_=>by
  have h0:(nth sl ((0:Nat):Int)).1∈P:=h
  show 1≤0+(if (nth sl ((0:Nat):Int)).1∈P then 1 else 0); rw [if_pos h0]; omega
 | k+2,_=>by have:=kX h (k+1) (by omega); show 1≤inTo sl P (k+1)+_; omega
theorem Part.conn {sl:List Pr} {P:List Int} (h:Part sl (nth sl 0).1 P):Conn sl↔∀ i:Nat,i<sl.length→(nth sl (i:Int)).1∈P :=
 ⟨fun hc=>hc (· ∈ P) h.shut h.mem,fun hp C hC h0 i hi=>h.least C hC h0 _ (hp i hi)⟩
theorem Part.apart {sl:List Pr} {P:List Int} (h:Part sl (nth sl 0).1 P) (hl:1≤sl.length):(1≤inTo sl P sl.length∧(inTo sl P sl.length:Int)≤(sl.length:Int) - 1)↔¬ Conn sl:=by
 have h1:=kX h.mem sl.length hl
 have h2:=inTo_le sl P sl.length
 rw [h.conn, ← YD]
 omega
def upTo (C:List Int):Nat→Int×Int
 | 0=>(0,0)
 | k+1=>if 0<nth C (k:Int) then ((upTo C k).1+nth C (k:Int),(k:Int)) else upTo C k
theorem up_t {C:List Int} {k:Nat} (h:0<nth C (k:Int)):upTo C (k+1)=((upTo C k).1+nth C (k:Int),(k:Int)):=by show (if _ then _ else _)=_; rw [if_pos h]
theorem up_f {C:List Int} {k:Nat} (h:¬ 0<nth C (k:Int)):upTo C (k+1)=upTo C k:=by show (if _ then _ else _)=_; rw [if_neg h]
def goes (sl:List Pr) (x:Int):Bool:=has (fun p:Pr=>decide (p.1=x)) sl
def outTo (sl:List Pr):Nat→List Int
 | 0=>[]
 | k+1=>if goes sl (k:Int)=true then outTo sl k++[(k:Int)] else outTo sl k
theorem out_t {sl:List Pr} {k:Nat} (h:goes sl (k:Int)=true):outTo sl (k+1)=outTo sl k++[(k:Int)]:=by show (if _ then _ else _)=_; rw [if_pos h]
theorem out_f {sl:List Pr} {k:Nat} (h:¬ goes sl (k:Int)=true):outTo sl (k+1)=outTo sl k:=by show (if _ then _ else _)=_; rw [if_neg h]
theorem out_len (sl:List Pr):∀ k,(outTo sl k).length≤k
 | 0=>Nat.le_refl _
 | k+1=>by
  have:=out_len sl k
  by_cases h:goes sl (k:Int)=true
  ·rw [out_t h,List.length_append,List.length_singleton]; omega
  ·rw [out_f h]; omega
open Classical in
/-- The notes with which tunes begin. -/
noncomputable def starts (n:Int) (sl:List Pr):List Int :=
 if ¬ Conn sl then [] else if (upTo (spTo sl sl.length) 8).1=0 then outTo sl n.toNat else if (upTo (spTo sl sl.length) 8).1=1 then [(upTo (spTo sl sl.length) 8).2] else []
theorem starts_len {n:Int} {sl:List Pr} (h8:n≤8):(starts n sl).length≤8:=by
 unfold starts
 have:=out_len sl n.toNat
 split
 ·simp
 ·split
  ·omega
  ·split <;> simp
def led (sl:List Pr) (from_:Int) (out:List Int) (i:Nat):Prop:=(from_<0∨(nth sl (i:Int)).1=from_)∧(i:Int) ∉ out
instance (sl:List Pr) (f:Int) (out:List Int) (i:Nat):Decidable (led sl f out i):=inferInstanceAs (Decidable (_∧_))
def lead (sl:List Pr) (from_:Int) (out:List Int):Nat→List Int
 | 0=>[]
 | k+1=>if led sl from_ out k then lead sl from_ out k++[(k:Int)] else lead sl from_ out k
theorem lead_t {sl:List Pr} {f:Int} {out:List Int} {k:Nat} (h:led sl f out k):lead sl f out (k+1)=lead sl f out k++[(k:Int)]:=by show (if _ then _ else _)=_; rw [if_pos h]
theorem lead_f {sl:List Pr} {f:Int} {out:List Int} {k:Nat} (h:¬ led sl f out k):lead sl f out (k+1)=lead sl f out k:=by show (if _ then _ else _)=_; rw [if_neg h]
theorem lead_len (sl:List Pr) (f:Int) (out:List Int):∀ k,(lead sl f out k).length≤k
 | 0=>Nat.le_refl _
 | k+1=>by
  have:=lead_len sl f out k
  by_cases h:led sl f out k
  ·rw [lead_t h,List.length_append,List.length_singleton]; omega
  ·rw [lead_f h]; omega
theorem vR {sl:List Pr} {f:Int} {out:List Int} {x:Int}:∀ {k:Nat},x∈lead sl f out k↔∃ i:Nat,i<k∧x=(i:Int)∧led sl f out i
 | 0=>⟨(fun h=>by cases h),(fun ⟨i,hi,_⟩=>by omega)⟩
 | k+1=>by
  have ih:=vR (sl:=sl) (f:=f) (out:=out) (x:=x) (k:=k)
  by_cases h:led sl f out k
  ·rw [lead_t h,List.mem_append,ih,List.mem_singleton]
   constructor
   ·rintro (⟨i,h1,h2,h3⟩ | e)
    ·exact ⟨i,by omega,h2,h3⟩
    ·exact ⟨k,by omega,e,h⟩
   ·rintro ⟨i,h1,h2,h3⟩
    by_cases e:i=k
    ·exact .inr (e ▸ h2)
    ·exact .inl ⟨i,by omega,h2,h3⟩
  ·rw [lead_f h,ih]
   constructor
   ·rintro ⟨i,h1,h2,h3⟩; exact ⟨i,by omega,h2,h3⟩
   ·rintro ⟨i,h1,h2,h3⟩
    by_cases e:i=k
    ·exact absurd (e ▸ h3) h
    ·exact ⟨i,by omega,h2,h3⟩
theorem lead_at {sl : List Pr} {f : Int} {out : List Int} {i m : Nat} (hi : i < m) (h : led sl f out i) : ((lead sl f out m).map (Value.int .i64))[(lead sl f out i).length]? = some (.int .i64 (i : Int)) := by
  have key : ∀ m, i < m → ∃ t, lead sl f out m = lead sl f out i ++ (i : Int) :: t := fun m => by
    induction m with
    | zero => intro h; omega
    | succ m ih =>
      intro hm
      by_cases e : i = m
      · subst e; exact ⟨[], by rw [lead_t h]⟩
      · obtain ⟨t, ht⟩ := ih (by omega)
        by_cases h2 : led sl f out m
        · exact ⟨t ++ [(m : Int)], by rw [lead_t h2, ht, List.append_assoc]; rfl⟩
        · exact ⟨t, by rw [lead_f h2, ht]⟩
  obtain ⟨t, ht⟩ := key m hi
  rw [ht, List.map_append, List.getElem?_append_right (by rw [List.length_map]; exact Nat.le_refl _), List.length_map, Nat.sub_self]
  rfl
def left (sl:List Pr) (out:List Int):List Pr:=(lead sl (-1) out sl.length).map fun i=>nth sl i
def Play (n:Int) (sl:List Pr) (from_:Int) (out:List Int):Prop:=left sl out=[]∨from_∈starts n (left sl out)
open Classical in
noncomputable def play (n:Int) (sl:List Pr) (from_:Int) (out:List Int):Bool:=decide (Play n sl from_ out)
def pick (p:Int→Bool) (l:List Int):Int:=(l.find? p).getD 0
structure Go1 where
 out:List Int
 at_:Int
noncomputable def first (n : Int) (sl : List Pr) : Nat → Go1
  | 0 => ⟨[], -1⟩
  | k + 1 => ⟨(first n sl k).out ++ [pick (fun i => play n sl (nth sl i).2 ((first n sl k).out ++ [i])) (lead sl (first n sl k).at_ (first n sl k).out sl.length)],
      (nth sl (pick (fun i => play n sl (nth sl i).2 ((first n sl k).out ++ [i])) (lead sl (first n sl k).at_ (first n sl k).out sl.length))).2⟩
theorem first_len (n:Int) (sl:List Pr):∀ k,(first n sl k).out.length=k
 | 0=>rfl
 | k+1=>by show (_++[_]).length=_; rw [List.length_append,first_len n sl k]; rfl
theorem pick_in {p:Int→Bool} {l:List Int} {m:Int} (hm:1≤m) (h:∀ x∈l,0≤x∧x<m):0≤pick p l∧pick p l<m:=by
 unfold pick
 cases hf:l.find? p with
 | none=>exact ⟨Int.le_refl _,by show (0:Int)<m; omega⟩
 | some x=>exact h x (List.mem_of_find?_eq_some hf)
theorem lead_in {sl:List Pr} {f:Int} {out:List Int}:∀ x∈lead sl f out sl.length,0≤x∧x<(sl.length:Int):=fun x hx=>by
 obtain ⟨i,h1,h2,_⟩:=vR.1 hx
 omega
theorem q7 {n:Int} {sl:List Pr} (h:1≤sl.length):∀ k,∀ x∈(first n sl k).out,0≤x∧x<(sl.length:Int)
 | 0,x,hx=>by cases hx
 | k+1,x,hx=>by
  rcases List.mem_append.1 hx with hx | hx
  ·exact q7 h k x hx
  ·rw [List.mem_singleton.1 hx]
   exact pick_in (by omega) lead_in
theorem Part.of {n:Int} {sl:List Pr} {f:Int} {out P:List Int} (h:Comes n sl f out) (h8:n≤8) (hp:P.Perm out) (hs:∀ j:Nat,j<sl.length→((nth sl (j:Int)).1∈out↔(nth sl (j:Int)).2∈out)):Part sl f P :=
 ⟨by rw [hp.length_eq]; exact h.len h8,hp.mem_iff.2 h.mem,fun i hi=>(hp.mem_iff.trans (hs i hi)).trans hp.mem_iff.symm,fun C hC hf x hx=>h.least C hC hf x (hp.mem_iff.1 hx)⟩
theorem in_t {sl:List Pr} {P:List Int} {k:Nat} (h:(nth sl (k:Int)).1∈P):(inTo sl P (k+1):Int)=(inTo sl P k:Int)+1:=by show ((inTo sl P k+(if _ then 1 else 0):Nat):Int)=_; rw [if_pos h]; omega
theorem in_f {sl:List Pr} {P:List Int} {k:Nat} (h:¬ (nth sl (k:Int)).1∈P):(inTo sl P (k+1):Int)=(inTo sl P k:Int):=by show ((inTo sl P k+(if _ then 1 else 0):Nat):Int)=_; rw [if_neg h]; omega
theorem up_bd {C:List Int} (h:∀ y, -28≤nth C y∧nth C y≤28):∀ k:Nat,0≤(upTo C k).1∧(upTo C k).1≤28 * k∧0≤(upTo C k).2∧(upTo C k).2≤k
 | 0=>⟨Int.le_refl _,Int.le_refl _,Int.le_refl _,Int.le_refl _⟩
 | k+1=>by
  have ih:=up_bd h k
  have hk:=h (k:Int)
  by_cases hp:0<nth C (k:Int)
  ·rw [up_t hp]
   show 0≤(upTo C k).1+nth C (k:Int)∧(upTo C k).1+nth C (k:Int)≤_∧(0:Int)≤(k:Int)∧(k:Int)≤_
   omega
  ·rw [up_f hp]; omega
theorem st_1 {n:Int} {sl:List Pr} (h:¬ Conn sl):starts n sl=[]:=by unfold starts; rw [if_pos h]
theorem st_2 {n:Int} {sl:List Pr} (h:Conn sl) (h2:(upTo (spTo sl sl.length) 8).1=0):starts n sl=outTo sl n.toNat:=by unfold starts; rw [if_neg (fun hh=>hh h),if_pos h2]
theorem st_3 {n:Int} {sl:List Pr} (h:Conn sl) (h2:(upTo (spTo sl sl.length) 8).1=1):starts n sl=[(upTo (spTo sl sl.length) 8).2]:=by unfold starts; rw [if_neg (fun hh=>hh h),if_neg (by omega),if_pos h2]
theorem st_4 {n:Int} {sl:List Pr} (h:Conn sl) (h2:¬ (upTo (spTo sl sl.length) 8).1=0) (h3:¬ (upTo (spTo sl sl.length) 8).1=1):starts n sl=[]:=by unfold starts; rw [if_neg (fun hh=>hh h),if_neg h2,if_neg h3]
theorem left_snoc {sl:List Pr} {L:List Int} {i:Nat} (h:i<L.length):((L.take i).map fun i=>nth sl i)++[nth sl (nth L (i:Int))]=(L.take (i+1)).map fun i=>nth sl i:=by
 rw [zO h,List.take_succ_eq_append_getElem h,List.map_append]; rfl
theorem ZS {sl:List Pr} {out:List Int}:(left sl out).length≤sl.length:=by
 unfold left; rw [List.length_map]; exact lead_len _ _ _ _
theorem XY {n:Int} {sl:List Pr} {out:List Int} (h:∀ i:Nat,i<sl.length→okP n (nth sl (i:Int))):∀ i:Nat,i<(left sl out).length→okP n (nth (left sl out) (i:Int)):=fun i hi=>by
 unfold left at hi ⊢
 rw [List.length_map] at hi
 rw [zO (by rw [List.length_map]; exact hi),List.getElem_map]
 obtain ⟨j,h1,h2,_⟩:=vR.1 (List.getElem_mem hi)
 rw [h2]
 exact h j h1
theorem left_book {n:Int} {sl:List Pr} {out:List Int} (h:Book n sl) (h0:¬ ((left sl out).length:Int)=0):Book n (left sl out) :=
 ⟨h.n1,h.n8,by omega,Nat.le_trans ZS h.l14,XY h.ok⟩
open Classical in
theorem play_0 {n:Int} {sl:List Pr} {f:Int} {out:List Int} (h:((left sl out).length:Int)=0):play n sl f out=true:=by
 unfold play
 exact decide_eq_true (.inl (List.eq_nil_of_length_eq_zero (by omega)))
open Classical in
theorem play_1 {n:Int} {sl:List Pr} {f:Int} {out:List Int} (h:¬ ((left sl out).length:Int)=0):play n sl f out=decide (0≤S.place (starts n (left sl out)) f):=by
 unfold play
 refine decide_eq_decide.2 ⟨fun hh=>?_,fun hh=>.inr (S.place_iff.1 hh)⟩
 rcases hh with e | hh
 ·rw [e] at h; exact absurd rfl h
 ·exact S.place_iff.2 hh
theorem pick_hit {p:Int→Bool} {l:List Int} {k:Nat} (hk:k<l.length) (hall:∀ i:Nat,i<k→p (nth l (i:Int))=false) (hp:p (nth l (k:Int))=true):pick p l=nth l (k:Int):=by
 unfold pick
 have:l.find? p=some (nth l (k:Int)):=by
  rw [List.find?_eq_some_iff_getElem]
  refine ⟨hp,k,hk,(zO hk).symm,fun j hj=>?_⟩
  have:=hall j hj
  rw [zO (by omega)] at this
  simp [this]
 rw [this]; rfl
theorem pick_miss {p:Int→Bool} {l:List Int} (hall:∀ i:Nat,i<l.length→p (nth l (i:Int))=false):pick p l=0:=by
 unfold pick
 have:l.find? p=none:=by
  rw [List.find?_eq_none]
  intro x hx
  obtain ⟨i,hi,rfl⟩:=List.getElem_of_mem hx
  have:=hall i hi
  rw [zO hi] at this
  simp [this]
 rw [this]; rfl
structure Tune (sl:List Pr) (t:List Int):Prop where
 len:t.length=sl.length
 inn:∀ i:Nat,i<t.length→0≤nth t (i:Int)∧nth t (i:Int)<(sl.length:Int)
 nd:∀ i j:Nat,i<j→j<t.length→¬ nth t (i:Int)=nth t (j:Int)
 run:∀ i:Nat,i+1<t.length→(nth sl (nth t ((i+1:Nat):Int))).1=(nth sl (nth t (i:Int))).2
def atTo (sl:List Pr) (t:List Int):Nat→Int
 | 0=>(nth sl (nth t 0)).1
 | k+1=>(nth sl (nth t (k:Int))).2
theorem Tune.at_ {sl:List Pr} {t:List Int} (h:Tune sl t):∀ {k:Nat},k<t.length→(nth sl (nth t (k:Int))).1=atTo sl t k
 | 0,_=>rfl
 | k+1,hk=>h.run k hk
theorem Tune.all {sl:List Pr} {t:List Int} (h:Tune sl t):∀ x∈t,0≤x∧x≤(sl.length:Int) - 1:=fun x hx=>by
 obtain ⟨i,hi,rfl⟩:=List.getElem_of_mem hx
 have:=h.inn i hi
 rw [zO hi] at this
 omega
theorem Tune.no {sl:List Pr} {t:List Int} (h:Tune sl t) {k:Nat} (hk:k<t.length):¬ 0≤S.place (t.take (k:Int).toNat) (nth t (k:Int)):=fun hh=>by
 have hm:=S.place_iff.1 hh
 obtain ⟨i,hi,e⟩:=List.getElem_of_mem hm
 rw [Int.toNat_natCast] at hi
 rw [List.length_take] at hi
 refine h.nd i k (by omega) hk ?_
 rw [List.getElem_take] at e
 rw [zO (by omega)]
 exact e
def ends (sl:List Pr) (t:List Int):Int×Int:=((nth sl (nth t 0)).1,(nth sl (nth t ((t.length:Int) - 1))).2)
def wants (sl:List Pr) (t:List Int):List Int:=((nth sl (nth t 0)).1+1)::t.map fun i=>(nth sl i).2+1
theorem wants_snoc {sl:List Pr} {t:List Int} {k:Nat} (h:k<t.length):(((nth sl (nth t 0)).1+1)::(t.take k).map fun i=>(nth sl i).2+1)++[(nth sl (nth t (k:Int))).2+1]=((nth sl (nth t 0)).1+1)::(t.take (k+1)).map fun i=>(nth sl i).2+1:=by
 rw [zO h,List.take_succ_eq_append_getElem h,List.map_append]; rfl
theorem in_yes {l:List Int} {x:Int} {k:Nat} (hk:k<l.length) (h:nth l (k:Int)=x):x∈l:=by rw [← h,zO hk]; exact List.getElem_mem _
theorem in_no {l:List Int} {x:Int} (h:∀ i:Nat,i<l.length→¬ nth l (i:Int)=x):¬ x∈l:=fun hx=>by
 obtain ⟨i,hi,e⟩:=List.getElem_of_mem hx
 exact h i hi (by rw [zO hi]; exact e)
end Tn
end Go.Fip
namespace Go.Fip
open Go.Proofs Go.RowKit
theorem c52 {n:Int} {lo hi:Int} {b1 b2:Nat} {w:World} (k1:Bx b1 3 [.int .i64 lo] w) (k2:Bx b2 3 [.int .i64 hi] w)  :
  Fn Tryz.prog 52 [(.int .i64 n),(.pointer (some ⟨b1,0,none⟩)),(.pointer (some ⟨b2,0,none⟩))].toArray w (fun u _=>u=.bool (decide (n<lo∨hi<n))):=by
 refine fz Tryz.func52 Z kz Z Z (fun hH=>(zr (oA hH Z (zs (oM hH Z (oY hH (zC T.yB Z (fun _ hw=>yL (k1.now hw (n:=0) Z) Z)) (oY hH (yF Z Z) (oM hH Z ?_))))))))
 by_cases hc1:n<lo
 ·refine zF Z Z (dT hc1) Z (zF Z Z (dT hc1) Z (zF Z Z (dT hc1) Z (oY hH (z7 Z (dT hc1) Z) (oA hH Z (zt (ret (fin hH (fun w' hf=>(yI Z (rt Z))) (fun w' hf=>?_))))))))
  first | (show Value.bool _=Value.bool _; congr 1; rw [Bool.eq_iff_iff]; simp; done) | (show Value.bool _=Value.bool _; congr 1; rw [Bool.eq_iff_iff]; simp; omega)
 refine zB Z Z (dF hc1) (oM hH Z (zB Z Z (dF hc1) (oY hH (zC T.yB Z (fun _ hw=>yL (k2.now hw (n:=0) Z) Z)) (zB Z Z (dF hc1) (oY hH (vS Z Z) (oY hH (yA Z (dF hc1) Z) (oA hH Z (zt (ret (fin hH (fun w' hf=>(yI Z (rt Z))) (fun w' hf=>?_)))))))))))
 first | (show Value.bool _=Value.bool _; congr 1; rw [Bool.eq_iff_iff]; simp; done) | (show Value.bool _=Value.bool _; congr 1; rw [Bool.eq_iff_iff]; simp; omega)
theorem VX {v:Value} {l:List Int} {lo hi:Int} {b1 b2:Nat} {w:World} (h0:Rd encI 1 v l w) (k1:Bx b1 3 [.int .i64 lo] w) (k2:Bx b2 3 [.int .i64 hi] w) (hn:l.length≤1000000)  :
  Fn Tryz.prog 114 [v,(.func (.func 52) #[] #[(.pointer (some ⟨b1,0,none⟩)),(.pointer (some ⟨b2,0,none⟩))])].toArray w (fun u _=>u=.int .i64 (idx (fun x:Int=>decide (x<lo∨hi<x)) l)):=by
 refine fz Tryz.func114 Z kz Z Z (fun hH=>(zr (oA hH Z (zt (seq (zr (oM hH Z (oY hH (zX T.yE Z (h0.now hH (n:=0) Z).is) (oM hH Z (zt (block (loop (S:=Nat) (fun k=>[(8,(.int .i64 (k:Int))),(0,v),(1,(.func (.func 52) #[] #[(.pointer (some ⟨b1,0,none⟩)),(.pointer (some ⟨b2,0,none⟩))])),(7,(.int .i64 (l.length:Int)))]) (fun k w1=>Heap [base w] w1∧k≤l.length∧∀ i,i<k→(fun x:Int=>decide (x<lo∨hi<x)) (nth l (i:Int))=false) (fun k=>l.length - k) (0) (uC Z (uC Z (uC Z (uC Z (Sub.nil _))))) ?_ ?_))))))))))))
 ·exact ⟨hH,om,S.all_zero⟩
 rintro k w1 ⟨hH2,hk,hall⟩
 refine zr (oY hH2 (yF Z Z) (zt (seq ?_)))
 by_cases hc3:(k:Int)<(l.length:Int)
 ·refine zP Z (dT hc3) (skip (zJ (seq (block (zr (oM hH2 Z (oA hH2 Z (zs (oM hH2 Z (oM hH2 Z (oM hH2 Z (oY hH2 (zN T.yE Z Z (h0.now hH2 (n:=0) Z).is om) (oY hH2 (zC T.yB Z (fun _ hw=>Rd.at (h0.now hw (n:=0) Z) (i:=(k:Int)) om (j:=0) Z)) (zS Z Z Z hH2 (c52 (k1.now hH2 (n:=0) Z) (k2.now hH2 (n:=0) Z)) (fun w4 hH5=>(zt ?_))))))))))))))))
  by_cases hc6:nth l (k:Int)<lo∨hi<nth l (k:Int)
  ·have hp:(fun x:Int=>decide (x<lo∨hi<x)) (nth l (k:Int))=true:=(decide_eq_true hc6)
   refine zP Z (dT hc6) (zr (oM hH5 Z (oA hH5 Z (zt (ret (y7 (yP (qD (y7 (yP (fin hH5 (fun w' hf=>(yI Z (rt Z))) (fun w' hf=>?_))))))))))))
   first | exact congrArg (Value.int .i64) (xP (k:=k) (by omega) hall hp).symm | exact congrArg (Value.int .i64) (xE (fun i hi=>hall i (by omega))).symm
  have hp:(fun x:Int=>decide (x<lo∨hi<x)) (nth l (k:Int))=false:=(decide_eq_false hc6)
  refine zM Z (dF hc6) (skip (yC (zJ (region (oY hH5 (zU Z Z om) (oM hH5 Z (zE (yX (k+1) (uC Z (uC Z (uC Z (uC Z (Sub.nil _))))) (⟨hH5,om,S.all_snoc hall hp⟩) om3))))))))
 refine zM Z (dF hc3) (exit (yR (xH (zW (zu (oA hH2 Z (zt (ret (fin hH2 (fun w' hf=>(yI Z (rt Z))) (fun w' hf=>?_))))))))))
 first | exact congrArg (Value.int .i64) (xP (k:=k) (by omega) hall hp).symm | exact congrArg (Value.int .i64) (xE (fun i hi=>hall i (by omega))).symm
theorem W4 {v:Value} {l:List Int} {lo hi:Int} {b1 b2:Nat} {w:World} (h0:Rd encI 1 v l w) (k1:Bx b1 3 [.int .i64 lo] w) (k2:Bx b2 3 [.int .i64 hi] w) (hn:l.length≤1000000)  :
  Fn Tryz.prog 51 [v,(.func (.func 52) #[] #[(.pointer (some ⟨b1,0,none⟩)),(.pointer (some ⟨b2,0,none⟩))])].toArray w (fun u _=>u=.bool (has (fun x:Int=>decide (x<lo∨hi<x)) l)):=by
 refine fz Tryz.func51 Z kz Z Z (fun hH=>(zr (oA hH Z (zs (oM hH Z (oM hH Z (zS Z Z Z hH (VX (h0.now hH (n:=0) Z) (k1.now hH (n:=0) Z) (k2.now hH (n:=0) Z) om) (fun w1 hH2=>(oY hH2 (vK Z Z) (oA hH2 Z (zt (ret (fin hH2 (fun w' hf=>(yI Z (rt Z))) (fun w' hf=>Z))))))))))))))
theorem c19 {v:Value} {l:List Int} {lo hi:Int} {w:World} (h0:Rd encI 1 v l w) (hn:l.length≤1000000)  :
  Fn Tryz.prog 19 [(.int .i64 lo),(.int .i64 hi),v].toArray w (fun u _=>u=.bool (decide (∀ x∈l,lo≤x∧x≤hi))):=by
 refine fz Tryz.func19 Z kz Z Z (fun hH=>(zr (yM Z Z Z hH (fun b1 w2 hH3=>(yM Z Z Z hH3 (fun b4 w5 hH6=>(oA hH6 Z (zs (oM hH6 Z (oY hH6 (x7 Z Z) (zS Z Z Z hH6 (W4 (h0.now hH6 (n:=2) Z) (Heap.vY hH6 (n:=1) Z) (Heap.vY hH6 (n:=0) Z) hn) (fun w7 hH8=>(oY hH8 (xD Z) (oA hH8 Z (zt (ret (fin (hH8.sub (sC (sC sR))) (fun w' hf=>(yI Z (rt Z))) (fun w' hf=>?_))))))))))))))))))
 refine congrArg Value.bool ?_; rw [Bool.eq_iff_iff,Bool.not_eq_true',uY,decide_eq_true_eq]; exact jC
theorem XM {v:Value} {a lo hi:Int} {w:World} (h0:Rd encI 1 v [a] w):Fn Tryz.prog 19 [.int .i64 lo,.int .i64 hi,v].toArray w (fun u _=>u=.bool (decide (lo≤a∧a≤hi))):=by
 have h:=c19 (lo:=lo) (hi:=hi) h0 (by simp)
 rwa [show decide (∀ x∈[a],lo≤x∧x≤hi)=decide (lo≤a∧a≤hi) from decide_eq_decide.2 (by simp)] at h
theorem V0 {v:Value} {a b lo hi:Int} {w:World} (h0:Rd encI 1 v [a,b] w):Fn Tryz.prog 19 [.int .i64 lo,.int .i64 hi,v].toArray w (fun u _=>u=.bool (decide ((lo≤a∧a≤hi)∧(lo≤b∧b≤hi)))):=by
 have h:=c19 (lo:=lo) (hi:=hi) h0 (by simp)
 rwa [show decide (∀ x∈[a,b],lo≤x∧x≤hi)=decide ((lo≤a∧a≤hi)∧(lo≤b∧b≤hi)) from decide_eq_decide.2 (by simp)] at h
theorem c50 {v:Value} {n a b:Int} {w:World} {b1:Nat} (k1:Bx b1 24 [.int .i64 n,v] w) (hn9:0≤n+10∧n≤1000)  :
  Fn Tryz.prog 50 [(.agg #[(.int .i64 a),(.int .i64 b)]),(.pointer (some ⟨b1,0,none⟩))].toArray w (fun u _=>u=.bool (!decide (Tn.okP n (a,b)))):=by
 refine fz Tryz.func50 Z kz Z Z (fun hH=>(zr (yM Z Z Z hH (fun b1 w2 hH3=>(oA hH3 Z (zt (seq (z8 (fun w'=>Heap [bx b1 36 [(.int .i64 a),(.int .i64 b)],base w] w') T.mixed (fun w4 hr5=>?_)))))))))
 have hH6:=hH3.redrawn hr5
 refine zR [0,1,2,3] kz hH6 _ _ _ kz (zI Z Z (zD T.qP Z) (zI Z Z (zC T.yB Z (fun _ hw=>yL (k1.now hw (n:=1) Z) Z)) (zI Z Z (xI Z Z om) (zI Z Z (VE T.xA Z) (zV (z1 4 kz Z (zS Z Z Z hH6 (V0 (Bx.rdI (xs:=[a,b]) (Heap.vY hH6 (n:=0) Z))) (fun w7 hH8=>(zE (⟨hH8,(zR [5,6] kz hH8 _ _ _ kz (zI Z Z (xD Z) (zI Z Z (yO Z) (zV (yH kz (zJ (ret (fin (hH8.sub (sC sR)) (fun w' hf=>(yI Z (rt Z))) (fun w' hf=>?_)))))))))⟩))))))))))
 show Value.bool _=Value.bool _; congr 1; rw [Bool.eq_iff_iff,Bool.not_eq_true',Bool.not_eq_true',decide_eq_false_iff_not,decide_eq_false_iff_not]; show ¬ _↔¬ ((0≤a∧a<n)∧0≤b∧b<n); omega
theorem V3 {v:Value} {sl:List Tn.Pr} {n:Int} {w:World} (h0:Rd encP 2 v sl w) {b1:Nat} (k1:Bx b1 24 [.int .i64 n,v] w) (hn9:0≤n+10∧n≤1000) (hl:sl.length≤1000000)  :
  Fn Tryz.prog 111 [v,(.func (.func 50) #[] #[(.pointer (some ⟨b1,0,none⟩))])].toArray w (fun u _=>u=.int .i64 (idx (fun x:Tn.Pr => !decide (Tn.okP n x)) sl)):=by
 refine fz Tryz.func111 Z kz Z Z (fun hH=>(zr (oA hH Z (zt (seq (zr (oM hH Z (oY hH (zX T.y9 Z (h0.now hH (n:=0) Z).is) (oM hH Z (zt (block (loop (S:=Nat) (fun k=>[(8,(.int .i64 (k:Int))),(0,v),(1,(.func (.func 50) #[] #[(.pointer (some ⟨b1,0,none⟩))])),(7,(.int .i64 (sl.length:Int)))]) (fun k w1=>Heap [base w] w1∧k≤sl.length∧∀ i,i<k→(fun x:Tn.Pr => !decide (Tn.okP n x)) (nth sl (i:Int))=false) (fun k=>sl.length - k) (0) (uC Z (uC Z (uC Z (uC Z (Sub.nil _))))) ?_ ?_))))))))))))
 ·exact ⟨hH,om,S.all_zero⟩
 rintro k w1 ⟨hH2,hk,hall⟩
 refine zr (oY hH2 (yF Z Z) (zt (seq ?_)))
 by_cases hc3:(k:Int)<(sl.length:Int)
 ·refine zP Z (dT hc3) (skip (zJ (seq (block (zr (oM hH2 Z (oA hH2 Z (zs (oM hH2 Z (oM hH2 Z (oM hH2 Z (oY hH2 (zN T.y9 Z Z (h0.now hH2 (n:=0) Z).is om) (oY hH2 (zZ (cs:=[(.int .i64 ((nth sl (k:Int)).1)),(.int .i64 ((nth sl (k:Int)).2))]) T.jL Z Z (fun _ hw=>Rd.VS (h0.now hw (n:=0) Z) (i:=(k:Int)) om)) (zS Z Z Z hH2 (c50 (k1.now hH2 (n:=0) Z) hn9) (fun w4 hH5=>(zt ?_))))))))))))))))
  by_cases hc6:Tn.okP n ((nth sl (k:Int)).1,(nth sl (k:Int)).2)
  ·have hp:(fun x:Tn.Pr => !decide (Tn.okP n x)) (nth sl (k:Int))=false:=(zH hc6)
   refine zM Z (zH hc6) (skip (yC (zJ (region (oY hH5 (zU Z Z om) (oM hH5 Z (zE (yX (k+1) (uC Z (uC Z (uC Z (uC Z (Sub.nil _))))) (⟨hH5,om,S.all_snoc hall hp⟩) om3))))))))
  have hp:(fun x:Tn.Pr => !decide (Tn.okP n x)) (nth sl (k:Int))=true:=(zG hc6)
  refine zP Z (zG hc6) (zr (oM hH5 Z (oA hH5 Z (zt (ret (y7 (yP (qD (y7 (yP (fin hH5 (fun w' hf=>(yI Z (rt Z))) (fun w' hf=>?_))))))))))))
  first | exact congrArg (Value.int .i64) (xP (k:=k) (by omega) hall hp).symm | exact congrArg (Value.int .i64) (xE (fun i hi=>hall i (by omega))).symm
 refine zM Z (dF hc3) (exit (yR (xH (zW (zu (oA hH2 Z (zt (ret (fin hH2 (fun w' hf=>(yI Z (rt Z))) (fun w' hf=>?_))))))))))
 first | exact congrArg (Value.int .i64) (xP (k:=k) (by omega) hall hp).symm | exact congrArg (Value.int .i64) (xE (fun i hi=>hall i (by omega))).symm
theorem WV {v:Value} {sl:List Tn.Pr} {n:Int} {w:World} (h0:Rd encP 2 v sl w) {b1:Nat} (k1:Bx b1 24 [.int .i64 n,v] w) (hn9:0≤n+10∧n≤1000) (hl:sl.length≤1000000)  :
  Fn Tryz.prog 43 [v,(.func (.func 50) #[] #[(.pointer (some ⟨b1,0,none⟩))])].toArray w (fun u _=>u=.bool (has (fun x:Tn.Pr => !decide (Tn.okP n x)) sl)):=by
 refine fz Tryz.func43 Z kz Z Z (fun hH=>(zr (oA hH Z (zs (oM hH Z (oM hH Z (zS Z Z Z hH (V3 (h0.now hH (n:=0) Z) (k1.now hH (n:=0) Z) hn9 om) (fun w1 hH2=>(oY hH2 (vK Z Z) (oA hH2 Z (zt (ret (fin hH2 (fun w' hf=>(yI Z (rt Z))) (fun w' hf=>Z))))))))))))))
theorem Tn.odd {n:Int} {sl:List Tn.Pr} (h:has (fun x:Tn.Pr => !decide (Tn.okP n x)) sl=true):¬ ∀ i:Nat,i<sl.length→Tn.okP n (nth sl (i:Int)):=by
 obtain ⟨i,hi,hp⟩:=vT.1 h
 intro h2
 have:=h2 i hi
 simp [this] at hp
theorem Tn.not_odd {n:Int} {sl:List Tn.Pr} (h:has (fun x:Tn.Pr => !decide (Tn.okP n x)) sl=false):∀ i:Nat,i<sl.length→Tn.okP n (nth sl (i:Int)):=by
 have h:=uY.1 h
 intro i hi
 simpa using h i hi
theorem c18 {v:Value} {sl:List Tn.Pr} {n:Int} {w:World} (h0:Rd encP 2 v sl w) (hl:sl.length≤1000000)  :
  Fn Tryz.prog 18 [(.agg #[(.int .i64 n),v])].toArray w (fun u _=>u=.int .i64 (Tn.ck n sl)):=by
 refine fz Tryz.func18 Z kz Z Z (fun hH=>(zr (yM Z Z Z hH (fun b1 w2 hH3=>(oA hH3 Z (zs (oY hH3 (x7 Z Z) (oA hH3 Z (zt (seq (block (zr (oY hH3 (zD T.qP Z) (oY hH3 (zC T.yB Z (cw (n:=0) Z Z)) (yJ T.zA [n] Z (fun w=>by kernel_rfl) hH3 (fun u4 lo6 hi7 w5 hH8=>(zS Z Z Z hH8 (XM (Heap.yU T.zA hH8 (n:=0) Z)) (fun w9 hH10=>(oY hH10 (xD Z) ?_)))))))))))))))))))
 refine oM hH10 Z ?_
 by_cases hc11:1≤n∧n≤8
 ·refine zB Z Z (zH hc11) (oY hH10 (zD T.yK Z) (zB Z Z (zH hc11) (oY hH10 (zC T.yN Z (cw (n:=1) Z Z)) (zB Z Z (zH hc11) (oY hH10 (zX T.y9 Z (h0.now hH10 (n:=2) Z).is) (zB Z Z (zH hc11) (yJ T.zA [(sl.length:Int)] Z (fun w=>by kernel_rfl) hH10 (fun u12 lo14 hi15 w13 hH16=>(zB Z Z (zH hc11) (zS Z Z Z hH16 (XM (Heap.yU T.zA hH16 (n:=0) Z)) (fun w17 hH18=>(zB Z Z (zH hc11) (oY hH18 (xD Z) (oY hH18 (yA Z (zH hc11) Z) (oA hH18 Z (zt ?_))))))))))))))))
  by_cases hc19:1≤(sl.length:Int)∧(sl.length:Int)≤14
  ·have hall:(1≤n∧n≤8)∧1≤sl.length∧sl.length≤14:=by have hq:=(zH hc19); omega
   have hn9:0≤n+10∧n≤1000:=by omega
   refine zM Z (zH hc19) (zr (oY hH18 (zD T.yK Z) (oY hH18 (zC T.yN Z (cw (n:=2) Z Z)) (oM hH18 Z (zS Z Z Z hH18 (WV (h0.now hH18 (n:=3) Z) (Heap.vY hH18 (n:=2) Z) hn9 om) (fun w20 hH21=>(oA hH21 Z (zt ?_))))))))
   by_cases hc22:has (fun x:Tn.Pr => !decide (Tn.okP n x)) sl=true
   ·have hbad:=Tn.odd hc22
    refine zP Z hc22 (zr (oA hH21 Z (zt (ret (y7 (yP (fin (hH21.sub (sC (sC (sC sR)))) (fun w' hf=>(yI Z (rt Z))) (fun w' hf=>?_))))))))
    first | exact congrArg (Value.int .i64) (Tn.ck1 (by omega)) | exact congrArg (Value.int .i64) (Tn.ck2 (by omega) hbad) | exact congrArg (Value.int .i64) (Tn.ck3 (by omega) hok)
   have hok:=Tn.not_odd (Bool.eq_false_iff.2 hc22)
   refine zM Z (Bool.eq_false_iff.2 hc22) (skip (yC (zu (oA hH21 Z (zt (ret (fin (hH21.sub (sC (sC (sC sR)))) (fun w' hf=>(yI Z (rt Z))) (fun w' hf=>?_))))))))
   first | exact congrArg (Value.int .i64) (Tn.ck1 (by omega)) | exact congrArg (Value.int .i64) (Tn.ck2 (by omega) hbad) | exact congrArg (Value.int .i64) (Tn.ck3 (by omega) hok)
  have hno:¬ ((1≤n∧n≤8)∧1≤sl.length∧sl.length≤14):=by have hq:=(zG hc19); omega
  refine zP Z (zG hc19) (zr (oA hH18 Z (zt (ret (y7 (yP (fin (hH18.sub (sC (sC (sC sR)))) (fun w' hf=>(yI Z (rt Z))) (fun w' hf=>?_))))))))
  first | exact congrArg (Value.int .i64) (Tn.ck1 (by omega)) | exact congrArg (Value.int .i64) (Tn.ck2 (by omega) hbad) | exact congrArg (Value.int .i64) (Tn.ck3 (by omega) hok)
 refine zF Z Z (zG hc11) Z (zF Z Z (zG hc11) Z (zF Z Z (zG hc11) Z (zF Z Z (zG hc11) Z (zF Z Z (zG hc11) Z (zF Z Z (zG hc11) Z (oY hH10 (z7 Z (zG hc11) Z) (oA hH10 Z (zt (zP Z Z (zr (oA hH10 Z (zt (ret (y7 (yP (fin (hH10.sub (sC (sC sR))) (fun w' hf=>(yI Z (rt Z))) (fun w' hf=>?_)))))))))))))))))
 first | exact congrArg (Value.int .i64) (Tn.ck1 (by omega)) | exact congrArg (Value.int .i64) (Tn.ck2 (by omega) hbad) | exact congrArg (Value.int .i64) (Tn.ck3 (by omega) hok)
end Go.Fip
namespace Go.Fip
open Go.Proofs Go.RowKit
theorem c40 {v:Value} {sl:List Tn.Pr} {n:Int} {w:World} (h0:Rd encP 2 v sl w) (hb:Tn.Book n sl)  :
  Fn Tryz.prog 40 [(.agg #[(.int .i64 n),v])].toArray w (fun u w=>∃ (bb:Nat) (pv:Value),u=.pointer (some ⟨bb,0,none⟩)∧Bx bb 63 (seg [.int .i64 n,v] (Tn.spTo sl sl.length) [pv]) w):=by
 refine fz Tryz.func40 Z kz Z Z (fun hH=>?_)
 have hn1:=hb.n1
 have hn8:=hb.n8
 have hl14:=hb.l14
 have hl1:=hb.l1
 have hr8:(List.replicate 8 (0:Int)).length=8:=rfl
 refine zr (yM Z Z Z hH (fun b1 w2 hH3=>(oA hH3 Z (zt (seq (z8 (fun w'=>Heap [bx b1 24 [(.int .i64 n),v],base w] w') T.mixed (fun w4 hr5=>?_)))))))
 have hH6:=hH3.redrawn hr5
 refine zR [0,1,2,3] kz hH6 _ _ _ kz (zI Z Z (zZ (cs:=[(.int .i64 n),v]) T.xX Z Z (fun _ hw=>Heap.yQ hw (n:=0) Z (k:=0) Z)) (zI Z Z (zD T.yK Z) (zI Z Z (zC T.yN Z (cw (n:=0) Z Z)) (zI Z Z (zX T.y9 Z (h0.now hH6 (n:=1) Z).is) (zV (z1 4 kz Z (YX T.zA (0:Int) T.vO Z Z Z hH6 om om (fun u7 lo9 hi10 w8 hH11=>(zE (⟨(hH11.sub (sC sR)),?_⟩))))))))))
 obtain ⟨_,_,hb12,_⟩:=(Heap.yU T.zA hH11 (n:=0) rfl).is
 refine zR [5] kz (hH11.sub (sC sR)) _ _ _ kz (zI Z Z (xQ (v:=(.agg #[(.int .i64 n),v,(.int .i64 0),(.int .i64 0),(.int .i64 0),(.int .i64 0),(.int .i64 0),(.int .i64 0),(.int .i64 0),(.int .i64 0),u7])) Z (fun w=>by rw [hb12]; kernel_rfl)) (zV (z1 6 kz Z (yM Z Z Z hH11 (fun b13 w14 hH15=>(zE (⟨(hH15.sub (sC (sC sR))),(zR [7] kz (hH15.sub (sC (sC sR))) _ _ _ kz (zI Z Z (yO Z) (zV (yH kz (zJ (seq ?_))))))⟩)))))))
 have hH16:=Heap.u5 hH15 (n:=0) Z (show [(.int .i64 n),v,(.int .i64 0),(.int .i64 0),(.int .i64 0),(.int .i64 0),(.int .i64 0),(.int .i64 0),(.int .i64 0),(.int .i64 0),u7]=(seg [(.int .i64 n),v] (List.replicate 8 0) [u7]) from Z)
 refine region (oM hH16 Z (oY hH16 (z6 Z) (oY hH16 (zD T.jM Z) (oY hH16 (YY T.jR Z) (qO (n:=0) T.zA T.vO Z Z (by simp) om Z hH16 Z (fun w17 hH18=>(zt (seq (zr (oM hH18 Z (oY hH18 (z6 Z) (oY hH18 (zD T.xV Z) (oY hH18 (zD T.yK Z) (oY hH18 (yD T.yN Z (by rfl) Z (fun _ hw=>(Heap.vY hw (n:=0) Z))) (oY hH18 (zX T.y9 Z (h0.now hH18 (n:=3) Z).is) (oM hH18 Z (zt (block (loop (S:=Nat) (fun k=>[(23,(.int .i64 (k:Int))),(2,(.pointer none)),(3,(.pointer (some ⟨b13,0,none⟩))),(21,v),(22,(.int .i64 (sl.length:Int)))]) (fun k w1=>Heap [bx b13 63 (seg [(.int .i64 n),v] (Tn.spTo sl k) [u7]),ow lo9 hi10 3 1 encI u7 (List.replicate (sl.length:Int).toNat (0:Int)),bx b1 24 [(.int .i64 n),v],base w] w1∧k≤sl.length) (fun k=>sl.length - k) (0) (uC Z (uC Z (uC Z (uC Z (uC Z (Sub.nil _)))))) ?_ ?_)))))))))))))))))))
 ·exact ⟨(Heap.u5 (n:=0) hH18 Z (Z)),om⟩
 rintro k w19 ⟨hH20,hk⟩
 have hcl:=Tn.sp_len sl k
 have hbd:=Tn.sp_bd sl k
 refine zr (oY hH20 (yF Z Z) (zt (seq ?_)))
 by_cases hc21:(k:Int)<(sl.length:Int)
 ·refine zP Z (dT hc21) (skip (zJ (seq (block (seq ?_)))))
  obtain ⟨⟨hx1,hx2⟩,hx3,hx4⟩:=hb.ok k (by omega)
  have hbx:=hbd (nth sl (k:Int)).1
  have hls:((Tn.spTo sl k).set (nth sl (k:Int)).1.toNat (nth (Tn.spTo sl k) (nth sl (k:Int)).1+1)).length=8:=by rw [List.length_set]; exact hcl
  have hby:=(Tn.set_bd (i:=(nth sl (k:Int)).1.toNat) (v:=nth (Tn.spTo sl k) (nth sl (k:Int)).1+1) hbd (by omega)) (nth sl (k:Int)).2
  refine region (oY hH20 (zN T.y9 Z Z (h0.now hH20 (n:=3) Z).is om) (oY hH20 (zZ (cs:=[(.int .i64 ((nth sl (k:Int)).1)),(.int .i64 ((nth sl (k:Int)).2))]) T.jL Z Z (fun _ hw=>Rd.VS (h0.now hw (n:=3) Z) (i:=(k:Int)) om)) (xG (z:=(.agg #[(.int .i64 0),(.int .i64 0)])) (fun _=>by kernel_rfl) Z Z hH20 (fun b22 w23 hH24=>(yS (n:=0) (j:=0) Z Z hH24 Z T.VK Z Z Z (by rfl) (fun w25 hH26=>(zt (seq (z8 (fun w'=>True) T.mixed (fun w27 hr28=>?_))))))))))
  have hH29:=hH26.redrawn hr28
  refine zR [0,1,3,4,8,9] kz trivial _ _ _ kz (qM Z Z Z (zI Z Z (zY T.xA Z Z om) (zI Z Z (z6 Z) (zI Z Z (zD T.jM Z) (zI Z Z (z6 Z) (zI Z Z (zD T.jM Z) (zV (z1 2 kz Z (oY hH29 (zC T.yB Z (cw (n:=0) Z Z)) (zE (⟨trivial,(zR [5] kz trivial _ _ _ kz (zI Z Z (zY T.jR Z Z om) (zV (z1 6 kz Z (oY hH29 (kE (i:=(nth sl (k:Int)).1) T.yB Z (by simp) om (fun _ hw=>(Heap.vY hw (n:=1) Z))) (zE (⟨trivial,(zR [7,10] kz trivial _ _ _ kz ?_)⟩)))))))⟩)))))))))))
  refine zI Z Z (zU Z Z om) (zI Z Z (zY T.jR Z Z om) (zV (z1 11 kz Z (jS (n:=1) (i:=(nth sl (k:Int)).1) Z Z (by simp) hH29 Z T.sz3 om (fun w30 hH31=>(zE (⟨trivial,(yH kz (zJ (z8 (fun w'=>True) T.mixed (fun w32 hr33=>?_))))⟩)))))))
  have hH34:=hH31.redrawn hr33
  refine zR [0,1,3,4,8,9] kz trivial _ _ _ kz (qM Z Z Z (zI Z Z (zY T.xA Z Z om) (zI Z Z (z6 Z) (zI Z Z (zD T.jM Z) (zI Z Z (z6 Z) (zI Z Z (zD T.jM Z) (zV (z1 2 kz Z (oY hH34 (zC T.yB Z (cw (n:=0) Z Z)) (zE (⟨trivial,(zR [5] kz trivial _ _ _ kz (zI Z Z (zY T.jR Z Z om) (zV (z1 6 kz Z (oY hH34 (kE (i:=(nth sl (k:Int)).2) T.yB Z (by simp) om (fun _ hw=>(Heap.vY hw (n:=1) Z))) (zE (⟨trivial,(zR [7,10] kz trivial _ _ _ kz ?_)⟩)))))))⟩)))))))))))
  refine zI Z Z (xI Z Z om) (zI Z Z (zY T.jR Z Z om) (zV (z1 11 kz Z (jS (n:=1) (i:=(nth sl (k:Int)).2) Z Z (by simp) hH34 Z T.sz3 om (fun w35 hH36=>(zE (⟨trivial,(yH kz (yC (zJ (region (oY hH36 (zU Z Z om) (oM hH36 Z (zE (yX (k+1) (uC Z (uC Z (uC Z (uC Z (uC Z (Sub.nil _)))))) (⟨(Heap.u5 (n:=0) (hH36.sub (sC sR)) Z (Z)),om⟩) om3))))))))⟩)))))))
 refine zM Z (dF hc21) (exit (yR (xH (zW (zu (oM hH20 Z (oA hH20 Z (zt (ret (fin ((hH20.sub (sK (sC (sC sR)))).front (n:=1) Z) (fun w' hf=>(yI Z (rt Z))) (fun w' hf=>?_)))))))))))
 have hkl:k=sl.length:=by omega
 subst hkl
 exact ⟨_,_,Z,Heap.vY hf (n:=0) Z⟩
end Go.Fip
namespace Go.Fip
open Go.Proofs Go.RowKit
theorem Heap.XU {α:Type} {E sz n lo hi:Nat} {enc:α→List Value} {v:Value} {xs:List α} {φ:World→Prop} {H:List Item} {w:World} (hH:Heap H w) (hn:H[n]? = some ⟨lo,hi,φ⟩)
  (hφ:∀ w',φ w'→∃ ys:List α,Own E sz enc v ys w') (hown:Own E sz enc v xs w):Heap (H.set n (ow lo hi E sz enc v xs)) w:=by
 have hok:=hH.okAt hn
 refine hH.set hn ⟨Z,Z,Z,Nat.le_refl _,fun _ _ _=>Z⟩ (.inl ⟨Nat.le_refl _,Nat.le_refl _⟩) (vM ⟨hown,fun g hg=>?_⟩ hok.1 hok.2.1)
 by_cases hin:lo≤g∧g<hi
 ·exact hin
 ·exfalso
  have hlt:=(hown.lt g hg).2
  obtain ⟨ys,h1⟩:=hφ _ (hok.2.2 (w.putObj g (.deferred none)) ⟨rfl,rfl,rfl,by simp,fun k a b=>World.putObj_heap_other (by simp only at a b; omega)⟩)
  rcases h1.2 with ⟨hv,_⟩ | ⟨g',cap,cur,hv,_,hg',_⟩
  ·rw [hv] at hg; cases hg
  ·rw [hv] at hg
   simp [Value.ownBlock] at hg
   subst hg
   rw [World.putObj_heap_same hlt] at hg'
   cases hg'
theorem Heap.YU {t n lo hi b:Nat} {pre:List Value} {C:List Int} {φ:World→Prop} {H:List Item} {w:World} (hH:Heap H w) (hn:H[n]? = some ⟨lo,hi,φ⟩) (hφ:∀ w',φ w'→∃ pv,Bx b t (seg pre C [pv]) w') :
  ∃ pv,Heap (H.set n (bx b t (seg pre C [pv]))) w:=by
 have hok:=hH.okAt hn
 obtain ⟨pv,hbx⟩:=hφ w hok.now
 have hbin:=Item.within hok hbx (fun w' h _ hx=>by
  obtain ⟨_,hb'⟩:=hφ w' h
  unfold Bx at hb'
  rw [hb'] at hx; cases hx)
 exact ⟨pv,hH.set hn ⟨Z,Z,Z,Nat.le_refl _,fun _ _ _=>Z⟩ (.inl ⟨hbin.1,hbin.2⟩) (kV hbx)⟩
theorem WC {v:Value} {sl:List Tn.Pr} {n:Int} {w:World} (h0:Rd encP 2 v sl w) (hb:Tn.Book n sl)  :
  Fn Tryz.prog 15 [(.agg #[(.int .i64 n),v])].toArray w (fun u w=>∃ (bb:Nat) (pv:Value),u=.tuple #[.pointer (some ⟨bb,0,none⟩),.int .i64 0]∧Bx bb 63 (seg [.int .i64 n,v] (Tn.spTo sl sl.length) [pv]) w):=by
 refine fz Tryz.func15 Z kz Z Z (fun hH=>?_)
 have hn1:=hb.n1
 have hn8:=hb.n8
 have hl14:=hb.l14
 have hl1:=hb.l1
 have hc0:=Tn.ck_iff.2 hb
 refine zr (yM Z Z Z hH (fun b1 w2 hH3=>(oA hH3 Z (oA hH3 Z (zt (seq (zr (oY hH3 (zZ (cs:=[(.int .i64 n),v]) T.xX Z Z (fun _ hw=>Heap.yQ hw (n:=0) Z (k:=0) Z)) (zS Z Z Z hH3 (c18 (h0.now hH3 (n:=1) Z) om) (fun w4 hH5=>(oA hH5 Z (zs (oM hH5 Z (oY hH5 (yT Z Z) (zt ?_)))))))))))))))
 have hc6:¬ (¬ ((Tn.ck n sl)=0)):=fun h=>h hc0
 refine zM Z (yW hc6) (skip (zu (oY hH5 (zZ (cs:=[(.int .i64 n),v]) T.xX Z Z (fun _ hw=>Heap.yQ hw (n:=0) Z (k:=0) Z)) (xR Z Z Z hH5 (c40 (h0.now hH5 (n:=1) Z) hb) (fun u9 w7 lo10 hi11 hH8 hv12=>?_)))))
 obtain ⟨bbD14,_,hu, -⟩:=hv12
 subst hu
 obtain ⟨pvD14,hH13⟩:=Heap.YU (b:=bbD14) (t:=63) (pre:=[.int .i64 n,v]) (C:=(Tn.spTo sl sl.length)) hH8 (n:=0) rfl (fun w' h=>by obtain ⟨b',pv',e,h⟩:=h; cases e; exact ⟨pv',h⟩)
 refine oA hH13 Z (oA hH13 Z (zt (ret (fin ((hH13.sub (sK (sC sR))).front (n:=1) Z) (fun w' hf=>(u0 Z (rt Z) (rt Z))) (fun w' hf=>?_)))))
 exact ⟨_,_,Z,Heap.vY hf (n:=0) Z⟩
theorem c42 {bb:Nat} {pv:Value} {n:Int} {v:Value} {C:List Int} {w:World} (kb:Bx bb 63 (seg [.int .i64 n,v] C [pv]) w) (hC:C.length=8) {sl:List Tn.Pr} (h0:Rd encP 2 v sl w) (hb:Tn.Book n sl) {f:Int} (hf0:0≤f∧f<n)  :
  Fn Tryz.prog 42 [(.pointer (some ⟨bb,0,none⟩)),(.int .i64 f)].toArray w (fun u w=>∃ P,Own 3 1 encI u P w∧Tn.Part sl f P):=by
 refine fz Tryz.func42 Z kz Z Z (fun hH=>?_)
 have hn1:=hb.n1
 have hn8:=hb.n8
 have hl14:=hb.l14
 have hl1:=hb.l1
 refine zr (oA hH Z (zt (scope (zr (oM hH Z (yJ T.zA [f] Z (fun w=>by kernel_rfl) hH (fun u1 lo3 hi4 w2 hH5=>(oA hH5 Z (zt (seq (label (zJ (seq (zr (oA hH5 Z (zt ?_))))))))))))))))
 refine block (loop (S:=Nat×List Int×Value×Nat×Nat) (fun (i,out,v_5,lo_5,hi_5)=>[(6,(.int .i64 (i:Int))),(5,v_5),(0,(.pointer (some ⟨bb,0,none⟩))),(4,(.slice none 0 0))]) (fun (i,out,v_5,lo_5,hi_5) w1=>Heap [ow lo_5 hi_5 3 1 encI v_5 out,base w] w1∧i≤sl.length∧Tn.Comes n sl f out∧∀ j:Nat,j<i→((nth sl (j:Int)).1∈out↔(nth sl (j:Int)).2∈out)) (fun (i,out,v_5,lo_5,hi_5)=>(8 - out.length) * 20+(sl.length - i)) (0,[f],u1,lo3,hi4) (uC Z (uC Z (uC Z (uC Z (Sub.nil _))))) ?_ ?_)
 ·exact ⟨hH5,om,Tn.Comes.start hf0,fun j hj=>by omega⟩
 rintro ⟨i,out,v_5,lo_5,hi_5⟩ w6 ⟨hH7,hi,hC,hS⟩
 have hol:=hC.len hn8
 have hob:=hb.ok i
 refine seq (zr (oM hH7 Z (oM hH7 Z (oY hH7 (z6 Z) (oY hH7 (zD T.xV Z) (oY hH7 (zD T.yK Z) (oY hH7 (yD T.yN Z (by rfl) Z (fun _ hw=>(kb.now hw (n:=1) Z))) (oY hH7 (zX T.y9 Z (h0.now hH7 (n:=1) Z).is) (oY hH7 (yF Z Z) (zt ?_))))))))))
 by_cases hc8:(i:Int)<(sl.length:Int)
 ·refine zP Z (dT hc8) (skip (zJ (seq (block (zr (oM hH7 Z (zt (block (loop (S:=Nat×Value×Nat×Nat) (fun (k,v_5,lo_5,hi_5)=>[(20,(.int .i64 (k:Int))),(6,(.int .i64 (i:Int))),(5,v_5),(0,(.pointer (some ⟨bb,0,none⟩))),(4,(.slice none 0 0))]) (fun (k,v_5,lo_5,hi_5) w1=>Heap [ow lo_5 hi_5 3 1 encI v_5 out,base w] w1∧k≤2∧(1≤k→((nth sl (i:Int)).1∈out→(nth sl (i:Int)).2∈out))∧(2≤k→((nth sl (i:Int)).2∈out→(nth sl (i:Int)).1∈out))) (fun (k,v_5,lo_5,hi_5)=>2 - k) (0,v_5,lo_5,hi_5) (uC Z (uC Z (uC Z (uC Z (uC Z (Sub.nil _)))))) ?_ ?_)))))))))
  ·exact ⟨hH7,om,fun h=>by omega,fun h=>by omega⟩
  rintro ⟨k,v_5,lo_5,hi_5⟩ w9 ⟨hH10,hk,hk0i,hk1i⟩
  refine zr (oY hH10 (yF Z Z) (zt (seq ?_)))
  by_cases hc11:(k:Int)<2
  ·refine zP Z (dT hc11) (skip (zJ (seq (block (zr (oM hH10 Z (oA hH10 Z (zt (seq ?_)))))))))
   by_cases hc12:k=0
   ·have hk0:k=0 := ‹_›
    have hpa:=@S.place_iff out (nth sl (i:Int)).1
    have hpb:=@S.place_iff out (nth sl (i:Int)).2
    obtain ⟨⟨hx1,hx2⟩,hx3,hx4⟩:=hob (by omega)
    refine region (oM hH10 Z (oM hH10 Z (oY hH10 (z6 Z) (oY hH10 (zD T.xV Z) (oY hH10 (zD T.yK Z) (oY hH10 (yD T.yN Z (by rfl) Z (fun _ hw=>(kb.now hw (n:=1) Z))) (oM hH10 Z (oY hH10 (xC (show (k:Int)=0 by omega) (y8 Z)) (oY hH10 (zN T.y9 Z Z (h0.now hH10 (n:=1) Z).is om) (oY hH10 (zY T.xA Z Z om) (oY hH10 (zC T.yB Z (fun _ hw=>Rd.at (h0.now hw (n:=1) Z) (i:=(i:Int)) om (j:=0) Z)) (zS Z Z Z hH10 (c20 (Heap.yU T.zA hH10 (n:=0) Z) om) (fun w13 hH14=>(oM hH14 Z ?_))))))))))))))
    by_cases hc15:0≤S.place out ((nth sl (i:Int)).1)
    ·refine zB Z Z (dT hc15) (oM hH14 Z (zB Z Z (dT hc15) (oM hH14 Z (zB Z Z (dT hc15) (oY hH14 (z6 Z) (zB Z Z (dT hc15) (oY hH14 (zD T.xV Z) (zB Z Z (dT hc15) (oY hH14 (zD T.yK Z) (zB Z Z (dT hc15) (oY hH14 (yD T.yN Z (by rfl) Z (fun _ hw=>(kb.now hw (n:=1) Z))) (zB Z Z (dT hc15) (oM hH14 Z (zB Z Z (dT hc15) (oY hH14 (xC (show (k:Int)=0 by omega) (y8 Z)) (zB Z Z (dT hc15) (oY hH14 (xC (show 1 - 0=1 by omega) (xI Z Z om)) (zB Z Z (dT hc15) (oY hH14 (zN T.y9 Z Z (h0.now hH14 (n:=1) Z).is om) (zB Z Z (dT hc15) (oY hH14 (zY T.xA Z Z om) ?_)))))))))))))))))))))
     refine zB Z Z (dT hc15) (oY hH14 (zC T.yB Z (fun _ hw=>Rd.at (h0.now hw (n:=1) Z) (i:=(i:Int)) om (j:=1) Z)) (zB Z Z (dT hc15) (zS Z Z Z hH14 (c20 (Heap.yU T.zA hH14 (n:=0) Z) om) (fun w16 hH17=>(zB Z Z (dT hc15) (oY hH17 (xD Z) (oY hH17 (z7 Z (dT hc15) Z) (zt ?_))))))))
     by_cases hc18:0≤S.place out ((nth sl (i:Int)).2)
     ·have hsec:0≤S.place out (nth sl (i:Int)).2:=by have hq:=(zH hc18); first | exact hq | simpa using hq
      refine zM Z (zH hc18) (skip (yC (zJ (region (oY hH17 (zU Z Z om) (oM hH17 Z (zE (yX (k+1,v_5,lo_5,hi_5) (uC Z (uC Z (uC Z (uC Z (uC Z (Sub.nil _)))))) (⟨hH17,om,fun _ h1=>by first | exact absurd (hpa.2 h1) om | exact hpb.1 hsec,fun h=>by omega⟩) om3))))))))
     have hin:(nth sl (i:Int)).1∈out∧(nth sl (i:Int)).2 ∉ out:=by have hq:=(zG hc18); exact ⟨hpa.1 (by omega),fun hm=>absurd (hpb.2 hm) (by first | exact hq | simpa using hq)⟩
     have hadd:Tn.Comes n sl f (out++[(nth sl (i:Int)).2]):=hC.add hin.1 hin.2 (by omega) (fun C hC2=>hC2 i (by omega))
     refine zP Z (zG hc18) (zr (oM hH17 Z (oM hH17 Z (oY hH17 (z6 Z) (oY hH17 (zD T.xV Z) (oY hH17 (zD T.yK Z) (oY hH17 (yD T.yN Z (by rfl) Z (fun _ hw=>(kb.now hw (n:=1) Z))) (oM hH17 Z (oY hH17 (xC (show (k:Int)=0 by omega) (y8 Z)) (oY hH17 (xC (show 1 - 0=1 by omega) (xI Z Z om)) (oY hH17 (zN T.y9 Z Z (h0.now hH17 (n:=1) Z).is om) (oY hH17 (zY T.xA Z Z om) (oY hH17 (zC T.yB Z (fun _ hw=>Rd.at (h0.now hw (n:=1) Z) (i:=(i:Int)) om (j:=1) Z)) (yJ T.zA [(nth sl (i:Int)).2] Z (fun w=>by kernel_rfl) hH17 (fun u19 lo21 hi22 w20 hH23=>(yG (n:=1) T.zA Z Z Z hH23 Z (Heap.yU T.zA hH23 (n:=0) Z) (by first | omega | (simp only [List.length_append,List.length_cons,List.length_nil]; omega)) (fun u24 lo26 hi27 w25 hH28=>(oA hH28 Z (zs ?_)))))))))))))))))))
     refine oA hH28 Z (zt (exit (j8 Z (yR (xH (j8 Z (zW (zJ (region (oM hH28 Z (oY hH28 (zU Z Z om) (oA hH28 Z (zE ?_)))))))))))))
     have hH29:=(hH28.sub (sC sR))
     refine yX (0,(out++[(nth sl (i:Int)).2]),u24,lo26,hi27) (Sub.cons (by first | rfl | exact congrArg (fun z=>some (Value.int .i64 z)) om) (uC Z (uC Z (uC Z (Sub.nil _))))) ?_ ?_
     ·exact ⟨hH29,om,hadd,fun j hj=>by omega⟩
     ·dsimp only; first | (have hol2:=hadd.len hn8; rw [List.length_append,List.length_singleton] at hol2 ⊢; omega) | omega
    refine zF Z Z (dF hc15) Z (zF Z Z (dF hc15) Z (zF Z Z (dF hc15) Z (zF Z Z (dF hc15) Z (zF Z Z (dF hc15) Z (zF Z Z (dF hc15) Z (zF Z Z (dF hc15) Z (zF Z Z (dF hc15) Z (zF Z Z (dF hc15) Z (zF Z Z (dF hc15) Z (zF Z Z (dF hc15) Z (zF Z Z (dF hc15) Z (zF Z Z (dF hc15) Z (zF Z Z (dF hc15) Z (oY hH14 (yA Z (dF hc15) Z) (zt (zM Z Z (skip (yC (zJ (region ?_))))))))))))))))))))
    refine oY hH14 (zU Z Z om) (oM hH14 Z (zE (yX (k+1,v_5,lo_5,hi_5) (uC Z (uC Z (uC Z (uC Z (uC Z (Sub.nil _)))))) (⟨hH14,om,fun _ h1=>by first | exact absurd (hpa.2 h1) om | exact hpb.1 hsec,fun h=>by omega⟩) om3)))
   have hk1:k=1:=by omega
   have hpa:=@S.place_iff out (nth sl (i:Int)).2
   have hpb:=@S.place_iff out (nth sl (i:Int)).1
   obtain ⟨⟨hx1,hx2⟩,hx3,hx4⟩:=hob (by omega)
   refine region (oM hH10 Z (oM hH10 Z (oY hH10 (z6 Z) (oY hH10 (zD T.xV Z) (oY hH10 (zD T.yK Z) (oY hH10 (yD T.yN Z (by rfl) Z (fun _ hw=>(kb.now hw (n:=1) Z))) (oM hH10 Z (oY hH10 (xC (show (k:Int)=1 by omega) (y8 Z)) (oY hH10 (zN T.y9 Z Z (h0.now hH10 (n:=1) Z).is om) (oY hH10 (zY T.xA Z Z om) (oY hH10 (zC T.yB Z (fun _ hw=>Rd.at (h0.now hw (n:=1) Z) (i:=(i:Int)) om (j:=1) Z)) (zS Z Z Z hH10 (c20 (Heap.yU T.zA hH10 (n:=0) Z) om) (fun w30 hH31=>(oM hH31 Z ?_))))))))))))))
   by_cases hc32:0≤S.place out ((nth sl (i:Int)).2)
   ·refine zB Z Z (dT hc32) (oM hH31 Z (zB Z Z (dT hc32) (oM hH31 Z (zB Z Z (dT hc32) (oY hH31 (z6 Z) (zB Z Z (dT hc32) (oY hH31 (zD T.xV Z) (zB Z Z (dT hc32) (oY hH31 (zD T.yK Z) (zB Z Z (dT hc32) (oY hH31 (yD T.yN Z (by rfl) Z (fun _ hw=>(kb.now hw (n:=1) Z))) (zB Z Z (dT hc32) (oM hH31 Z (zB Z Z (dT hc32) (oY hH31 (xC (show (k:Int)=1 by omega) (y8 Z)) (zB Z Z (dT hc32) (oY hH31 (xC (show 1 - 1=0 by omega) (xI Z Z om)) (zB Z Z (dT hc32) (oY hH31 (zN T.y9 Z Z (h0.now hH31 (n:=1) Z).is om) (zB Z Z (dT hc32) (oY hH31 (zY T.xA Z Z om) ?_)))))))))))))))))))))
    refine zB Z Z (dT hc32) (oY hH31 (zC T.yB Z (fun _ hw=>Rd.at (h0.now hw (n:=1) Z) (i:=(i:Int)) om (j:=0) Z)) (zB Z Z (dT hc32) (zS Z Z Z hH31 (c20 (Heap.yU T.zA hH31 (n:=0) Z) om) (fun w33 hH34=>(zB Z Z (dT hc32) (oY hH34 (xD Z) (oY hH34 (z7 Z (dT hc32) Z) (zt ?_))))))))
    by_cases hc35:0≤S.place out ((nth sl (i:Int)).1)
    ·have hsec:0≤S.place out (nth sl (i:Int)).1:=by have hq:=(zH hc35); first | exact hq | simpa using hq
     refine zM Z (zH hc35) (skip (yC (zJ (region (oY hH34 (zU Z Z om) (oM hH34 Z (zE (yX (k+1,v_5,lo_5,hi_5) (uC Z (uC Z (uC Z (uC Z (uC Z (Sub.nil _)))))) (⟨hH34,om,fun _=>hk0i om,fun _ h1=>by first | exact absurd (hpa.2 h1) om | exact hpb.1 hsec⟩) om3))))))))
    have hin:(nth sl (i:Int)).2∈out∧(nth sl (i:Int)).1 ∉ out:=by have hq:=(zG hc35); exact ⟨hpa.1 (by omega),fun hm=>absurd (hpb.2 hm) (by first | exact hq | simpa using hq)⟩
    have hadd:Tn.Comes n sl f (out++[(nth sl (i:Int)).1]):=hC.add hin.1 hin.2 (by omega) (fun C hC2=>(hC2 i (by omega)).symm)
    refine zP Z (zG hc35) (zr (oM hH34 Z (oM hH34 Z (oY hH34 (z6 Z) (oY hH34 (zD T.xV Z) (oY hH34 (zD T.yK Z) (oY hH34 (yD T.yN Z (by rfl) Z (fun _ hw=>(kb.now hw (n:=1) Z))) (oM hH34 Z (oY hH34 (xC (show (k:Int)=1 by omega) (y8 Z)) (oY hH34 (xC (show 1 - 1=0 by omega) (xI Z Z om)) (oY hH34 (zN T.y9 Z Z (h0.now hH34 (n:=1) Z).is om) (oY hH34 (zY T.xA Z Z om) (oY hH34 (zC T.yB Z (fun _ hw=>Rd.at (h0.now hw (n:=1) Z) (i:=(i:Int)) om (j:=0) Z)) (yJ T.zA [(nth sl (i:Int)).1] Z (fun w=>by kernel_rfl) hH34 (fun u36 lo38 hi39 w37 hH40=>(yG (n:=1) T.zA Z Z Z hH40 Z (Heap.yU T.zA hH40 (n:=0) Z) (by first | omega | (simp only [List.length_append,List.length_cons,List.length_nil]; omega)) (fun u41 lo43 hi44 w42 hH45=>(oA hH45 Z (zs ?_)))))))))))))))))))
    refine oA hH45 Z (zt (exit (j8 Z (yR (xH (j8 Z (zW (zJ (region (oM hH45 Z (oY hH45 (zU Z Z om) (oA hH45 Z (zE ?_)))))))))))))
    have hH46:=(hH45.sub (sC sR))
    refine yX (0,(out++[(nth sl (i:Int)).1]),u41,lo43,hi44) (Sub.cons (by first | rfl | exact congrArg (fun z=>some (Value.int .i64 z)) om) (uC Z (uC Z (uC Z (Sub.nil _))))) ?_ ?_
    ·exact ⟨hH46,om,hadd,fun j hj=>by omega⟩
    ·dsimp only; first | (have hol2:=hadd.len hn8; rw [List.length_append,List.length_singleton] at hol2 ⊢; omega) | omega
   refine zF Z Z (dF hc32) Z (zF Z Z (dF hc32) Z (zF Z Z (dF hc32) Z (zF Z Z (dF hc32) Z (zF Z Z (dF hc32) Z (zF Z Z (dF hc32) Z (zF Z Z (dF hc32) Z (zF Z Z (dF hc32) Z (zF Z Z (dF hc32) Z (zF Z Z (dF hc32) Z (zF Z Z (dF hc32) Z (zF Z Z (dF hc32) Z (zF Z Z (dF hc32) Z (zF Z Z (dF hc32) Z (oY hH31 (yA Z (dF hc32) Z) (zt (zM Z Z (skip (yC (zJ (region ?_))))))))))))))))))))
   refine oY hH31 (zU Z Z om) (oM hH31 Z (zE (yX (k+1,v_5,lo_5,hi_5) (uC Z (uC Z (uC Z (uC Z (uC Z (Sub.nil _)))))) (⟨hH31,om,fun _=>hk0i om,fun _ h1=>by first | exact absurd (hpa.2 h1) om | exact hpb.1 hsec⟩) om3)))
  refine zM Z (dF hc11) (exit (yR (xH (zW (yC (zJ (region (oM hH10 Z (oY hH10 (zU Z Z om) (oA hH10 Z (zE (yX (i+1,out,v_5,lo_5,hi_5) (Sub.cons (by first | rfl | exact congrArg (fun z=>some (Value.int .i64 z)) om) (uC Z (uC Z (uC Z (Sub.nil _))))) ?_ ?_))))))))))))
  ·exact ⟨hH10,om,hC,fun j hj=>by by_cases e:j=i; exact e ▸ ⟨hk0i om,hk1i om⟩; exact hS j om⟩
  ·dsimp only; first | (have hol2:=hadd.len hn8; rw [List.length_append,List.length_singleton] at hol2 ⊢; omega) | omega
 refine zM Z (dF hc8) (exit (yR (xH (zW (zJ (seq ?_))))))
 have hol3:=hC.len hn8
 have ho1:1≤out.length:=List.length_pos_of_mem hC.mem
 refine region (oM hH7 Z ?_)
 obtain ⟨g47,hgb48,hgl49⟩:=Ow.blk (show Ow _ _ _ _ _ _ _ _ from hH7.get (n:=0) rfl) (by first | assumption | omega | (simp; done) | decide)
 refine uS (g:=g47) (n:=0) Z Z Z hH7 Z hgl49 (c95 (Heap.own hH7 (n:=0) Z) hgb48 (by first | omega | (simp; done)) (by first | omega | (simp; done))) (fun u52 w50 hH51 hv53=>?_)
 obtain ⟨rfl, -⟩:=hv53
 have hH54:=Heap.vX (Heap.weaken hH51 (n:=0) Z (φ:=Own 3 1 encI v_5 (Ps.sorted (fun x y:Int=>decide (x<y)) out)) (fun w' h=>h.2)) (n:=0) (by rfl)
 refine zs (oM hH54 Z (oA hH54 Z (zt (ret (X5 (fin (hH54.front (n:=1) Z) (fun w' hf=>(yI Z (rt Z))) (fun w' hf=>?_)))))))
 exact ⟨_,Heap.own hf (n:=0) Z,Tn.Part.of hC hn8 Ps.sorted_perm (fun j hj=>hS j om)⟩
end Go.Fip
namespace Go.Fip
open Go.Proofs Go.RowKit
theorem X1 {P:Program} {N:Nat} {ds:List Deferred} {env:Env} {S:World→Prop} {x y:Operand} {T T':TypeId} {a b c:Bool} (hu:P.underlying T=some .bool) (hx:ev env x=some (.bool a)) (hy:ev env y=some (.bool b)) (e:(a != b)=c):Yv P N ds env (.binOp .neq T x y T') (.bool c) S:=fun act hact w _ _ _ _ _ _=>by
 subst e
 have h:(Op.equalIn Op.maxDepth T (.bool a) (.bool b)).run P w=.ok (a == b) w:=by
  have key:∀ d,(Op.equalIn (d+1) T (.bool a) (.bool b)).run P w=.ok (a == b) w:=fun d=>by simp [Op.equalIn,run_underlying hu,Result.andThen]
  exact key 9999
 simp [execOp,hact.ev hx,hact.ev hy,eqGuard,binOp,Op.equal,h,Result.andThen,bne]
theorem c41 {bb:Nat} {pv:Value} {n:Int} {v:Value} {C:List Int} {w:World} (kb:Bx bb 63 (seg [.int .i64 n,v] C [pv]) w) (hC:C.length=8) {sl:List Tn.Pr} (h0:Rd encP 2 v sl w) (hb:Tn.Book n sl) {vp:Value} {P:List Int} (hp:Rd encI 1 vp P w) (hP:Tn.Part sl (nth sl 0).1 P)  :
  Fn Tryz.prog 41 [(.pointer (some ⟨bb,0,none⟩)),vp].toArray w (fun u _=>u=.bool (decide (1≤(Tn.inTo sl P sl.length:Int)∧(Tn.inTo sl P sl.length:Int)≤(sl.length:Int) - 1))):=by
 refine fz Tryz.func41 Z kz Z Z (fun hH=>?_)
 have hn1:=hb.n1
 have hn8:=hb.n8
 have hl14:=hb.l14
 have hl1:=hb.l1
 have hpl:=hP.len
 refine zr (oA hH Z (zs (oA hH Z (zt (seq (zr (oM hH Z (oY hH (z6 Z) (oY hH (zD T.xV Z) (oY hH (zD T.yK Z) (oY hH (yD T.yN Z (by rfl) Z (fun _ hw=>(kb.now hw (n:=0) Z))) (oY hH (zX T.y9 Z (h0.now hH (n:=0) Z).is) (oM hH Z (zt ?_))))))))))))))
 refine block (loop (S:=Nat) (fun k=>[(15,(.int .i64 (k:Int))),(5,(.int .i64 (Tn.inTo sl P k:Int))),(0,(.pointer (some ⟨bb,0,none⟩))),(1,vp),(13,v),(14,(.int .i64 (sl.length:Int)))]) (fun k w1=>Heap [base w] w1∧k≤sl.length) (fun k=>sl.length - k) (0) (uC Z (uC Z (uC Z (uC Z (uC Z (uC Z (Sub.nil _))))))) ?_ ?_)
 ·exact ⟨hH,om⟩
 rintro k w1 ⟨hH2,hk⟩
 have hle:=Tn.inTo_le sl P k
 refine zr (oY hH2 (yF Z Z) (zt (seq ?_)))
 by_cases hc3:(k:Int)<(sl.length:Int)
 ·refine zP Z (dT hc3) (skip (zJ (seq (block (zr (oY hH2 (zN T.y9 Z Z (h0.now hH2 (n:=0) Z).is om) (oY hH2 (zZ (cs:=[(.int .i64 ((nth sl (k:Int)).1)),(.int .i64 ((nth sl (k:Int)).2))]) T.jL Z Z (fun _ hw=>Rd.VS (h0.now hw (n:=0) Z) (i:=(k:Int)) om)) (xG (z:=(.agg #[(.int .i64 0),(.int .i64 0)])) (fun _=>by kernel_rfl) Z Z hH2 (fun b4 w5 hH6=>(yS (n:=0) (j:=0) Z Z hH6 Z T.VK Z Z Z (by rfl) (fun w7 hH8=>(zt (seq ?_)))))))))))))
  obtain ⟨⟨hx1,hx2⟩,hx3,hx4⟩:=hb.ok k (by omega)
  have hpa:=@S.place_iff P (nth sl (k:Int)).1
  have hpp:(0≤S.place P (nth sl (k:Int)).1)↔(0≤S.place P (nth sl (k:Int)).2):=(hpa.trans (hP.shut k (by omega))).trans (@S.place_iff P (nth sl (k:Int)).2).symm
  refine region (oM hH8 Z (oY hH8 (zY T.xA Z Z om) (oY hH8 (zC T.yB Z (cw (n:=0) Z Z)) (zS Z Z Z hH8 (c20 (hp.now hH8 (n:=1) Z) om) (fun w9 hH10=>(oA hH10 Z (zt (seq (zr (oM hH10 Z (oM hH10 Z (oY hH10 (zY T.xA Z Z om) (oY hH10 (zC T.yB Z (cw (n:=0) Z Z)) (zS Z Z Z hH10 (c20 (hp.now hH10 (n:=1) Z) om) (fun w11 hH12=>(oY hH12 (X1 Tryz.underlying4 Z Z (show _=false from by rw [decide_eq_decide.2 hpp]; exact bne_self_eq_false _)) ?_))))))))))))))))
  refine zt (zM Z Z (skip (zu (oM hH12 Z (zt ?_)))))
  by_cases hc13:0≤S.place P ((nth sl (k:Int)).1)
  ·refine zP Z (dT hc13) (region (oM hH12 Z (oY hH12 (zU Z Z om) (oA hH12 Z (zE (yC (zJ (region (oY hH12 (zU Z Z om) (oM hH12 Z (zE (yX (k+1) (uC Z (Sub.cons (by first | exact congrArg (fun z=>some (Value.int .i64 z)) (Tn.in_t (hpa.1 om)).symm | exact congrArg (fun z=>some (Value.int .i64 z)) (Tn.in_f (fun h=>absurd (hpa.2 h) om)).symm) (uC Z (uC Z (uC Z (uC Z (Sub.nil _))))))) (⟨(hH12.sub (sC sR)),om⟩) om3))))))))))))
  refine zM Z (dF hc13) (skip (yC (zJ (region (oY hH12 (zU Z Z om) (oM hH12 Z (zE (yX (k+1) (uC Z (Sub.cons (by first | exact congrArg (fun z=>some (Value.int .i64 z)) (Tn.in_t (hpa.1 om)).symm | exact congrArg (fun z=>some (Value.int .i64 z)) (Tn.in_f (fun h=>absurd (hpa.2 h) om)).symm) (uC Z (uC Z (uC Z (uC Z (Sub.nil _))))))) (⟨(hH12.sub (sC sR)),om⟩) om3))))))))
 refine zM Z (dF hc3) (exit (yR (xH (zW (zu (oM hH2 Z (oY hH2 (z6 Z) (oY hH2 (zD T.xV Z) (oY hH2 (zD T.yK Z) (oY hH2 (yD T.yN Z (by rfl) Z (fun _ hw=>(kb.now hw (n:=0) Z))) (oY hH2 (zX T.y9 Z (h0.now hH2 (n:=0) Z).is) (oY hH2 (xI Z Z om) (oM hH2 Z (yJ T.zA [(Tn.inTo sl P k:Int)] Z (fun w=>by kernel_rfl) hH2 (fun u16 lo18 hi19 w17 hH20=>(zS Z Z Z hH20 (XM (Heap.yU T.zA hH20 (n:=0) Z)) (fun w21 hH22=>(oA hH22 Z (zt (ret ?_))))))))))))))))))))
 refine fin (hH22.sub (sC sR)) (fun w' hf=>(yI Z (rt Z))) (fun w' hf=>?_)
 have hkl:k=sl.length:=by omega
 subst hkl; rfl
theorem c44 {a b m:Int} {b1:Nat} {w:World} (k1:Bx b1 3 [.int .i64 m] w)  :
  Fn Tryz.prog 44 [(.agg #[(.int .i64 a),(.int .i64 b)]),(.pointer (some ⟨b1,0,none⟩))].toArray w (fun u _=>u=.bool (decide (a=m))):=by
 refine fz Tryz.func44 Z kz Z Z (fun hH=>(zr (yM Z Z Z hH (fun b1 w2 hH3=>(oA hH3 Z (zs (oY hH3 (zY T.xA Z Z om) (oY hH3 (zC T.yB Z (cw (n:=0) Z Z)) (oY hH3 (zC T.yB Z (fun _ hw=>yL (k1.now hw (n:=1) Z) Z)) (oY hH3 (xJ Z Z) (oA hH3 Z (zt (ret (fin (hH3.sub (sC sR)) (fun w' hf=>(yI Z (rt Z))) (fun w' hf=>Z)))))))))))))))
theorem WB {v:Value} {sl:List Tn.Pr} {m:Int} {b1:Nat} {w:World} (h0:Rd encP 2 v sl w) (k1:Bx b1 3 [.int .i64 m] w) (hl:sl.length≤1000000)  :
  Fn Tryz.prog 111 [v,(.func (.func 44) #[] #[(.pointer (some ⟨b1,0,none⟩))])].toArray w (fun u _=>u=.int .i64 (idx (fun x:Tn.Pr=>decide (x.1=m)) sl)):=by
 refine fz Tryz.func111 Z kz Z Z (fun hH=>(zr (oA hH Z (zt (seq (zr (oM hH Z (oY hH (zX T.y9 Z (h0.now hH (n:=0) Z).is) (oM hH Z (zt (block (loop (S:=Nat) (fun k=>[(8,(.int .i64 (k:Int))),(0,v),(1,(.func (.func 44) #[] #[(.pointer (some ⟨b1,0,none⟩))])),(7,(.int .i64 (sl.length:Int)))]) (fun k w1=>Heap [base w] w1∧k≤sl.length∧∀ i,i<k→(fun x:Tn.Pr=>decide (x.1=m)) (nth sl (i:Int))=false) (fun k=>sl.length - k) (0) (uC Z (uC Z (uC Z (uC Z (Sub.nil _))))) ?_ ?_))))))))))))
 ·exact ⟨hH,om,S.all_zero⟩
 rintro k w1 ⟨hH2,hk,hall⟩
 refine zr (oY hH2 (yF Z Z) (zt (seq ?_)))
 by_cases hc3:(k:Int)<(sl.length:Int)
 ·refine zP Z (dT hc3) (skip (zJ (seq (block (zr (oM hH2 Z (oA hH2 Z (zs (oM hH2 Z (oM hH2 Z (oM hH2 Z (oY hH2 (zN T.y9 Z Z (h0.now hH2 (n:=0) Z).is om) (oY hH2 (zZ (cs:=[(.int .i64 ((nth sl (k:Int)).1)),(.int .i64 ((nth sl (k:Int)).2))]) T.jL Z Z (fun _ hw=>Rd.VS (h0.now hw (n:=0) Z) (i:=(k:Int)) om)) (zS Z Z Z hH2 (c44 (k1.now hH2 (n:=0) Z)) (fun w4 hH5=>(zt ?_))))))))))))))))
  by_cases hc6:(nth sl (k:Int)).1=m
  ·have hp:(fun x:Tn.Pr=>decide (x.1=m)) (nth sl (k:Int))=true:=(decide_eq_true hc6)
   refine zP Z (dT hc6) (zr (oM hH5 Z (oA hH5 Z (zt (ret (y7 (yP (qD (y7 (yP (fin hH5 (fun w' hf=>(yI Z (rt Z))) (fun w' hf=>?_))))))))))))
   first | exact congrArg (Value.int .i64) (xP (k:=k) (by omega) hall hp).symm | exact congrArg (Value.int .i64) (xE (fun i hi=>hall i (by omega))).symm
  have hp:(fun x:Tn.Pr=>decide (x.1=m)) (nth sl (k:Int))=false:=(decide_eq_false hc6)
  refine zM Z (dF hc6) (skip (yC (zJ (region (oY hH5 (zU Z Z om) (oM hH5 Z (zE (yX (k+1) (uC Z (uC Z (uC Z (uC Z (Sub.nil _))))) (⟨hH5,om,S.all_snoc hall hp⟩) om3))))))))
 refine zM Z (dF hc3) (exit (yR (xH (zW (zu (oA hH2 Z (zt (ret (fin hH2 (fun w' hf=>(yI Z (rt Z))) (fun w' hf=>?_))))))))))
 first | exact congrArg (Value.int .i64) (xP (k:=k) (by omega) hall hp).symm | exact congrArg (Value.int .i64) (xE (fun i hi=>hall i (by omega))).symm
theorem WZ {v:Value} {sl:List Tn.Pr} {m:Int} {b1:Nat} {w:World} (h0:Rd encP 2 v sl w) (k1:Bx b1 3 [.int .i64 m] w) (hl:sl.length≤1000000)  :
  Fn Tryz.prog 43 [v,(.func (.func 44) #[] #[(.pointer (some ⟨b1,0,none⟩))])].toArray w (fun u _=>u=.bool (has (fun x:Tn.Pr=>decide (x.1=m)) sl)):=by
 refine fz Tryz.func43 Z kz Z Z (fun hH=>(zr (oA hH Z (zs (oM hH Z (oM hH Z (zS Z Z Z hH (WB (h0.now hH (n:=0) Z) (k1.now hH (n:=0) Z) om) (fun w1 hH2=>(oY hH2 (vK Z Z) (oA hH2 Z (zt (ret (fin hH2 (fun w' hf=>(yI Z (rt Z))) (fun w' hf=>Z))))))))))))))
theorem c16 {bb:Nat} {pv:Value} {n:Int} {v:Value} {w:World} {sl:List Tn.Pr} (kb:Bx bb 63 (seg [.int .i64 n,v] (Tn.spTo sl sl.length) [pv]) w) (h0:Rd encP 2 v sl w) (hb:Tn.Book n sl)  :
  Fn Tryz.prog 16 [(.pointer (some ⟨bb,0,none⟩))].toArray w (fun u w=>Own 3 1 encI u (Tn.starts n sl) w):=by
 refine fz Tryz.func16 Z kz Z Z (fun hH=>?_)
 have hn1:=hb.n1
 have hn8:=hb.n8
 have hl14:=hb.l14
 have hl1:=hb.l1
 have hC:=Tn.sp_len sl sl.length
 obtain ⟨⟨hx1,hx2⟩,hx3,hx4⟩:=hb.ok 0 (by omega)
 have hbd0:=Tn.sp_bd sl sl.length
 have hbd:∀ y, -28≤nth (Tn.spTo sl sl.length) y∧nth (Tn.spTo sl sl.length) y≤28:=fun y=>by have:=hbd0 y; omega
 have hf0:0≤(nth sl 0).1∧(nth sl 0).1<n:=⟨hx1,hx2⟩
 refine zr (oA hH Z (zt (seq (zr (oM hH Z (oM hH Z (oM hH Z (oY hH (z6 Z) (oY hH (zD T.xV Z) (oY hH (zD T.yK Z) (oY hH (yD T.yN Z (by rfl) Z (fun _ hw=>(kb.now hw (n:=0) Z))) (oY hH (zN T.y9 Z Z (h0.now hH (n:=0) Z).is om) (oY hH (zY T.xA Z Z om) (oY hH (zC T.yB Z (fun _ hw=>Rd.at (h0.now hw (n:=0) Z) (i:=0) om (j:=0) Z)) (xR Z Z Z hH (c42 (kb.now hH (n:=0) Z) (by first | exact Tn.sp_len _ _ | assumption) (h0.now hH (n:=0) Z) hb (by first | assumption | omega)) (fun u3 w1 lo4 hi5 hH2 hv6=>?_))))))))))))))))
 obtain ⟨P,hoP,hP⟩:=hv6
 have hH7:=Heap.XU hH2 (n:=0) Z (fun w' h=>by obtain ⟨ys,h,_⟩:=h; exact ⟨ys,h⟩) hoP
 refine zS Z Z Z hH7 (c41 (kb.now hH7 (n:=1) Z) (by first | exact Tn.sp_len _ _ | assumption) (h0.now hH7 (n:=1) Z) hb (Heap.yU T.zA hH7 (n:=0) Z) hP) (fun w8 hH9=>(zt ?_))
 by_cases hc10:1≤(Tn.inTo sl P sl.length:Int)∧(Tn.inTo sl P sl.length:Int)≤(sl.length:Int) - 1
 ·have hnc:¬ Tn.Conn sl:=(hP.apart hl1).1 (by have hq:=(decide_eq_true hc10); omega)
  refine zP Z (dT hc10) (zr (oA hH9 Z (zt (ret (yP (fin (hH9.sub (sC sR)) (fun w' hf=>(yI Z (rt Z))) (fun w' hf=>?_)))))))
  first | (rw [Tn.st_1 hnc]; exact vD) | (rw [Tn.st_4 hcn hu0 hu1]; exact vD) | (rw [Tn.st_3 hcn hu1, ← hk8]; exact Heap.own hf (n:=0) rfl) | (rw [Tn.st_2 hcn hu0,show n.toNat=j by omega]; exact Heap.own hf (n:=0) rfl)
 have hcn:Tn.Conn sl:=Classical.not_not.1 (fun h=>by have hq:=(decide_eq_false hc10); have:=(hP.apart hl1).2 h; omega)
 refine zM Z (dF hc10) (skip (zu (oA hH9 Z (oA hH9 Z (zt (seq (zr (oM hH9 Z (oY hH9 (z6 Z) (oY hH9 (zD T.jM Z) (oY hH9 (ZK T.WA Z ((Tn.sp_len _ _)) (by rfl) (fun _ hw=>(kb.now hw (n:=1) Z))) (oM hH9 Z (zt (block (loop (S:=Nat) (fun k=>[(25,(.int .i64 (k:Int))),(3,(.int .i64 ((Tn.upTo (Tn.spTo sl sl.length) k).1))),(4,(.int .i64 ((Tn.upTo (Tn.spTo sl sl.length) k).2))),(0,(.pointer (some ⟨bb,0,none⟩))),(2,(.slice none 0 0)),(24,(ag (Tn.spTo sl sl.length)))]) (fun k w1=>Heap [ow lo4 hi5 3 1 encI u3 P,base w] w1∧k≤8) (fun k=>8 - k) (0) (uC Z (uC Z (uC Z (uC Z (uC Z (uC Z (Sub.nil _))))))) ?_ ?_)))))))))))))))
 ·exact ⟨hH9,om⟩
 rintro k w12 ⟨hH13,hk⟩
 have hub:=Tn.up_bd hbd k
 refine zr (oY hH13 (yF Z Z) (zt (seq ?_)))
 by_cases hc14:(k:Int)<8
 ·refine zP Z (dT hc14) (skip (zJ (seq (block (seq ?_)))))
  have hnk:=hbd (k:Int)
  refine region (oM hH13 Z (oY hH13 (XZ T.jR T.yB Z Z ((Tn.sp_len _ _)) om) (oA hH13 Z (oA hH13 Z (zs (oM hH13 Z (oY hH13 (vS Z Z) (zt ?_))))))))
  by_cases hc15:0<(nth (Tn.spTo sl sl.length) (k:Int))
  ·have hup:0<nth (Tn.spTo sl sl.length) (k:Int):=by have hq:=(decide_eq_true hc15); omega
   refine zP Z (dT hc15) (zr (oM hH13 Z (oM hH13 Z (oY hH13 (zU Z Z om) (oA hH13 Z (zq (oM hH13 Z (oA hH13 Z (zE (yC (zJ (region (oY hH13 (zU Z Z om) (oM hH13 Z (zE (yX (k+1) (uC Z (Sub.cons (by first | (rw [Tn.up_t hup]; done) | (rw [Tn.up_t hup]; rfl) | (rw [Tn.up_f hun]; done) | (rw [Tn.up_f hun]; rfl)) (Sub.cons (by first | (rw [Tn.up_t hup]; done) | (rw [Tn.up_t hup]; rfl) | (rw [Tn.up_f hun]; done) | (rw [Tn.up_f hun]; rfl)) (uC Z (uC Z (uC Z (Sub.nil _))))))) (⟨hH13,om⟩) om3))))))))))))))))
  have hun:¬ 0<nth (Tn.spTo sl sl.length) (k:Int):=by have hq:=(decide_eq_false hc15); omega
  refine zM Z (dF hc15) (skip (yC (zJ (region (oY hH13 (zU Z Z om) (oM hH13 Z (zE (yX (k+1) (uC Z (Sub.cons (by first | (rw [Tn.up_t hup]; done) | (rw [Tn.up_t hup]; rfl) | (rw [Tn.up_f hun]; done) | (rw [Tn.up_f hun]; rfl)) (Sub.cons (by first | (rw [Tn.up_t hup]; done) | (rw [Tn.up_t hup]; rfl) | (rw [Tn.up_f hun]; done) | (rw [Tn.up_f hun]; rfl)) (uC Z (uC Z (uC Z (Sub.nil _))))))) (⟨hH13,om⟩) om3))))))))
 refine zM Z (dF hc14) (exit (yR (xH (zW (zJ (seq ?_))))))
 have hk8:k=8:=by omega
 refine region (oA hH13 Z (zt (seq (zr (oM hH13 Z (zt (block (zr (oY hH13 (xJ Z Z) (oA hH13 Z (zt ?_)))))))))))
 by_cases hc16:((Tn.upTo (Tn.spTo sl sl.length) k).1)=0
 ·have hu0:(Tn.upTo (Tn.spTo sl sl.length) 8).1=0:=by rw [← hk8]; omega
  refine zP Z (dT hc16) (zr (oM hH13 Z (oY hH13 (z6 Z) (oY hH13 (zD T.xV Z) (oY hH13 (zD T.qP Z) (oY hH13 (yD T.yB Z (by rfl) Z (fun _ hw=>(kb.now hw (n:=1) Z))) (oM hH13 Z (zt (block ?_)))))))))
  have hH17:=vJ (enc:=encI) 3 1 hH13
  refine loop (S:=Nat×Value×Nat×Nat) (fun (j,v_7,lo_7,hi_7)=>[(44,(.int .i64 (j:Int))),(7,v_7),(0,(.pointer (some ⟨bb,0,none⟩))),(2,(.slice none 0 0)),(43,(.int .i64 n))]) (fun (j,v_7,lo_7,hi_7) w1=>Heap [ow lo_7 hi_7 3 1 encI v_7 (Tn.outTo sl j),ow lo4 hi5 3 1 encI u3 P,base w] w1∧j≤n.toNat) (fun (j,v_7,lo_7,hi_7)=>n.toNat - j) (0,(.slice none 0 0),w12.heap.size,w12.heap.size) (uC Z (uC Z (uC Z (uC Z (uC Z (Sub.nil _)))))) ?_ ?_
  ·exact ⟨(Heap.recast (n:=0) hH17 Z (Z)),om⟩
  rintro ⟨j,v_7,lo_7,hi_7⟩ w18 ⟨hH19,hj⟩
  have hoj:=Tn.out_len sl j
  refine zr (oY hH19 (yF Z Z) (zt (seq ?_)))
  by_cases hc20:(j:Int)<n
  ·refine zP Z (dT hc20) (skip (zJ (seq (block (zr (oM hH19 Z (xG (z:=(.int .i64 0)) (fun _=>by kernel_rfl) Z Z hH19 (fun b21 w22 hH23=>(yS (n:=0) (j:=0) Z Z hH23 Z T.sz3 Z Z Z (by rfl) (fun w24 hH25=>(zs (oM hH25 Z (oY hH25 (z6 Z) (oY hH25 (zD T.xV Z) (oY hH25 (zD T.yK Z) (oY hH25 (yD T.yN Z (by rfl) Z (fun _ hw=>(kb.now hw (n:=3) Z))) (oY hH25 (x7 Z Z) (zS Z Z Z hH25 (WZ (h0.now hH25 (n:=3) Z) (Heap.vY hH25 (n:=0) Z) om) (fun w26 hH27=>(zE ?_))))))))))))))))))))
   refine zJ ?_
   by_cases hc28:Tn.goes sl (j:Int)=true
   ·have hgt:Tn.goes sl (j:Int)=true:=hc28
    refine zP Z hc28 (z8 (fun w'=>True) T.mixed (fun w29 hr30=>?_))
    have hH31:=hH27.redrawn hr30
    refine zR [0,1,2,3,4,5] kz trivial _ _ _ kz (qM Z Z Z (qM Z Z Z (zI Z Z (zX T.yE Z (Heap.yU T.zA hH31 (n:=1) Z).is) (qM Z Z Z (zI Z Z (zX T.yE Z (Heap.yU T.zA hH31 (n:=1) Z).is) (zI Z Z (YV T.yE Z Z Z (Heap.yU T.zA hH31 (n:=1) Z).is om) (zV (z1 6 kz Z (oY hH31 (zC T.yB Z (cw (n:=0) Z Z)) (zE (⟨trivial,(z1 7 kz Z (yJ T.zA [(j:Int)] Z (fun w=>by kernel_rfl) hH31 (fun u32 lo34 hi35 w33 hH36=>(zE (⟨trivial,(z1 8 kz Z ?_)⟩)))))⟩)))))))))))
    obtain ⟨ac42,hce43⟩:=jA (sz:=1) (Heap.yU T.zA hH36 (n:=2) rfl).is
    refine uK T.zA Z hce43 Z Z hH36 (Rd.X7 (Heap.yU T.zA hH36 (n:=2) Z) ) (Heap.yU T.zA hH36 (n:=0) Z) (by simp) (by first | omega | (simp only [List.length_append,List.length_cons,List.length_nil]; omega)) (fun u44 lo46 hi47 w45 hH48=>(zE (⟨trivial,(zR [9] kz trivial _ _ _ kz (zI Z Z (yO Z) (zV (yH kz (yC (zJ (region (oY hH48 (zU Z Z om) (oM hH48 Z (zE (yX (j+1,u44,lo46,hi47) (uC Z (uC Z (uC Z (uC Z (uC Z (Sub.nil _)))))) (⟨(Heap.recast (n:=0) (hH48.sub (sK (sC (sC (sC sR))))) Z (by first | exact (Tn.out_t hgt).symm | exact (Tn.out_f hgf).symm)),om⟩) om3)))))))))))⟩)))
   have hgf:¬ Tn.goes sl (j:Int)=true:=by have hq:=(Bool.eq_false_iff.2 hc28); simpa using hq
   refine zM Z (Bool.eq_false_iff.2 hc28) (skip (yC (zJ (region (oY hH27 (zU Z Z om) (oM hH27 Z (zE (yX (j+1,v_7,lo_7,hi_7) (uC Z (uC Z (uC Z (uC Z (uC Z (Sub.nil _)))))) (⟨(Heap.recast (n:=0) (hH27.sub (sC sR)) Z (by first | exact (Tn.out_t hgt).symm | exact (Tn.out_f hgf).symm)),om⟩) om3))))))))
  refine zM Z (dF hc20) (exit (yR (xH (zW (yC (zu (oM hH19 Z (oA hH19 Z (zt (ret (fin ((hH19.sub (sK (sC sR))).front (n:=1) Z) (fun w' hf=>(yI Z (rt Z))) (fun w' hf=>?_))))))))))))
  first | (rw [Tn.st_1 hnc]; exact vD) | (rw [Tn.st_4 hcn hu0 hu1]; exact vD) | (rw [Tn.st_3 hcn hu1, ← hk8]; exact Heap.own hf (n:=0) rfl) | (rw [Tn.st_2 hcn hu0,show n.toNat=j by omega]; exact Heap.own hf (n:=0) rfl)
 have hu0:¬ (Tn.upTo (Tn.spTo sl sl.length) 8).1=0:=by rw [← hk8]; omega
 refine zM Z (dF hc16) (zr (oY hH13 (xJ Z Z) (oA hH13 Z (zt ?_))))
 by_cases hc52:((Tn.upTo (Tn.spTo sl sl.length) k).1)=1
 ·have hu1:(Tn.upTo (Tn.spTo sl sl.length) 8).1=1:=by rw [← hk8]; omega
  refine zP Z (dT hc52) (region (oM hH13 Z (oM hH13 Z (yJ T.zA [(Tn.upTo (Tn.spTo sl sl.length) k).2] Z (fun w=>by kernel_rfl) hH13 (fun u53 lo55 hi56 w54 hH57=>?_)))))
  have hH58:=vJ (enc:=encI) 3 1 hH57
  refine yG (n:=0) T.zA Z Z Z hH58 Z (Heap.yU T.zA hH58 (n:=1) Z) (by first | omega | (simp only [List.length_append,List.length_cons,List.length_nil]; omega)) (fun u59 lo61 hi62 w60 hH63=>(oA hH63 Z (zb (oM hH63 Z (oA hH63 Z (zt (ret (fin ((hH63.sub (sK (sC (sC sR)))).front (n:=1) Z) (fun w' hf=>(yI Z (rt Z))) (fun w' hf=>?_)))))))))
  first | (rw [Tn.st_1 hnc]; exact vD) | (rw [Tn.st_4 hcn hu0 hu1]; exact vD) | (rw [Tn.st_3 hcn hu1, ← hk8]; exact Heap.own hf (n:=0) rfl) | (rw [Tn.st_2 hcn hu0,show n.toNat=j by omega]; exact Heap.own hf (n:=0) rfl)
 have hu1:¬ (Tn.upTo (Tn.spTo sl sl.length) 8).1=1:=by rw [← hk8]; omega
 refine zM Z (dF hc52) (skip (yC (zu (oM hH13 Z (oA hH13 Z (zt (ret (fin (hH13.sub (sC sR)) (fun w' hf=>(yI Z (rt Z))) (fun w' hf=>?_)))))))))
 first | (rw [Tn.st_1 hnc]; exact vD) | (rw [Tn.st_4 hcn hu0 hu1]; exact vD) | (rw [Tn.st_3 hcn hu1, ← hk8]; exact Heap.own hf (n:=0) rfl) | (rw [Tn.st_2 hcn hu0,show n.toNat=j by omega]; exact Heap.own hf (n:=0) rfl)
end Go.Fip
namespace Go.Fip
open Go.Proofs Go.RowKit
abbrev LW (b1 b2 b3 bb:Nat) (n f:Int) (v vo pv:Value) (C out:List Int) (sl:List Tn.Pr) (w:World):Prop :=
 Bx b1 42 [.pointer (some ⟨bb,0,none⟩)] w∧Bx b2 3 [.int .i64 f] w∧Bx b3 28 [vo] w∧Bx bb 63 (seg [.int .i64 n,v] C [pv]) w∧Rd encP 2 v sl w∧Rd encI 1 vo out w
theorem LW.below {b1 b2 b3 bb:Nat} {n f:Int} {v vo pv:Value} {C out:List Int} {sl:List Tn.Pr} {w w':World} (h:LW b1 b2 b3 bb n f v vo pv C out sl w) (hb:Below w.heap.size w w'):LW b1 b2 b3 bb n f v vo pv C out sl w' :=
 ⟨h.1.below hb,h.2.1.below hb,h.2.2.1.below hb,h.2.2.2.1.below hb,h.2.2.2.2.1.below hb,h.2.2.2.2.2.below hb⟩
theorem VB {b1 b2 b3 bb:Nat} {n f:Int} {v vo pv:Value} {C out:List Int} {sl:List Tn.Pr} (hC:C.length=8) (hl14:sl.length≤14) (hol:out.length≤1000) :
  Iter Tryz.prog 113 [(.pointer (some ⟨b1,0,none⟩)),(.pointer (some ⟨b2,0,none⟩)),(.pointer (some ⟨b3,0,none⟩))] (LW b1 b2 b3 bb n f v vo pv C out sl) (((Tn.lead sl f out sl.length).map (Value.int .i64))):=by
 refine XV (N:=39) Tryz.func113 Z (ent Tryz.func113 kz Z) Z Z Z (fun yl J Jx hJ hJx hD hY w hH=>(zr (oY hH (zC T.uV Z (fun _ hw=>yL ((hD _ _ (hw.get (n:=0) Z)).1) Z)) (oY hH (z6 Z) (oY hH (zD T.xV Z) (oY hH (zD T.yK Z) (oY hH (yD T.yN Z (by rfl) Z (fun _ hw=>((hD _ _ (hw.get (n:=0) Z)).2.2.2.1))) (oY hH (zX T.y9 Z ((hD _ _ (hH.get (n:=0) Z)).2.2.2.2.1).is) (oM hH Z (zt (block (loop (S:=Nat×Nat×World) (fun (i,q,wj)=>[(13,(.int .i64 (i:Int))),(0,(.func (.yield yl) #[] #[])),(2,(.pointer (some ⟨b2,0,none⟩))),(3,(.pointer (some ⟨b3,0,none⟩))),(11,v),(12,(.int .i64 (sl.length:Int)))]) (fun (i,q,wj) w1=>Heap [jItem wj (J q)] w1∧i≤sl.length∧q=(Tn.lead sl f out i).length) (fun (i,q,wj)=>sl.length - i) (0,0,w) (uC Z (uC Z (uC Z (uC Z (uC Z (uC Z (Sub.nil _))))))) ?_ ?_))))))))))))
 ·exact ⟨hH,om,Z⟩
 rintro ⟨i,q,wj⟩ w1 ⟨hH2,hi,hq⟩
 refine zr (oY hH2 (yF Z Z) (zt (seq ?_)))
 by_cases hc3:(i:Int)<(sl.length:Int)
 ·refine zP Z (dT hc3) (skip (zJ (seq (block (zr (oM hH2 Z (oY hH2 (zN T.y9 Z Z ((hD _ _ (hH2.get (n:=0) Z)).2.2.2.2.1).is om) (oY hH2 (zZ (cs:=[(.int .i64 ((nth sl (i:Int)).1)),(.int .i64 ((nth sl (i:Int)).2))]) T.jL Z Z (fun _ hw=>Rd.VS ((hD _ _ (hw.get (n:=0) Z)).2.2.2.2.1) (i:=(i:Int)) om)) (xG (z:=(.agg #[(.int .i64 0),(.int .i64 0)])) (fun _=>by kernel_rfl) Z Z hH2 (fun b4 w5 hH6=>(oA hH6 Z (yS (n:=0) (j:=0) Z Z hH6 Z T.VK Z Z Z (by rfl) (fun w7 hH8=>(zs (oY hH8 (zC T.yB Z (fun _ hw=>yL ((hD _ _ (hw.get (n:=1) Z)).2.1) Z)) (oY hH8 (yF Z Z) (oM hH8 Z ?_)))))))))))))))))
  by_cases hc9:f<0
  ·refine zF Z Z (dT hc9) Z (zF Z Z (dT hc9) Z (zF Z Z (dT hc9) Z (zF Z Z (dT hc9) Z (oY hH8 (z7 Z (dT hc9) Z) (oM hH8 Z (zB Z Z Z (oY hH8 (zC T.xL Z (fun _ hw=>yL ((hD _ _ (hw.get (n:=1) Z)).2.2.1) Z)) (zB Z Z Z (oM hH8 Z (zB Z Z Z (zS Z Z Z hH8 (c20 ((hD _ _ (hH8.get (n:=1) Z)).2.2.2.2.2) om) (fun w10 hH11=>(zB Z Z Z (oY hH11 (xD Z) (oY hH11 (z7 Z Z Z) (oM hH11 Z ?_))))))))))))))))
   by_cases hc12:0≤S.place out (i:Int)
   ·refine zF Z Z (zH hc12) Z (zF Z Z (zH hc12) Z (zF Z Z (zH hc12) Z (zF Z Z (zH hc12) Z (oY hH11 (yA Z (zH hc12) Z) (zt (zM Z Z (skip (yC (zJ (region (oY hH11 (zU Z Z om) (oM hH11 Z (zE (yX (i+1,q,wj) (uC Z (uC Z (uC Z (uC Z (uC Z (uC Z (Sub.nil _))))))) (⟨(hH11.sub (sC sR)),om,by rw [Tn.lead_f (show ¬ Tn.led sl f out i from fun h=>by first | (have h1:=h.1; omega) | exact h.2 (S.place_iff.1 (by first | assumption | omega)))]; exact hq⟩) om3))))))))))))))
   refine zB Z Z (zG hc12) (oM hH11 Z (zB Z Z (zG hc12) (oM hH11 Z (zB Z Z (zG hc12) (YB Z Z Z (hY q _ (by rw [hq]; exact Tn.lead_at om (show Tn.led sl f out i from ⟨om,fun hm=>absurd (S.place_iff.2 hm) (by first | assumption | omega)⟩)) _ (hH11.get (n:=1) Z)) (fun w14 hA15=>?_) (fun w14 hA15=>?_))))))
   ·have hH16:=vL (J:=J (q+1)) (hJ (q+1)) hA15
    refine zB Z Z (zG hc12) (oY hH16 (xD Z) (oY hH16 (z7 Z (zG hc12) Z) (zt (zM Z Z (skip (yC (zJ (region (oY hH16 (zU Z Z om) (oM hH16 Z (zE (yX (i+1,q+1,w14) (uC Z (uC Z (uC Z (uC Z (uC Z (uC Z (Sub.nil _))))))) (⟨hH16,om,by rw [Tn.lead_t (show Tn.led sl f out i from ⟨om,fun hm=>absurd (S.place_iff.2 hm) (by first | assumption | omega)⟩),List.length_append, ← hq]; rfl⟩) om3))))))))))))
   have hH16:=vL (J:=Jx) hJx hA15
   refine zB Z Z (zG hc12) (oY hH16 (xD Z) (oY hH16 (z7 Z (zG hc12) Z) (zt (zP Z Z (ret (y7 (yP (qD (y7 ?_)))))))))
   exact ⟨Z,.inr (hH16.get (n:=0) Z)⟩
  refine zB Z Z (dF hc9) (oY hH8 (zY T.xA Z Z om) (zB Z Z (dF hc9) (oY hH8 (zC T.yB Z (cw (n:=0) Z Z)) (zB Z Z (dF hc9) (oY hH8 (zC T.yB Z (fun _ hw=>yL ((hD _ _ (hw.get (n:=1) Z)).2.1) Z)) (zB Z Z (dF hc9) (oY hH8 (xJ Z Z) (oY hH8 (yA Z (dF hc9) Z) (oM hH8 Z ?_)))))))))
  by_cases hc17:((nth sl (i:Int)).1)=f
  ·refine zB Z Z (dT hc17) (oY hH8 (zC T.xL Z (fun _ hw=>yL ((hD _ _ (hw.get (n:=1) Z)).2.2.1) Z)) (zB Z Z (dT hc17) (oM hH8 Z (zB Z Z (dT hc17) (zS Z Z Z hH8 (c20 ((hD _ _ (hH8.get (n:=1) Z)).2.2.2.2.2) om) (fun w18 hH19=>(zB Z Z (dT hc17) (oY hH19 (xD Z) (oY hH19 (z7 Z (dT hc17) Z) (oM hH19 Z ?_))))))))))
   by_cases hc20:0≤S.place out (i:Int)
   ·refine zF Z Z (zH hc20) Z (zF Z Z (zH hc20) Z (zF Z Z (zH hc20) Z (zF Z Z (zH hc20) Z (oY hH19 (yA Z (zH hc20) Z) (zt (zM Z Z (skip (yC (zJ (region (oY hH19 (zU Z Z om) (oM hH19 Z (zE (yX (i+1,q,wj) (uC Z (uC Z (uC Z (uC Z (uC Z (uC Z (Sub.nil _))))))) (⟨(hH19.sub (sC sR)),om,by rw [Tn.lead_f (show ¬ Tn.led sl f out i from fun h=>by first | (have h1:=h.1; omega) | exact h.2 (S.place_iff.1 (by first | assumption | omega)))]; exact hq⟩) om3))))))))))))))
   refine zB Z Z (zG hc20) (oM hH19 Z (zB Z Z (zG hc20) (oM hH19 Z (zB Z Z (zG hc20) (YB Z Z Z (hY q _ (by rw [hq]; exact Tn.lead_at om (show Tn.led sl f out i from ⟨om,fun hm=>absurd (S.place_iff.2 hm) (by first | assumption | omega)⟩)) _ (hH19.get (n:=1) Z)) (fun w22 hA23=>?_) (fun w22 hA23=>?_))))))
   ·have hH24:=vL (J:=J (q+1)) (hJ (q+1)) hA23
    refine zB Z Z (zG hc20) (oY hH24 (xD Z) (oY hH24 (z7 Z (zG hc20) Z) (zt (zM Z Z (skip (yC (zJ (region (oY hH24 (zU Z Z om) (oM hH24 Z (zE (yX (i+1,q+1,w22) (uC Z (uC Z (uC Z (uC Z (uC Z (uC Z (Sub.nil _))))))) (⟨hH24,om,by rw [Tn.lead_t (show Tn.led sl f out i from ⟨om,fun hm=>absurd (S.place_iff.2 hm) (by first | assumption | omega)⟩),List.length_append, ← hq]; rfl⟩) om3))))))))))))
   have hH24:=vL (J:=Jx) hJx hA23
   refine zB Z Z (zG hc20) (oY hH24 (xD Z) (oY hH24 (z7 Z (zG hc20) Z) (zt (zP Z Z (ret (y7 (yP (qD (y7 ?_)))))))))
   exact ⟨Z,.inr (hH24.get (n:=0) Z)⟩
  refine zF Z Z (dF hc17) Z (zF Z Z (dF hc17) Z (zF Z Z (dF hc17) Z (zF Z Z (dF hc17) Z (oY hH8 (yA Z (dF hc17) Z) (oM hH8 Z (zF Z Z Z Z (zF Z Z Z Z (zF Z Z Z Z (zF Z Z Z Z (oY hH8 (yA Z Z Z) (zt (zM Z Z (skip (yC (zJ (region (oY hH8 (zU Z Z om) (oM hH8 Z (zE (yX (i+1,q,wj) (uC Z (uC Z (uC Z (uC Z (uC Z (uC Z (Sub.nil _))))))) (⟨(hH8.sub (sC sR)),om,by rw [Tn.lead_f (show ¬ Tn.led sl f out i from fun h=>by first | (have h1:=h.1; omega) | exact h.2 (S.place_iff.1 (by first | assumption | omega)))]; exact hq⟩) om3))))))))))))))))))))
 refine zM Z (dF hc3) (exit (yR (xH (zW ?_))))
 have hke:i=sl.length:=by omega
 have hql:q=((Tn.lead sl f out sl.length).map (Value.int .i64)).length:=by rw [hq,List.length_map,hke]
 exact ⟨Z,.inl (by rw [← hql]; exact hH2.get (n:=0) rfl)⟩
theorem Heap.V9 {bb lo hi n c1 c2 c3:Nat} {f:Int} {vo:Value} {H:List Item} {w:World} (hH:Heap H w)
  (hn:H[n]? = some ⟨lo,hi,fun w=>∃ a1 a2 a3:Nat,(Value.func (.func 113) #[] #[.pointer (some ⟨c1,0,none⟩),.pointer (some ⟨c2,0,none⟩),.pointer (some ⟨c3,0,none⟩)]:Value)=.func (.func 113) #[] #[.pointer (some ⟨a1,0,none⟩),.pointer (some ⟨a2,0,none⟩),.pointer (some ⟨a3,0,none⟩)]∧Bx a1 42 [.pointer (some ⟨bb,0,none⟩)] w∧Bx a2 3 [.int .i64 f] w∧Bx a3 28 [vo] w⟩) :
  Heap (H.set n ⟨lo,hi,fun w=>Bx c1 42 [.pointer (some ⟨bb,0,none⟩)] w∧Bx c2 3 [.int .i64 f] w∧Bx c3 28 [vo] w⟩) w:=hH.weaken hn (φ:=fun w=>Bx c1 42 [.pointer (some ⟨bb,0,none⟩)] w∧Bx c2 3 [.int .i64 f] w∧Bx c3 28 [vo] w) (fun w' h=>by
 obtain ⟨a1,a2,a3,e,h⟩:=h
 cases e
 exact h)
theorem c47 {bb:Nat} {f:Int} {vo:Value} {out:List Int} {w:World} (ho:Rd encI 1 vo out w)  :
  Fn Tryz.prog 47 [(.pointer (some ⟨bb,0,none⟩)),(.int .i64 f),vo].toArray w (fun u w=>∃ a1 a2 a3:Nat,u=.func (.func 113) #[] #[.pointer (some ⟨a1,0,none⟩),.pointer (some ⟨a2,0,none⟩),.pointer (some ⟨a3,0,none⟩)]∧Bx a1 42 [.pointer (some ⟨bb,0,none⟩)] w∧Bx a2 3 [.int .i64 f] w∧Bx a3 28 [vo] w):=by
 refine fz Tryz.func47 Z kz Z Z (fun hH=>(zr (yM Z Z Z hH (fun b1 w2 hH3=>(yM Z Z Z hH3 (fun b4 w5 hH6=>(yM (us:=[vo]) Z (SliceIs.cells (ho.now hH6 (n:=2) Z).is) Z hH6 (fun b7 w8 hH9=>(oA hH9 Z (zs (oY hH9 (x7 Z Z) (oA hH9 Z (zt (ret (fin (hH9.front (n:=3) Z) (fun w' hf=>(yI Z (rt Z))) (fun w' hf=>?_))))))))))))))))
 exact ⟨_,_,_,Z,Heap.vY hf (n:=2) Z,Heap.vY hf (n:=1) Z,Heap.vY hf (n:=0) Z⟩
theorem WJ {gf:FuncId} {cap:List Value} {D:World→Prop} {l:List Int} {w:World} (hit:Iter Tryz.prog gf cap D (l.map (Value.int .i64))) (hst:∀ w',Below w.heap.size w w'→D w') (hn:l.length≤1000)  :
  Fn Tryz.prog 112 [(.slice none 0 0),(.func (.func gf) #[] cap.toArray)].toArray w (fun u w=>Own 3 1 encI u l w):=by
 refine fz Tryz.func112 Z kz Z Z (fun hH=>(zr (yM Z Z Z hH (fun b1 w2 hH3=>(oA hH3 Z (zt (seq (zr (oM hH3 Z (zt (block (rangeFunc (xs:=(l.map (Value.int .i64))) Z hit Z (vJ (enc:=encI) 3 1 hH3) (fun i H=>∃ v_a:Value,∃ lo_a:Nat,∃ hi_a:Nat,H=[ow lo_a hi_a 3 1 encI v_a (l.take i),bx b1 28 [v_a],base w]∧True) (fun c H=>False) ⟨(.slice none 0 0),w2.heap.size,w2.heap.size,Z,trivial⟩ (fun i H w hI hw=>?_) (fun l5 D6 i7 x8 H w10 rc hx9 hI hH11=>?_) (fun D6 H w10 hI hH11=>?_) (fun D6 c H w10 hI hH11=>?_)))))))))))))
 ·obtain ⟨_,_,_,rfl,_⟩:=hI
  exact hst _ (hw.get (n:=2) Z)
 ·obtain ⟨v_a,lo_a,hi_a,rfl,_⟩:=hI
  obtain ⟨hlt,hxe⟩:=YT hx9
  subst hxe
  refine region (oA hH11 Z (zE (⟨_,hH11,fun w14 hH15=>(block (region (oY hH15 (zC T.xL Z (cw (n:=3) Z Z)) (oM hH15 Z (yJ T.zA [nth l (i7:Int)] Z (fun w=>by kernel_rfl) hH15 (fun u16 lo18 hi19 w17 hH20=>(yG (n:=3) T.zA Z Z Z hH20 Z (Heap.yU T.zA hH20 (n:=0) Z) (by rw [List.length_take]; simp only [List.length_cons,List.length_nil]; omega) (fun u21 lo23 hi24 w22 hH25=>(yS (n:=4) (j:=0) Z Z hH25 Z T.VF (SliceIs.cells (Heap.yU T.zA hH25 (n:=3) Z).is) Z Z (SliceIs.one (Heap.yU T.zA hH25 (n:=3) Z).is) (fun w26 hH27=>(zE (yC ?_))))))))))))⟩)))
  exact ⟨_,⟨_,⟨u21,lo23,hi24,Z,trivial⟩,Z⟩,(Heap.recast (n:=2) (hH27.sub (sC sR)) Z ((ZF hlt)))⟩
 ·obtain ⟨v_a,lo_a,hi_a,rfl,_⟩:=hI
  have hH29:=hH11.perm (List.perm_append_comm (l₁:=[_]))
  refine yC (zu (oY hH29 (zC T.xL Z (cw (n:=1) Z Z)) (oA hH29 Z (zt (ret (XL (H:=[ow lo_a hi_a 3 1 encI v_a (l.take ((l.map (Value.int .i64))).length)]) [D6] ((hH29.sub (sK (sC sR))).front (n:=1) Z) (fun w' hf=>(yI Z (rt Z))) (fun w' hf=>?_)))))))
  exact (by have h:=Heap.own hf (n:=0) rfl; rw [List.length_map,List.take_length] at h; exact h)
 exact hI.elim
theorem c46 {gf:FuncId} {cap:List Value} {D:World→Prop} {l:List Int} {w:World} (hit:Iter Tryz.prog gf cap D (l.map (Value.int .i64))) (hst:∀ w',Below w.heap.size w w'→D w') (hn:l.length≤1000)  :
  Fn Tryz.prog 46 [(.func (.func gf) #[] cap.toArray)].toArray w (fun u w=>Own 3 1 encI u l w):=by
 refine fz Tryz.func46 Z kz Z Z (fun hH=>(zr (oA hH Z (zs (oM hH Z (xR Z Z Z hH (WJ hit (fun w' hb=>hst w' ((show Below w.heap.size w _ from hH.get (n:=0) Z).trans (hb.mono (show Below w.heap.size w _ from hH.get (n:=0) Z).size))) hn) (fun u3 w1 lo4 hi5 hH2 hv6=>?_)))))))
 have hH7:=Heap.vX hH2 (n:=0) Z
 refine oA hH7 Z (zt (ret (fin (hH7.front (n:=1) Z) (fun w' hf=>(yI Z (rt Z))) (fun w' hf=>?_))))
 exact Heap.own hf (n:=0) Z
end Go.Fip
namespace Go.Fip
open Go.Proofs Go.RowKit
theorem c49 {bb:Nat} {pv:Value} {n:Int} {v:Value} {w:World} {sl:List Tn.Pr} (kb:Bx bb 63 (seg [.int .i64 n,v] (Tn.spTo sl sl.length) [pv]) w) (h0:Rd encP 2 v sl w) (hb:Tn.Book n sl) {vo:Value} {out:List Int} (ho:Rd encI 1 vo out w) (hol:out.length≤100) {f:Int}  :
  Fn Tryz.prog 49 [(.pointer (some ⟨bb,0,none⟩)),(.int .i64 f),vo].toArray w (fun u _=>u=.bool (Tn.play n sl f out)):=by
 refine fz Tryz.func49 Z kz Z Z (fun hH=>?_)
 have hn1:=hb.n1
 have hn8:=hb.n8
 have hl14:=hb.l14
 have hl1:=hb.l1
 refine zr (yM Z Z Z hH (fun b1 w2 hH3=>(oA hH3 Z (zs (oY hH3 (zC T.uV Z (cw (n:=0) Z Z)) (oY hH3 (z6 Z) (oY hH3 (zD T.xV Z) (oY hH3 (zD T.qP Z) (oY hH3 (yD T.yB Z (by rfl) Z (fun _ hw=>(kb.now hw (n:=1) Z))) (oY hH3 (xQ (v:=(.agg #[(.int .i64 n),(.slice none 0 0)])) Z (fun w=>by kernel_rfl)) (xG (z:=(.agg #[(.int .i64 0),(.slice none 0 0)])) (fun _=>by kernel_rfl) Z Z hH3 (fun b4 w5 hH6=>(yS (n:=0) (j:=0) Z Z hH6 Z T.VY Z Z Z (by rfl) (fun w7 hH8=>(zt (seq (zr (oY hH8 (zC T.uV Z (cw (n:=1) Z Z)) ?_))))))))))))))))))
 refine oM hH8 Z (xR Z Z Z hH8 (c47 (bb:=bb) (f:=(-1)) (ho.now hH8 (n:=2) Z)) (fun u14 w12 lo15 hi16 hH13 hv17=>?_))
 obtain ⟨c9,c10,c11,hu, -⟩:=hv17
 subst hu
 have hH18:=Heap.V9 hH13 (n:=0) Z
 refine zt (block (rangeFunc (xs:=((Tn.lead sl (-1) out sl.length).map (Value.int .i64))) Z (VB (b1:=c9) (b2:=c10) (b3:=c11) (bb:=bb) (n:=n) (f := -1) (v:=v) (vo:=vo) (pv:=pv) (C:=(Tn.spTo sl sl.length)) (out:=out) (sl:=sl) (Tn.sp_len _ _) hl14 om) Z (vJ (enc:=encP) 36 2 hH18) (fun i H=>∃ v_a:Value,∃ lo_a:Nat,∃ hi_a:Nat,H=[ow lo_a hi_a 36 2 encP v_a (((Tn.lead sl (-1) out sl.length).take i).map fun i=>nth sl i),⟨lo15,hi16,fun w=>Bx c9 42 [.pointer (some ⟨bb,0,none⟩)] w∧Bx c10 3 [(.int .i64 (-1))] w∧Bx c11 28 [vo] w⟩,bx b4 24 [(.int .i64 n),v_a],bx b1 42 [(.pointer (some ⟨bb,0,none⟩))],base w]∧True) (fun c H=>False) ⟨(.slice none 0 0),w12.heap.size,w12.heap.size,Z,trivial⟩ (fun i H w hI hw=>?_) (fun l20 D21 i22 x23 H w25 rc hx24 hI hH26=>?_) (fun D21 H w25 hI hH26=>?_) (fun D21 c H w25 hI hH26=>?_)))
 ·obtain ⟨_,_,_,rfl,_⟩:=hI
  exact (show LW c9 c10 c11 bb n (-1) v vo pv (Tn.spTo sl sl.length) out sl _ from ⟨(hw.get (n:=1) Z).1,(hw.get (n:=1) Z).2.1,(hw.get (n:=1) Z).2.2,(kb.now hw (n:=4) Z),(h0.now hw (n:=4) Z),(ho.now hw (n:=4) Z)⟩)
 ·obtain ⟨v_a,lo_a,hi_a,rfl,_⟩:=hI
  obtain ⟨hlt,hxe⟩:=YT hx24
  subst hxe
  have hin:0≤nth (Tn.lead sl (-1) out sl.length) (i22:Int)∧nth (Tn.lead sl (-1) out sl.length) (i22:Int)<(sl.length:Int):=Tn.lead_in _ (by rw [zO hlt]; exact List.getElem_mem _)
  have hlL:=Tn.lead_len sl (-1) out sl.length
  refine region (oA hH26 Z (zE (⟨_,hH26,fun w29 hH30=>(block (vE (fun w'=>Heap [recItem l20 { rc with state:=.busy },markItem D21,⟨lo15,hi16,fun w=>Bx c9 42 [.pointer (some ⟨bb,0,none⟩)] w∧Bx c10 3 [(.int .i64 (-1))] w∧Bx c11 28 [vo] w⟩,bx b4 24 [(.int .i64 n),v_a],bx b1 42 [(.pointer (some ⟨bb,0,none⟩))],base w] w') [13] T.mixed (fun w31 hr32=>?_)))⟩)))
  have hH33:=hH30.redrawn hr32
  refine yV [0,7] kz  _ _ _ kz (zI Z Z (zD T.yK Z) (qM Z Z Z (zV (xO [1,2] kz (hH33.sub (sK (sK (sC sR)))) _ _ _ kz (zI Z Z (zC T.yN Z (cw (n:=3) Z Z)) (zI Z Z (zC T.uV Z (cw (n:=4) Z Z)) (zV (yV [3,4,5] kz  _ _ _ kz (zI Z Z (z6 Z) (zI Z Z (zD T.xV Z) (zI Z Z (zD T.yK Z) (zV (xO [6] kz (hH33.sub (sK (sK (sC sR)))) _ _ _ kz (zI Z Z (yD T.yN Z (by rfl) Z (fun _ hw=>(kb.now hw (n:=5) Z))) (zV (yV [8] kz  _ _ _ kz (zI Z Z (zN T.y9 Z Z (h0.now hH33 (n:=6) Z).is om) (zV (xO [9] kz (hH33.sub (sK (sK (sC sR)))) _ _ _ kz (zI Z Z (zZ (cs:=[(.int .i64 ((nth sl (nth (Tn.lead sl (-1) out sl.length) (i22:Int))).1)),(.int .i64 ((nth sl (nth (Tn.lead sl (-1) out sl.length) (i22:Int))).2))]) T.jL Z Z (fun _ hw=>Rd.VS (h0.now hw (n:=5) Z) (i:=nth (Tn.lead sl (-1) out sl.length) (i22:Int)) om)) (zV ?_)))))))))))))))))))))
  refine xN [10] kz Z (⟨⟨_,Z,(yJ T.yZ [((nth sl (nth (Tn.lead sl (-1) out sl.length) (i22:Int))).1,(nth sl (nth (Tn.lead sl (-1) out sl.length) (i22:Int))).2)] Z (fun w=>by kernel_rfl) hH33 (fun u34 lo36 hi37 w35 hH38=>(zE (⟨fun _ _=>(hH38.sub (sC (sK (sK (sC sR))))),(xN [11] kz Z (⟨⟨_,Z,(yG (n:=3) T.yZ Z Z Z hH38 Z (Heap.yU T.yZ hH38 (n:=0) Z) (by rw [List.length_map,List.length_take]; simp only [List.length_cons,List.length_nil]; omega) (fun u39 lo41 hi42 w40 hH43=>(zE (⟨fun _ _=>(hH43.sub (sC (sK (sK (sC sR))))),(yV [12] kz  _ _ _ kz (zI Z Z (zD T.yK Z) (zV (xN [13] kz Z (⟨⟨_,Z,(yS (n:=5) (j:=1) Z Z hH43 Z T.WF (SliceIs.cells (Heap.yU T.yZ hH43 (n:=3) Z).is) Z Z (SliceIs.one (Heap.yU T.yZ hH43 (n:=3) Z).is) (fun w44 hH45=>(zE (⟨(fun h=>by cases h),(uF kz (yC ?_))⟩))))⟩,trivial⟩)))))⟩))))⟩,trivial⟩))⟩))))⟩,trivial⟩)
  exact ⟨_,⟨_,⟨u39,lo41,hi42,Z,trivial⟩,Z⟩,(Heap.recast (n:=2) (hH45.sub (sC sR)) Z ((Tn.left_snoc hlt)))⟩
 ·obtain ⟨v_a,lo_a,hi_a,rfl,_⟩:=hI
  have hH48:=Heap.recast (n:=0) (hH26.perm (List.perm_append_comm (l₁:=[_]))) Z (show _=Tn.left sl out from by rw [List.length_map,List.take_length]; rfl)
  refine yC (zu (oY hH48 (zD T.yK Z) (oY hH48 (zC T.yN Z (cw (n:=2) Z Z)) (oY hH48 (zX T.y9 Z (Heap.yU T.yZ hH48 (n:=0) Z).is) (oY hH48 (xJ Z Z) (oM hH48 Z ?_))))))
  by_cases hc49:((Tn.left sl out).length:Int)=0
  ·refine zF Z Z (dT hc49) Z (zF Z Z (dT hc49) Z (zF Z Z (dT hc49) Z (zF Z Z (dT hc49) Z (zF Z Z (dT hc49) Z (oY hH48 (z7 Z (dT hc49) Z) (oA hH48 Z (zt (ret (XL (H:=[]) [D21] (hH48.sub (sC (sC (sC (sC sR))))) (fun w' hf=>(yI Z (rt Z))) (fun w' hf=>?_))))))))))
   first | exact congrArg Value.bool (Tn.play_0 (by assumption)).symm | exact congrArg Value.bool (Tn.play_1 (by assumption)).symm
  have hbL:Tn.Book n (Tn.left sl out):=Tn.left_book hb (by assumption)
  have hsl9:=Tn.starts_len (sl:=Tn.left sl out) hn8
  refine zB Z Z (dF hc49) (oY hH48 (zZ (cs:=[(.int .i64 n),v_a]) T.xX Z Z (fun _ hw=>Heap.yQ hw (n:=2) Z (k:=0) Z)) (zB Z Z (dF hc49) (xR Z Z Z hH48 (c40 (Heap.yU T.yZ hH48 (n:=0) Z) hbL) (fun u53 w51 lo54 hi55 hH52 hv56=>?_))))
  obtain ⟨bbD58,_,hu, -⟩:=hv56
  subst hu
  obtain ⟨pvD58,hH57⟩:=Heap.YU (b:=bbD58) (t:=63) (pre:=[.int .i64 n,v_a]) (C:=(Tn.spTo (Tn.left sl out) (Tn.left sl out).length)) hH52 (n:=0) rfl (fun w' h=>by obtain ⟨b',pv',e,h⟩:=h; cases e; exact ⟨pv',h⟩)
  refine zB Z Z (dF hc49) (xR Z Z Z hH57 (c16 (Heap.vY hH57 (n:=0) Z) (Heap.yU T.yZ hH57 (n:=1) Z) hbL) (fun u61 w59 lo62 hi63 hH60 hv64=>?_))
  have hH65:=Heap.vX hH60 (n:=0) Z
  refine zB Z Z (dF hc49) (oM hH65 Z (zB Z Z (dF hc49) (zS Z Z Z hH65 (c20 (Heap.yU T.zA hH65 (n:=0) Z) om) (fun w66 hH67=>(oY hH67 (yA Z (dF hc49) Z) (oA hH67 Z (zt (ret (XL (H:=[]) [D21] (hH67.sub (sC (sC (sC (sC (sC (sC sR))))))) (fun w' hf=>(yI Z (rt Z))) (fun w' hf=>?_))))))))))
  first | exact congrArg Value.bool (Tn.play_0 (by assumption)).symm | exact congrArg Value.bool (Tn.play_1 (by assumption)).symm
 exact hI.elim
theorem c48 {bb:Nat} {pv:Value} {n:Int} {v:Value} {w:World} {sl:List Tn.Pr} (kb:Bx bb 63 (seg [.int .i64 n,v] (Tn.spTo sl sl.length) [pv]) w) (h0:Rd encP 2 v sl w) (hb:Tn.Book n sl) {vo:Value} {out:List Int} {b1 b2:Nat} (k1:Bx b1 42 [.pointer (some ⟨bb,0,none⟩)] w) (k2:Bx b2 28 [vo] w) (ho:Rd encI 1 vo out w) (hol:out.length≤50) {i:Int} (hi:0≤i∧i<sl.length)  :
  Fn Tryz.prog 48 [(.int .i64 i),(.pointer (some ⟨b1,0,none⟩)),(.pointer (some ⟨b2,0,none⟩))].toArray w (fun u _=>u=.bool (Tn.play n sl (nth sl i).2 (out++[i]))):=by
 refine fz Tryz.func48 Z kz Z Z (fun hH=>?_)
 have hn1:=hb.n1
 have hn8:=hb.n8
 have hl14:=hb.l14
 have hl1:=hb.l1
 refine zr (oA hH Z (zt (seq (z8 (fun w'=>Heap [base w] w') T.mixed (fun w1 hr2=>?_)))))
 have hH3:=hH.redrawn hr2
 refine zR [0,1,2,3,4,5,6,7,8,9,10,11,12,13,14,15,16] kz hH3 _ _ _ kz (zI Z Z (zC T.uV Z (fun _ hw=>yL (k1.now hw (n:=0) Z) Z)) (zI Z Z (zC T.uV Z (fun _ hw=>yL (k1.now hw (n:=0) Z) Z)) (zI Z Z (z6 Z) (zI Z Z (zD T.xV Z) (zI Z Z (zD T.yK Z) (zI Z Z (yD T.yN Z (by rfl) Z (fun _ hw=>(kb.now hw (n:=0) Z))) (qM Z Z Z (zI Z Z (zN T.y9 Z Z (h0.now hH3 (n:=0) Z).is om) (zI Z Z (zY T.xA Z Z om) (zI Z Z (zC T.yB Z (fun _ hw=>Rd.at (h0.now hw (n:=0) Z) (i:=i) om (j:=1) Z)) (zI Z Z (zC T.xL Z (fun _ hw=>yL (k2.now hw (n:=0) Z) Z)) (zI Z Z (zC T.xL Z (fun _ hw=>yL (k2.now hw (n:=0) Z) Z)) (zI Z Z (zX T.yE Z (ho.now hH3 (n:=0) Z).is) (zI Z Z (zC T.xL Z (fun _ hw=>yL (k2.now hw (n:=0) Z) Z)) (zI Z Z (zX T.yE Z (ho.now hH3 (n:=0) Z).is) (zI Z Z (YV T.yE Z Z Z (ho.now hH3 (n:=0) Z).is om) (qM Z Z Z (zV (z1 17 kz Z (yJ T.zA [i] Z (fun w=>by kernel_rfl) hH3 (fun u4 lo6 hi7 w5 hH8=>?_)))))))))))))))))))))
 refine zE (⟨(hH8.sub (sC sR)),(z1 18 kz Z ?_)⟩)
 obtain ⟨ac14,hce15⟩:=jA (sz:=1) (ho.now hH8 (n:=1) rfl).is
 refine uK T.zA Z hce15 Z Z hH8 (Rd.X7 (ho.now hH8 (n:=1) Z) ) (Heap.yU T.zA hH8 (n:=0) Z) (by simp) (by first | omega | (simp only [List.length_append,List.length_cons,List.length_nil]; omega)) (fun u16 lo18 hi19 w17 hH20=>(zE (⟨(hH20.sub (sC (sC sR))),(z1 19 kz Z (zS Z Z Z hH20 (c49 (kb.now hH20 (n:=2) Z) (h0.now hH20 (n:=2) Z) hb (Heap.yU T.zA hH20 (n:=0) Z) (by first | omega | (simp only [List.length_append,List.length_cons,List.length_nil]; omega))) (fun w21 hH22=>(zE (⟨(hH22.sub (sC (sC sR))),(zR [20] kz (hH22.sub (sC (sC sR))) _ _ _ kz (zI Z Z (yO Z) (zV (yH kz (zJ (ret (fin (hH22.sub (sC (sC sR))) (fun w' hf=>(yI Z (rt Z))) (fun w' hf=>Z))))))))⟩)))))⟩)))
theorem c45 {bb:Nat} {pv:Value} {n:Int} {v:Value} {w:World} {sl:List Tn.Pr} (kb:Bx bb 63 (seg [.int .i64 n,v] (Tn.spTo sl sl.length) [pv]) w) (h0:Rd encP 2 v sl w) (hb:Tn.Book n sl) {vo vl:Value} {out l:List Int} {b1 b2:Nat} (k1:Bx b1 42 [.pointer (some ⟨bb,0,none⟩)] w) (k2:Bx b2 28 [vo] w) (ho:Rd encI 1 vo out w) (hol:out.length≤50) (hl:Rd encI 1 vl l w) (hln:l.length≤1000) (hin:∀ x∈l,0≤x∧x<(sl.length:Int))  :
  Fn Tryz.prog 45 [vl,(.func (.func 48) #[] #[(.pointer (some ⟨b1,0,none⟩)),(.pointer (some ⟨b2,0,none⟩))])].toArray w (fun u _=>u=.tuple #[.int .i64 (Tn.pick (fun i=>Tn.play n sl (nth sl i).2 (out++[i])) l),.bool (has (fun i=>Tn.play n sl (nth sl i).2 (out++[i])) l)]):=by
 refine fz Tryz.func45 Z kz Z Z (fun hH=>?_)
 have hn1:=hb.n1
 have hn8:=hb.n8
 have hl14:=hb.l14
 have hl1:=hb.l1
 refine zr (oA hH Z (oA hH Z (zt (seq (zr (oM hH Z (oY hH (zX T.yE Z (hl.now hH (n:=0) Z).is) (oM hH Z (zt (block (loop (S:=Nat) (fun k=>[(11,(.int .i64 (k:Int))),(1,(.func (.func 48) #[] #[(.pointer (some ⟨b1,0,none⟩)),(.pointer (some ⟨b2,0,none⟩))])),(9,vl),(10,(.int .i64 (l.length:Int)))]) (fun k w1=>Heap [base w] w1∧k≤l.length∧∀ i:Nat,i<k→(fun i=>Tn.play n sl (nth sl i).2 (out++[i])) (nth l (i:Int))=false) (fun k=>l.length - k) (0) (uC Z (uC Z (uC Z (uC Z (Sub.nil _))))) ?_ ?_)))))))))))
 ·exact ⟨hH,om,S.all_zero⟩
 rintro k w1 ⟨hH2,hk,hall⟩
 refine zr (oY hH2 (yF Z Z) (zt (seq ?_)))
 by_cases hc3:(k:Int)<(l.length:Int)
 ·refine zP Z (dT hc3) (skip (zJ (seq (block (zr (oY hH2 (zN T.yE Z Z (hl.now hH2 (n:=0) Z).is om) (oY hH2 (zC T.yB Z (fun _ hw=>Rd.at (hl.now hw (n:=0) Z) (i:=(k:Int)) om (j:=0) Z)) (oA hH2 Z (zs (oM hH2 Z (oM hH2 Z (zS Z Z Z hH2 (c48 (kb.now hH2 (n:=0) Z) (h0.now hH2 (n:=0) Z) hb (k1.now hH2 (n:=0) Z) (k2.now hH2 (n:=0) Z) (ho.now hH2 (n:=0) Z) om (hin _ (by rw [zO om]; exact List.getElem_mem _))) (fun w4 hH5=>(zt ?_))))))))))))))
  by_cases hc6:Tn.play n sl (nth sl (nth l (k:Int))).2 (out++[nth l (k:Int)])=true
  ·have hp:(fun i=>Tn.play n sl (nth sl i).2 (out++[i])) (nth l (k:Int))=true:=hc6
   refine zP Z hc6 (zr (oM hH5 Z (oA hH5 Z (oA hH5 Z (zt (ret (y7 (yP (qD (y7 (yP (fin hH5 (fun w' hf=>(u0 Z (rt Z) (rt Z))) (fun w' hf=>?_)))))))))))))
   first | (rw [Tn.pick_hit (p:=(fun i=>Tn.play n sl (nth sl i).2 (out++[i]))) (k:=k) (by omega) hall hp,vT.2 ⟨k,by omega,hp⟩]; done) | (rw [Tn.pick_hit (p:=(fun i=>Tn.play n sl (nth sl i).2 (out++[i]))) (k:=k) (by omega) hall hp,vT.2 ⟨k,by omega,hp⟩]; rfl) | (rw [Tn.pick_miss (p:=(fun i=>Tn.play n sl (nth sl i).2 (out++[i]))) (fun i hi=>hall i (by omega)),uY.2 (fun i hi=>hall i (by omega))])
  have hp:(fun i=>Tn.play n sl (nth sl i).2 (out++[i])) (nth l (k:Int))=false:=(Bool.eq_false_iff.2 hc6)
  refine zM Z (Bool.eq_false_iff.2 hc6) (skip (yC (zJ (region (oY hH5 (zU Z Z om) (oM hH5 Z (zE (yX (k+1) (uC Z (uC Z (uC Z (uC Z (Sub.nil _))))) (⟨hH5,om,S.all_snoc hall hp⟩) om3))))))))
 refine zM Z (dF hc3) (exit (yR (xH (zW (zu (oA hH2 Z (zs (oM hH2 Z (oA hH2 Z (oA hH2 Z (zt (ret (fin hH2 (fun w' hf=>(u0 Z (rt Z) (rt Z))) (fun w' hf=>?_))))))))))))))
 first | (rw [Tn.pick_hit (p:=(fun i=>Tn.play n sl (nth sl i).2 (out++[i]))) (k:=k) (by omega) hall hp,vT.2 ⟨k,by omega,hp⟩]; done) | (rw [Tn.pick_hit (p:=(fun i=>Tn.play n sl (nth sl i).2 (out++[i]))) (k:=k) (by omega) hall hp,vT.2 ⟨k,by omega,hp⟩]; rfl) | (rw [Tn.pick_miss (p:=(fun i=>Tn.play n sl (nth sl i).2 (out++[i]))) (fun i hi=>hall i (by omega)),uY.2 (fun i hi=>hall i (by omega))])
theorem c17 {bb:Nat} {pv:Value} {n:Int} {v:Value} {w:World} {sl:List Tn.Pr} (kb:Bx bb 63 (seg [.int .i64 n,v] (Tn.spTo sl sl.length) [pv]) w) (h0:Rd encP 2 v sl w) (hb:Tn.Book n sl)  :
  Fn Tryz.prog 17 [(.pointer (some ⟨bb,0,none⟩))].toArray w (fun u w=>Own 3 1 encI u (Tn.first n sl sl.length).out w):=by
 refine fz Tryz.func17 Z kz Z Z (fun hH=>?_)
 have hn1:=hb.n1
 have hn8:=hb.n8
 have hl14:=hb.l14
 have hl1:=hb.l1
 refine zr (yM Z Z Z hH (fun b1 w2 hH3=>(oA hH3 Z (zs (xG (z:=(.slice none 0 0)) (fun _=>by kernel_rfl) Z Z hH3 (fun b4 w5 hH6=>(zs (oA hH6 Z (zt (seq (zr (oY hH6 (zC T.uV Z (cw (n:=1) Z Z)) (oY hH6 (z6 Z) (oY hH6 (zD T.xV Z) ?_))))))))))))))
 refine oY hH6 (zD T.yK Z) (oY hH6 (yD T.yN Z (by rfl) Z (fun _ hw=>(kb.now hw (n:=2) Z))) (oY hH6 (zX T.y9 Z (h0.now hH6 (n:=2) Z).is) (oM hH6 Z (zt (block ?_)))))
 have hH7:=vJ (enc:=encI) 3 1 hH6
 refine loop (S:=Nat×Value×Nat×Nat) (fun (k,v_b3,lo_b3,hi_b3)=>[(13,(.int .i64 (k:Int))),(4,(.int .i64 ((Tn.first n sl k).at_))),(1,(.pointer (some ⟨b1,0,none⟩))),(2,(.slice none 0 0)),(3,(.pointer (some ⟨b4,0,none⟩))),(12,(.int .i64 (sl.length:Int)))]) (fun (k,v_b3,lo_b3,hi_b3) w1=>Heap [ow lo_b3 hi_b3 3 1 encI v_b3 ((Tn.first n sl k).out),bx b4 28 [v_b3],bx b1 42 [(.pointer (some ⟨bb,0,none⟩))],base w] w1∧k≤sl.length) (fun (k,v_b3,lo_b3,hi_b3)=>sl.length - k) (0,(.slice none 0 0),w5.heap.size,w5.heap.size) (uC Z (uC Z (uC Z (uC Z (uC Z (uC Z (Sub.nil _))))))) ?_ ?_
 ·exact ⟨hH7,om⟩
 rintro ⟨k,v_b3,lo_b3,hi_b3⟩ w8 ⟨hH9,hk⟩
 have hfl:=Tn.first_len n sl k
 refine zr (oY hH9 (yF Z Z) (zt (seq ?_)))
 by_cases hc10:(k:Int)<(sl.length:Int)
 ·refine zP Z (dT hc10) (skip (zJ (seq (block (zr (oY hH9 (zC T.uV Z (cw (n:=2) Z Z)) (oM hH9 Z (oY hH9 (zC T.xL Z (cw (n:=1) Z Z)) (xR Z Z Z hH9 (c47 (bb:=bb) (f:=((Tn.first n sl k).at_)) (Heap.yU T.zA hH9 (n:=0) Z)) (fun u16 w14 lo17 hi18 hH15 hv19=>?_))))))))))
  obtain ⟨c11,c12,c13,hu, -⟩:=hv19
  subst hu
  have hH20:=Heap.V9 hH15 (n:=0) Z
  refine xR Z Z Z hH20 (c46 (l:=(Tn.lead sl ((Tn.first n sl k).at_) ((Tn.first n sl k).out) sl.length)) (VB (b1:=c11) (b2:=c12) (b3:=c13) (bb:=bb) (n:=n) (f:=((Tn.first n sl k).at_)) (v:=v) (vo:=v_b3) (pv:=pv) (C:=(Tn.spTo sl sl.length)) (out:=((Tn.first n sl k).out)) (sl:=sl) (by first | exact Tn.sp_len _ _ | assumption) om (by first | omega | (rw [Tn.first_len]; omega))) (fun w' hb=>LW.below ⟨(hH20.get (n:=0) Z).1,(hH20.get (n:=0) Z).2.1,(hH20.get (n:=0) Z).2.2,(kb.now hH20 (n:=4) Z),(h0.now hH20 (n:=4) Z),(Heap.yU T.zA hH20 (n:=1) Z)⟩ hb) (by have:=Tn.lead_len sl ((Tn.first n sl k).at_) ((Tn.first n sl k).out) sl.length; omega)) (fun u23 w21 lo24 hi25 hH22 hv26=>?_)
  have hH27:=Heap.vX hH22 (n:=0) Z
  refine oY hH27 (x7 Z Z) (zS Z Z Z hH27 (c45 (kb.now hH27 (n:=5) Z) (h0.now hH27 (n:=5) Z) hb (Heap.vY hH27 (n:=4) Z) (Heap.vY hH27 (n:=3) Z) (Heap.yU T.zA hH27 (n:=2) Z) (by first | omega | (rw [Tn.first_len]; omega)) (Heap.yU T.zA hH27 (n:=0) Z) (by have:=Tn.lead_len sl (Tn.first n sl k).at_ (Tn.first n sl k).out sl.length; omega) Tn.lead_in) (fun w28 hH29=>(oM hH29 Z (oY hH29 (zQ Z Z) (oY hH29 (zQ Z Z) (oA hH29 Z (oA hH29 Z (zs (oY hH29 (zC T.xL Z (cw (n:=3) Z Z)) (oM hH29 Z (yJ T.zA [(Tn.pick (fun i=>Tn.play n sl (nth sl i).2 (((Tn.first n sl k).out)++[i])) (Tn.lead sl ((Tn.first n sl k).at_) ((Tn.first n sl k).out) sl.length))] Z (fun w=>by kernel_rfl) hH29 (fun u30 lo32 hi33 w31 hH34=>(yG (n:=3) T.zA Z Z Z hH34 Z (Heap.yU T.zA hH34 (n:=0) Z) (by first | omega | (simp only [List.length_append,List.length_cons,List.length_nil]; omega)) (fun u35 lo37 hi38 w36 hH39=>(yS (n:=4) (j:=0) Z Z hH39 Z T.VF (SliceIs.cells (Heap.yU T.zA hH39 (n:=3) Z).is) Z Z (SliceIs.one (Heap.yU T.zA hH39 (n:=3) Z).is) (fun w40 hH41=>(zt ?_)))))))))))))))))
  have hpi:0≤(Tn.pick (fun i=>Tn.play n sl (nth sl i).2 ((Tn.first n sl k).out++[i])) (Tn.lead sl (Tn.first n sl k).at_ (Tn.first n sl k).out sl.length))∧(Tn.pick (fun i=>Tn.play n sl (nth sl i).2 ((Tn.first n sl k).out++[i])) (Tn.lead sl (Tn.first n sl k).at_ (Tn.first n sl k).out sl.length))<(sl.length:Int):=Tn.pick_in (by omega) Tn.lead_in
  refine region (oY hH41 (zC T.uV Z (cw (n:=5) Z Z)) (oY hH41 (z6 Z) (oY hH41 (zD T.xV Z) (oY hH41 (zD T.yK Z) (oY hH41 (yD T.yN Z (by rfl) Z (fun _ hw=>(kb.now hw (n:=6) Z))) (oM hH41 Z (oY hH41 (zN T.y9 Z Z (h0.now hH41 (n:=6) Z).is om) (oY hH41 (zY T.xA Z Z om) (oY hH41 (zC T.yB Z (fun _ hw=>Rd.at (h0.now hw (n:=6) Z) (i:=(Tn.pick (fun i=>Tn.play n sl (nth sl i).2 (((Tn.first n sl k).out)++[i])) (Tn.lead sl ((Tn.first n sl k).at_) ((Tn.first n sl k).out) sl.length))) om (j:=1) Z)) (oA hH41 Z (zE (yC (zJ (region (oY hH41 (zU Z Z om) (oM hH41 Z (zE (yX (k+1,u35,lo37,hi38) (uC Z (uC Z (uC Z (uC Z (uC Z (uC Z (Sub.nil _))))))) (⟨(hH41.sub (sC (sC (sC sR)))),om⟩) om3))))))))))))))))))
 refine zM Z (dF hc10) (exit (yR (xH (zW (zu (oY hH9 (zC T.xL Z (cw (n:=1) Z Z)) (oA hH9 Z (zt (ret (fin ((hH9.sub (sK (sC (sC sR)))).front (n:=1) Z) (fun w' hf=>(yI Z (rt Z))) (fun w' hf=>?_)))))))))))
 have hkl:k=sl.length:=by omega
 subst hkl; exact Heap.own hf (n:=0) rfl
end Go.Fip
namespace Go.Fip
open Go.Proofs Go.RowKit
theorem c6b {v:Value} {sl:List Tn.Pr} {n:Int} {w:World} (h0:Rd encP 2 v sl w) (hb:Tn.Book n sl) (hs:Tn.starts n sl=[])  :
  Fn Tryz.prog 6 [(.agg #[(.int .i64 n),v])].toArray w (fun u _=>u=.tuple #[.slice none 0 0,.int .i64 19]):=by
 refine fz Tryz.func6 Z kz Z Z (fun hH=>?_)
 have hn1:=hb.n1
 have hn8:=hb.n8
 have hl14:=hb.l14
 have hl1:=hb.l1
 have hsl:=Tn.starts_len (sl:=sl) hn8
 refine zr (yM Z Z Z hH (fun b1 w2 hH3=>(oA hH3 Z (oA hH3 Z (zs (oY hH3 (zZ (cs:=[(.int .i64 n),v]) T.xX Z Z (fun _ hw=>Heap.yQ hw (n:=0) Z (k:=0) Z)) (xR Z Z Z hH3 (WC (h0.now hH3 (n:=1) Z) hb) (fun u6 w4 lo7 hi8 hH5 hv9=>?_))))))))
 obtain ⟨bbD11,_,hu, -⟩:=hv9
 subst hu
 obtain ⟨pvD11,hH10⟩:=Heap.YU (b:=bbD11) (t:=63) (pre:=[.int .i64 n,v]) (C:=(Tn.spTo sl sl.length)) hH5 (n:=0) rfl (fun w' h=>by obtain ⟨b',pv',e,h⟩:=h; cases e; exact ⟨pv',h⟩)
 refine oM hH10 Z (oY hH10 (zQ Z Z) (oY hH10 (zQ Z Z) (oA hH10 Z (oA hH10 Z (zt (seq (block (zr (oM hH10 Z (oY hH10 (yT Z Z) (oA hH10 Z (zt (zM Z Z (zr (oM hH10 Z (xR Z Z Z hH10 (c16 (Heap.vY hH10 (n:=0) Z) (h0.now hH10 (n:=2) Z) hb) (fun u14 w12 lo15 hi16 hH13 hv17=>?_)))))))))))))))))
 have hH18:=Heap.vX hH13 (n:=0) Z
 refine oY hH18 (zX T.yE Z (Heap.yU T.zA hH18 (n:=0) Z).is) (oY hH18 (xJ Z Z) (oA hH18 Z (zt ?_)))
 have hc19:((Tn.starts n sl).length:Int)=0:=(show ((Tn.starts n sl).length:Int)=0 by rw [hs]; rfl)
 refine zP Z (dT hc19) (zr (oA hH18 Z (oA hH18 Z (zt (ret (y7 (yP (fin (hH18.sub (sC (sC (sC sR)))) (fun w' hf=>(u0 Z (rt Z) (rt Z))) (fun w' hf=>Z)))))))))
theorem c6g {v:Value} {sl:List Tn.Pr} {n:Int} {w:World} (h0:Rd encP 2 v sl w) (hb:Tn.Book n sl) (hs:¬ Tn.starts n sl=[])  :
  Fn Tryz.prog 6 [(.agg #[(.int .i64 n),v])].toArray w (fun u w=>∃ p,u=.tuple #[p,.int .i64 0]∧Own 3 1 encI p (Tn.first n sl sl.length).out w):=by
 refine fz Tryz.func6 Z kz Z Z (fun hH=>?_)
 have hn1:=hb.n1
 have hn8:=hb.n8
 have hl14:=hb.l14
 have hl1:=hb.l1
 have hsl:=Tn.starts_len (sl:=sl) hn8
 refine zr (yM Z Z Z hH (fun b1 w2 hH3=>(oA hH3 Z (oA hH3 Z (zs (oY hH3 (zZ (cs:=[(.int .i64 n),v]) T.xX Z Z (fun _ hw=>Heap.yQ hw (n:=0) Z (k:=0) Z)) (xR Z Z Z hH3 (WC (h0.now hH3 (n:=1) Z) hb) (fun u6 w4 lo7 hi8 hH5 hv9=>?_))))))))
 obtain ⟨bbD11,_,hu, -⟩:=hv9
 subst hu
 obtain ⟨pvD11,hH10⟩:=Heap.YU (b:=bbD11) (t:=63) (pre:=[.int .i64 n,v]) (C:=(Tn.spTo sl sl.length)) hH5 (n:=0) rfl (fun w' h=>by obtain ⟨b',pv',e,h⟩:=h; cases e; exact ⟨pv',h⟩)
 refine oM hH10 Z (oY hH10 (zQ Z Z) (oY hH10 (zQ Z Z) (oA hH10 Z (oA hH10 Z (zt (seq (block (zr (oM hH10 Z (oY hH10 (yT Z Z) (oA hH10 Z (zt (zM Z Z (zr (oM hH10 Z (xR Z Z Z hH10 (c16 (Heap.vY hH10 (n:=0) Z) (h0.now hH10 (n:=2) Z) hb) (fun u14 w12 lo15 hi16 hH13 hv17=>?_)))))))))))))))))
 have hH18:=Heap.vX hH13 (n:=0) Z
 refine oY hH18 (zX T.yE Z (Heap.yU T.zA hH18 (n:=0) Z).is) (oY hH18 (xJ Z Z) (oA hH18 Z (zt ?_)))
 have hc19:¬ (((Tn.starts n sl).length:Int)=0):=(show ¬ ((Tn.starts n sl).length:Int)=0 from fun h=>hs (List.eq_nil_of_length_eq_zero (by omega)))
 refine zM Z (dF hc19) (skip (yC (zu (oM hH18 Z (xR Z Z Z hH18 (c17 (Heap.vY hH18 (n:=1) Z) (h0.now hH18 (n:=3) Z) hb) (fun u22 w20 lo23 hi24 hH21 hv25=>?_))))))
 have hH26:=Heap.vX hH21 (n:=0) Z
 refine oA hH26 Z (oA hH26 Z (zt (ret (fin ((hH26.sub (sK (sC (sC (sC sR))))).front (n:=1) Z) (fun w' hf=>(u0 Z (rt Z) (rt Z))) (fun w' hf=>?_)))))
 exact ⟨_,Z,Heap.own hf (n:=0) Z⟩
theorem c9 {v:Value} {sl:List Tn.Pr} {n:Int} {w:World} (h0:Rd encP 2 v sl w) (hb:Tn.Book n sl) {vt:Value} {t:List Int} (h1:Rd encI 1 vt t w) (ht:Tn.Tune sl t)  :
  Fn Tryz.prog 9 [(.agg #[(.int .i64 n),v]),vt].toArray w (fun u _=>u=.tuple #[.int .i64 (Tn.ends sl t).1,.int .i64 (Tn.ends sl t).2,.int .i64 0]):=by
 refine fz Tryz.func9 Z kz Z Z (fun hH=>?_)
 have hn1:=hb.n1
 have hn8:=hb.n8
 have hl14:=hb.l14
 have hl1:=hb.l1
 have hc0:=Tn.ck_iff.2 hb
 have htl:=ht.len
 refine zr (yM Z Z Z hH (fun b1 w2 hH3=>(oA hH3 Z (oA hH3 Z (oA hH3 Z (zs (oY hH3 (zZ (cs:=[(.int .i64 n),v]) T.xX Z Z (fun _ hw=>Heap.yQ hw (n:=0) Z (k:=0) Z)) (zS Z Z Z hH3 (c18 (h0.now hH3 (n:=1) Z) om) (fun w4 hH5=>(oA hH5 Z (zt (seq (block (zr (oM hH5 Z (oY hH5 (yT Z Z) (oA hH5 Z ?_)))))))))))))))))
 refine zt ?_
 have hc6:¬ (¬ ((Tn.ck n sl)=0)):=fun h=>h hc0
 refine zM Z (yW hc6) (zr (oM hH5 Z (oY hH5 (zX T.yE Z (h1.now hH5 (n:=1) Z).is) (oY hH5 (zD T.yK Z) (oY hH5 (zC T.yN Z (cw (n:=0) Z Z)) (oY hH5 (zX T.y9 Z (h0.now hH5 (n:=1) Z).is) (oY hH5 (yT Z Z) (oA hH5 Z (zt ?_)))))))))
 have hc7:¬ (¬ ((t.length:Int)=(sl.length:Int))):=(show ¬ ¬ (t.length:Int)=(sl.length:Int) by omega)
 refine zM Z (yW hc7) (zr (oY hH5 (zD T.yK Z) (oY hH5 (zC T.yN Z (cw (n:=0) Z Z)) (oY hH5 (zX T.y9 Z (h0.now hH5 (n:=1) Z).is) (oY hH5 (xI Z Z om) (oM hH5 Z (zS Z Z Z hH5 (c19 (h1.now hH5 (n:=1) Z) om) (fun w8 hH9=>(oY hH9 (xD Z) (oA hH9 Z (zt ?_)))))))))))
 have hc10:¬ (¬ (∀ x∈t,0≤x∧x≤(sl.length:Int) - 1)):=(fun h=>h ht.all)
 refine zM Z (yW hc10) (skip (yC (zJ (seq (zr (oM hH9 Z (oY hH9 (zX T.yE Z (h1.now hH9 (n:=1) Z).is) (oM hH9 Z (zt (block (loop (S:=Nat) (fun k=>[(36,(.int .i64 (k:Int))),(1,vt),(2,(.pointer (some ⟨b1,0,none⟩))),(34,vt),(35,(.int .i64 (t.length:Int)))]) (fun k w1=>Heap [bx b1 24 [(.int .i64 n),v],base w] w1∧k≤t.length) (fun k=>t.length - k) (0) (uC Z (uC Z (uC Z (uC Z (uC Z (Sub.nil _)))))) ?_ ?_)))))))))))
 ·exact ⟨hH9,om⟩
 rintro k w11 ⟨hH12,hk⟩
 refine zr (oY hH12 (yF Z Z) (zt (seq ?_)))
 by_cases hc13:(k:Int)<(t.length:Int)
 ·refine zP Z (dT hc13) (skip (zJ (seq (block (zr (oM hH12 Z (oY hH12 (zN T.yE Z Z (h1.now hH12 (n:=1) Z).is om) (oY hH12 (zC T.yB Z (fun _ hw=>Rd.at (h1.now hw (n:=1) Z) (i:=(k:Int)) om (j:=0) Z)) (oA hH12 Z (oA hH12 Z (zt (seq ?_))))))))))))
  have htk:(t.take (k:Int).toNat).length=k:=by rw [List.length_take]; omega
  refine region (oM hH12 Z (oM hH12 Z (oY hH12 (vF T.yE Z Z (h1.now hH12 (n:=1) Z).is om) (oM hH12 Z (zS Z Z Z hH12 (c20 (Rd.upto (h1.now hH12 (n:=1) Z) (hi:=(k:Int).toNat) om) om) (fun w14 hH15=>(zt ?_)))))))
  have hc16:¬ (0≤S.place (t.take (k:Int).toNat) (nth t (k:Int))):=(ht.no (by omega))
  refine zM Z (dF hc16) (skip (yC (zJ (region (oY hH15 (zU Z Z om) (oM hH15 Z (zE (yX (k+1) (uC Z (uC Z (uC Z (uC Z (uC Z (Sub.nil _)))))) (⟨hH15,om⟩) om3))))))))
 refine zM Z (dF hc13) (exit (yR (xH (zW (zJ (seq ?_))))))
 have hinz:=ht.inn 0 (by omega)
 have hokz:=hb.ok (nth t (((0:Nat):Int))).toNat (by omega)
 rw [show (((nth t (((0:Nat):Int))).toNat:Nat):Int)=nth t (((0:Nat):Int)) by omega] at hokz
 obtain ⟨⟨hxz1,hxz2⟩,hxz3,hxz4⟩:=hokz
 refine z8 (fun w'=>Heap [bx b1 24 [(.int .i64 n),v],base w] w') T.mixed (fun w17 hr18=>?_)
 have hH19:=hH12.redrawn hr18
 refine zR [0,1,2,3,4,5,6,7,8] kz hH19 _ _ _ kz (zI Z Z (zD T.yK Z) (zI Z Z (zC T.yN Z (cw (n:=0) Z Z)) (qM Z Z Z (zI Z Z (zN T.yE Z Z (h1.now hH19 (n:=1) Z).is om) (zI Z Z (zC T.yB Z (fun _ hw=>Rd.at (h1.now hw (n:=1) Z) (i:=0) om (j:=0) Z)) (zI Z Z (zN T.y9 Z Z (h0.now hH19 (n:=1) Z).is om) (zI Z Z (zY T.xA Z Z om) (zI Z Z (zC T.yB Z (fun _ hw=>Rd.at (h0.now hw (n:=1) Z) (i:=nth t 0) om (j:=0) Z)) (zI Z Z (yO Z) (zV (yH kz (zJ (seq (zr (oM hH19 Z (oY hH19 (zX T.yE Z (h1.now hH19 (n:=1) Z).is) (oM hH19 Z (zt (block ?_)))))))))))))))))))
 refine loop (S:=Nat) (fun j=>[(57,(.int .i64 (j:Int))),(10,(.int .i64 (Tn.atTo sl t j))),(1,vt),(2,(.pointer (some ⟨b1,0,none⟩))),(55,vt),(56,(.int .i64 (t.length:Int)))]) (fun j w1=>Heap [bx b1 24 [(.int .i64 n),v],base w] w1∧j≤t.length) (fun j=>t.length - j) (0) (uC Z (uC Z (uC Z (uC Z (uC Z (uC Z (Sub.nil _))))))) ?_ ?_
 ·exact ⟨hH19,om⟩
 rintro j w20 ⟨hH21,hj⟩
 refine zr (oY hH21 (yF Z Z) (zt (seq ?_)))
 by_cases hc22:(j:Int)<(t.length:Int)
 ·refine zP Z (dT hc22) (skip (zJ (seq (block (seq ?_)))))
  have hinj:=ht.inn j (by omega)
  have hokj:=hb.ok (nth t (((j:Nat):Int))).toNat (by omega)
  rw [show (((nth t (((j:Nat):Int))).toNat:Nat):Int)=nth t (((j:Nat):Int)) by omega] at hokj
  obtain ⟨⟨hxj1,hxj2⟩,hxj3,hxj4⟩:=hokj
  refine region (oY hH21 (zN T.yE Z Z (h1.now hH21 (n:=1) Z).is om) (oY hH21 (zC T.yB Z (fun _ hw=>Rd.at (h1.now hw (n:=1) Z) (i:=(j:Int)) om (j:=0) Z)) (oA hH21 Z (zt (seq (zr (oY hH21 (zD T.yK Z) (oY hH21 (zC T.yN Z (cw (n:=0) Z Z)) (oM hH21 Z (oY hH21 (zN T.y9 Z Z (h0.now hH21 (n:=1) Z).is om) (oY hH21 (zY T.xA Z Z om) (oY hH21 (zC T.yB Z (fun _ hw=>Rd.at (h0.now hw (n:=1) Z) (i:=nth t (j:Int)) om (j:=0) Z)) (oM hH21 Z (oY hH21 (yT Z Z) (zt ?_)))))))))))))))
  have hc23:¬ (¬ (((nth sl (nth t (j:Int))).1)=(Tn.atTo sl t j))):=(show ¬ ¬ (nth sl (nth t (j:Int))).1=Tn.atTo sl t j from fun h=>h (ht.at_ (by omega)))
  refine zM Z (yW hc23) (skip (zJ (region (oY hH21 (zD T.yK Z) (oY hH21 (zC T.yN Z (cw (n:=0) Z Z)) (oM hH21 Z (oY hH21 (zN T.y9 Z Z (h0.now hH21 (n:=1) Z).is om) (oY hH21 (zY T.xA Z Z om) (oY hH21 (zC T.yB Z (fun _ hw=>Rd.at (h0.now hw (n:=1) Z) (i:=nth t (j:Int)) om (j:=1) Z)) (oA hH21 Z (zE (yC (zJ (region (oY hH21 (zU Z Z om) (oM hH21 Z (zE (yX (j+1) (uC Z (uC Z (uC Z (uC Z (uC Z (uC Z (Sub.nil _))))))) (⟨hH21,om⟩) om3))))))))))))))))))
 refine zM Z (dF hc22) (exit (yR (xH (zW (zJ (seq (z8 (fun w'=>Heap [bx b1 24 [(.int .i64 n),v],base w] w') T.mixed (fun w24 hr25=>?_))))))))
 have hH26:=hH21.redrawn hr25
 refine zR [0,1,2,3,4,5,6,7,8,9,10,11] kz hH26 _ _ _ kz (zI Z Z (zD T.yK Z) (zI Z Z (zC T.yN Z (cw (n:=0) Z Z)) (qM Z Z Z (zI Z Z (zN T.yE Z Z (h1.now hH26 (n:=1) Z).is om) (zI Z Z (zC T.yB Z (fun _ hw=>Rd.at (h1.now hw (n:=1) Z) (i:=0) om (j:=0) Z)) (zI Z Z (zN T.y9 Z Z (h0.now hH26 (n:=1) Z).is om) (zI Z Z (zY T.xA Z Z om) (zI Z Z (zC T.yB Z (fun _ hw=>Rd.at (h0.now hw (n:=1) Z) (i:=nth t 0) om (j:=0) Z)) (qM Z Z Z (zI Z Z (yO Z) (zI Z Z (yO Z) (zI Z Z (yO Z) (zV (yH kz (zJ (ret (fin (hH26.sub (sC sR)) (fun w' hf=>(WD Z (rt Z) (rt Z) (rt Z))) (fun w' hf=>?_))))))))))))))))))
 rw [show (Tn.ends sl t).2=Tn.atTo sl t j from by obtain ⟨m,rfl⟩:∃ m,j=m+1:=⟨j - 1,by omega⟩; show (nth sl (nth t ((t.length:Int) - 1))).2=(nth sl (nth t (m:Int))).2; rw [show (t.length:Int) - 1=(m:Int) by omega]]; rfl
end Go.Fip
namespace Go.Fip
open Go.Proofs Go.RowKit
theorem c12 {v:Value} {sl:List Tn.Pr} {n:Int} {w:World} (h0:Rd encP 2 v sl w) {x:Int}  :
  Fn Tryz.prog 12 [(.agg #[(.int .i64 n),v]),(.int .i64 x)].toArray w (fun u _=>u=.bool (decide (0≤x∧x<n))):=by
 refine fz Tryz.func12 Z kz Z Z (fun hH=>(zr (yM Z Z Z hH (fun b1 w2 hH3=>(oA hH3 Z (zs (oM hH3 Z (oY hH3 (vK Z Z) (oM hH3 Z ?_)))))))))
 by_cases hc4:0≤x
 ·refine zB Z Z (dT hc4) (oM hH3 Z (zB Z Z (dT hc4) (oY hH3 (zD T.qP Z) (zB Z Z (dT hc4) (oY hH3 (zC T.yB Z (cw (n:=0) Z Z)) (zB Z Z (dT hc4) (oY hH3 (yF Z Z) (oY hH3 (z7 Z (dT hc4) Z) (oA hH3 Z (zt (ret (fin (hH3.sub (sC sR)) (fun w' hf=>(yI Z (rt Z))) (fun w' hf=>?_)))))))))))))
  first | rfl | (show Value.bool _=Value.bool _; congr 1; rw [Bool.eq_iff_iff]; simp; omega) | (show Value.bool _=Value.bool _; congr 1; rw [Bool.eq_iff_iff]; simp)
 refine zF Z Z (dF hc4) Z (zF Z Z (dF hc4) Z (zF Z Z (dF hc4) Z (zF Z Z (dF hc4) Z (oY hH3 (yA Z (dF hc4) Z) (oA hH3 Z (zt (ret (fin (hH3.sub (sC sR)) (fun w' hf=>(yI Z (rt Z))) (fun w' hf=>?_)))))))))
 first | rfl | (show Value.bool _=Value.bool _; congr 1; rw [Bool.eq_iff_iff]; simp; omega) | (show Value.bool _=Value.bool _; congr 1; rw [Bool.eq_iff_iff]; simp)
theorem c4 {v:Value} {sl:List Tn.Pr} {n:Int} {w:World} (h0:Rd encP 2 v sl w) (hl:sl.length≤1000000)  :
  Fn Tryz.prog 4 [(.agg #[(.int .i64 n),v])].toArray w (fun u _=>u=.int .i64 (Tn.ck n sl)):=by
 refine fz Tryz.func4 Z kz Z Z (fun hH=>(zr (yM Z Z Z hH (fun b1 w2 hH3=>(oA hH3 Z (zt (seq (zr (oY hH3 (zD T.qP Z) (oY hH3 (zC T.yB Z (cw (n:=0) Z Z)) (oY hH3 (yF Z Z) (oM hH3 Z ?_))))))))))))
 by_cases hc4:n<1
 ·refine zF Z Z (dT hc4) Z (zF Z Z (dT hc4) Z (zF Z Z (dT hc4) Z (oY hH3 (z7 Z (dT hc4) Z) (oM hH3 Z (zF Z Z Z Z (zF Z Z Z Z (zF Z Z Z Z (zF Z Z Z Z (oY hH3 (z7 Z Z Z) (oM hH3 Z (zF Z Z Z Z (zF Z Z Z Z (zF Z Z Z Z (zF Z Z Z Z (oY hH3 (z7 Z Z Z) (zt (zP Z Z (zr (oA hH3 Z ?_)))))))))))))))))))
  refine zt (ret (yP (fin (hH3.sub (sC sR)) (fun w' hf=>(yI Z (rt Z))) (fun w' hf=>?_))))
  first | exact congrArg (Value.int .i64) (Tn.ck1 (by omega)) | exact congrArg (Value.int .i64) (Tn.ck2 hall (fun h=>by have h9:(0≤(nth sl (i:Int)).1∧(nth sl (i:Int)).1<n)∧0≤(nth sl (i:Int)).2∧(nth sl (i:Int)).2<n:=h i (by omega); omega)) | exact congrArg (Value.int .i64) (Tn.ck3 hall (fun j hj=>hok j (by omega)))
 refine zB Z Z (dF hc4) (oY hH3 (zD T.qP Z) (zB Z Z (dF hc4) (oY hH3 (zC T.yB Z (cw (n:=0) Z Z)) (zB Z Z (dF hc4) (oY hH3 (vS Z Z) (oY hH3 (yA Z (dF hc4) Z) (oM hH3 Z ?_)))))))
 by_cases hc6:8<n
 ·refine zF Z Z (dT hc6) Z (zF Z Z (dT hc6) Z (zF Z Z (dT hc6) Z (zF Z Z (dT hc6) Z (oY hH3 (z7 Z (dT hc6) Z) (oM hH3 Z (zF Z Z Z Z (zF Z Z Z Z (zF Z Z Z Z (zF Z Z Z Z (oY hH3 (z7 Z Z Z) (zt (zP Z Z (zr (oA hH3 Z (zt (ret (yP (fin (hH3.sub (sC sR)) (fun w' hf=>(yI Z (rt Z))) (fun w' hf=>?_)))))))))))))))))))
  first | exact congrArg (Value.int .i64) (Tn.ck1 (by omega)) | exact congrArg (Value.int .i64) (Tn.ck2 hall (fun h=>by have h9:(0≤(nth sl (i:Int)).1∧(nth sl (i:Int)).1<n)∧0≤(nth sl (i:Int)).2∧(nth sl (i:Int)).2<n:=h i (by omega); omega)) | exact congrArg (Value.int .i64) (Tn.ck3 hall (fun j hj=>hok j (by omega)))
 refine zB Z Z (dF hc6) (oY hH3 (zD T.yK Z) (zB Z Z (dF hc6) (oY hH3 (zC T.yN Z (cw (n:=0) Z Z)) (zB Z Z (dF hc6) (oY hH3 (zX T.y9 Z (h0.now hH3 (n:=1) Z).is) (zB Z Z (dF hc6) (oY hH3 (yF Z Z) (oY hH3 (yA Z (dF hc6) Z) (oM hH3 Z ?_)))))))))
 by_cases hc8:(sl.length:Int)<1
 ·refine zF Z Z (dT hc8) Z (zF Z Z (dT hc8) Z (zF Z Z (dT hc8) Z (zF Z Z (dT hc8) Z (oY hH3 (z7 Z (dT hc8) Z) (zt (zP Z Z (zr (oA hH3 Z (zt (ret (yP (fin (hH3.sub (sC sR)) (fun w' hf=>(yI Z (rt Z))) (fun w' hf=>?_)))))))))))))
  first | exact congrArg (Value.int .i64) (Tn.ck1 (by omega)) | exact congrArg (Value.int .i64) (Tn.ck2 hall (fun h=>by have h9:(0≤(nth sl (i:Int)).1∧(nth sl (i:Int)).1<n)∧0≤(nth sl (i:Int)).2∧(nth sl (i:Int)).2<n:=h i (by omega); omega)) | exact congrArg (Value.int .i64) (Tn.ck3 hall (fun j hj=>hok j (by omega)))
 refine zB Z Z (dF hc8) (oY hH3 (zD T.yK Z) (zB Z Z (dF hc8) (oY hH3 (zC T.yN Z (cw (n:=0) Z Z)) (zB Z Z (dF hc8) (oY hH3 (zX T.y9 Z (h0.now hH3 (n:=1) Z).is) (zB Z Z (dF hc8) (oY hH3 (vS Z Z) (oY hH3 (yA Z (dF hc8) Z) (zt ?_)))))))))
 by_cases hc10:14<(sl.length:Int)
 ·refine zP Z (dT hc10) (zr (oA hH3 Z (zt (ret (yP (fin (hH3.sub (sC sR)) (fun w' hf=>(yI Z (rt Z))) (fun w' hf=>?_)))))))
  first | exact congrArg (Value.int .i64) (Tn.ck1 (by omega)) | exact congrArg (Value.int .i64) (Tn.ck2 hall (fun h=>by have h9:(0≤(nth sl (i:Int)).1∧(nth sl (i:Int)).1<n)∧0≤(nth sl (i:Int)).2∧(nth sl (i:Int)).2<n:=h i (by omega); omega)) | exact congrArg (Value.int .i64) (Tn.ck3 hall (fun j hj=>hok j (by omega)))
 have hall:(1≤n∧n≤8)∧1≤sl.length∧sl.length≤14:=by omega
 refine zM Z (dF hc10) (skip (zJ (seq (zr (oA hH3 Z (zt (block (loop (S:=Nat) (fun i=>[(3,(.int .i64 (i:Int))),(1,(.pointer (some ⟨b1,0,none⟩)))]) (fun i w1=>Heap [bx b1 24 [(.int .i64 n),v],base w] w1∧i≤sl.length∧∀ j:Nat,j<i→Tn.okP n (nth sl (j:Int))) (fun i=>sl.length - i) (0) (uC Z (uC Z (Sub.nil _))) ?_ ?_))))))))
 ·exact ⟨hH3,om,S.all_zero⟩
 rintro i w12 ⟨hH13,hi,hok⟩
 refine seq (zr (oM hH13 Z (oY hH13 (zD T.yK Z) (oY hH13 (zC T.yN Z (cw (n:=0) Z Z)) (oY hH13 (zX T.y9 Z (h0.now hH13 (n:=1) Z).is) (oY hH13 (yF Z Z) (zt ?_)))))))
 by_cases hc14:(i:Int)<(sl.length:Int)
 ·refine zP Z (dT hc14) (skip (zJ (seq (block (seq (z8 (fun w'=>Heap [bx b1 24 [(.int .i64 n),v],base w] w') T.mixed (fun w15 hr16=>?_)))))))
  have hH17:=hH13.redrawn hr16
  refine zR [0,1,2,3,4,5,6] kz hH17 _ _ _ kz (zI Z Z (zZ (cs:=[(.int .i64 n),v]) T.xX Z Z (fun _ hw=>Heap.yQ hw (n:=0) Z (k:=0) Z)) (zI Z Z (zD T.yK Z) (zI Z Z (zC T.yN Z (cw (n:=0) Z Z)) (qM Z Z Z (zI Z Z (zN T.y9 Z Z (h0.now hH17 (n:=1) Z).is om) (zI Z Z (zY T.xA Z Z om) (zI Z Z (zC T.yB Z (fun _ hw=>Rd.at (h0.now hw (n:=1) Z) (i:=(i:Int)) om (j:=0) Z)) (zV (z1 7 kz Z (zS Z Z Z hH17 (c12 (h0.now hH17 (n:=1) Z)) (fun w18 hH19=>(zE (⟨hH19,(zR [8,9] kz hH19 _ _ _ kz (zI Z Z (xD Z) (qM Z Z Z (zV ?_))))⟩)))))))))))))
  by_cases hc20:0≤(nth sl (i:Int)).1∧(nth sl (i:Int)).1<n
  ·refine zR [10,11,12,13,14,15,16] kz hH19 _ _ _ kz (yY Z Z Z (zH hc20) Z (zZ (cs:=[(.int .i64 n),v]) T.xX Z Z (fun _ hw=>Heap.yQ hw (n:=0) Z (k:=0) Z)) (yY Z Z Z (zH hc20) Z (zD T.yK Z) (yY Z Z Z (zH hc20) Z (zC T.yN Z (cw (n:=0) Z Z)) (yY Z Z Z (zH hc20) Z (y8 Z) (yY Z Z Z (zH hc20) Z (zN T.y9 Z Z (h0.now hH19 (n:=1) Z).is om) (yY Z Z Z (zH hc20) Z (zY T.xA Z Z om) (yY Z Z Z (zH hc20) Z (zC T.yB Z (fun _ hw=>Rd.at (h0.now hw (n:=1) Z) (i:=(i:Int)) om (j:=1) Z)) (zV (z1 17 kz Z (zB Z Z (zH hc20) (zS Z Z Z hH19 (c12 (h0.now hH19 (n:=1) Z)) (fun w21 hH22=>(zE (⟨hH22,(zR [18,19] kz hH22 _ _ _ kz (yY Z Z Z (zH hc20) Z (xD Z) (zI Z Z (yA Z (zH hc20) Z) (zV (yH kz (zJ ?_))))))⟩))))))))))))))
   by_cases hc23:0≤(nth sl (i:Int)).2∧(nth sl (i:Int)).2<n
   ·refine zM Z (zH hc23) (skip (yC (zJ (region (oM hH22 Z (oY hH22 (zU Z Z om) (oA hH22 Z (zE (yX (i+1) (uC Z (uC Z (Sub.nil _))) (⟨hH22,om,S.all_snoc hok (show (0≤(nth sl (i:Int)).1∧(nth sl (i:Int)).1<n)∧0≤(nth sl (i:Int)).2∧(nth sl (i:Int)).2<n by omega)⟩) om3)))))))))
   have hbad:¬ ∀ j:Nat,j<sl.length→Tn.okP n (nth sl (j:Int)):=fun h=>by have h9:(0≤(nth sl (i:Int)).1∧(nth sl (i:Int)).1<n)∧0≤(nth sl (i:Int)).2∧(nth sl (i:Int)).2<n:=h i (by omega); omega
   refine zP Z (zG hc23) (zr (oA hH22 Z (zt (ret (y7 (yP (qD (y7 (yP (fin (hH22.sub (sC sR)) (fun w' hf=>(yI Z (rt Z))) (fun w' hf=>?_)))))))))))
   first | exact congrArg (Value.int .i64) (Tn.ck1 (by omega)) | exact congrArg (Value.int .i64) (Tn.ck2 hall (fun h=>by have h9:(0≤(nth sl (i:Int)).1∧(nth sl (i:Int)).1<n)∧0≤(nth sl (i:Int)).2∧(nth sl (i:Int)).2<n:=h i (by omega); omega)) | exact congrArg (Value.int .i64) (Tn.ck3 hall (fun j hj=>hok j (by omega)))
  refine zR [10,11,12,13,14,15,16,17,18,19] kz hH19 _ _ _ kz (xW Z Z Z (zG hc20) Z (xW Z Z Z (zG hc20) Z (xW Z Z Z (zG hc20) Z (xW Z Z Z (zG hc20) Z (xW Z Z Z (zG hc20) Z (xW Z Z Z (zG hc20) Z (xW Z Z Z (zG hc20) Z (xW Z Z Z (zG hc20) Z (xW Z Z Z (zG hc20) Z (zI Z Z (z7 Z (zG hc20) Z) (zV (yH kz (zJ (zP Z Z (zr (oA hH19 Z (zt (ret (y7 ?_)))))))))))))))))))
  refine yP (qD (y7 (yP (fin (hH19.sub (sC sR)) (fun w' hf=>(yI Z (rt Z))) (fun w' hf=>?_)))))
  first | exact congrArg (Value.int .i64) (Tn.ck1 (by omega)) | exact congrArg (Value.int .i64) (Tn.ck2 hall (fun h=>by have h9:(0≤(nth sl (i:Int)).1∧(nth sl (i:Int)).1<n)∧0≤(nth sl (i:Int)).2∧(nth sl (i:Int)).2<n:=h i (by omega); omega)) | exact congrArg (Value.int .i64) (Tn.ck3 hall (fun j hj=>hok j (by omega)))
 refine zM Z (dF hc14) (exit (yR (xH (zW (zu (oA hH13 Z (zt (ret (fin (hH13.sub (sC sR)) (fun w' hf=>(yI Z (rt Z))) (fun w' hf=>?_))))))))))
 first | exact congrArg (Value.int .i64) (Tn.ck1 (by omega)) | exact congrArg (Value.int .i64) (Tn.ck2 hall (fun h=>by have h9:(0≤(nth sl (i:Int)).1∧(nth sl (i:Int)).1<n)∧0≤(nth sl (i:Int)).2∧(nth sl (i:Int)).2<n:=h i (by omega); omega)) | exact congrArg (Value.int .i64) (Tn.ck3 hall (fun j hj=>hok j (by omega)))
theorem c7 {v:Value} {sl:List Tn.Pr} {n:Int} {w:World} (h0:Rd encP 2 v sl w) (hb:Tn.Book n sl) {vt:Value} {t:List Int} (h1:Rd encI 1 vt t w) (ht:Tn.Tune sl t)  :
  Fn Tryz.prog 7 [(.agg #[(.int .i64 n),v]),vt].toArray w (fun u _=>u=.tuple #[.int .i64 (Tn.ends sl t).1,.int .i64 (Tn.ends sl t).2,.int .i64 0]):=by
 refine fz Tryz.func7 Z kz Z Z (fun hH=>?_)
 have hn1:=hb.n1
 have hn8:=hb.n8
 have hl14:=hb.l14
 have hl1:=hb.l1
 have hc0:=Tn.ck_iff.2 hb
 have htl:=ht.len
 refine zr (yM Z Z Z hH (fun b1 w2 hH3=>(oA hH3 Z (oA hH3 Z (oA hH3 Z (zt (seq (zr (oY hH3 (zZ (cs:=[(.int .i64 n),v]) T.xX Z Z (fun _ hw=>Heap.yQ hw (n:=0) Z (k:=0) Z)) (zS Z Z Z hH3 (c4 (h0.now hH3 (n:=1) Z) om) (fun w4 hH5=>(oY hH5 (yT Z Z) (zt ?_)))))))))))))
 have hc6:¬ (¬ ((Tn.ck n sl)=0)):=fun h=>h hc0
 refine zM Z (yW hc6) (skip (zJ (seq (zr (oM hH5 Z (oY hH5 (zX T.yE Z (h1.now hH5 (n:=1) Z).is) (oY hH5 (zD T.yK Z) (oY hH5 (zC T.yN Z (cw (n:=0) Z Z)) (oY hH5 (zX T.y9 Z (h0.now hH5 (n:=1) Z).is) (oY hH5 (yT Z Z) (zt ?_)))))))))))
 have hc7:¬ (¬ ((t.length:Int)=(sl.length:Int))):=(show ¬ ¬ (t.length:Int)=(sl.length:Int) by omega)
 refine zM Z (yW hc7) (skip (zJ (seq (zr (oA hH5 Z (zt (block (loop (S:=Nat) (fun k=>[(7,(.int .i64 (k:Int))),(1,vt),(2,(.pointer (some ⟨b1,0,none⟩)))]) (fun k w1=>Heap [bx b1 24 [(.int .i64 n),v],base w] w1∧k≤t.length) (fun k=>t.length - k) (0) (uC Z (uC Z (uC Z (Sub.nil _)))) ?_ ?_))))))))
 ·exact ⟨hH5,om⟩
 rintro k w8 ⟨hH9,hk⟩
 refine seq (zr (oM hH9 Z (oM hH9 Z (oY hH9 (zX T.yE Z (h1.now hH9 (n:=1) Z).is) (oY hH9 (yF Z Z) (zt ?_))))))
 by_cases hc10:(k:Int)<(t.length:Int)
 ·refine zP Z (dT hc10) (skip (zJ (seq (block (seq ?_)))))
  have hinA:=ht.inn k (by omega)
  refine z8 (fun w'=>Heap [bx b1 24 [(.int .i64 n),v],base w] w') T.mixed (fun w11 hr12=>?_)
  have hH13:=hH9.redrawn hr12
  refine zR [0,1,2,3,4,5] kz hH13 _ _ _ kz (qM Z Z Z (qM Z Z Z (zI Z Z (zN T.yE Z Z (h1.now hH13 (n:=1) Z).is om) (zI Z Z (zC T.yB Z (fun _ hw=>Rd.at (h1.now hw (n:=1) Z) (i:=(k:Int)) om (j:=0) Z)) (zI Z Z (yF Z Z) (qM Z Z Z (zV ?_)))))))
  have hc14:¬ ((nth t (k:Int))<0):=(show ¬ nth t (k:Int)<0 by omega)
  refine zR [6,7,8,9,10,11,12,13,14] kz hH13 _ _ _ kz (yY Z Z Z (dF hc14) Z (y8 Z) (yY Z Z Z (dF hc14) Z (y8 Z) (yY Z Z Z (dF hc14) Z (zN T.yE Z Z (h1.now hH13 (n:=1) Z).is om) (yY Z Z Z (dF hc14) Z (zC T.yB Z (fun _ hw=>Rd.at (h1.now hw (n:=1) Z) (i:=(k:Int)) om (j:=0) Z)) (yY Z Z Z (dF hc14) Z (zD T.yK Z) (yY Z Z Z (dF hc14) Z (zC T.yN Z (cw (n:=0) Z Z)) (yY Z Z Z (dF hc14) Z (zX T.y9 Z (h0.now hH13 (n:=1) Z).is) (yY Z Z Z (dF hc14) Z (vK Z Z) (zI Z Z (yA Z (dF hc14) Z) (zV (yH kz (zJ ?_))))))))))))
  have hc15:¬ ((sl.length:Int)≤(nth t (k:Int))):=(show ¬ (sl.length:Int)≤nth t (k:Int) by omega)
  refine zM Z (dF hc15) (skip (yC (zJ (region (oM hH13 Z (oY hH13 (zU Z Z om) (oA hH13 Z (zE (yX (k+1) (uC Z (uC Z (uC Z (Sub.nil _)))) (⟨hH13,om⟩) om3)))))))))
 refine zM Z (dF hc10) (exit (yR (xH (zW (zJ (seq (zr (oA hH9 Z (zt (block (loop (S:=Nat) (fun p=>[(8,(.int .i64 (p:Int))),(1,vt),(2,(.pointer (some ⟨b1,0,none⟩)))]) (fun p w1=>Heap [bx b1 24 [(.int .i64 n),v],base w] w1∧p≤t.length) (fun p=>t.length - p) (0) (uC Z (uC Z (uC Z (Sub.nil _)))) ?_ ?_)))))))))))
 ·exact ⟨hH9,om⟩
 rintro p w16 ⟨hH17,hp⟩
 refine seq (zr (oM hH17 Z (oM hH17 Z (oY hH17 (zX T.yE Z (h1.now hH17 (n:=1) Z).is) (oY hH17 (yF Z Z) (zt ?_))))))
 by_cases hc18:(p:Int)<(t.length:Int)
 ·refine zP Z (dT hc18) (skip (zJ (seq (block (zr (oA hH17 Z (zt (block (loop (S:=Nat) (fun q=>[(9,(.int .i64 (q:Int))),(1,vt),(2,(.pointer (some ⟨b1,0,none⟩))),(8,(.int .i64 (p:Int)))]) (fun q w1=>Heap [bx b1 24 [(.int .i64 n),v],base w] w1∧q≤p) (fun q=>p - q) (0) (uC Z (uC Z (uC Z (uC Z (Sub.nil _))))) ?_ ?_)))))))))
  ·exact ⟨hH17,om⟩
  rintro q w19 ⟨hH20,hq⟩
  refine seq (zr (oM hH20 Z (oM hH20 Z (oY hH20 (yF Z Z) (zt ?_)))))
  by_cases hc21:(q:Int)<(p:Int)
  ·refine zP Z (dT hc21) (skip (zJ (seq (block (seq (z8 (fun w'=>Heap [bx b1 24 [(.int .i64 n),v],base w] w') T.mixed (fun w22 hr23=>?_)))))))
   have hH24:=hH20.redrawn hr23
   refine zR [0,1,2,3,4,5,6,7,8] kz hH24 _ _ _ kz (qM Z Z Z (qM Z Z Z (zI Z Z (zN T.yE Z Z (h1.now hH24 (n:=1) Z).is om) (zI Z Z (zC T.yB Z (fun _ hw=>Rd.at (h1.now hw (n:=1) Z) (i:=(q:Int)) om (j:=0) Z)) (qM Z Z Z (qM Z Z Z (zI Z Z (zN T.yE Z Z (h1.now hH24 (n:=1) Z).is om) (zI Z Z (zC T.yB Z (fun _ hw=>Rd.at (h1.now hw (n:=1) Z) (i:=(p:Int)) om (j:=0) Z)) (zI Z Z (xJ Z Z) (zV (yH kz (zJ ?_))))))))))))
   have hc25:¬ ((nth t (q:Int))=(nth t (p:Int))):=(show ¬ nth t (q:Int)=nth t (p:Int) from ht.nd q p (by omega) (by omega))
   refine zM Z (dF hc25) (skip (yC (zJ (region (oM hH24 Z (oY hH24 (zU Z Z om) (oA hH24 Z (zE (yX (q+1) (uC Z (uC Z (uC Z (uC Z (Sub.nil _))))) (⟨hH24,om⟩) om3)))))))))
  refine zM Z (dF hc21) (exit (yR (xH (zW (yC (zJ (region (oM hH20 Z (oY hH20 (zU Z Z om) (oA hH20 Z (zE (yX (p+1) (uC Z (uC Z (uC Z (Sub.nil _)))) (⟨hH20,om⟩) om3))))))))))))
 refine zM Z (dF hc18) (exit (yR (xH (zW (zJ (seq (zr (oA hH17 Z (zt (block (loop (S:=Nat) (fun r=>[(10,(.int .i64 ((r+1:Nat):Int))),(1,vt),(2,(.pointer (some ⟨b1,0,none⟩)))]) (fun r w1=>Heap [bx b1 24 [(.int .i64 n),v],base w] w1∧r+1≤t.length) (fun r=>t.length - r) (0) (uC Z (uC Z (uC Z (Sub.nil _)))) ?_ ?_)))))))))))
 ·exact ⟨hH17,om⟩
 rintro r w26 ⟨hH27,hr⟩
 refine seq (zr (oM hH27 Z (oM hH27 Z (oY hH27 (zX T.yE Z (h1.now hH27 (n:=1) Z).is) (oY hH27 (yF Z Z) (zt ?_))))))
 by_cases hc28:((r+1:Nat):Int)<(t.length:Int)
 ·refine zP Z (dT hc28) (skip (zJ (seq (block (seq ?_)))))
  have hinr:=ht.inn r (by omega)
  have hokr:=hb.ok (nth t (((r:Nat):Int))).toNat (by omega)
  rw [show (((nth t (((r:Nat):Int))).toNat:Nat):Int)=nth t (((r:Nat):Int)) by omega] at hokr
  obtain ⟨⟨hxr1,hxr2⟩,hxr3,hxr4⟩:=hokr
  have hins:=ht.inn (r+1) (by omega)
  have hoks:=hb.ok (nth t ((((r+1):Nat):Int))).toNat (by omega)
  rw [show (((nth t ((((r+1):Nat):Int))).toNat:Nat):Int)=nth t ((((r+1):Nat):Int)) by omega] at hoks
  obtain ⟨⟨hxs1,hxs2⟩,hxs3,hxs4⟩:=hoks
  refine z8 (fun w'=>Heap [bx b1 24 [(.int .i64 n),v],base w] w') T.mixed (fun w29 hr30=>?_)
  have hH31:=hH27.redrawn hr30
  refine zR [0,1,2,3,4,5,6,7,8,9,10,11,12,13,14,15,16,17,18,19] kz hH31 _ _ _ kz (zI Z Z (zD T.yK Z) (zI Z Z (zC T.yN Z (cw (n:=0) Z Z)) (qM Z Z Z (qM Z Z Z (zI Z Z (zN T.yE Z Z (h1.now hH31 (n:=1) Z).is om) (zI Z Z (zC T.yB Z (fun _ hw=>Rd.at (h1.now hw (n:=1) Z) (i:=((r+1:Nat):Int)) om (j:=0) Z)) (zI Z Z (zN T.y9 Z Z (h0.now hH31 (n:=1) Z).is om) (zI Z Z (zY T.xA Z Z om) (zI Z Z (zC T.yB Z (fun _ hw=>Rd.at (h0.now hw (n:=1) Z) (i:=nth t ((r+1:Nat):Int)) om (j:=0) Z)) (zI Z Z (zD T.yK Z) (zI Z Z (zC T.yN Z (cw (n:=0) Z Z)) (qM Z Z Z (qM Z Z Z (zI Z Z (xC (show ((r+1:Nat):Int) - 1=(r:Int) by omega) (xI Z Z om)) (zI Z Z (zN T.yE Z Z (h1.now hH31 (n:=1) Z).is om) (zI Z Z (zC T.yB Z (fun _ hw=>Rd.at (h1.now hw (n:=1) Z) (i:=(r:Int)) om (j:=0) Z)) (zI Z Z (zN T.y9 Z Z (h0.now hH31 (n:=1) Z).is om) (zI Z Z (zY T.xA Z Z om) (zI Z Z (zC T.yB Z (fun _ hw=>Rd.at (h0.now hw (n:=1) Z) (i:=nth t (r:Int)) om (j:=1) Z)) (zI Z Z (yT Z Z) (zV ?_)))))))))))))))))))))
  refine yH kz (zJ ?_)
  have hc32:¬ (¬ (((nth sl (nth t ((r+1:Nat):Int))).1)=((nth sl (nth t (r:Int))).2))):=(show ¬ ¬ (nth sl (nth t ((r+1:Nat):Int))).1=(nth sl (nth t (r:Int))).2 from fun h=>h (ht.run r (by omega)))
  refine zM Z (yW hc32) (skip (yC (zJ (region (oM hH31 Z (oY hH31 (zU Z Z om) (oA hH31 Z (zE (yX (r+1) (Sub.cons (congrArg (fun z=>some (Value.int .i64 z)) om) (uC Z (uC Z (Sub.nil _)))) (⟨hH31,om⟩) om3)))))))))
 refine zM Z (dF hc28) (exit (yR (xH (zW (zJ (seq ?_))))))
 have hinz:=ht.inn 0 (by omega)
 have hokz:=hb.ok (nth t (((0:Nat):Int))).toNat (by omega)
 rw [show (((nth t (((0:Nat):Int))).toNat:Nat):Int)=nth t (((0:Nat):Int)) by omega] at hokz
 obtain ⟨⟨hxz1,hxz2⟩,hxz3,hxz4⟩:=hokz
 have hiny:=ht.inn (t.length - 1) (by omega)
 have hoky:=hb.ok (nth t ((((t.length - 1):Nat):Int))).toNat (by omega)
 rw [show (((nth t ((((t.length - 1):Nat):Int))).toNat:Nat):Int)=nth t ((((t.length - 1):Nat):Int)) by omega] at hoky
 obtain ⟨⟨hxy1,hxy2⟩,hxy3,hxy4⟩:=hoky
 rw [show ((t.length - 1:Nat):Int)=(t.length:Int) - 1 by omega] at hiny hxy1 hxy2 hxy3 hxy4
 refine z8 (fun w'=>Heap [bx b1 24 [(.int .i64 n),v],base w] w') T.mixed (fun w33 hr34=>?_)
 have hH35:=hH27.redrawn hr34
 refine zR [0,1,2,3,4,5,6,7,8,9,10,11,12,13,14,15,16,17,18,19,20,21] kz hH35 _ _ _ kz (zI Z Z (zD T.yK Z) (zI Z Z (zC T.yN Z (cw (n:=0) Z Z)) (qM Z Z Z (zI Z Z (zN T.yE Z Z (h1.now hH35 (n:=1) Z).is om) (zI Z Z (zC T.yB Z (fun _ hw=>Rd.at (h1.now hw (n:=1) Z) (i:=0) om (j:=0) Z)) (zI Z Z (zN T.y9 Z Z (h0.now hH35 (n:=1) Z).is om) (zI Z Z (zY T.xA Z Z om) (zI Z Z (zC T.yB Z (fun _ hw=>Rd.at (h0.now hw (n:=1) Z) (i:=nth t 0) om (j:=0) Z)) (zI Z Z (zD T.yK Z) (zI Z Z (zC T.yN Z (cw (n:=0) Z Z)) (qM Z Z Z (qM Z Z Z (zI Z Z (zX T.yE Z (h1.now hH35 (n:=1) Z).is) (zI Z Z (xI Z Z om) (zI Z Z (zN T.yE Z Z (h1.now hH35 (n:=1) Z).is om) (zI Z Z (zC T.yB Z (fun _ hw=>Rd.at (h1.now hw (n:=1) Z) (i:=(t.length:Int) - 1) om (j:=0) Z)) (zI Z Z (zN T.y9 Z Z (h0.now hH35 (n:=1) Z).is om) (zI Z Z (zY T.xA Z Z om) (zI Z Z (zC T.yB Z (fun _ hw=>Rd.at (h0.now hw (n:=1) Z) (i:=nth t ((t.length:Int) - 1)) om (j:=1) Z)) (zI Z Z (yO Z) (zI Z Z (yO Z) ?_)))))))))))))))))))))
 refine zI Z Z (yO Z) (zV (yH kz (zJ (ret (fin (hH35.sub (sC sR)) (fun w' hf=>(WD Z (rt Z) (rt Z) (rt Z))) (fun w' hf=>Z))))))
theorem c8 {v:Value} {sl:List Tn.Pr} {n:Int} {w:World} (h0:Rd encP 2 v sl w) (hb:Tn.Book n sl) {vt:Value} {t:List Int} (h1:Rd encI 1 vt t w) (ht:Tn.Tune sl t)  :
  Fn Tryz.prog 8 [(.agg #[(.int .i64 n),v]),vt].toArray w (fun u w=>Own 3 1 encI u (Tn.wants sl t) w):=by
 refine fz Tryz.func8 Z kz Z Z (fun hH=>?_)
 have hn1:=hb.n1
 have hn8:=hb.n8
 have hl14:=hb.l14
 have hl1:=hb.l1
 have hc0:=Tn.ck_iff.2 hb
 have htl:=ht.len
 have hinz:=ht.inn 0 (by omega)
 have hokz:=hb.ok (nth t (((0:Nat):Int))).toNat (by omega)
 rw [show (((nth t (((0:Nat):Int))).toNat:Nat):Int)=nth t (((0:Nat):Int)) by omega] at hokz
 obtain ⟨⟨hxz1,hxz2⟩,hxz3,hxz4⟩:=hokz
 rw [show ((0:Nat):Int)=0 from rfl] at hinz hxz1 hxz2 hxz3 hxz4
 refine zr (yM Z Z Z hH (fun b1 w2 hH3=>(oA hH3 Z (zt (seq (z8 (fun w'=>Heap [bx b1 24 [(.int .i64 n),v],base w] w') T.mixed (fun w4 hr5=>?_)))))))
 have hH6:=hH3.redrawn hr5
 refine zR [0,1,2,3,4,5,6,7,8] kz hH6 _ _ _ kz (zI Z Z (zD T.yK Z) (zI Z Z (zC T.yN Z (cw (n:=0) Z Z)) (qM Z Z Z (zI Z Z (zN T.yE Z Z (h1.now hH6 (n:=1) Z).is om) (zI Z Z (zC T.yB Z (fun _ hw=>Rd.at (h1.now hw (n:=1) Z) (i:=0) om (j:=0) Z)) (zI Z Z (zN T.y9 Z Z (h0.now hH6 (n:=1) Z).is om) (zI Z Z (zY T.xA Z Z om) (zI Z Z (zC T.yB Z (fun _ hw=>Rd.at (h0.now hw (n:=1) Z) (i:=nth t 0) om (j:=0) Z)) (zI Z Z (zU Z Z om) (zV (z1 9 kz Z (yJ T.zA [((nth sl (nth t 0)).1)+1] Z (fun w=>by kernel_rfl) hH6 (fun u7 lo9 hi10 w8 hH11=>(zE (⟨(hH11.sub (sC sR)),(zR [10] kz (hH11.sub (sC sR)) _ _ _ kz (zI Z Z (yO Z) (zV (yH kz (zJ (seq ?_))))))⟩)))))))))))))))
 refine zr (oA hH11 Z (zt (block (loop (S:=Nat×Value×Nat×Nat) (fun (k,v_5,lo_5,hi_5)=>[(6,(.int .i64 (k:Int))),(5,v_5),(1,vt),(2,(.pointer (some ⟨b1,0,none⟩))),(4,(.slice none 0 0))]) (fun (k,v_5,lo_5,hi_5) w1=>Heap [ow lo_5 hi_5 3 1 encI v_5 (((nth sl (nth t 0)).1+1)::(t.take k).map fun i=>(nth sl i).2+1),bx b1 24 [(.int .i64 n),v],base w] w1∧k≤t.length) (fun (k,v_5,lo_5,hi_5)=>t.length - k) (0,u7,lo9,hi10) (uC Z (uC Z (uC Z (uC Z (uC Z (Sub.nil _)))))) ?_ ?_))))
 ·exact ⟨(Heap.recast (n:=0) hH11 Z (Z)),om⟩
 rintro ⟨k,v_5,lo_5,hi_5⟩ w12 ⟨hH13,hk⟩
 refine seq (zr (oM hH13 Z (oM hH13 Z (oY hH13 (zX T.yE Z (h1.now hH13 (n:=2) Z).is) (oY hH13 (yF Z Z) (zt ?_))))))
 by_cases hc14:(k:Int)<(t.length:Int)
 ·refine zP Z (dT hc14) (skip (zJ (seq (block ?_))))
  have hink:=ht.inn k (by omega)
  have hokk:=hb.ok (nth t (((k:Nat):Int))).toNat (by omega)
  rw [show (((nth t (((k:Nat):Int))).toNat:Nat):Int)=nth t (((k:Nat):Int)) by omega] at hokk
  obtain ⟨⟨hxk1,hxk2⟩,hxk3,hxk4⟩:=hokk
  refine z8 (fun w'=>Heap [bx b1 24 [(.int .i64 n),v],base w] w') T.mixed (fun w15 hr16=>?_)
  have hH17:=hH13.redrawn hr16
  refine zR [0,1,2,3,4,5,6,7,8,9,10] kz (hH17.sub (sC sR)) _ _ _ kz (qM Z Z Z (zI Z Z (zD T.yK Z) (zI Z Z (zC T.yN Z (cw (n:=0) Z Z)) (qM Z Z Z (qM Z Z Z (zI Z Z (zN T.yE Z Z (h1.now hH17 (n:=2) Z).is om) (zI Z Z (zC T.yB Z (fun _ hw=>Rd.at (h1.now hw (n:=1) Z) (i:=(k:Int)) om (j:=0) Z)) (zI Z Z (zN T.y9 Z Z (h0.now hH17 (n:=2) Z).is om) (zI Z Z (zY T.xA Z Z om) (zI Z Z (zC T.yB Z (fun _ hw=>Rd.at (h0.now hw (n:=1) Z) (i:=nth t (k:Int)) om (j:=1) Z)) (zI Z Z (zU Z Z om) (zV (z1 11 kz Z (yJ T.zA [((nth sl (nth t (k:Int))).2)+1] Z (fun w=>by kernel_rfl) hH17 (fun u18 lo20 hi21 w19 hH22=>(zE (⟨(hH22.sub (sC (sC sR))),(z1 12 kz Z (yG (n:=1) T.zA Z Z Z hH22 Z (Heap.yU T.zA hH22 (n:=0) Z) (by simp only [List.length_cons,List.length_map,List.length_take,List.length_nil]; omega) (fun u23 lo25 hi26 w24 hH27=>(zE ?_))))⟩)))))))))))))))))
  refine ⟨(hH27.sub (sC (sC sR))),(zR [13] kz (hH27.sub (sC (sC sR))) _ _ _ kz (zI Z Z (yO Z) (zV (yH kz (yC (zJ (region (oM hH27 Z (oY hH27 (zU Z Z om) (oA hH27 Z (zE (yX (k+1,u23,lo25,hi26) (uC Z (uC Z (uC Z (uC Z (uC Z (Sub.nil _)))))) (⟨(Heap.recast (n:=0) (hH27.sub (sC sR)) Z ((Tn.wants_snoc om))),om⟩) om3))))))))))))⟩
 refine zM Z (dF hc14) (exit (yR (xH (zW (zu (oM hH13 Z (oA hH13 Z (zt (ret (fin ((hH13.sub (sK (sC sR))).front (n:=1) Z) (fun w' hf=>(yI Z (rt Z))) (fun w' hf=>?_)))))))))))
 exact (by have h:=Heap.own hf (n:=0) rfl; rw [List.take_of_length_le om] at h; exact h)
theorem c11 {v:Value} {l:List Int} {x:Int} {w:World} (h0:Rd encI 1 v l w) (hn:l.length≤1000000)  :
  Fn Tryz.prog 11 [v,(.int .i64 x)].toArray w (fun u _=>u=.bool (decide (x∈l))):=by
 refine fz Tryz.func11 Z kz Z Z (fun hH=>(zr (oA hH Z (zt (seq (zr (oA hH Z (zt (block (loop (S:=Nat) (fun k=>[(5,(.int .i64 (k:Int))),(0,v),(1,(.int .i64 x))]) (fun k w1=>Heap [base w] w1∧k≤l.length∧∀ i:Nat,i<k→¬ nth l (i:Int)=x) (fun k=>l.length - k) (0) (uC Z (uC Z (uC Z (Sub.nil _)))) ?_ ?_))))))))))
 ·exact ⟨hH,om,S.all_zero⟩
 rintro k w1 ⟨hH2,hk,hno⟩
 refine seq (zr (oM hH2 Z (oM hH2 Z (oY hH2 (zX T.yE Z (h0.now hH2 (n:=0) Z).is) (oY hH2 (yF Z Z) (zt ?_))))))
 by_cases hc3:(k:Int)<(l.length:Int)
 ·refine zP Z (dT hc3) (skip (zJ (seq (block (zr (oM hH2 Z (oM hH2 Z (oY hH2 (zN T.yE Z Z (h0.now hH2 (n:=0) Z).is om) (oY hH2 (zC T.yB Z (fun _ hw=>Rd.at (h0.now hw (n:=0) Z) (i:=(k:Int)) om (j:=0) Z)) (oM hH2 Z (oY hH2 (xJ Z Z) (zt ?_))))))))))))
  by_cases hc4:(nth l (k:Int))=x
  ·refine zP Z (dT hc4) (zr (oA hH2 Z (zt (ret (y7 (yP (qD (y7 (yP (fin hH2 (fun w' hf=>(yI Z (rt Z))) (fun w' hf=>?_)))))))))))
   first | exact congrArg Value.bool (decide_eq_true (Tn.in_yes (k:=k) (by omega) (by omega))).symm | exact congrArg Value.bool (decide_eq_false (Tn.in_no (fun i hi=>hno i (by omega)))).symm
  refine zM Z (dF hc4) (skip (yC (zJ (region (oM hH2 Z (oY hH2 (zU Z Z om) (oA hH2 Z (zE (yX (k+1) (uC Z (uC Z (uC Z (Sub.nil _)))) (⟨hH2,om,S.all_snoc hno ‹_›⟩) om3)))))))))
 refine zM Z (dF hc3) (exit (yR (xH (zW (zu (oA hH2 Z (zt (ret (fin hH2 (fun w' hf=>(yI Z (rt Z))) (fun w' hf=>?_))))))))))
 first | exact congrArg Value.bool (decide_eq_true (Tn.in_yes (k:=k) (by omega) (by omega))).symm | exact congrArg Value.bool (decide_eq_false (Tn.in_no (fun i hi=>hno i (by omega)))).symm
end Go.Fip
namespace Go.Fip
namespace Sf
open S (place place_iff)
def Can (room:Nat):List Int→List Int→Nat→Prop
 | [],_,_=>True
 | w::ws,S,n=>(w∈S∧Can room ws S n)∨(w ∉ S∧∃ m,n=m+1∧((S.length<room∧Can room ws (w::S) m)∨(S.length=room∧∃ d∈S,Can room ws (w::S.erase d) m)))
theorem Can.perm {room:Nat}:∀ {ws S S':List Int} {n:Nat},S.Perm S'→Can room ws S n→Can room ws S' n
 | [],_,_,_,_,_=>trivial
 | w::ws,S,S',n,hp,h=>by
  rcases h with ⟨h1,h2⟩ | ⟨h1,m,rfl,h2⟩
  ·exact .inl ⟨hp.mem_iff.1 h1,h2.perm hp⟩
  ·refine .inr ⟨fun h=>h1 (hp.mem_iff.2 h),m,rfl,?_⟩
   rcases h2 with ⟨h3,h4⟩ | ⟨h3,d,hd,h4⟩
   ·exact .inl ⟨by rw [← hp.length_eq]; exact h3,h4.perm (hp.cons w)⟩
   ·exact .inr ⟨by rw [← hp.length_eq]; exact h3,d,hp.mem_iff.1 hd,h4.perm ((hp.erase d).cons w)⟩
theorem Can.succ {room:Nat}:∀ {ws S:List Int} {n:Nat},Can room ws S n→Can room ws S (n+1)
 | [],_,_,_=>trivial
 | w::ws,S,n,h=>by
  rcases h with ⟨h1,h2⟩ | ⟨h1,m,rfl,h2⟩
  ·exact .inl ⟨h1,h2.succ⟩
  ·refine .inr ⟨h1,m+1,rfl,?_⟩
   rcases h2 with ⟨h3,h4⟩ | ⟨h3,d,hd,h4⟩
   ·exact .inl ⟨h3,h4.succ⟩
   ·exact .inr ⟨h3,d,hd,h4.succ⟩
theorem vN (a b:Int) (S:List Int):(a::b::S).Perm (b::a::S):=List.Perm.swap b a S
theorem x9 {a d:Int} {S:List Int} (h:¬ a=d):(a::S).erase d=a::S.erase d:=by
 rw [List.erase_cons]
 have:(a == d)=false:=by simpa using h
 rw [this]; rfl
theorem xK {a:Int} {S:List Int}:(a::S).erase a=S:=by rw [List.erase_cons]; simp
theorem vG {room : Nat} : ∀ (ws : List Int), (∀ (S : List Int) (x : Int) (n : Nat), S.Nodup → x ∉ S → S.length < room → Can room ws S n → Can room ws (x :: S) n) ∧ (∀ (S : List Int) (x : Int) (n : Nat), S.Nodup → x ∉ S → S.length < room → Can room ws (x :: S) n → Can room ws S (n + 1))
  | [] => ⟨fun _ _ _ _ _ _ _ => trivial, fun _ _ _ _ _ _ _ => trivial⟩
  | w :: ws => by
    obtain ⟨M, L⟩ := vG (room := room) ws
    constructor
    · intro S x n hnd hx hl h
      rcases h with ⟨h1, h2⟩ | ⟨h1, m, rfl, h2⟩
      · exact .inl ⟨List.mem_cons_of_mem _ h1, M S x n hnd hx hl h2⟩
      · have h4 : Can room ws (w :: S) m := by
          rcases h2 with ⟨_, h4⟩ | ⟨h3, _⟩
          · exact h4
          · omega
        by_cases e : w = x
        · subst e; exact .inl ⟨List.mem_cons_self .., h4.succ⟩
        · refine .inr ⟨fun hh => (List.mem_cons.1 hh).elim e h1, m, rfl, ?_⟩
          have hwS : (w :: S).Nodup := List.nodup_cons.2 ⟨h1, hnd⟩
          have hxw : x ∉ w :: S := fun hh => (List.mem_cons.1 hh).elim (fun q => e q.symm) hx
          by_cases hf : S.length + 1 < room
          · exact .inl ⟨by simpa using hf, (M (w :: S) x m hwS hxw (by simpa using hf) h4).perm (vN x w S)⟩
          · refine .inr ⟨by simp only [List.length_cons]; omega, x, List.mem_cons_self .., ?_⟩
            rw [xK]; exact h4
    · intro S x n hnd hx hl h
      by_cases hw : w ∈ S
      · refine .inl ⟨hw, ?_⟩
        rcases h with ⟨_, h2⟩ | ⟨h1, _⟩
        · exact L S x n hnd hx hl h2
        · exact absurd (List.mem_cons_of_mem _ hw) h1
      · refine .inr ⟨hw, n, rfl, .inl ⟨hl, ?_⟩⟩
        have hwS : (w :: S).Nodup := List.nodup_cons.2 ⟨hw, hnd⟩
        by_cases e : w = x
        · subst e
          rcases h with ⟨_, h2⟩ | ⟨h1, _⟩
          · exact h2
          · exact absurd (List.mem_cons_self ..) h1
        · have hxw : x ∉ w :: S := fun hh => (List.mem_cons.1 hh).elim (fun q => e q.symm) hx
          rcases h with ⟨h1, _⟩ | ⟨h1, m, rfl, h2⟩
          · exact absurd h1 (fun hh => (List.mem_cons.1 hh).elim e hw)
          · rcases h2 with ⟨h3, h4⟩ | ⟨h3, d, hd, h4⟩
            · exact L (w :: S) x m hwS hxw (by simpa using h3) (h4.perm (vN w x S))
            · by_cases ed : d = x
              · subst ed
                rw [xK] at h4; exact h4.succ
              · have hdS : d ∈ S := (List.mem_cons.1 hd).resolve_left ed
                rw [x9 (fun q => ed q.symm)] at h4
                have hnT : (S.erase d).Nodup := hnd.erase d
                have hT : (w :: S.erase d).Nodup := List.nodup_cons.2 ⟨fun hh => hw (List.mem_of_mem_erase hh), hnT⟩
                have hlen : (S.erase d).length + 1 = S.length := by rw [List.length_erase_of_mem hdS]; have := List.length_pos_of_mem hdS; omega
                have hx2 : x ∉ w :: S.erase d := fun hh => (List.mem_cons.1 hh).elim (fun q => e q.symm) (fun q => hx (List.mem_of_mem_erase q))
                have hd2 : d ∉ w :: S.erase d := fun hh => (List.mem_cons.1 hh).elim (fun q => hw (q ▸ hdS)) (fun q => (List.Nodup.mem_erase_iff hnd).1 q |>.1 rfl)
                have h5 := L (w :: S.erase d) x m hT hx2 (by simp only [List.length_cons] at h3 ⊢; omega) (h4.perm (vN w x _))
                have h6 := M (w :: S.erase d) d (m + 1) hT hd2 (by simp only [List.length_cons] at h3 ⊢; omega) h5
                refine h6.perm ((vN d w _).trans (List.Perm.cons w ?_))
                exact (List.perm_cons_erase hdS).symm
def bef (x y:Int):List Int→Prop
 | []=>True
 | w::ws=>w=x∨(¬ w=y∧bef x y ws)
theorem exch {room:Nat}:∀ (ws:List Int) (S:List Int) (x y:Int) (n:Nat),S.Nodup→x ∉ S→y ∉ S→¬ x=y→S.length<room→bef x y ws→Can room ws (y::S) n→Can room ws (x::S) n
 | [],_,_,_,_,_,_,_,_,_,_,_=>trivial
 | w::ws,S,x,y,n,hnd,hx,hy,hxy,hl,hb,h=>by
  obtain ⟨M,L⟩:=vG (room:=room) ws
  by_cases e:w=x
  ·subst e
   refine .inl ⟨List.mem_cons_self ..,?_⟩
   rcases h with ⟨h1,_⟩ | ⟨h1,m,rfl,h2⟩
   ·exact absurd h1 (fun hh=>(List.mem_cons.1 hh).elim hxy hx)
   ·rcases h2 with ⟨h3,h4⟩ | ⟨h3,d,hd,h4⟩
    ·exact L (w::S) y m (List.nodup_cons.2 ⟨hx,hnd⟩) (fun hh=>(List.mem_cons.1 hh).elim (fun q=>hxy q.symm) hy) (by simpa using h3) (h4.perm (vN w y S))
    ·by_cases ed:d=y
     ·subst ed; rw [xK] at h4; exact h4.succ
     ·have hdS:d∈S:=(List.mem_cons.1 hd).resolve_left ed
      rw [x9 (fun q=>ed q.symm)] at h4
      have hnT:(S.erase d).Nodup:=hnd.erase d
      have hT:(w::S.erase d).Nodup:=List.nodup_cons.2 ⟨fun hh=>hx (List.mem_of_mem_erase hh),hnT⟩
      have hlen:(S.erase d).length+1=S.length:=by rw [List.length_erase_of_mem hdS]; have:=List.length_pos_of_mem hdS; omega
      have hy2:y ∉ w::S.erase d:=fun hh=>(List.mem_cons.1 hh).elim (fun q=>hxy q.symm) (fun q=>hy (List.mem_of_mem_erase q))
      have hd2:d ∉ w::S.erase d:=fun hh=>(List.mem_cons.1 hh).elim (fun q=>hx (q ▸ hdS)) (fun q=>(List.Nodup.mem_erase_iff hnd).1 q |>.1 rfl)
      have h5:=L (w::S.erase d) y m hT hy2 (by simp only [List.length_cons] at h3 ⊢; omega) (h4.perm (vN w y _))
      have h6:=M (w::S.erase d) d (m+1) hT hd2 (by simp only [List.length_cons] at h3 ⊢; omega) h5
      exact h6.perm ((vN d w _).trans (List.Perm.cons w (List.perm_cons_erase hdS).symm))
  ·obtain ⟨hwy,hb2⟩:=hb.resolve_left e
   by_cases hw:w∈S
   ·refine .inl ⟨List.mem_cons_of_mem _ hw,?_⟩
    rcases h with ⟨_,h2⟩ | ⟨h1,_⟩
    ·exact exch ws S x y n hnd hx hy hxy hl hb2 h2
    ·exact absurd (List.mem_cons_of_mem _ hw) h1
   ·have hwS:(w::S).Nodup:=List.nodup_cons.2 ⟨hw,hnd⟩
    have hxw:x ∉ w::S:=fun hh=>(List.mem_cons.1 hh).elim (fun q=>e q.symm) hx
    have hyw:y ∉ w::S:=fun hh=>(List.mem_cons.1 hh).elim (fun q=>hwy q.symm) hy
    rcases h with ⟨h1,_⟩ | ⟨h1,m,rfl,h2⟩
    ·exact absurd h1 (fun hh=>(List.mem_cons.1 hh).elim hwy hw)
    ·refine .inr ⟨fun hh=>(List.mem_cons.1 hh).elim e hw,m,rfl,?_⟩
     rcases h2 with ⟨h3,h4⟩ | ⟨h3,d,hd,h4⟩
     ·exact .inl ⟨by simpa using h3,(exch ws (w::S) x y m hwS hxw hyw hxy (by simpa using h3) hb2 (h4.perm (vN w y S))).perm (vN x w S)⟩
     ·by_cases ed:d=y
      ·subst ed
       rw [xK] at h4
       refine .inr ⟨by simpa using h3,x,List.mem_cons_self ..,?_⟩
       rw [xK]; exact h4
      ·have hdS:d∈S:=(List.mem_cons.1 hd).resolve_left ed
       rw [x9 (fun q=>ed q.symm)] at h4
       have hlen:(S.erase d).length+1=S.length:=by rw [List.length_erase_of_mem hdS]; have:=List.length_pos_of_mem hdS; omega
       have hdx:¬ x=d:=fun q=>hx (q ▸ hdS)
       refine .inr ⟨by simpa using h3,d,List.mem_cons_of_mem _ hdS,?_⟩
       rw [x9 hdx]
       refine (exch ws (w::S.erase d) x y m (List.nodup_cons.2 ⟨fun hh=>hw (List.mem_of_mem_erase hh),hnd.erase d⟩) ?_ ?_ hxy (by simp only [List.length_cons] at h3 ⊢; omega) hb2 (h4.perm (vN w y _))).perm (vN x w _)
       ·exact fun hh=>(List.mem_cons.1 hh).elim (fun q=>e q.symm) (fun q=>hx (List.mem_of_mem_erase q))
       ·exact fun hh=>(List.mem_cons.1 hh).elim (fun q=>hwy q.symm) (fun q=>hy (List.mem_of_mem_erase q))
def fi:List Int→Int→Nat
 | [],_=>0
 | w::ws,x=>if w=x then 0 else fi ws x+1
theorem jW:∀ (ws:List Int) (x:Int),fi ws x≤ws.length∧(∀ i,i<fi ws x→¬ nth ws (i:Int)=x)∧(fi ws x<ws.length→nth ws ((fi ws x:Nat):Int)=x)
 | [],x=>⟨Nat.le_refl _,fun i hi=>absurd hi (Nat.not_lt_zero _),fun h=>absurd h (Nat.lt_irrefl _)⟩
 | w::ws,x=>by
  obtain ⟨h1,h2,h3⟩:=jW ws x
  unfold fi
  by_cases e:w=x
  ·rw [if_pos e]
   exact ⟨Nat.zero_le _,fun i hi=>absurd hi (Nat.not_lt_zero _),fun _=>e⟩
  ·rw [if_neg e]
   have hs:∀ i:Nat,nth (w::ws) ((i+1:Nat):Int)=nth ws (i:Int):=fun i=>by unfold nth; simp
   refine ⟨by simpa using h1,fun i hi=>?_,fun h=>?_⟩
   ·cases i with
    | zero=>exact e
    | succ i=>rw [hs]; exact h2 i (by omega)
   ·rw [hs]; exact h3 (by simpa using h)
theorem kL (ws : List Int) (x : Int) : (0 ≤ place ws x ∧ place ws x = (fi ws x : Int)) ∨ (place ws x < 0 ∧ fi ws x = ws.length) := by
  obtain ⟨h1, h2, h3⟩ := jW ws x
  rcases Nat.lt_or_ge (fi ws x) ws.length with h | h
  · have : place ws x = (fi ws x : Int) := xP h (fun i hi => decide_eq_false (h2 i hi)) (decide_eq_true (h3 h))
    exact .inl ⟨by omega, this⟩
  · have : place ws x = -1 := xE (fun i hi => decide_eq_false (h2 i (by omega)))
    exact .inr ⟨by omega, by omega⟩
theorem Y3 {l:List Int} {x:Int} {i:Nat} (hi:i<l.length):next l x (i:Int)=(i:Int)+1+(fi (l.drop (i+1)) x:Int):=by
 have e:((i:Int)+1).toNat=i+1:=by omega
 unfold next
 rw [e]
 rcases kL (l.drop (i+1)) x with ⟨h1,h2⟩ | ⟨h1,h2⟩
 ·rw [if_pos h1,h2]
 ·rw [if_neg (by omega),h2,List.length_drop]; omega
theorem XC:∀ {ws:List Int} {x y:Int},¬ x=y→fi ws x≤fi ws y→bef x y ws
 | [],_,_,_,_=>trivial
 | w::ws,x,y,hxy,h=>by
  unfold fi at h
  by_cases e:w=x
  ·exact .inl e
  ·rw [if_neg e] at h
   by_cases e2:w=y
   ·rw [if_pos e2] at h; omega
   ·rw [if_neg e2] at h; exact .inr ⟨e2,XC hxy (by omega)⟩
theorem jP {l:List Int} {i:Int} {xs:List Int}:∀ {k:Nat},k<xs.length→∀ j:Nat,j≤k→next l (nth xs (j:Int)) i≤next l (bestTo (late l i) xs k) i
 | 0,h,j,hj=>by rw [show j=0 by omega]; exact Int.le_refl _
 | k+1,h,j,hj=>by
  have ih:=jP (l:=l) (i:=i) (xs:=xs) (k:=k) (by omega)
  have e:bestTo (late l i) xs (k+1)=if late l i (nth xs ((k+1:Nat):Int)) (bestTo (late l i) xs k)=true then nth xs ((k+1:Nat):Int) else bestTo (late l i) xs k:=rfl
  rw [e]
  by_cases hb:late l i (nth xs ((k+1:Nat):Int)) (bestTo (late l i) xs k)=true
  ·rw [if_pos hb]
   have hb2:=of_decide_eq_true hb
   rcases Nat.lt_or_ge j (k+1) with h1 | h1
   ·have:=ih j (by omega); omega
   ·rw [show j=k+1 by omega]; exact Int.le_refl _
  ·rw [if_neg hb]
   have hb2:¬ next l (bestTo (late l i) xs k) i<next l (nth xs ((k+1:Nat):Int)) i:=fun h=>hb (decide_eq_true h)
   rcases Nat.lt_or_ge j (k+1) with h1 | h1
   ·exact ih j (by omega)
   ·rw [show j=k+1 by omega]; omega
theorem XK {l on:List Int} {i:Int} {d:Int} (hd:d∈on):next l d i≤next l (off 3 l on i) i:=by
 have hp:(Ps.sorted lti on).Perm on:=Ps.sorted_perm
 have hd2:=hp.mem_iff.2 hd
 obtain ⟨j,hj,rfl⟩:=List.getElem_of_mem hd2
 rw [Ps.sorted_len] at hj
 have:=jP (l:=l) (i:=i) (xs:=Ps.sorted lti on) (k:=on.length - 1) (by rw [Ps.sorted_len]; omega) j (by omega)
 rw [zO (by rw [Ps.sorted_len]; exact hj)] at this
 rw [off_3 rfl]; exact this
theorem qA {d:Int}:∀ {xs:List Int},xs.Nodup→d∈xs→(xs.filter fun y => !decide (y=d)).Perm (xs.erase d):=fun {xs} hn hd=>by
 refine (List.perm_ext_iff_of_nodup (hn.filter _) (hn.erase d)).2 (fun a=>?_)
 rw [List.mem_filter,List.Nodup.mem_erase_iff hn]
 simp only [Bool.not_eq_true',decide_eq_false_iff_not]
 exact ⟨fun h=>⟨h.2,h.1⟩,fun h=>⟨h.2,h.1⟩⟩
theorem qE {rule:Int} {l on:List Int} {i:Int} (hn:on.Nodup) (h:1≤on.length):(rest rule l on i).Perm (on.erase (off rule l on i)):=by
 have hm:=qS (rule:=rule) (l:=l) (i:=i) h
 by_cases hr:rule=3
 ·rw [rest_3 hr]
  have hp:(Ps.sorted lti on).Perm on:=Ps.sorted_perm
  exact (hp.filter _).trans (qA hn hm)
 ·rw [rest_n hr]; exact qA hn hm
theorem jH {on:List Int} {w:Int} (h:0≤place on w):(on.take (place on w).toNat++on.drop ((place on w).toNat+1)++[w]).Perm on:=by
 have hlt:=S.place_lt on w
 obtain ⟨k,hk,e,hlt2⟩:∃ k:Nat,nth on (k:Int)=w∧(place on w).toNat=k∧k<on.length:=by
  rcases kL on w with ⟨h1,h2⟩ | ⟨h1,_⟩
  ·exact ⟨fi on w,(jW on w).2.2 (by omega),by omega,by omega⟩
  ·omega
 rw [e]
 have hw:on[k]'(by omega)=w:=by rw [← zO (by omega)]; exact hk
 have h1:on=on.take k++(w::on.drop (k+1)):=by
  conv=>lhs; rw [← List.take_append_drop k on,List.drop_eq_getElem_cons (by omega),hw]
 have h2:(on.take k++on.drop (k+1)++[w]).Perm (on.take k++(w::on.drop (k+1))):=by
  rw [List.append_assoc]
  exact List.Perm.append_left _ (List.perm_append_singleton w _)
 exact h2.trans (by rw [← h1])
theorem YS {room rule:Int} {l:List Int} (hr:1≤room):∀ k,(runTo room rule l k).on.Nodup
 | 0=>List.nodup_nil
 | k+1=>by
  have ih:=YS (rule:=rule) (l:=l) hr k
  have hl:=run_len (rule:=rule) (l:=l) hr k
  by_cases h:0≤place (runTo room rule l k).on (nth l (k:Int))
  ·by_cases hu:rule=2
   ·rw [run_hit2 h hu]; exact (jH h).nodup_iff.2 ih
   ·rw [run_hit h hu]; exact ih
  ·have hn:nth l (k:Int) ∉ (runTo room rule l k).on:=fun hh=>h (place_iff.2 hh)
   have key:∀ xs:List Int,xs.Nodup→nth l (k:Int) ∉ xs→(xs++[nth l (k:Int)]).Nodup:=fun xs h1 h2=>(List.perm_append_singleton _ xs).nodup_iff.2 (List.nodup_cons.2 ⟨h2,h1⟩)
   by_cases hf:((runTo room rule l k).on.length:Int)=room
   ·rw [run_full h hf]
    have hp:=qE (rule:=rule) (l:=l) (i:=(k:Int)) ih (show 1≤(runTo room rule l k).on.length by omega)
    exact key _ (hp.nodup_iff.2 (ih.erase _)) (fun hh=>hn (List.mem_of_mem_erase (hp.mem_iff.1 hh)))
   ·rw [run_room h hf]; exact key _ ih hn
theorem drop_cons {l:List Int} {k:Nat} (h:k<l.length):l.drop k=nth l (k:Int)::l.drop (k+1):=by rw [List.drop_eq_getElem_cons h,zO h]
theorem kM {room rule:Int} {l:List Int}:∀ {k j:Nat},(runTo room rule l k).mis.length≤(runTo room rule l (k+j)).mis.length
 | k,0=>Nat.le_refl _
 | k,j+1=>by
  refine Nat.le_trans (kM (k:=k) (j:=j)) ?_
  show _≤(step room rule l (runTo room rule l (k+j)) (k+j)).mis.length
  unfold step
  split
  ·exact Nat.le_refl _
  ·split
   ·simp
   ·simp
theorem Y5 {room : Nat} {rule : Int} {l : List Int} (hr : 1 ≤ room) : ∀ j k, k + j = l.length → Can room (l.drop k) (runTo (room : Int) rule l k).on ((runTo (room : Int) rule l l.length).mis.length - (runTo (room : Int) rule l k).mis.length)
  | 0, k, h => by rw [List.drop_of_length_le (by omega)]; exact trivial
  | j + 1, k, hk => by
    have ih := Y5 (rule := rule) (l := l) hr j (k + 1) (by omega)
    have hl := run_len (room := (room : Int)) (rule := rule) (l := l) (by omega) k
    have hnd := YS (room := (room : Int)) (rule := rule) (l := l) (by omega) k
    have hm := kM (room := (room : Int)) (rule := rule) (l := l) (k := k + 1) (j := j)
    rw [show k + 1 + j = l.length by omega] at hm
    rw [drop_cons (by omega)]
    by_cases h : 0 ≤ place (runTo (room : Int) rule l k).on (nth l (k : Int))
    · refine .inl ⟨place_iff.1 h, ?_⟩
      by_cases hu : rule = 2
      · rw [run_hit2 h hu] at ih; exact ih.perm (jH h)
      · rw [run_hit h hu] at ih; exact ih
    · have hn : nth l (k : Int) ∉ (runTo (room : Int) rule l k).on := fun hh => h (place_iff.2 hh)
      refine .inr ⟨hn, (runTo (room : Int) rule l l.length).mis.length - (runTo (room : Int) rule l (k + 1)).mis.length, ?_, ?_⟩
      · by_cases hf : ((runTo (room : Int) rule l k).on.length : Int) = room
        · rw [run_full h hf] at hm ⊢; simp only [List.length_append, List.length_singleton] at hm ⊢; omega
        · rw [run_room h hf] at hm ⊢; simp only [List.length_append, List.length_singleton] at hm ⊢; omega
      · by_cases hf : ((runTo (room : Int) rule l k).on.length : Int) = room
        · refine .inr ⟨by omega, off rule l (runTo (room : Int) rule l k).on (k : Int), qS (by omega), ?_⟩
          have hp := qE (rule := rule) (l := l) (i := (k : Int)) hnd (show 1 ≤ (runTo (room : Int) rule l k).on.length by omega)
          rw [run_full h hf] at ih ⊢
          exact ih.perm ((List.perm_append_singleton _ _).trans (hp.cons _))
        · refine .inl ⟨by omega, ?_⟩
          rw [run_room h hf] at ih ⊢
          exact ih.perm (List.perm_append_singleton _ _)
theorem belady {room : Nat} {l : List Int} (hr : 1 ≤ room) : ∀ j k n, k + j = l.length → Can room (l.drop k) (runTo (room : Int) 3 l k).on n → (runTo (room : Int) 3 l l.length).mis.length ≤ (runTo (room : Int) 3 l k).mis.length + n
  | 0, k, n, h, _ => by rw [show l.length = k by omega]; omega
  | j + 1, k, n, hk, hc => by
    have hl := run_len (room := (room : Int)) (rule := 3) (l := l) (by omega) k
    have hnd := YS (room := (room : Int)) (rule := 3) (l := l) (by omega) k
    have ih := belady (l := l) hr j (k + 1)
    rw [drop_cons (by omega)] at hc
    by_cases h : 0 ≤ place (runTo (room : Int) 3 l k).on (nth l (k : Int))
    · rw [run_hit h (by omega)] at ih
      rcases hc with ⟨_, h2⟩ | ⟨h1, _⟩
      · exact ih n (by omega) h2
      · exact absurd (place_iff.1 h) h1
    · have hn : nth l (k : Int) ∉ (runTo (room : Int) 3 l k).on := fun hh => h (place_iff.2 hh)
      rcases hc with ⟨h1, _⟩ | ⟨_, m, rfl, h2⟩
      · exact absurd h1 hn
      · by_cases hf : ((runTo (room : Int) 3 l k).on.length : Int) = room
        · rw [run_full h hf] at ih
          simp only [List.length_append, List.length_singleton] at ih
          rcases h2 with ⟨h3, _⟩ | ⟨_, d, hd, h4⟩
          · omega
          · have hS1 : 1 ≤ (runTo (room : Int) 3 l k).on.length := by omega
            have hfm := qS (rule := 3) (l := l) (on := (runTo (room : Int) 3 l k).on) (i := (k : Int)) hS1
            have hp := qE (rule := 3) (l := l) (i := (k : Int)) hnd hS1
            have hlate := XK (l := l) (i := (k : Int)) hd
            generalize hoff : off 3 l (runTo (room : Int) 3 l k).on (k : Int) = f at *
            generalize hS : (runTo (room : Int) 3 l k).on = S at *
            have h5 : Can room (l.drop (k + 1)) (nth l (k : Int) :: S.erase f) m := by
              by_cases e : d = f
              · rw [← e]; exact h4
              · have hb : bef d f (l.drop (k + 1)) := XC e (by rw [Y3 (by omega), Y3 (by omega)] at hlate; omega)
                have hfd : f ∈ S.erase d := (List.Nodup.mem_erase_iff hnd).2 ⟨fun q => e q.symm, hfm⟩
                have hdf : d ∈ S.erase f := (List.Nodup.mem_erase_iff hnd).2 ⟨e, hd⟩
                have hT : ((S.erase d).erase f).Nodup := (hnd.erase d).erase f
                have hwT : nth l (k : Int) ∉ (S.erase d).erase f := fun hh => hn (List.mem_of_mem_erase (List.mem_of_mem_erase hh))
                have hTd : d ∉ (S.erase d).erase f := fun hh => ((List.Nodup.mem_erase_iff hnd).1 (List.mem_of_mem_erase hh)).1 rfl
                have hTf : f ∉ (S.erase d).erase f := fun hh => ((List.Nodup.mem_erase_iff (hnd.erase d)).1 hh).1 rfl
                have hlen : ((S.erase d).erase f).length + 2 = S.length := by
                  have h7 := List.length_erase_of_mem hfd
                  have h8 := List.length_erase_of_mem hd
                  have h9 := List.length_pos_of_mem hfd
                  have h10 := List.length_pos_of_mem hd
                  omega
                have h6 : Can room (l.drop (k + 1)) (f :: nth l (k : Int) :: (S.erase d).erase f) m := h4.perm (((List.perm_cons_erase hfd).cons _).trans (vN _ _ _))
                have h7 := exch (l.drop (k + 1)) (nth l (k : Int) :: (S.erase d).erase f) d f m (List.nodup_cons.2 ⟨hwT, hT⟩) (fun hh => (List.mem_cons.1 hh).elim (fun q => hn (q ▸ hd)) hTd) (fun hh => (List.mem_cons.1 hh).elim (fun q => hn (q ▸ hfm)) hTf) e (by simp only [List.length_cons]; omega) hb h6
                refine h7.perm ((vN _ _ _).trans (List.Perm.cons _ ?_))
                refine (List.perm_ext_iff_of_nodup (List.nodup_cons.2 ⟨hTd, hT⟩) (hnd.erase f)).2 (fun a => ?_)
                rw [List.mem_cons, List.Nodup.mem_erase_iff (hnd.erase d), List.Nodup.mem_erase_iff hnd, List.Nodup.mem_erase_iff hnd]
                constructor
                · rintro (rfl | ⟨h8, h9, h10⟩)
                  · exact ⟨e, hd⟩
                  · exact ⟨h8, h10⟩
                · rintro ⟨h8, h9⟩
                  by_cases e3 : a = d
                  · exact .inl e3
                  · exact .inr ⟨h8, e3, h9⟩
            have h8 := ih m (by omega) (h5.perm (((hp.symm.cons _)).trans (List.perm_append_singleton _ _).symm))
            omega
        · rw [run_room h hf] at ih
          simp only [List.length_append, List.length_singleton] at ih
          rcases h2 with ⟨_, h4⟩ | ⟨h3, _⟩
          · have h8 := ih m (by omega) (h4.perm (List.perm_append_singleton _ _).symm)
            omega
          · exact absurd (by omega) hf
end Sf
end Go.Fip
namespace Go.Fip
namespace Sf
theorem Can.add {room:Nat} {ws S:List Int} {n:Nat} (h:Can room ws S n):∀ k,Can room ws S (n+k)
 | 0=>h
 | k+1=>(Can.add h k).succ
theorem Can.le {room:Nat} {ws S:List Int} {n m:Nat} (h:Can room ws S n) (hm:n≤m):Can room ws S m:=by
 have:=h.add (m - n)
 rwa [show n+(m - n)=m by omega] at this
theorem uE {room:Nat} {v:List Int}:∀ {u S:List Int} {n:Nat},S.Nodup→S.length≤room→Can room (u++v) S n →
  ∃ n1 n2 S',n1+n2=n∧Can room u S n1∧S'.Nodup∧S'.length≤room∧Can room v S' n2∧∀ x,u.getLast? = some x→x∈S'
 | [],S,n,hd,hl,h=>⟨0,n,S,by omega,trivial,hd,hl,h,fun x hx=>by cases hx⟩
 | w::u,S,n,hd,hl,h=>by
  have last:∀ {S S':List Int},w∈S→(u=[]→S'=S)→(∀ x,u.getLast? = some x→x∈S')→∀ x,(w::u).getLast? = some x→x∈S':=fun {S S'} hw he hx x hg=>by
   cases u with
   | nil=>simp at hg; subst hg; rw [he rfl]; exact hw
   | cons y u=>rw [List.getLast?_cons_cons] at hg; exact hx x hg
  rcases h with ⟨h1,h2⟩ | ⟨h1,m,rfl,h2⟩
  ·cases u with
   | nil=>exact ⟨0,n,S,by omega,.inl ⟨h1,trivial⟩,hd,hl,h2,fun x hx=>by simp at hx; subst hx; exact h1⟩
   | cons y u =>
    obtain ⟨n1,n2,S',e,k1,k2,k3,k4,k5⟩:=uE hd hl h2
    exact ⟨n1,n2,S',e,.inl ⟨h1,k1⟩,k2,k3,k4,fun x hx=>k5 x (by rwa [List.getLast?_cons_cons] at hx)⟩
  ·rcases h2 with ⟨h3,h4⟩ | ⟨h3,d,hdm,h4⟩
   ·have hn:(w::S).Nodup:=List.nodup_cons.2 ⟨h1,hd⟩
    have hl2:(w::S).length≤room:=by simp only [List.length_cons]; omega
    cases u with
    | nil=>exact ⟨1,m,w::S,by omega,.inr ⟨h1,0,rfl,.inl ⟨h3,trivial⟩⟩,hn,hl2,h4,fun x hx=>by simp at hx; subst hx; exact List.mem_cons_self ..⟩
    | cons y u =>
     obtain ⟨n1,n2,S',e,k1,k2,k3,k4,k5⟩:=uE hn hl2 h4
     exact ⟨n1+1,n2,S',by omega,.inr ⟨h1,n1,rfl,.inl ⟨h3,k1⟩⟩,k2,k3,k4,fun x hx=>k5 x (by rwa [List.getLast?_cons_cons] at hx)⟩
   ·have hn:(w::S.erase d).Nodup:=List.nodup_cons.2 ⟨fun hh=>h1 (List.mem_of_mem_erase hh),hd.erase d⟩
    have hl2:(w::S.erase d).length≤room:=by
     rw [List.length_cons,List.length_erase_of_mem hdm]; have:=List.length_pos_of_mem hdm; omega
    cases u with
    | nil=>exact ⟨1,m,w::S.erase d,by omega,.inr ⟨h1,0,rfl,.inr ⟨h3,d,hdm,trivial⟩⟩,hn,hl2,h4,fun x hx=>by simp at hx; subst hx; exact List.mem_cons_self ..⟩
    | cons y u =>
     obtain ⟨n1,n2,S',e,k1,k2,k3,k4,k5⟩:=uE hn hl2 h4
     exact ⟨n1+1,n2,S',by omega,.inr ⟨h1,n1,rfl,.inr ⟨h3,d,hdm,k1⟩⟩,k2,k3,k4,fun x hx=>k5 x (by rwa [List.getLast?_cons_cons] at hx)⟩
theorem kF {room:Nat} {v:List Int} {n:Nat} (h:Can room v [] n):∀ {S:List Int},S.Nodup→S.length≤room→Can room v S n
 | [],_,_=>h
 | x::S,hd,hl=>by
  have hd:=List.nodup_cons.1 hd
  exact (vG v).1 S x n hd.2 hd.1 (by simp only [List.length_cons] at hl; omega) (kF h hd.2 (by simp only [List.length_cons] at hl; omega))
theorem kS {room:Nat} {v R:List Int}:∀ {U:List Int} {n:Nat},(U++R).Nodup→(U++R).length≤room→Can room v (U++R) n→Can room v R (n+U.length)
 | [],n,_,_,h=>h
 | x::U,n,hd,hl,h=>by
  have hd':=List.nodup_cons.1 hd
  have h1:=(vG v).2 (U++R) x n hd'.2 hd'.1 (by simp only [List.cons_append,List.length_cons] at hl; omega) h
  have h2:=kS hd'.2 (by simp only [List.cons_append,List.length_cons] at hl; omega) h1
  rw [show n+(x::U).length=n+1+U.length by simp only [List.length_cons]; omega]
  exact h2
theorem qU {room : Nat} {v : List Int} {m : Nat} (hv : Can room v [] m) : ∀ {u S : List Int} {n : Nat}, S.Nodup → S.length ≤ room → Can room u S n → Can room (u ++ v) S (n + m)
  | [], S, n, hd, hl, _ => (kF hv hd hl).le (by omega)
  | w :: u, S, n, hd, hl, h => by
    rcases h with ⟨h1, h2⟩ | ⟨h1, k, rfl, h2⟩
    · exact .inl ⟨h1, qU hv hd hl h2⟩
    · refine .inr ⟨h1, k + m, by omega, ?_⟩
      rcases h2 with ⟨h3, h4⟩ | ⟨h3, d, hdm, h4⟩
      · exact .inl ⟨h3, qU hv (List.nodup_cons.2 ⟨h1, hd⟩) (by simp only [List.length_cons]; omega) h4⟩
      · exact .inr ⟨h3, d, hdm, qU hv (List.nodup_cons.2 ⟨fun hh => h1 (List.mem_of_mem_erase hh), hd.erase d⟩) (by rw [List.length_cons, List.length_erase_of_mem hdm]; have := List.length_pos_of_mem hdm; omega) h4⟩
theorem X3 {room : Nat} {c x : Int} {A B : List Int} {n : Nat} (hr : 1 ≤ room) (h : Can room (c :: A ++ x :: B) [] n) : Can room ((x :: B) ++ (A ++ [x])) [] (n + room) := by
  have h : Can room (c :: (A ++ x :: B)) [] n := h
  rcases h with ⟨h1, _⟩ | ⟨_, m, rfl, h2⟩
  · cases h1
  · rcases h2 with ⟨_, h4⟩ | ⟨_, d, hd, _⟩
    · rw [show A ++ x :: B = (A ++ [x]) ++ B by simp] at h4
      obtain ⟨n1, n2, S', e, k1, k2, k3, k4, k5⟩ := uE (S := [c]) (by simp) (by simpa using hr) h4
      have hx : x ∈ S' := k5 x (by simp)
      have hA := (vG (room := room) (A ++ [x])).2 [] c n1 List.nodup_nil (by simp) (by simp only [List.length_nil]; omega) k1
      have hp : S'.Perm (S'.erase x ++ [x]) := (List.perm_cons_erase hx).trans (List.perm_append_singleton x _).symm
      have hl := hp.length_eq
      rw [List.length_append, List.length_singleton] at hl
      have hB := kS (hp.nodup k2) (by rw [← hp.length_eq]; exact k3) (k4.perm hp)
      have hB2 : Can room (x :: B) [] (n2 + (S'.erase x).length + 1) := .inr ⟨by simp, _, rfl, .inl ⟨by simp only [List.length_nil]; omega, hB⟩⟩
      exact (qU hA List.nodup_nil (by simp) hB2).le (by omega)
    · cases hd
def dis:List Int→List Int→Nat
 | [],_=>0
 | w::ws,S=>if w∈S then dis ws S else dis ws (w::S)+1
theorem vB:∀ {ws S S':List Int},(∀ x∈S,x∈S')→dis ws S'≤dis ws S
 | [],_,_,_=>Nat.le_refl _
 | w::ws,S,S',h=>by
  have hc:∀ x∈w::S,x∈w::S':=fun x hx=>(List.mem_cons.1 hx).elim (fun e=>e ▸ List.mem_cons_self ..) fun hx=>List.mem_cons_of_mem _ (h x hx)
  unfold dis
  by_cases h1:w∈S
  ·rw [if_pos h1,if_pos (h w h1)]; exact vB h
  ·rw [if_neg h1]
   by_cases h2:w∈S'
   ·rw [if_pos h2]
    exact Nat.le_succ_of_le (vB fun x hx=>(List.mem_cons.1 hx).elim (fun e=>e ▸ h2) (h x))
   ·rw [if_neg h2]; exact Nat.succ_le_succ (vB hc)
theorem jX {room:Nat}:∀ {ws S:List Int} {n:Nat},Can room ws S n→dis ws S≤n
 | [],_,_,_=>Nat.zero_le _
 | w::ws,S,n,h=>by
  unfold dis
  rcases h with ⟨h1,h2⟩ | ⟨h1,m,rfl,h2⟩
  ·rw [if_pos h1]; exact jX h2
  ·rw [if_neg h1]
   rcases h2 with ⟨h3,h4⟩ | ⟨h3,d,hdm,h4⟩
   ·exact Nat.succ_le_succ (jX h4)
   ·refine Nat.succ_le_succ (Nat.le_trans (vB fun x hx=>?_) (jX h4))
    exact (List.mem_cons.1 hx).elim (fun e=>e ▸ List.mem_cons_self ..) fun hx=>List.mem_cons_of_mem _ (List.mem_of_mem_erase hx)
theorem j6 {room:Nat}:∀ {ws S:List Int},S.length+dis ws S≤room→Can room ws S (dis ws S)
 | [],_,_=>trivial
 | w::ws,S,h=>by
  unfold dis at h ⊢
  by_cases h1:w∈S
  ·rw [if_pos h1] at h ⊢; exact .inl ⟨h1,j6 h⟩
  ·rw [if_neg h1] at h ⊢
   exact .inr ⟨h1,_,rfl,.inl ⟨by omega,j6 (by simp only [List.length_cons]; omega)⟩⟩
def difTo (l:List Int):Nat→Nat
 | 0=>0
 | k+1=>difTo l k+if nth l (k:Int)∈l.take k then 0 else 1
theorem Y7 (l:List Int):∀ (j k:Nat),k+j=l.length→difTo l k+dis (l.drop k) (l.take k)=difTo l l.length
 | 0,k,h=>by rw [show k=l.length by omega]; simp [dis]
 | j+1,k,h=>by
  have hk:k<l.length:=by omega
  rw [← Y7 l j (k+1) (by omega),drop_cons hk]
  have ht:l.take (k+1)=l.take k++[nth l (k:Int)]:=by rw [zO hk,List.take_succ_eq_append_getElem hk]
  show difTo l k+(if nth l (k:Int)∈l.take k then dis (l.drop (k+1)) (l.take k) else dis (l.drop (k+1)) (nth l (k:Int)::l.take k)+1)=difTo l k+(if nth l (k:Int)∈l.take k then 0 else 1)+_
  by_cases hc:nth l (k:Int)∈l.take k
  ·rw [if_pos hc,if_pos hc,ht]
   have:dis (l.drop (k+1)) (l.take k)=dis (l.drop (k+1)) (l.take k++[nth l (k:Int)]):=Nat.le_antisymm
    (vB fun x hx=>(List.mem_append.1 hx).elim id fun h=>by rw [List.mem_singleton.1 h]; exact hc) (vB fun x hx=>List.mem_append_left _ hx)
   omega
  ·rw [if_neg hc,if_neg hc,ht]
   have:dis (l.drop (k+1)) (nth l (k:Int)::l.take k)=dis (l.drop (k+1)) (l.take k++[nth l (k:Int)]):=Nat.le_antisymm
    (vB fun x hx=>(List.mem_append.1 hx).elim (fun h=>List.mem_cons_of_mem _ h) fun h=>by rw [List.mem_singleton.1 h]; exact List.mem_cons_self ..)
    (vB fun x hx=>(List.mem_cons.1 hx).elim (fun e=>e ▸ List.mem_append_right _ (List.mem_singleton.2 rfl)) fun h=>List.mem_append_left _ h)
   omega
def St1 (room:Nat) (w:Int) (S U:List Int) (a b:Nat):Prop:=∃ O:List Int,w ∉ O∧O.length<room∧O.Nodup∧((S.Perm (w::O)∧a=0)∨(S.Perm O∧a=1))∧((U.Perm (w::O)∧b=0)∨(U.Perm O∧b=1))
def Pa (room:Nat):List Int→List Int→List Int→Nat→Nat→Prop
 | [],S,U,n,m=>S.Perm U∧n=0∧m=0
 | w::ws,S,U,n,m=>∃ V a b n' m',St1 room w S V a b∧Pa room ws V U n' m'∧n=n'+a∧m=m'+b
theorem St1.perm {room:Nat} {w:Int} {S S' U:List Int} {a b:Nat} (h:St1 room w S U a b) (hp:S'.Perm S):St1 room w S' U a b:=by
 obtain ⟨O,h1,h2,h3,h4,h5⟩:=h
 exact ⟨O,h1,h2,h3,h4.imp (fun h=>⟨hp.trans h.1,h.2⟩) fun h=>⟨hp.trans h.1,h.2⟩,h5⟩
theorem Pa.snoc {room:Nat} {w:Int} {U':List Int} {a b:Nat}:∀ {ws S U:List Int} {n m:Nat},Pa room ws S U n m→St1 room w U U' a b→Pa room (ws++[w]) S U' (n+a) (m+b)
 | [],S,U,n,m,⟨hp,h1,h2⟩,hs=>⟨U',a,b,0,0,hs.perm hp,⟨.refl _,rfl,rfl⟩,by omega,by omega⟩
 | v::ws,S,U,n,m,⟨V,a',b',n',m',h1,h2,h3,h4⟩,hs=>⟨V,a',b',n'+a,m'+b,h1,Pa.snoc h2 hs,by omega,by omega⟩
theorem St1.symm {room:Nat} {w:Int} {S U:List Int} {a b:Nat} (h:St1 room w S U a b):St1 room w U S b a:=let ⟨O,h1,h2,h3,h4,h5⟩:=h; ⟨O,h1,h2,h3,h5,h4⟩
theorem Pa.rev {room:Nat}:∀ {ws S U:List Int} {n m:Nat},Pa room ws S U n m→Pa room ws.reverse U S m n
 | [],S,U,n,m,⟨hp,h1,h2⟩=>⟨hp.symm,h2,h1⟩
 | w::ws,S,U,n,m,⟨V,a,b,n',m',h1,h2,h3,h4⟩=>by
  rw [List.reverse_cons,h3,h4]
  exact (Pa.rev h2).snoc h1.symm
theorem Pa.bal {room:Nat}:∀ {ws S U:List Int} {n m:Nat},Pa room ws S U n m→S.length+n=U.length+m
 | [],S,U,n,m,⟨hp,h1,h2⟩=>by rw [hp.length_eq]; omega
 | w::ws,S,U,n,m,⟨V,a,b,n',m',⟨O,_,_,_,h5,h6⟩,h2,h3,h4⟩=>by
  have ih:=Pa.bal h2
  have e1:S.length+a=O.length+1:=by rcases h5 with ⟨p,e⟩ | ⟨p,e⟩ <;> rw [p.length_eq,e] <;> simp
  have e2:V.length+b=O.length+1:=by rcases h6 with ⟨p,e⟩ | ⟨p,e⟩ <;> rw [p.length_eq,e] <;> simp
  omega
theorem qQ:∀ {A B:List Int},A.Nodup→(∀ x∈A,x∈B)→A.length≤B.length
 | [],_,_,_=>Nat.zero_le _
 | x::A,B,hd,h=>by
  have hd:=List.nodup_cons.1 hd
  have hx:x∈B:=h x (List.mem_cons_self ..)
  have:=qQ (A:=A) (B:=B.erase x) hd.2 fun y hy=>(List.mem_erase_of_ne (fun e=>hd.1 (by rw [← e]; exact hy))).2 (h y (List.mem_cons_of_mem _ hy))
  rw [List.length_erase_of_mem hx] at this
  have:=List.length_pos_of_mem hx
  simp only [List.length_cons]
  omega
theorem ZA {room : Nat} : ∀ {ws S : List Int} {n : Nat}, S.Nodup → S.length ≤ room → Can room ws S n → ∃ U n' m', (∀ x ∈ U, x ∈ S) ∧ U.Nodup ∧ n' ≤ n ∧ Pa room ws U [] n' m'
  | [], S, n, _, _, _ => ⟨[], 0, 0, (fun _ h => by cases h), List.nodup_nil, Nat.zero_le _, List.Perm.refl _, rfl, rfl⟩
  | w :: ws, S, n, hd, hl, h => by
    have side : ∀ {U1 : List Int}, U1.Nodup → w ∉ U1.erase w ∧ ∃ b, (U1.Perm (w :: U1.erase w) ∧ b = 0) ∨ (U1.Perm (U1.erase w) ∧ b = 1) := fun {U1} hn => by
      refine ⟨fun hh => ((List.Nodup.mem_erase_iff hn).1 hh).1 rfl, ?_⟩
      by_cases hw : w ∈ U1
      · exact ⟨0, .inl ⟨List.perm_cons_erase hw, rfl⟩⟩
      · exact ⟨1, .inr ⟨by rw [List.erase_of_not_mem hw], rfl⟩⟩
    have er : ∀ {U1 S1 : List Int}, U1.Nodup → (∀ x ∈ U1, x ∈ w :: S1) → ∀ x ∈ U1.erase w, x ∈ S1 := fun {U1 S1} hn hs x hx => by
      obtain ⟨h1, h2⟩ := (List.Nodup.mem_erase_iff hn).1 hx
      exact (List.mem_cons.1 (hs x h2)).resolve_left h1
    rcases h with ⟨h1, h2⟩ | ⟨h1, m, rfl, h2⟩
    · obtain ⟨U1, n', m', k1, k2, k3, k4⟩ := ZA hd hl h2
      obtain ⟨hw, b, hb⟩ := side k2
      have hsub : ∀ x ∈ w :: U1.erase w, x ∈ S := fun x hx => (List.mem_cons.1 hx).elim (fun e => e ▸ h1) fun hx => k1 x (List.mem_of_mem_erase hx)
      have hnd : (w :: U1.erase w).Nodup := List.nodup_cons.2 ⟨hw, k2.erase w⟩
      have hlen := qQ hnd hsub
      exact ⟨w :: U1.erase w, n', m' + b, hsub, hnd, k3, U1, 0, b, n', m', ⟨U1.erase w, hw, by simp only [List.length_cons] at hlen; omega, k2.erase w, .inl ⟨.refl _, rfl⟩, hb⟩, k4, by omega, rfl⟩
    · rcases h2 with ⟨h3, h4⟩ | ⟨h3, d, hdm, h4⟩
      · obtain ⟨U1, n', m', k1, k2, k3, k4⟩ := ZA (List.nodup_cons.2 ⟨h1, hd⟩) (by simp only [List.length_cons]; omega) h4
        obtain ⟨hw, b, hb⟩ := side k2
        have hsub := er k2 k1
        have hlen := qQ (k2.erase w) hsub
        exact ⟨U1.erase w, n' + 1, m' + b, hsub, k2.erase w, by omega, U1, 1, b, n', m', ⟨U1.erase w, hw, by omega, k2.erase w, .inr ⟨.refl _, rfl⟩, hb⟩, k4, rfl, rfl⟩
      · have hle : (S.erase d).length + 1 = S.length := by rw [List.length_erase_of_mem hdm]; have := List.length_pos_of_mem hdm; omega
        obtain ⟨U1, n', m', k1, k2, k3, k4⟩ := ZA (List.nodup_cons.2 ⟨fun hh => h1 (List.mem_of_mem_erase hh), hd.erase d⟩) (by simp only [List.length_cons]; omega) h4
        obtain ⟨hw, b, hb⟩ := side k2
        have hsub := er k2 k1
        have hlen := qQ (k2.erase w) hsub
        exact ⟨U1.erase w, n' + 1, m' + b, fun x hx => List.mem_of_mem_erase (hsub x hx), k2.erase w, by omega, U1, 1, b, n', m', ⟨U1.erase w, hw, by omega, k2.erase w, .inr ⟨.refl _, rfl⟩, hb⟩, k4, rfl, rfl⟩
theorem VD {room:Nat}:∀ {ws S:List Int} {n m:Nat},Pa room ws S [] n m→Can room ws S n
 | [],S,n,m,_=>trivial
 | w::ws,S,n,m,⟨V,a,b,n',m',⟨O,h1,h2,h3,h5,h6⟩,hp,e1,e2⟩=>by
  have ih:=VD hp
  have hw:Can room ws (w::O) n':=by
   rcases h6 with ⟨p,_⟩ | ⟨p,_⟩
   ·exact ih.perm p
   ·exact (vG ws).1 O w n' h3 h1 h2 (ih.perm p)
  rcases h5 with ⟨p,e⟩ | ⟨p,e⟩
  ·exact .inl ⟨p.mem_iff.2 (List.mem_cons_self ..),by rw [e1,e]; exact hw.perm p.symm⟩
  ·exact .inr ⟨fun hh=>h1 (p.mem_iff.1 hh),n',by omega,.inl ⟨by rw [p.length_eq]; exact h2,hw.perm (p.symm.cons w)⟩⟩
theorem Y2 {room:Nat} {ws:List Int} {n:Nat} (h:Can room ws [] n):Can room ws.reverse [] n:=by
 obtain ⟨U,n',m',k1,k2,k3,k4⟩:=ZA List.nodup_nil (Nat.zero_le _) h
 have hU:U=[]:=List.eq_nil_iff_forall_not_mem.2 fun x hx=>by cases k1 x hx
 subst hU
 have hb:=k4.bal
 exact (VD k4.rev).le (by simp only [List.length_nil] at hb; omega)
def few (room:Int) (l:List Int):Nat:=(runTo room 3 l l.length).mis.length
theorem qT {room:Nat} {l:List Int} (hr:1≤room):Can room l [] (few room l):=by
 have h:=Y5 (rule:=3) (l:=l) hr l.length 0 (by omega)
 exact h.le (Nat.sub_le _ _)
theorem j7 {room n:Nat} {l:List Int} (hr:1≤room) (h:Can room l [] n):few room l≤n:=by
 have h:=belady (l:=l) hr l.length 0 n (by omega) h
 exact Nat.le_trans h (by show 0+n≤n; omega)
theorem XO {room:Nat} {l:List Int} (hr:1≤room):few room l.reverse=few room l:=by
 refine Nat.le_antisymm (j7 hr (Y2 (qT hr))) (j7 hr ?_)
 have:=Y2 (qT (l:=l.reverse) hr)
 rwa [List.reverse_reverse] at this
theorem XP {room:Nat} {l:List Int} (hr:1≤room) (h:difTo l l.length≤room):few room l=difTo l l.length:=by
 have e:=Y7 l l.length 0 (by omega)
 simp only [difTo,List.drop_zero,List.take_zero,Nat.zero_add] at e
 rw [← e] at h ⊢
 exact Nat.le_antisymm (j7 hr (j6 (by simpa using h))) (jX (qT hr))
theorem few_rot {room:Nat} {c x:Int} {A B:List Int} (hr:1≤room):few room ((x::B)++(A++[x]))≤few room (c::A++x::B)+room:=j7 hr (X3 hr (qT hr))
end Sf
end Go.Fip
