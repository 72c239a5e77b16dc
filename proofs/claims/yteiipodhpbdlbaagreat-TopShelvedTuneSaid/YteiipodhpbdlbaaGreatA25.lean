/- Joined texts: what the statement needs, walks by program (wip/tools). -/
import Derived.Test.YteiipodhpbdlbaaGreatA2
import Derived.Test.YteiipodhpbdlbaaGreatA3
import Derived.Test.YteiipodhpbdlbaaGreatA24
set_option linter.unusedVariables false
set_option linter.unusedSimpArgs false
set_option linter.unusedSectionVars false
set_option linter.unnecessarySimpa false
namespace Go.Fip
open Go.Proofs Go.RowKit
set_option maxHeartbeats 4000000 in
theorem c3 {v:Value} {sl:List Tn.Pr} {n:Int} {w:World} (h0:Rd encP 2 v sl w) {rb fb:Int} (hr:0≤rb∧rb≤255) (hu:0≤fb∧fb≤255)  :
  Fn Tryz.prog 3 [(.agg #[(.int .i64 n),v]),(.int .u8 rb),(.int .u8 fb)].toArray w (fun u _=>u=.bool true):=by
 refine fz Tryz.func3 Z kz Z Z (fun hH=>(zr (yM Z Z Z hH (fun b1 w2 hH3=>(oA hH3 Z (zt (seq (zr (oY hH3 (zD T.yK Z) (oY hH3 (zC T.yN Z (cw (n:=0) Z Z)) (oY hH3 (zX T.y9 Z (h0.now hH3 (n:=1) Z).is) (oY hH3 (vS Z Z) (oM hH3 Z ?_)))))))))))))
 by_cases hc4:11<(sl.length:Int)
 ·refine zF Z Z (dT hc4) Z (zF Z Z (dT hc4) Z (zF Z Z (dT hc4) Z (oY hH3 (z7 Z (dT hc4) Z) (zt (zP Z Z (zr (zS Z Z Z hH3 (c5) (fun w5 hH6=>(oA hH6 Z (zt (ret (yP (fin (hH6.sub (sC sR)) (fun w' hf=>(yI Z (rt Z))) (fun w' hf=>Z))))))))))))))
 refine zB Z Z (dF hc4) (oY hH3 (zZ (cs:=[(.int .i64 n),v]) T.xX Z Z (fun _ hw=>Heap.yQ hw (n:=0) Z (k:=0) Z)) (zB Z Z (dF hc4) (zS Z Z Z hH3 (c4 (h0.now hH3 (n:=1) Z) om) (fun w8 hH9=>(zB Z Z (dF hc4) (oY hH9 (yT Z Z) (oY hH9 (yA Z (dF hc4) Z) (zt ?_))))))))
 by_cases hc10:(Tn.ck n sl)=0
 ·have hck:Tn.ck n sl=0:=by have hq:=(zH hc10); simp at hq; omega
  have hb:=Tn.ck_iff.1 hck
  have h11:sl.length≤11:=by have hq:=(zH hc10); simp at hq; omega
  have hn1:=hb.n1
  have hn8:=hb.n8
  have hl14:=hb.l14
  have hl1:=hb.l1
  refine zM Z (zH hc10) (skip (zJ (seq ?_)))
  by_cases hc11:Tn.starts n sl=[]
  ·have hs0:Tn.starts n sl=[] := ‹_›
   refine region (oY hH9 (zZ (cs:=[(.int .i64 n),v]) T.xX Z Z (fun _ hw=>Heap.yQ hw (n:=0) Z (k:=0) Z)) (zS Z Z Z hH9 (c6b (h0.now hH9 (n:=1) Z) hb hs0) (fun w12 hH13=>(oM hH13 Z (oY hH13 (zQ Z Z) (oY hH13 (zQ Z Z) (oA hH13 Z (oA hH13 Z (zt (seq (zr (oM hH13 Z (oY hH13 (xM Z (yT Z Z)) (zt (zP Z Z (zr (oM hH13 Z (oY hH13 (xM Z (xJ Z Z)) ?_))))))))))))))))))
   refine oM hH13 Z (zB Z Z Z (zS Z Z Z hH13 (c5) (fun w14 hH15=>(oY hH15 (z7 Z Z Z) (oA hH15 Z (zt (ret (yP (fin (hH15.sub (sC sR)) (fun w' hf=>(yI Z (rt Z))) (fun w' hf=>Z))))))))))
  have hs1:¬ Tn.starts n sl=[] := ‹_›
  obtain ⟨tt,hT⟩:∃ t,(Tn.first n sl sl.length).out=t:=⟨_,rfl⟩
  have ht:Tn.Tune sl tt:=hT ▸ Tn.first_tune hb hs1
  have htl:=ht.len
  have hwl:=Tn.wants_len sl tt
  refine region (oY hH9 (zZ (cs:=[(.int .i64 n),v]) T.xX Z Z (fun _ hw=>Heap.yQ hw (n:=0) Z (k:=0) Z)) (xR Z Z Z hH9 (c6g (h0.now hH9 (n:=1) Z) hb hs1) (fun u19 w17 lo20 hi21 hH18 hv22=>?_)))
  obtain ⟨p23,hu, -⟩:=hv22
  subst hu
  have hH25:=Heap.vX (Heap.weaken hH18 (n:=0) Z (φ:=Own 3 1 encI p23 tt) (fun w' h=>by obtain ⟨p',e,h1⟩:=h; cases e; rw [← hT]; exact h1)) (n:=0) (by rfl)
  refine oM hH25 Z (oY hH25 (zQ Z Z) (oY hH25 (zQ Z Z) (oA hH25 Z (oA hH25 Z (zt (seq (zr (oM hH25 Z (oY hH25 (xM Z (yT Z Z)) (zt (zM Z Z (skip (zu (oY hH25 (zZ (cs:=[(.int .i64 n),v]) T.xX Z Z (fun _ hw=>Heap.yQ hw (n:=1) Z (k:=0) Z)) (oM hH25 Z (zS Z Z Z hH25 (c7 (h0.now hH25 (n:=2) Z) hb (Heap.yU T.zA hH25 (n:=0) Z) ht) (fun w26 hH27=>?_)))))))))))))))))
  refine oM hH27 Z (oY hH27 (zQ Z Z) (oY hH27 (zQ Z Z) (oY hH27 (zQ Z Z) (oA hH27 Z (oA hH27 Z (oA hH27 Z (zt (seq (zr (oM hH27 Z (oY hH27 (xM Z (yT Z Z)) (zt (zM Z Z (skip (zJ (seq ?_))))))))))))))))
  obtain ⟨room,hroom⟩:∃ m:Int,1+rb % 6=m:=⟨_,rfl⟩
  have hm1:1≤room:=by omega
  have hm2:room≤6:=by omega
  have hday:=Tn.wants_day ht hb h11 ⟨hm1,hm2⟩
  refine region (oM hH27 Z (oY hH27 (jT Tryz.underlying5 Tryz.underlying3 Z (kQ om)) (oY hH27 (yv_rem Z Z om om) (oY hH27 (xC hroom (zU Z Z om)) (oY hH27 (zZ (cs:=[(.int .i64 n),v]) T.xX Z Z (fun _ hw=>Heap.yQ hw (n:=1) Z (k:=0) Z)) (oM hH27 Z (xR Z Z Z hH27 (c8 (h0.now hH27 (n:=2) Z) hb (Heap.yU T.zA hH27 (n:=0) Z) ht) (fun u30 w28 lo31 hi32 hH29 hv33=>?_))))))))
  have hH34:=Heap.vX hH29 (n:=0) Z
  obtain ⟨_,_,hb35,_⟩:=(Heap.yU T.zA hH34 (n:=0) rfl).is
  refine oY hH34 (xQ (v:=(.agg #[(.int .i64 room),u30])) Z (fun w=>by rw [hb35]; kernel_rfl)) (xG (z:=(.agg #[(.int .i64 0),(.slice none 0 0)])) (fun _=>by kernel_rfl) Z Z hH34 (fun b36 w37 hH38=>(yS (n:=0) (j:=0) Z Z hH38 Z T.V5 Z Z Z (YW Z (YW (SliceIs.one1 (Heap.yU T.zA hH38 (n:=1) Z).is) Z)) (fun w39 hH40=>(zs (oY hH40 (zD T.q6 Z) (oY hH40 (zC T.yB Z (cw (n:=0) Z Z)) (oY hH40 (xQ (v:=(.agg #[(.int .i64 room),(.slice none 0 0)])) Z (fun w=>by kernel_rfl)) (xG (z:=(.agg #[(.int .i64 0),(.slice none 0 0)])) (fun _=>by kernel_rfl) Z Z hH40 (fun b41 w42 hH43=>(yS (n:=0) (j:=0) Z Z hH43 Z T.V5 Z Z Z (by rfl) (fun w44 hH45=>(zs (oY hH45 (zD T.qP Z) (oY hH45 (zC T.yB Z (cw (n:=4) Z Z)) (oY hH45 (xQ (v:=(.agg #[(.int .i64 n),(.slice none 0 0)])) Z (fun w=>by kernel_rfl)) (xG (z:=(.agg #[(.int .i64 0),(.slice none 0 0)])) (fun _=>by kernel_rfl) Z Z hH45 (fun b46 w47 hH48=>(yS (n:=0) (j:=0) Z Z hH48 Z T.VY Z Z Z (by rfl) (fun w49 hH50=>(zE ?_)))))))))))))))))))))
  refine zJ (seq (zr (oY hH50 (zD T.vC Z) (oY hH50 (zC T.xL Z (cw (n:=2) Z Z)) (oY hH50 (zX T.yE Z (Heap.yU T.zA hH50 (n:=3) Z).is) (oY hH50 (xI Z Z om) (oA hH50 Z (zt (block ?_)))))))))
  have hH51:=vJ (enc:=encI) 3 1 hH50
  refine loop (S:=Nat×Value×Nat×Nat) (fun (i,v_b12,lo_b12,hi_b12)=>[(14,(.int .i64 (((Tn.wants sl tt).length:Int) - 1 - (i:Int)))),(2,(.int .u8 fb)),(3,(.pointer (some ⟨b1,0,none⟩))),(6,(.bool false)),(7,p23),(8,(.int .i64 0)),(9,(.int .i64 ((Tn.ends sl tt).1))),(10,(.int .i64 ((Tn.ends sl tt).2))),(11,(.pointer (some ⟨b36,0,none⟩))),(12,(.pointer (some ⟨b41,0,none⟩))),(13,(.pointer (some ⟨b46,0,none⟩)))]) (fun (i,v_b12,lo_b12,hi_b12) w1=>Heap [ow lo_b12 hi_b12 3 1 encI v_b12 (Tn.revTo (Tn.wants sl tt) i),bx b46 24 [(.int .i64 n),(.slice none 0 0)],bx b41 35 [(.int .i64 room),v_b12],bx b36 35 [(.int .i64 room),u30],ow lo31 hi32 3 1 encI u30 (Tn.wants sl tt),ow lo20 hi21 3 1 encI p23 tt,bx b1 24 [(.int .i64 n),v],base w] w1∧i≤(Tn.wants sl tt).length) (fun (i,v_b12,lo_b12,hi_b12)=>(Tn.wants sl tt).length - i) (0,(.slice none 0 0),w49.heap.size,w49.heap.size) (Sub.cons (congrArg (fun z=>some (Value.int .i64 z)) om) (uC Z (uC Z (uC Z (uC Z (uC Z (uC Z (uC Z (uC Z (uC Z (uC Z (Sub.nil _)))))))))))) ?_ ?_
  ·exact ⟨(Heap.recast (n:=0) hH51 Z ((Tn.rev_0 _).symm)),om⟩
  rintro ⟨i,v_b12,lo_b12,hi_b12⟩ w52 ⟨hH53,hi⟩
  have hrl:=Tn.rev_len hi
  refine seq (zr (oM hH53 Z (oY hH53 (vK Z Z) (zt ?_))))
  by_cases hc54:0≤(((Tn.wants sl tt).length:Int) - 1 - (i:Int))
  ·refine zP Z (dT hc54) (skip (zJ (seq (block (vE (fun w'=>Heap [bx b46 24 [(.int .i64 n),(.slice none 0 0)],bx b41 35 [(.int .i64 room),v_b12],bx b36 35 [(.int .i64 room),u30],ow lo31 hi32 3 1 encI u30 (Tn.wants sl tt),ow lo20 hi21 3 1 encI p23 tt,bx b1 24 [(.int .i64 n),v],base w] w') [10] T.mixed (fun w55 hr56=>?_))))))
   have hH57:=hH53.redrawn hr56
   refine yV [0,2,4] kz  _ _ _ kz (zI Z Z (zD T.vC Z) (zI Z Z (zD T.vC Z) (zI Z Z (xC (show (((Tn.wants sl tt).length:Int) - 1 - (i:Int))=(((Tn.wants sl tt).length - 1 - i:Nat):Int) by omega) (y8 Z)) (zV (xO [1,3] kz (hH57.sub (sC sR)) _ _ _ kz (zI Z Z (zC T.xL Z (cw (n:=1) Z Z)) (zI Z Z (zC T.xL Z (cw (n:=2) Z Z)) (zV (yV [5] kz  _ _ _ kz (zI Z Z (zN T.yE Z Z (Heap.yU T.zA hH57 (n:=4) Z).is om) (zV (xO [6] kz (hH57.sub (sC sR)) _ _ _ kz (zI Z Z (zC T.yB Z (fun _ hw=>Rd.at (Heap.yU T.zA hw (n:=3) Z) (i:=(((Tn.wants sl tt).length - 1 - i:Nat):Int)) om (j:=0) Z)) (zV (xN [7] kz Z (⟨⟨_,Z,(yJ T.zA [nth (Tn.wants sl tt) (((Tn.wants sl tt).length - 1 - i:Nat):Int)] Z (fun w=>by kernel_rfl) hH57 (fun u58 lo60 hi61 w59 hH62=>(zE (⟨fun _ _=>(hH62.sub (sC (sC sR))),(xN [8] kz Z (⟨⟨_,Z,?_⟩,trivial⟩))⟩))))⟩,trivial⟩))))))))))))))))
   refine yG (n:=1) T.zA Z Z Z hH62 Z (Heap.yU T.zA hH62 (n:=0) Z) (by first | omega | (simp only [List.length_append,List.length_cons,List.length_nil]; omega)) (fun u63 lo65 hi66 w64 hH67=>(zE (⟨fun _ _=>(hH67.sub (sC (sC sR))),(yV [9] kz  _ _ _ kz (zI Z Z (zD T.vC Z) (zV (xN [10] kz Z (⟨⟨_,Z,(yS (n:=3) (j:=1) Z Z hH67 Z T.VF (SliceIs.cells (Heap.yU T.zA hH67 (n:=1) Z).is) Z Z (SliceIs.one (Heap.yU T.zA hH67 (n:=1) Z).is) (fun w68 hH69=>(zE (⟨(fun h=>by cases h),(uF kz (yC (zJ (region (oM hH69 Z (oY hH69 (xI Z Z om) (oA hH69 Z (zE (yX (i+1,u63,lo65,hi66) (Sub.cons (congrArg (fun z=>some (Value.int .i64 z)) om) (uC Z (uC Z (uC Z (uC Z (uC Z (uC Z (uC Z (uC Z (uC Z (uC Z (Sub.nil _)))))))))))) (⟨(Heap.recast (n:=0) (hH69.sub (sC sR)) Z ((Tn.rev_snoc om))),om⟩) om3)))))))))⟩))))⟩,trivial⟩)))))⟩)))
  refine zM Z (dF hc54) (exit (yR (xH (zW (zJ (seq (seq ?_)))))))
  have hie:i=(Tn.wants sl tt).length:=by omega
  have hH71:=Heap.recast hH53 (n:=0) Z (show (Tn.revTo (Tn.wants sl tt) i)=(Tn.wants sl tt).reverse from by rw [hie]; exact Tn.rev_all _)
  refine region (oA hH71 Z (zt (block ?_)))
  have hH72:=vJ (enc:=encP) 36 2 hH71
  refine loop (S:=Nat×Value×Nat×Nat) (fun (j,v_b13,lo_b13,hi_b13)=>[(15,(.int .i64 (j:Int))),(2,(.int .u8 fb)),(3,(.pointer (some ⟨b1,0,none⟩))),(6,(.bool false)),(7,p23),(8,(.int .i64 0)),(9,(.int .i64 ((Tn.ends sl tt).1))),(10,(.int .i64 ((Tn.ends sl tt).2))),(11,(.pointer (some ⟨b36,0,none⟩))),(12,(.pointer (some ⟨b41,0,none⟩))),(13,(.pointer (some ⟨b46,0,none⟩)))]) (fun (j,v_b13,lo_b13,hi_b13) w1=>Heap [ow lo_b13 hi_b13 36 2 encP v_b13 (Tn.turnTo sl j),ow lo_b12 hi_b12 3 1 encI v_b12 ((Tn.wants sl tt).reverse),bx b46 24 [(.int .i64 n),v_b13],bx b41 35 [(.int .i64 room),v_b12],bx b36 35 [(.int .i64 room),u30],ow lo31 hi32 3 1 encI u30 (Tn.wants sl tt),ow lo20 hi21 3 1 encI p23 tt,bx b1 24 [(.int .i64 n),v],base w] w1∧j≤sl.length) (fun (j,v_b13,lo_b13,hi_b13)=>sl.length - j) (0,(.slice none 0 0),w52.heap.size,w52.heap.size) (uC Z (uC Z (uC Z (uC Z (uC Z (uC Z (uC Z (uC Z (uC Z (uC Z (uC Z (Sub.nil _)))))))))))) ?_ ?_
  ·exact ⟨(Heap.recast (n:=0) hH72 Z (Z)),om⟩
  rintro ⟨j,v_b13,lo_b13,hi_b13⟩ w73 ⟨hH74,hj⟩
  have hul:=Tn.turn_len hj
  refine seq (zr (oM hH74 Z (oY hH74 (zD T.yK Z) (oY hH74 (zC T.yN Z (cw (n:=7) Z Z)) (oY hH74 (zX T.y9 Z (h0.now hH74 (n:=8) Z).is) (oY hH74 (yF Z Z) (zt ?_)))))))
  by_cases hc75:(j:Int)<(sl.length:Int)
  ·refine zP Z (dT hc75) (skip (zJ (seq (block (vE (fun w'=>Heap [ow lo_b12 hi_b12 3 1 encI v_b12 ((Tn.wants sl tt).reverse),bx b46 24 [(.int .i64 n),v_b13],bx b41 35 [(.int .i64 room),v_b12],bx b36 35 [(.int .i64 room),u30],ow lo31 hi32 3 1 encI u30 (Tn.wants sl tt),ow lo20 hi21 3 1 encI p23 tt,bx b1 24 [(.int .i64 n),v],base w] w') [18] T.mixed (fun w76 hr77=>?_))))))
   have hH78:=hH74.redrawn hr77
   refine yV [0,2,4,8,10] kz  _ _ _ kz (zI Z Z (zD T.yK Z) (zI Z Z (zD T.yK Z) (qM Z Z Z (zI Z Z (zD T.yK Z) (qM Z Z Z (zV (xO [1,3,9] kz (hH78.sub (sC sR)) _ _ _ kz (zI Z Z (zC T.yN Z (cw (n:=1) Z Z)) (zI Z Z (zC T.yN Z (cw (n:=6) Z Z)) (zI Z Z (zC T.yN Z (cw (n:=6) Z Z)) (zV (yV [5,6,11,12] kz  _ _ _ kz (zI Z Z (zN T.y9 Z Z (h0.now hH78 (n:=8) Z).is om) (zI Z Z (zY T.xA Z Z om) (zI Z Z (zN T.y9 Z Z (h0.now hH78 (n:=8) Z).is om) (zI Z Z (zY T.xA Z Z om) (zV (xO [7,13] kz (hH78.sub (sC sR)) _ _ _ kz (zI Z Z (zC T.yB Z (fun _ hw=>Rd.at (h0.now hw (n:=7) Z) (i:=(j:Int)) om (j:=1) Z)) (zI Z Z (zC T.yB Z (fun _ hw=>Rd.at (h0.now hw (n:=7) Z) (i:=(j:Int)) om (j:=0) Z)) (zV ?_)))))))))))))))))))))
   refine yV [14] kz  _ _ _ kz (zI Z Z (xQ (v:=(.agg #[(.int .i64 ((nth sl (j:Int)).2)),(.int .i64 ((nth sl (j:Int)).1))])) Z (fun w=>by kernel_rfl)) (zV (xN [15] kz Z (⟨⟨_,Z,(yJ T.yZ [((nth sl (j:Int)).2,(nth sl (j:Int)).1)] Z (fun w=>by kernel_rfl) hH78 (fun u79 lo81 hi82 w80 hH83=>(zE (⟨fun _ _=>(hH83.sub (sC (sC sR))),(xN [16] kz Z (⟨⟨_,Z,(yG (n:=1) T.yZ Z Z Z hH83 Z (Heap.yU T.yZ hH83 (n:=0) Z) (by first | omega | (simp only [List.length_append,List.length_cons,List.length_nil]; omega)) (fun u84 lo86 hi87 w85 hH88=>(zE (⟨fun _ _=>(hH88.sub (sC (sC sR))),(yV [17] kz  _ _ _ kz (zI Z Z (zD T.yK Z) (zV (xN [18] kz Z (⟨⟨_,Z,(yS (n:=3) (j:=1) Z Z hH88 Z T.WF (SliceIs.cells (Heap.yU T.yZ hH88 (n:=1) Z).is) Z Z (SliceIs.one (Heap.yU T.yZ hH88 (n:=1) Z).is) (fun w89 hH90=>(zE (⟨(fun h=>by cases h),(uF kz ?_)⟩))))⟩,trivial⟩)))))⟩))))⟩,trivial⟩))⟩))))⟩,trivial⟩))))
   refine yC (zJ (region (oM hH90 Z (oY hH90 (zU Z Z om) (oA hH90 Z (zE (yX (j+1,u84,lo86,hi87) (uC Z (uC Z (uC Z (uC Z (uC Z (uC Z (uC Z (uC Z (uC Z (uC Z (uC Z (Sub.nil _)))))))))))) (⟨(Heap.recast (n:=0) (hH90.sub (sC sR)) Z ((Tn.turn_snoc om))),om⟩) om3)))))))
  refine zM Z (dF hc75) (exit (yR (xH (zW (zJ (seq ?_))))))
  have hje:j=sl.length:=by omega
  have hH92:=Heap.recast hH74 (n:=0) Z (show (Tn.turnTo sl j)=(Tn.turnTo sl sl.length) from by rw [hje])
  refine region (oA hH92 Z (zt (seq (zr (oM hH92 Z (oY hH92 (zX T.yE Z (Heap.yU T.zA hH92 (n:=6) Z).is) (oY hH92 (xI Z Z om) (oA hH92 Z (zt (block ?_))))))))))
  have hH93:=vJ (enc:=encI) 3 1 hH92
  refine loop (S:=Nat×Value×Nat×Nat) (fun (k,v_16,lo_16,hi_16)=>[(17,(.int .i64 ((tt.length:Int) - 1 - (k:Int)))),(16,v_16),(2,(.int .u8 fb)),(3,(.pointer (some ⟨b1,0,none⟩))),(6,(.bool false)),(7,p23),(8,(.int .i64 0)),(9,(.int .i64 ((Tn.ends sl tt).1))),(10,(.int .i64 ((Tn.ends sl tt).2))),(11,(.pointer (some ⟨b36,0,none⟩))),(12,(.pointer (some ⟨b41,0,none⟩))),(13,(.pointer (some ⟨b46,0,none⟩)))]) (fun (k,v_16,lo_16,hi_16) w1=>Heap [ow lo_16 hi_16 3 1 encI v_16 (Tn.revTo tt k),ow lo_b13 hi_b13 36 2 encP v_b13 (Tn.turnTo sl sl.length),ow lo_b12 hi_b12 3 1 encI v_b12 ((Tn.wants sl tt).reverse),bx b46 24 [(.int .i64 n),v_b13],bx b41 35 [(.int .i64 room),v_b12],bx b36 35 [(.int .i64 room),u30],ow lo31 hi32 3 1 encI u30 (Tn.wants sl tt),ow lo20 hi21 3 1 encI p23 tt,bx b1 24 [(.int .i64 n),v],base w] w1∧k≤tt.length) (fun (k,v_16,lo_16,hi_16)=>tt.length - k) (0,(.slice none 0 0),w73.heap.size,w73.heap.size) (Sub.cons (congrArg (fun z=>some (Value.int .i64 z)) om) (uC Z (uC Z (uC Z (uC Z (uC Z (uC Z (uC Z (uC Z (uC Z (uC Z (uC Z (Sub.nil _))))))))))))) ?_ ?_
  ·exact ⟨(Heap.recast (n:=0) hH93 Z ((Tn.rev_0 _).symm)),om⟩
  rintro ⟨k,v_16,lo_16,hi_16⟩ w94 ⟨hH95,hk⟩
  have hvl:=Tn.rev_len hk
  refine seq (zr (oM hH95 Z (oY hH95 (vK Z Z) (zt ?_))))
  by_cases hc96:0≤((tt.length:Int) - 1 - (k:Int))
  ·refine zP Z (dT hc96) (skip (zJ (seq (block (region (oM hH95 Z (oM hH95 Z (oY hH95 (xC (show ((tt.length:Int) - 1 - (k:Int))=((tt.length - 1 - k:Nat):Int) by omega) (y8 Z)) (oY hH95 (zN T.yE Z Z (Heap.yU T.zA hH95 (n:=7) Z).is om) (oY hH95 (zC T.yB Z (fun _ hw=>Rd.at (Heap.yU T.zA hw (n:=7) Z) (i:=((tt.length - 1 - k:Nat):Int)) om (j:=0) Z)) (yJ T.zA [nth tt ((tt.length - 1 - k:Nat):Int)] Z (fun w=>by kernel_rfl) hH95 (fun u97 lo99 hi100 w98 hH101=>(yG (n:=1) T.zA Z Z Z hH101 Z (Heap.yU T.zA hH101 (n:=0) Z) (by first | omega | (simp only [List.length_append,List.length_cons,List.length_nil]; omega)) (fun u102 lo104 hi105 w103 hH106=>(oA hH106 Z (zE (yC (zJ (region (oM hH106 Z (oY hH106 (xI Z Z om) (oA hH106 Z (zE ?_)))))))))))))))))))))))
   refine yX (k+1,u102,lo104,hi105) (Sub.cons (congrArg (fun z=>some (Value.int .i64 z)) om) (uC Z (uC Z (uC Z (uC Z (uC Z (uC Z (uC Z (uC Z (uC Z (uC Z (uC Z (Sub.nil _))))))))))))) (⟨(Heap.recast (n:=0) (hH106.sub (sC sR)) Z ((Tn.rev_snoc om))),om⟩) om3
  refine zM Z (dF hc96) (exit (yR (xH (zW (zJ (seq ?_))))))
  have hke:k=tt.length:=by omega
  have hH108:=Heap.recast hH95 (n:=0) Z (show (Tn.revTo tt k)=tt.reverse from by rw [hke]; exact Tn.rev_all _)
  have hrvl:tt.reverse.length=tt.length:=List.length_reverse
  have htul:=Tn.turn_len (sl:=sl) (Nat.le_refl _)
  have hrwl:(Tn.wants sl tt).reverse.length=(Tn.wants sl tt).length:=List.length_reverse
  refine region (oY hH108 (zZ (cs:=[(.int .i64 n),v_b13]) T.xX Z Z (fun _ hw=>Heap.yQ hw (n:=3) Z (k:=0) Z)) (oM hH108 Z ?_))
  have hev111:Fn Tryz.prog 9 [(.agg #[(.int .i64 n),v_b13]),v_16].toArray _ _:=c9 (Heap.yU T.yZ hH108 (n:=1) rfl) hb.turn (Heap.yU T.zA hH108 (n:=0) rfl) ht.turn
  simp only [Tn.ends_turn ht hl1] at hev111
  refine zS Z Z Z hH108 (hev111) (fun w109 hH110=>(oM hH110 Z (oY hH110 (zQ Z Z) (oY hH110 (zQ Z Z) (oY hH110 (zQ Z Z) (oA hH110 Z (oA hH110 Z (oA hH110 Z (zs (oY hH110 (zZ (cs:=[(.int .i64 room),u30]) T.vW Z Z (fun _ hw=>Heap.yQ hw (n:=5) Z (k:=0) Z)) (zS Z Z Z hH110 ((show Fn Tryz.prog 10 _ _ (fun u _=>u=.tuple #[.int .i64 (Sf.few room (Tn.wants sl tt):Int),.int .i64 0]) from by have h:=c15 (room:=room) (Heap.yU T.zA hH110 (n:=6) rfl) (by first | omega | (simp only [List.length_reverse]; omega)); simp only [Sf.fewest_t hday] at h; exact h)) (fun w112 hH113=>?_))))))))))))
  refine oM hH113 Z (oY hH113 (zQ Z Z) (oY hH113 (zQ Z Z) (oA hH113 Z (oA hH113 Z (zs (oY hH113 (zZ (cs:=[(.int .i64 room),v_b12]) T.vW Z Z (fun _ hw=>Heap.yQ hw (n:=4) Z (k:=0) Z)) ?_))))))
  have hev116:Fn Tryz.prog 10 [(.agg #[(.int .i64 room),v_b12])].toArray _ _:=(show Fn Tryz.prog 10 _ _ (fun u _=>u=.tuple #[.int .i64 (Sf.few room ((Tn.wants sl tt).reverse):Int),.int .i64 0]) from by have h:=c15 (room:=room) (Heap.yU T.zA hH113 (n:=2) rfl) (by first | omega | (simp only [List.length_reverse]; omega)); simp only [Sf.fewest_t (Tn.rev_day hday)] at h; exact h)
  simp only [Sf.few_revI hm1] at hev116
  refine zS Z Z Z hH113 (hev116) (fun w114 hH115=>(oM hH115 Z (oY hH115 (zQ Z Z) (oY hH115 (zQ Z Z) (oA hH115 Z (oA hH115 Z (zt (seq (zr (oM hH115 Z (oY hH115 (xM Z (yT Z Z)) (oM hH115 Z (zB Z Z Z (oM hH115 Z (zB Z Z Z (oM hH115 Z (zB Z Z Z (oY hH115 (xM (zH Z) (yT Z Z)) (oY hH115 (yA Z Z Z) (oM hH115 Z ?_))))))))))))))))))))
  refine zB Z Z Z (oM hH115 Z (zB Z Z Z (oM hH115 Z (zB Z Z Z (oY hH115 (xM (zH Z) (yT Z Z)) (oY hH115 (yA Z Z Z) (oM hH115 Z (zB Z Z Z (oM hH115 Z (zB Z Z Z (oY hH115 (xM Z (yT Z Z)) (oY hH115 (yA Z Z Z) (oM hH115 Z (zB Z Z Z (oM hH115 Z (zB Z Z Z (oY hH115 (xM Z (yT Z Z)) (oY hH115 (yA Z Z Z) (oM hH115 Z (zB Z Z Z (oM hH115 Z ?_)))))))))))))))))))))
  refine zB Z Z Z (oM hH115 Z (zB Z Z Z (oY hH115 (xM (zH Z) (yT Z Z)) (oY hH115 (yA Z Z Z) (zt (zM Z Z (skip (zu (oA hH115 Z (zt (seq (zr (oA hH115 Z (zt (block ?_)))))))))))))))
  refine loop (S:=Nat) (fun q=>[(25,(.int .i64 (q:Int))),(24,(.int .i64 (Sf.difTo (Tn.wants sl tt) q:Int))),(2,(.int .u8 fb)),(3,(.pointer (some ⟨b1,0,none⟩))),(6,(.bool false)),(7,p23),(8,(.int .i64 0)),(9,(.int .i64 ((Tn.ends sl tt).1))),(10,(.int .i64 ((Tn.ends sl tt).2))),(11,(.pointer (some ⟨b36,0,none⟩))),(20,(.int .i64 (Sf.few room (Tn.wants sl tt):Int)))]) (fun q w1=>Heap [ow lo_16 hi_16 3 1 encI v_16 (tt.reverse),ow lo_b13 hi_b13 36 2 encP v_b13 (Tn.turnTo sl sl.length),ow lo_b12 hi_b12 3 1 encI v_b12 ((Tn.wants sl tt).reverse),bx b46 24 [(.int .i64 n),v_b13],bx b41 35 [(.int .i64 room),v_b12],bx b36 35 [(.int .i64 room),u30],ow lo31 hi32 3 1 encI u30 (Tn.wants sl tt),ow lo20 hi21 3 1 encI p23 tt,bx b1 24 [(.int .i64 n),v],base w] w1∧q≤(Tn.wants sl tt).length) (fun q=>(Tn.wants sl tt).length - q) (0) (uC Z (uC Z (uC Z (uC Z (uC Z (uC Z (uC Z (uC Z (uC Z (uC Z (uC Z (Sub.nil _)))))))))))) ?_ ?_
  ·exact ⟨hH115,om⟩
  rintro q w117 ⟨hH118,hq⟩
  have hdl:=Sf.dif_le (Tn.wants sl tt) q
  refine seq (zr (oM hH118 Z (oY hH118 (zD T.vC Z) (oY hH118 (zC T.xL Z (cw (n:=5) Z Z)) (oY hH118 (zX T.yE Z (Heap.yU T.zA hH118 (n:=6) Z).is) (oY hH118 (yF Z Z) (zt ?_)))))))
  by_cases hc119:(q:Int)<((Tn.wants sl tt).length:Int)
  ·refine zP Z (dT hc119) (skip (zJ (seq (block (seq (z8 (fun w'=>Heap [ow lo_16 hi_16 3 1 encI v_16 (tt.reverse),ow lo_b13 hi_b13 36 2 encP v_b13 (Tn.turnTo sl sl.length),ow lo_b12 hi_b12 3 1 encI v_b12 ((Tn.wants sl tt).reverse),bx b46 24 [(.int .i64 n),v_b13],bx b41 35 [(.int .i64 room),v_b12],bx b36 35 [(.int .i64 room),u30],ow lo31 hi32 3 1 encI u30 (Tn.wants sl tt),ow lo20 hi21 3 1 encI p23 tt,bx b1 24 [(.int .i64 n),v],base w] w') T.mixed (fun w120 hr121=>?_)))))))
   have hH122:=hH118.redrawn hr121
   refine zR [0,1,2,3,4,5,6,7,8] kz hH122 _ _ _ kz (zI Z Z (zD T.vC Z) (zI Z Z (zC T.xL Z (cw (n:=5) Z Z)) (qM Z Z Z (zI Z Z (vF T.yE Z Z (Heap.yU T.zA hH122 (n:=6) Z).is om) (zI Z Z (zD T.vC Z) (zI Z Z (zC T.xL Z (cw (n:=5) Z Z)) (qM Z Z Z (zI Z Z (zN T.yE Z Z (Heap.yU T.zA hH122 (n:=6) Z).is om) (zI Z Z (zC T.yB Z (fun _ hw=>Rd.at (Heap.yU T.zA hw (n:=6) Z) (i:=(q:Int)) om (j:=0) Z)) (zV (z1 9 kz Z (zS Z Z Z hH122 (c11 (Rd.upto (Heap.yU T.zA hH122 (n:=6) Z) (hi:=(q:Int).toNat) om) (by first | omega | (rw [List.length_take]; omega))) (fun w123 hH124=>(zE (⟨hH124,(zR [10] kz hH124 _ _ _ kz (zI Z Z (xD Z) (zV (yH kz (zJ ?_)))))⟩)))))))))))))))
   by_cases hc125:(nth (Tn.wants sl tt) (q:Int))∈((Tn.wants sl tt).take (q:Int).toNat)
   ·refine zM Z (zH hc125) (skip (yC (zJ (region (oM hH124 Z (oY hH124 (zU Z Z om) (oA hH124 Z (zE (yX (q+1) (uC Z (Sub.cons (by first | exact congrArg (fun z=>some (Value.int .i64 z)) (Sf.dif_t (by assumption)).symm | exact congrArg (fun z=>some (Value.int .i64 z)) (Sf.dif_f (by assumption)).symm) (uC Z (uC Z (uC Z (uC Z (uC Z (uC Z (uC Z (uC Z (uC Z (Sub.nil _)))))))))))) (⟨hH124,om⟩) om3)))))))))
   refine zP Z (zG hc125) (region (oM hH124 Z (oY hH124 (zU Z Z om) (oA hH124 Z (zE (yC (zJ (region (oM hH124 Z (oY hH124 (zU Z Z om) (oA hH124 Z (zE (yX (q+1) (uC Z (Sub.cons (by first | exact congrArg (fun z=>some (Value.int .i64 z)) (Sf.dif_t (by assumption)).symm | exact congrArg (fun z=>some (Value.int .i64 z)) (Sf.dif_f (by assumption)).symm) (uC Z (uC Z (uC Z (uC Z (uC Z (uC Z (uC Z (uC Z (uC Z (Sub.nil _)))))))))))) (⟨hH124,om⟩) om3)))))))))))))
  refine zM Z (dF hc119) (exit (yR (xH (zW (zJ (seq (cut (S:=Unit) (fun _u=>[(203,(.bool false)),(2,(.int .u8 fb)),(3,(.pointer (some ⟨b1,0,none⟩))),(6,(.bool false)),(7,p23),(8,(.int .i64 0)),(9,(.int .i64 ((Tn.ends sl tt).1))),(10,(.int .i64 ((Tn.ends sl tt).2))),(11,(.pointer (some ⟨b36,0,none⟩))),(20,(.int .i64 (Sf.few room (Tn.wants sl tt):Int)))]) (fun _u w1=>Heap [ow lo_16 hi_16 3 1 encI v_16 (tt.reverse),ow lo_b13 hi_b13 36 2 encP v_b13 (Tn.turnTo sl sl.length),ow lo_b12 hi_b12 3 1 encI v_b12 ((Tn.wants sl tt).reverse),bx b46 24 [(.int .i64 n),v_b13],bx b41 35 [(.int .i64 room),v_b12],bx b36 35 [(.int .i64 room),u30],ow lo31 hi32 3 1 encI u30 (Tn.wants sl tt),ow lo20 hi21 3 1 encI p23 tt,bx b1 24 [(.int .i64 n),v],base w] w1) ?_ ?_)))))))
  ·have hqe:q=(Tn.wants sl tt).length:=by omega
   have hdif:(Sf.difTo (Tn.wants sl tt) q:Int)≤room→(Sf.few room (Tn.wants sl tt):Int)=(Sf.difTo (Tn.wants sl tt) q:Int):=fun h=>by rw [hqe] at h ⊢; exact Sf.few_difI hm1 h
   refine region (oM hH118 Z (oY hH118 (zD T.q6 Z) (oY hH118 (zC T.yB Z (cw (n:=5) Z Z)) (oY hH118 (jY Z Z) (oM hH118 Z ?_)))))
   by_cases hc126:(Sf.difTo (Tn.wants sl tt) q:Int)≤room
   ·refine zB Z Z (dT hc126) (oM hH118 Z (zB Z Z (dT hc126) (oM hH118 Z (zB Z Z (dT hc126) (oY hH118 (yT Z Z) (oY hH118 (z7 Z (dT hc126) Z) (zE (VC () (Sub.cons (by first | rfl | (have h9:=hdif (by assumption); simp [ev,h9]; done) | (have h9:=hdif (by assumption); exact congrArg (fun b=>some (Value.bool b)) (show (!decide ((Sf.few room (Tn.wants sl tt):Int)=(Sf.difTo (Tn.wants sl tt) q:Int)))=false from by rw [dT h9]; rfl)) | (have h9:=hdif (by assumption); exact congrArg (fun b=>some (Value.bool b)) (dF (fun h=>h h9)))) (uC Z (uC Z (uC Z (uC Z (uC Z (uC Z (uC Z (uC Z (uC Z (Sub.nil _))))))))))) ?_))))))))
    exact hH118
   refine zF Z Z (dF hc126) Z (zF Z Z (dF hc126) Z (zF Z Z (dF hc126) Z (oY hH118 (yA Z (dF hc126) Z) (zE (VC () (Sub.cons (by first | rfl | (have h9:=hdif (by assumption); simp [ev,h9]; done) | (have h9:=hdif (by assumption); exact congrArg (fun b=>some (Value.bool b)) (show (!decide ((Sf.few room (Tn.wants sl tt):Int)=(Sf.difTo (Tn.wants sl tt) q:Int)))=false from by rw [dT h9]; rfl)) | (have h9:=hdif (by assumption); exact congrArg (fun b=>some (Value.bool b)) (dF (fun h=>h h9)))) (uC Z (uC Z (uC Z (uC Z (uC Z (uC Z (uC Z (uC Z (uC Z (Sub.nil _))))))))))) ?_)))))
   exact hH118
  rintro _u w127 hH128
  refine zM Z Z (skip (zJ (seq (zr (oM hH128 Z (oM hH128 Z (oY hH128 (yT Z Z) (zt ?_))))))))
  by_cases hc129:((Tn.ends sl tt).1)=((Tn.ends sl tt).2)
  ·have hc:(Tn.ends sl tt).1=(Tn.ends sl tt).2:=by have hq:=(zH hc129); omega
   refine zM Z (zH hc129) (skip (zJ (seq ?_)))
   obtain ⟨a,ha0,ha⟩:∃ a:Nat,fb % (tt.length:Int)=(a:Int)∧a<tt.length:=⟨(fb % (tt.length:Int)).toNat,by have:=Int.emod_nonneg fb (show (tt.length:Int)≠0 by omega); omega,by have:=Int.emod_lt_of_pos fb (show 0<(tt.length:Int) by omega); have:=Int.emod_nonneg fb (show (tt.length:Int)≠0 by omega); omega⟩
   have hmv:=ht.moved hl1 hc ha
   have hem:=Tn.ends_moved ht hl1 hc ha
   have hml:=Tn.moved_len (t:=tt) (a:=a) (by omega)
   have hdm:=Tn.wants_day hmv hb h11 ⟨hm1,hm2⟩
   have hfm:=Tn.few_movedI hm1 ht hb hc ha
   have hf1:=Sf.few_len hm1 (Tn.wants sl tt)
   have hf2:=Sf.few_len hm1 (Tn.wants sl (Tn.moved tt a))
   have hwm:=Tn.wants_len sl (Tn.moved tt a)
   have hda:(tt.drop (a:Int).toNat).length=tt.length - (a:Int).toNat:=List.length_drop
   have hta:(tt.take (a:Int).toNat).length≤tt.length:=by rw [List.length_take]; omega
   refine region (oM hH128 Z (oY hH128 (jT Tryz.underlying5 Tryz.underlying3 Z (kQ om)) (oM hH128 Z (oY hH128 (zX T.yE Z (Heap.yU T.zA hH128 (n:=7) Z).is) (oY hH128 (xC ha0 (yv_rem Z Z om om)) (oA hH128 Z (zt (seq (z8 (fun w'=>True) T.mixed (fun w130 hr131=>?_))))))))))
   have hH132:=hH128.redrawn hr131
   refine zR [1,2,3,5,6,7] kz trivial _ _ _ kz (qM Z Z Z (qM Z Z Z (zI Z Z (vP T.yE Z Z (Heap.yU T.zA hH132 (n:=7) Z).is om) (qM Z Z Z (qM Z Z Z (zI Z Z (vF T.yE Z Z (Heap.yU T.zA hH132 (n:=7) Z).is om) (zV (z1 0 kz Z (yJ T.zA ([]:List Int) Z (fun w=>by kernel_rfl) hH132 (fun u133 lo135 hi136 w134 hH137=>(zE (⟨trivial,(z1 4 kz Z (yG (n:=0) T.zA Z Z Z hH137 Z (Rd.from (Heap.yU T.zA hH137 (n:=8) Z) (lo:=(a:Int).toNat) om) (by first | omega | (simp only [List.length_append,List.length_cons,List.length_nil]; omega)) (fun u138 lo140 hi141 w139 hH142=>(zE (⟨trivial,(z1 8 kz Z (yG (n:=0) T.zA Z Z Z hH142 Z (Rd.upto (Heap.yU T.zA hH142 (n:=8) Z) (hi:=(a:Int).toNat) om) (by first | omega | (simp only [List.length_append,List.length_cons,List.length_nil]; omega)) (fun u143 lo145 hi146 w144 hH147=>(zE ?_))))⟩)))))⟩))))))))))))
   refine ⟨trivial,(zR [9] kz trivial _ _ _ kz (zI Z Z (yO Z) (zV (yH kz (zJ (seq ?_))))))⟩
   have hH148:=Heap.recast hH147 (n:=0) Z (show _=Tn.moved tt a from by rw [Int.toNat_natCast]; rfl)
   refine region (oY hH148 (zZ (cs:=[(.int .i64 n),v]) T.xX Z Z (fun _ hw=>Heap.yQ hw (n:=9) Z (k:=0) Z)) (oM hH148 Z (zS Z Z Z hH148 (c9 (h0.now hH148 (n:=10) Z) hb (Heap.yU T.zA hH148 (n:=0) Z) hmv) (fun w149 hH150=>(oM hH150 Z (oY hH150 (zQ Z Z) (oY hH150 (zQ Z Z) (oY hH150 (zQ Z Z) (oA hH150 Z (oA hH150 Z (oA hH150 Z (zt (seq (zr (oM hH150 Z (oY hH150 (xM Z (yT Z Z)) (oM hH150 Z (zB Z Z Z (oM hH150 Z (zB Z Z Z ?_))))))))))))))))))))
   refine oM hH150 Z (zB Z Z Z (oY hH150 (yT Z Z) (oY hH150 (yA Z Z Z) (zt ?_))))
   have hc151:¬ (¬ (((Tn.ends sl (Tn.moved tt a)).1)=((Tn.ends sl (Tn.moved tt a)).2))):=by omega
   refine zM Z (yW hc151) (skip (zJ (seq (z8 (fun w'=>Heap [ow lo145 hi146 3 1 encI u143 (Tn.moved tt a),ow lo_16 hi_16 3 1 encI v_16 (tt.reverse),ow lo_b13 hi_b13 36 2 encP v_b13 (Tn.turnTo sl sl.length),ow lo_b12 hi_b12 3 1 encI v_b12 ((Tn.wants sl tt).reverse),bx b46 24 [(.int .i64 n),v_b13],bx b41 35 [(.int .i64 room),v_b12],bx b36 35 [(.int .i64 room),u30],ow lo31 hi32 3 1 encI u30 (Tn.wants sl tt),ow lo20 hi21 3 1 encI p23 tt,bx b1 24 [(.int .i64 n),v],base w] w') T.mixed (fun w152 hr153=>?_)))))
   have hH154:=hH150.redrawn hr153
   refine zR [0,1,2,3] kz hH154 _ _ _ kz (zI Z Z (zD T.q6 Z) (zI Z Z (zC T.yB Z (cw (n:=6) Z Z)) (zI Z Z (zZ (cs:=[(.int .i64 n),v]) T.xX Z Z (fun _ hw=>Heap.yQ hw (n:=9) Z (k:=0) Z)) (qM Z Z Z (zV (z1 4 kz Z (xR Z Z Z hH154 (c8 (h0.now hH154 (n:=10) Z) hb (Heap.yU T.zA hH154 (n:=0) Z) hmv) (fun u157 w155 lo158 hi159 hH156 hv160=>?_))))))))
   have hH161:=Heap.vX hH156 (n:=0) Z
   refine zE (⟨(hH161.sub (sC sR)),?_⟩)
   obtain ⟨_,_,hb162,_⟩:=(Heap.yU T.zA hH161 (n:=0) rfl).is
   refine zR [5] kz (hH161.sub (sC sR)) _ _ _ kz (zI Z Z (xQ (v:=(.agg #[(.int .i64 room),u157])) Z (fun w=>by rw [hb162]; kernel_rfl)) (zV (z1 6 kz Z (zS Z Z Z hH161 ((show Fn Tryz.prog 10 _ _ (fun u _=>u=.tuple #[.int .i64 (Sf.few room (Tn.wants sl (Tn.moved tt a)):Int),.int .i64 0]) from by have h:=c15 (room:=room) (Heap.yU T.zA hH161 (n:=0) rfl) (by first | omega | (simp only [List.length_reverse]; omega)); simp only [Sf.fewest_t hdm] at h; exact h)) (fun w163 hH164=>?_)))))
   refine zE (⟨(hH164.sub (sC sR)),(zR [7,8,9,10,11] kz (hH164.sub (sC sR)) _ _ _ kz (qM Z Z Z (zI Z Z (zQ Z Z) (zI Z Z (zQ Z Z) (zI Z Z (yO Z) (zI Z Z (yO Z) (zV (yH kz (zu (oM hH164 Z (oY hH164 (xM Z (xJ Z Z)) (oM hH164 Z (zB Z Z Z (oM hH164 Z (zB Z Z Z (oM hH164 Z (zB Z Z Z (oY hH164 (zD T.q6 Z) ?_))))))))))))))))))⟩)
   refine zB Z Z Z (oY hH164 (zC T.yB Z (cw (n:=7) Z Z)) (zB Z Z Z (oY hH164 (zU Z Z om) (zB Z Z Z (oY hH164 (zU Z Z om) (zB Z Z Z (oY hH164 (jY Z Z) (oY hH164 (z7 Z Z Z) (oM hH164 Z ?_)))))))))
   have hc165:(Sf.few room (Tn.wants sl (Tn.moved tt a)):Int)≤(((Sf.few room (Tn.wants sl tt):Int)+room)+1):=by omega
   refine zB Z Z (dT hc165) (oM hH164 Z (zB Z Z (dT hc165) (oM hH164 Z (zB Z Z (dT hc165) (oY hH164 (zD T.q6 Z) (zB Z Z (dT hc165) (oY hH164 (zC T.yB Z (cw (n:=7) Z Z)) (zB Z Z (dT hc165) (oY hH164 (zU Z Z om) (zB Z Z (dT hc165) (oY hH164 (zU Z Z om) (zB Z Z (dT hc165) (oY hH164 (jY Z Z) (oY hH164 (z7 Z (dT hc165) Z) (oM hH164 Z ?_)))))))))))))))
   have hc166:(Sf.few room (Tn.wants sl tt):Int)≤(((Sf.few room (Tn.wants sl (Tn.moved tt a)):Int)+room)+1):=by omega
   refine zB Z Z (dT hc166) (zS Z Z Z hH164 (c5) (fun w167 hH168=>(oY hH168 (z7 Z (dT hc166) Z) (oA hH168 Z (zt (ret (fin (hH168.sub (sC (sC (sC (sC (sC (sC (sC (sC (sC (sC (sC sR)))))))))))) (fun w' hf=>(yI Z (rt Z))) (fun w' hf=>Z))))))))
  refine zP Z (zG hc129) (zr (zS Z Z Z hH128 (c5) (fun w170 hH171=>(oA hH171 Z (zt (ret (yP (fin (hH171.sub (sC (sC (sC (sC (sC (sC (sC (sC (sC sR)))))))))) (fun w' hf=>(yI Z (rt Z))) (fun w' hf=>Z)))))))))
 refine zP Z (zG hc10) (zr (zS Z Z Z hH9 (c5) (fun w173 hH174=>(oA hH174 Z (zt (ret (yP (fin (hH174.sub (sC sR)) (fun w' hf=>(yI Z (rt Z))) (fun w' hf=>Z)))))))))
end Go.Fip
