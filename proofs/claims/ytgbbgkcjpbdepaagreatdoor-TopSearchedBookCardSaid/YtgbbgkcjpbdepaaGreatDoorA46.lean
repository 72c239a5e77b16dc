/- Joined texts: what the statement needs, walks by program (wip/tools). -/
import Derived.Test.YtgbbgkcjpbdepaaGreatDoorProg
import GoSem.ClaimDataLaid
import Derived.KernelRfl
import Derived.Test.YtgbbgkcjpbdepaaGreatDoorRows
import Derived.Test.YtgbbgkcjpbdepaaGreatDoorA3
import Derived.Test.YtgbbgkcjpbdepaaGreatDoorA45
import Derived.Deep.Slices
import Derived.LaidMore
import Derived.Lay
import Derived.Lib.LaidU8
import Derived.Stop.Joined
import Derived.Shelf.Vars
import GoSem.ClaimGoes
import Derived.JoinedOf
set_option linter.unusedVariables false
set_option linter.unusedSimpArgs false
set_option linter.unusedSectionVars false
set_option linter.unnecessarySimpa false
set_option maxRecDepth 100000
namespace Go.Proofs.YtgbbgkcjpbdepaaGreatDoor
open Go
theorem tsize:Tryz.prog.types.size=748:=by kernel_rfl
theorem ZG:((List.range 94).all fun j=>rowFine Tryz.prog (0+j))=true:=by kernel_rfl
theorem kV:((List.range 94).all fun j=>rowFine Tryz.prog (94+j))=true:=by kernel_rfl
theorem jU:((List.range 94).all fun j=>rowFine Tryz.prog (188+j))=true:=by kernel_rfl
theorem kF:((List.range 94).all fun j=>rowFine Tryz.prog (282+j))=true:=by kernel_rfl
theorem kJ:((List.range 94).all fun j=>rowFine Tryz.prog (376+j))=true:=by kernel_rfl
theorem kD:((List.range 94).all fun j=>rowFine Tryz.prog (470+j))=true:=by kernel_rfl
theorem jV:((List.range 94).all fun j=>rowFine Tryz.prog (564+j))=true:=by kernel_rfl
theorem jQ:((List.range 90).all fun j=>rowFine Tryz.prog (658+j))=true:=by kernel_rfl
theorem fineG:(Tryz.prog.globals.toList.all fun g=>decide (g.type<748))=true:=by kernel_rfl
theorem fineF:(Tryz.prog.funcs.toList.all fun f=>f.params.toList.all fun t=>decide (t<748))=true:=by kernel_rfl
theorem yW {lo m i:Nat} (h:((List.range m).all fun j=>rowFine Tryz.prog (lo+j))=true) (h1:lo≤i) (h2:i<lo+m):rowFine Tryz.prog i=true:=by
 have:=List.all_eq_true.1 h (i - lo) (List.mem_range.2 (by omega))
 rwa [show lo+(i - lo)=i by omega] at this
theorem laidO:laidOutB Tryz.prog=true:=by
 unfold laidOutB
 rw [tsize, ← Array.all_toList, ← Array.all_toList]
 simp only [Bool.and_eq_true]
 refine ⟨⟨List.all_eq_true.2 fun i hi=>?_,fineG⟩,?_⟩
 ·have hi:=List.mem_range.1 hi
  by_cases h0:i<94
  ·exact yW ZG (by omega) (by omega)
  by_cases h94:i<188
  ·exact yW kV (by omega) (by omega)
  by_cases h188:i<282
  ·exact yW jU (by omega) (by omega)
  by_cases h282:i<376
  ·exact yW kF (by omega) (by omega)
  by_cases h376:i<470
  ·exact yW kJ (by omega) (by omega)
  by_cases h470:i<564
  ·exact yW kD (by omega) (by omega)
  by_cases h564:i<658
  ·exact yW jV (by omega) (by omega)
  exact yW jQ (by omega) (by omega)
 ·rw [List.all_eq_true]
  intro f hf
  rw [← Array.all_toList]
  exact List.all_eq_true.1 fineF f hf
end Go.Proofs.YtgbbgkcjpbdepaaGreatDoor
set_option maxRecDepth 100000
namespace Go.Proofs.YtgbbgkcjpbdepaaGreatDoor
open Go.ChangeShapes Go.WideShapes Go.ChangeAt Go.RowKit Go.Fip
theorem own:ownKnob Tryz.prog.godebug=none:=by kernel_rfl
section
variable {H : Type} {enc : TypeId × Value → H} {W : World} {b : Nat} {v : Value} {d : DataW H} {ps : List MemPlace}
theorem v8 (ab ao o:Nat):(⟨ab,ao,none⟩:Addr).add o=⟨ab,ao+o,none⟩:=by
 unfold Addr.add
 split
 ·subst_vars; rfl
 ·rfl
theorem qF {n:Nat} {cs:List Value} {x:DataW H×List MemPlace} (h:DataW.trod enc Tryz.prog W 0 (fun _=>true) true n 38 cs=some x):∃ e:En,cs=encE e:=by
 obtain ⟨xs,k,hk,hxy,hlen,hxl,hf⟩:=DataW.trod_struct Tryz.underlying38 h
 have hc:Tryz.prog.cellsOf 38=5:=by kernel_rfl
 have hc2:Tryz.prog.cellsOf 2=1:=by kernel_rfl
 rw [hc] at hlen
 match cs,hlen with
 | [v0,v1,v2,v3,v4],_ =>
  match xs,hxl with
  | [y0,y1,y2,y3,y4],_ =>
   have g0:=hf 0 _ rfl
   have g1:=hf 1 _ rfl
   have g2:=hf 2 _ rfl
   have g3:=hf 3 _ rfl
   have g4:=hf 4 _ rfl
   simp [hc2] at g0 g1 g2 g3 g4
   obtain ⟨n0,e0,_,_⟩:=DataW.trod_int Tryz.underlying2 g0
   obtain ⟨n1,e1,_,_⟩:=DataW.trod_int Tryz.underlying2 g1
   obtain ⟨n2,e2,_,_⟩:=DataW.trod_int Tryz.underlying2 g2
   obtain ⟨n3,e3,_,_⟩:=DataW.trod_int Tryz.underlying2 g3
   obtain ⟨n4,e4,_,_⟩:=DataW.trod_int Tryz.underlying2 g4
   simp only [List.cons.injEq,and_true] at e0 e1 e2 e3 e4
   subst e0 e1 e2 e3 e4
   exact ⟨⟨n0,n1,n2,n3,n4⟩,rfl⟩
theorem uT {fuel : Nat} {x : DataW H × List MemPlace} (hok : Cell.okWide Tryz.prog W .any b 22 v) (h : DataW.trod enc Tryz.prog W 0 (fun _ => true) true fuel 22 [v] = some x) : ∃ l : List En, Rd encE 5 v l W := by
  rcases Go.Deep.open_slice Tryz.underlying22 h with ⟨e1, _⟩ | ⟨a, len, cap, m, n, D, Pl, e1, _, h2, _, h4, _, h6⟩
  · cases e1
    exact ⟨[], ⟨none, 0, rfl, Nat.le_refl _, .inl ⟨rfl, rfl⟩⟩, fun i x hx => by simp at hx⟩
  · cases e1
    simp [Cell.okWide, Cell.ok, Tryz.underlying22] at hok
    have hsp : a.spot = none := hok.2.2.2.1
    obtain ⟨ab, ao, asp⟩ := a
    simp only at hsp
    subst hsp
    simp only [if_true] at h4
    have hc : Tryz.prog.cellsOf 38 = 5 := by kernel_rfl
    have each : ∀ i, i < len → ∃ e : En, ∀ j u, (encE e)[j]? = some u → W.cell? ⟨ab, ao + i * 5 + j, none⟩ = some u := fun i hi => by
      obtain ⟨cs', h9, h10⟩ := h6 i (by omega)
      rw [hc] at h9
      obtain ⟨e, rfl⟩ := qF h10
      obtain ⟨_, hlen, hcell⟩ := World.cells?_some h9
      refine ⟨e, fun j u hj => ?_⟩
      have hj5 : j < 5 := by
        have := (List.getElem?_eq_some_iff.1 hj).1
        exact this
      have h11 := hcell j (by omega)
      rw [v8, v8] at h11
      rw [h11]
      exact hj
    obtain ⟨p, hp⟩ := Go.Deep.choose_lt each
    refine ⟨(List.range len).map p, ⟨some ⟨ab, ao, none⟩, cap, by simp, by simpa using h2, .inr ⟨ab, ao, rfl⟩⟩, fun i x hx j u hj => ?_⟩
    rw [List.getElem?_map] at hx
    by_cases hi : i < len
    · rw [List.getElem?_range hi] at hx
      simp at hx
      subst hx
      exact hp i hi j u hj
    · rw [List.getElem?_eq_none (by simp; omega)] at hx
      simp at hx
set_option maxRecDepth 100000 in
theorem argBook (hok:Value.okWide Tryz.prog W .any b 24 v) (h:DataW.Trod enc Tryz.prog W 0 (fun _=>true) true 24 v d ps):∃ (s:Value) (l:List En),v=.agg #[s]∧Rd encE 5 s l W:=by
 obtain ⟨fuel,h⟩:=h
 simp only [Value.okWide,Tryz.underlying24] at hok
 obtain ⟨cs,rfl,hsz,ts,hts,_,hrow⟩:=hok
 have hct:Tryz.prog.cellTypes Tryz.prog.depth 24=some [22]:=by kernel_rfl
 have hcs:Tryz.prog.cellsOf 24=1:=by kernel_rfl
 have hc22:Tryz.prog.cellsOf 22=1:=by kernel_rfl
 rw [hct] at hts
 cases hts
 rw [hcs] at hsz
 obtain ⟨x,rfl⟩:∃ x,cs = #[x]:=by
  obtain ⟨l⟩:=cs
  match l,hsz with
  | [x],_=>exact ⟨x,rfl⟩
 have hcells:(Value.agg #[x]).cells.toList=[x]:=rfl
 rw [hcells] at h
 obtain ⟨xs,n,_,_,_,hl,hf⟩:=DataW.trod_struct Tryz.underlying24 h
 have g0:=hf 0 _ rfl
 match xs,hl with
 | [a0],_ =>
  simp [hc22] at g0
  obtain ⟨u0,hu0,k0⟩:=hrow 0 x rfl
  simp at hu0
  subst hu0
  obtain ⟨l,hl2⟩:=uT k0 g0
  exact ⟨x,l,rfl,hl2⟩
theorem argInt {t:Nat} {k:IntKind} (ht:Tryz.prog.underlying t=some (.int k)) (hok:Value.okWide Tryz.prog W .any b t v) (h:DataW.Trod enc Tryz.prog W 0 (fun _=>true) true t v d ps):∃ a:Int,v=.int k a∧(Lit.int k a).wf=true:=by
 obtain ⟨a,rfl,_,_,w⟩:=open_int ht hok h
 exact ⟨a,rfl,w⟩
end
section
variable {W : World}
theorem qA {n:String} {g:Nat} {cs:Array Value} (hg:Tryz.prog.globalNamed n=some g) (h:W.var? Tryz.prog n=some cs):∃ E fz,W.heap[g]? = some (.cells cs E fz):=by
 simp only [World.var?,hg,Option.bind_some] at h
 split at h
 ·rename_i c E fz e
  cases h
  exact ⟨E,fz,e⟩
 ·cases h
theorem YO (h:laidMet Tryz.prog Rows.topSearchedBookRow.laid W):Gl W:=by
 have htab:∃ E fz,W.heap[0]? = some (.cells ((Lib.pow10Tab.map fun z=>Value.int .u64 z).toArray) E fz):=by
  obtain ⟨g,t,cs,fuel,p,hg,ht,hv,hd⟩:=Lib.laidMet.reads h (n := "internal/strconv.uint64pow10") (d:=Rows.laid_internal_strconv_uint64pow10) (.head _)
  obtain rfl:=Option.some.inj ((show Tryz.prog.globalNamed "internal/strconv.uint64pow10" = some 0 by kernel_rfl).symm.trans hg)
  obtain rfl:=Option.some.inj ((show (Tryz.prog.globals[0]?).map (·.type)=some 356 by kernel_rfl).symm.trans ht)
  have hu:Tryz.prog.underlying 356=some (.array 20 51):=Tryz.underlying356
  have hce:Tryz.prog.cellsOf 51=1:=by kernel_rfl
  have hct:Tryz.prog.cellsOf 356=20:=by kernel_rfl
  have:=Lib.cells_of_tab (zs:=Lib.pow10Tab) hu Tryz.underlying51 hce hct (show DataW.trod (fun _=>()) Tryz.prog W 0 (fun _=>true) false fuel 356 cs.toList=some (Lib.tabData .u64 Lib.pow10Tab,p) from hd)
  obtain ⟨E,fz,e⟩:=qA hg hv
  rw [← this]
  exact ⟨E,fz,by simpa using e⟩
 have htz:∃ cs E fz,W.heap[7]? = some (.cells cs E fz)∧cs[15]? = some (.int .u8 4):=by
  obtain ⟨g,t,cs,fuel,p,hg,ht,hv,hd⟩:=Lib.laidMet.reads h (n := "math/bits.deBruijn64tab") (d:=Rows.laid_math_bits_deBruijn64tab) (.tail _ (.tail _ (.head _)))
  obtain rfl:=Option.some.inj ((show Tryz.prog.globalNamed "math/bits.deBruijn64tab" = some 7 by kernel_rfl).symm.trans hg)
  obtain rfl:=Option.some.inj ((show (Tryz.prog.globals[7]?).map (·.type)=some 469 by kernel_rfl).symm.trans ht)
  have hu:Tryz.prog.underlying 469=some (.array 64 5):=Tryz.underlying469
  have hce:Tryz.prog.cellsOf 5=1:=by kernel_rfl
  have hct:Tryz.prog.cellsOf 469=64:=by kernel_rfl
  have h1:=Lib.cells_of_tab (zs:=[0,1,56,2,57,49,28,3,61,58,42,50,38,29,17,4,62,47,59,36,45,43,51,22,53,39,33,30,24,18,12,5,63,55,48,27,60,41,37,16,46,35,44,21,52,32,23,11,54,26,40,15,34,20,31,10,25,14,19,9,13,8,7,6]) hu Tryz.underlying5 hce hct (show DataW.trod (fun _=>()) Tryz.prog W 0 (fun _=>true) false fuel 469 cs.toList=some (Lib.tabData .u8 _,p) from hd)
  obtain ⟨E,fz,e⟩:=qA hg hv
  refine ⟨cs,E,fz,e,?_⟩
  rw [← Array.getElem?_toList,h1]
  rfl
 exact ⟨by obtain ⟨cs,E,fz,e,_⟩:=htz; have:=(Array.getElem?_eq_some_iff.1 e).1; exact this,htab,htz⟩
end
theorem vV {H : Type} {enc : TypeId × Value → H} {a : Assume} {C : Checked} {os : Os} {f : FuncId} {fn : Func} {s : ChangeSpec} {conds : List PathCond} {apart fresh handsOn again : Bool} {X : World → Array Value → Prop}
    (hX : ∀ (w w' : World) (args : Array Value), w.heap = w'.heap → X w args → X w' args)
    (own : ownKnob C.prog.godebug = none) (started : os.Started) (noInit : C.prog.inits.idxOf? f = none) (hfn : C.prog.funcs[f]? = some fn)
    (witness : ∃ (w : World) (tape : Tape) (i : Input), w.os = os ∧ (w.forCall tape i).Shaped C.prog ∧ i.vars = [] ∧ Input.okWide C.prog (w.forCall tape i) .any w.heap.size f i ∧
      ((s.pre enc C.prog fn conds apart (w.forCall tape i).memory i.args ∧ X (w.forCall tape i).memory i.args) ∧ sizedMet enc C.prog fn (OpenSpec.ofChange s) apart (w.forCall tape i).memory i.args) ∧ a.holds C.prog (lone (Frame.enter C.prog f i.args .normal) [] (w.forCall tape i)))
    (contract : ∀ (W : World) (base : Nat) (args : Array Value) (ds gs : List (DataW H)) (before : List MemPlace),
      (∀ (j : Nat) t v, fn.params[j]? = some t → args[j]? = some v → Value.okWide C.prog W .any base t v) →
      DataW.Whole enc C.prog fn.params.toList s.vars apart W args.toList ds gs before → X W args → W.ShapedOpen C.prog →
      Calls C.prog f args W fun e W' => ∃ v, e = .returned v ∧ s.post enc C.prog fn apart fresh handsOn again W args v W') :
    ReturnsInHanded a C os f .any (fun w args => (s.pre enc C.prog fn conds apart w args ∧ X w args) ∧ sizedMet enc C.prog fn (OpenSpec.ofChange s) apart w args) (s.post enc C.prog fn apart fresh handsOn again) := by
  refine returnsInHanded_of_calls own started noInit witness ?_
  intro w tape i _ hsh _ hok hpre hholds
  obtain ⟨_, _, _, fn', hfn', _, _, _, _, hval⟩ := hok
  have e : fn' = fn := Option.some.inj (hfn'.symm.trans hfn)
  subst e
  obtain ⟨⟨⟨ds, gs, before, hw, hc⟩, hx⟩, hz⟩ := hpre
  have hw' := DataW.Whole.of_heap (w' := w.forCall tape i) (by rfl) hw
  refine (contract (w.forCall tape i) w.heap.size i.args ds gs before hval hw' (hX _ _ _ (by rfl) hx) hsh).mono fun e W' ⟨v, he, hp⟩ => ?_
  subst he
  exact ChangeSpec.post_blind hp
end Go.Proofs.YtgbbgkcjpbdepaaGreatDoor
set_option maxRecDepth 100000
namespace Go.Proofs.YtgbbgkcjpbdepaaGreatDoor
open Go
def q9:List (List FuncId):=[[],[],[1],[4,5,6,7,8,9,10,11,5],[12,13],[14,15],[16,17],[18],[],[19,20,21],[22,16,23],[24,4,9,25,24,26,27],[],[],[28,29],[30,31,31,32,24,9,9,26,26,33,34,25,33,34,25,34,27,34,27,35,36,37,38,37,34,39,34,39,40,40],[42,41],[17,17,43,44,45],[18,18],[47,48],[49,41],[50,51],[16,52],[],[19,53],[54,55,20,20,57,56,50,58,59,59],[19,20,60],[20,20,61],[62,63],[64,64,64,66,65,66,65,67,67,68,68,70,69,70,69,71,72,73,74,75,76,77,78,78,66,79,70,80,70,80,64,81,70,80,70,80,64,81,64,81,64,81],[33,33,33],[19,20,82],[56],[],[],[47,47,83,85,84,86,87],[19,57,88,53,89,88,90],[91,92,93,94,19,53,89],[],[],[],[95],[],[96],[],[46],[97],[98,54,98,55,99,98,100,87],[101],[],[102],[],[103,104,105,52,52],[56],[20,20,20,20],[],[],[106,107],[108],[89,89,56],[101,51],[51,59,59,59],[109,110],[111,112,113,114,114,116,115,116,115,117,117,118,118,119,119,120,116,121,116,121,116,122,116,122,123,116,116,125,124,116,116,125,124,126,120,127,129,129,129,129,128,129,129,130,116,131,116,131,133,132,116,131],[],[134,135,136],[],[68],[134,137,138,135],[134,139,135,137],[],[134,138,135,137],[134,140],[72,104],[134,141,142],[134,139,143],[134],[139],[139,144,144],[],[],[],[145],[],[],[],[147,146],[149,149,148],[150],[151,152],[],[153],[91,154],[155],[157,156,158,160,159,162,161],[],[],[163,163],[164],[]]
theorem YT:((Tryz.prog.funcs.toList.drop 0).take 100).map Tryz.prog.leadsTo=q9:=by kernel_rfl
def qZ:List (List FuncId):=[[],[57,56,51,101,101,59],[51],[],[103],[],[165],[166,88,88,88,90],[],[167,168],[169,170,22,170,22,10,10,171,170,171,172,173,174,176,175,177,179,178,179,178,6,180,181,182,170,183,183,170,183,179,184,170,183,170,183],[185,185,185,185],[185,185],[186,188,187,189,187],[186,188,190,189,190],[186,191,104,188,189],[],[186,188,189,192],[186,189,190,189,193,189],[186,191,194],[195,196,197],[195,191,104,104],[186,198],[186,200,199],[186,201,202,191,203,198,204],[],[186,200,205],[206,206,207,208,209],[],[],[210,210,207,208,208],[],[],[],[211],[],[],[],[212],[214,213],[138,135,135],[],[],[138,135],[],[215],[216,217,218,219,220,221,222,223,146,146],[224,225],[],[226,226],[227],[228],[229,230,230,230,230,230,166,88,231,231,231,90,88,90],[232,233,234],[235,106],[236],[],[],[],[237],[237],[238,239],[240,239],[],[],[241,242,243,244],[150,245],[246,247],[248,249,250,251,252,254,254,253,252,255,255,256,256,254,254,253,257,254,254,253,258,254,259,254,259,254,254,253,260,254,254,253,260,261,262,254,263,254,264,254,264,265,266,267,267,268,254,254,254,253,267,254,254,253,267,254,254,253,267],[176],[],[269,22],[270,272,271],[270,272,273],[270,272,274],[270,16,276,275],[],[270,271],[270,16,277,278,272],[176,176,176,176],[16,279],[22,281,280,46],[16,279,16,281],[],[282],[129],[195,196],[283],[],[],[187],[284,213],[285,190,46],[283,286],[188,189,285,287,187,193,190],[288,191,289,198,104],[],[290,104],[191],[292,291]]
theorem ZP:((Tryz.prog.funcs.toList.drop 100).take 100).map Tryz.prog.leadsTo=qZ:=by kernel_rfl
def qN:List (List FuncId):=[[290,290,293],[294],[],[147,295],[296],[],[210,210,297],[],[],[],[298,208],[299,139,300],[],[301],[],[],[],[302,302],[303,304],[305,305,305,306],[],[],[],[],[],[],[],[],[241,242,243,244],[307,308],[236],[],[309,238],[309,310,234],[311],[312,313],[],[],[314],[315],[316,238],[],[225,317,318],[],[319,320],[321],[322,323],[324,324,324,324,325,326,326,327,328,328,329,329,330,331,333,332,334,334,335,335,333,336,333,336,338,337],[254],[254,254,254,253],[254,254,254,253],[339,340,341],[342,258,340,343,343,201,344,296,345],[],[],[342,346,201,341],[342,346,345],[201,346,340,347],[201,346,203,348,201,340,347],[339,349],[339,201,346,203,350,349,204,351,204],[339,353],[339,353],[354],[263,201],[355,355,356],[355,355,357,358],[268],[359],[16,16],[269,360],[],[],[276,273,273,43,44,361],[276,274,274],[362],[363],[],[],[],[],[281,281,43,365,46],[],[366,213,104],[],[367],[],[104],[],[369],[229],[],[],[293],[],[370,371,372,373,374,375,376,377,378,295,295],[],[209],[],[139]]
theorem Y5:((Tryz.prog.funcs.toList.drop 200).take 100).map Tryz.prog.leadsTo=qN:=by kernel_rfl
def q3:List (List FuncId):=[[379],[],[],[147],[],[306],[380,380,380],[],[],[],[],[381,382,381,383,382,384],[385],[386,387,388,389],[],[390,391,390,383,382],[],[],[],[],[392,393],[],[394,395],[396,397,398,399,401,400,402,403,404,405,405,407,407,406,407,406,407,407,408,407,407,408,407,409,409,410,411,412,413,414,407,415,407,407,407,417,416,401,418,401,418,407,419,407,419,407,419,407,419,407,419,407,419],[],[420,421],[420,422],[420,423],[420,422],[420,424],[420,425,426],[420,427],[420,424,428],[],[420,421],[429,424,432,431,430,422,433],[],[],[],[346],[96],[435,434],[257,340],[],[104],[436,434],[437,213],[438],[],[346],[],[352],[],[340,341],[346],[],[],[],[],[],[278,364,439,440],[46],[],[278,364,271],[],[147,441],[104],[368],[104,368],[],[376],[442,442],[303,304],[443,443,443,444],[],[376,376,376],[163,163],[376,376],[376,376,376,376],[],[],[445],[],[],[446],[447,447,447,447,447,447,448],[449],[449],[449,451,450],[449,451,450],[381],[],[],[],[452,453],[454,455,457,458,456,457,458,456,457,458,459,457,460,461,461,462,463,463,464,464,465,457,466,467,457,468,458,469,457,468,457,468,457,468],[407],[407],[470,472,471],[470,473]]
theorem ZJ:((Tryz.prog.funcs.toList.drop 300).take 100).map Tryz.prog.leadsTo=q3:=by kernel_rfl
def jG:List (List FuncId):=[[470,474,476,300,300,477],[],[478],[470,480,481,479,477],[470,482],[470,480,472],[483],[],[483,484,484,485],[470,486,487],[470,486],[470,475,484],[488],[488,473],[488],[489],[419],[],[],[490],[429,424,430],[],[433,491],[422,492],[493,41],[],[],[428,427,494,495],[],[496,424,497],[433],[],[],[433],[],[],[],[],[498],[],[],[499,500,501,502,503,504,505,506,441,441],[376,376],[444],[507,507,507],[],[],[],[447,447,447,447,447,447],[],[],[508],[509,510,511],[512,513,514,516,515,516,515,517,517,518,519,519,516,520,516,520,516,520,521,521,516,522,516,522,523,523,516,524,516,524,525,526,516,527,516,527,528,516,527],[529],[530,531,532],[533,534,535],[],[],[456,536,537],[533,531,535],[538],[538],[539,534,540],[539,541],[539,542],[539,534,532,104],[539,534,542],[],[],[478,543],[544],[545],[96],[475],[547,213],[],[],[489],[],[],[],[472],[470,470],[472],[472,480,548,479,546],[484],[290,546,549,480,479],[415,103,543],[475,475,104],[],[],[],[],[],[],[424,424],[550],[],[]]
theorem ZC:((Tryz.prog.funcs.toList.drop 400).take 100).map Tryz.prog.leadsTo=jG:=by kernel_rfl
def q7:List (List FuncId):=[[551,551],[303,304],[552,552,552,553],[],[],[],[],[376],[165],[554,554,554,555,556,554,554,557,554,554,557,558,554,559,554,559,554,560,554,554,561,562,564,563,564,563,565,566,567,554,554,554,554,564,568,554,564,568,564,568],[569,569,570,570,571,570,570,572,572,574,573,574,573,574,573,574,575,574,575,576,577,578,579,574,580,574,580,574,580,574,580],[581,581,581,582,583,583,584,585,586,582,586,582,587,588,590,589,591,589,591,593,592,591,593,592,591,594,590,594,585,595,596,591,597],[598],[598],[598],[599,600,104],[],[601,602,603],[601,602],[601,602,604,103,605,604],[601,600,606,607,608],[601,602,608,609],[601,600,610,611],[612],[601,600,613,300],[612,614,105],[615,615,616],[],[615,615,617,616,618,618],[],[619,620],[],[622,621],[530,104],[623,41],[],[],[],[539,624,540],[530,534,531],[],[532,626,625],[532],[96],[],[546,105],[],[],[546],[546,103],[],[],[553],[627,627,627],[],[628,629],[630,631],[632,632,632,629],[630,633],[630,632,632,633,634],[628,629,635],[628,632,636,629,629],[628,637],[632,638,639],[],[640,641],[640,641,642,643],[640,645,644],[],[646],[647,648],[647,648],[570],[649,650,651,652,651,653,654],[],[649,650,655],[649,656],[649,650,657],[649,658],[659,659,660],[],[],[],[584,661],[662,663,664,665],[662,666,666,661],[662,667,668,669,670,669,669,669],[586,666,669,670,671],[662,672,589],[673,670],[593,593,593],[593,593,593],[673,674,666,213,675,275,104],[],[673,676],[677,677,678,678,679,678,678,679,680],[],[681,681,682],[],[683,600,600,300]]
theorem Y0:((Tryz.prog.funcs.toList.drop 500).take 100).map Tryz.prog.leadsTo=q7:=by kernel_rfl
def qP:List (List FuncId):=[[684,213],[599,605],[609,607,685,300],[687,275,688,686],[690],[],[600],[104,104,600],[],[104,104,203],[],[691],[601,611,692],[],[96],[617,617],[],[],[],[534,534],[693],[694],[149],[],[695],[],[149,97,148],[],[696],[],[628,632],[697],[698,41],[631,634,699,700,702,701],[629,629],[635],[703],[],[644],[697,705,632],[632,632,632],[642],[147,706],[],[],[],[],[649,650],[707,103,708,203,710,709,712,711],[713,714],[715,213],[],[],[],[],[716,717,213],[716,286],[718,718,718,718],[716],[],[],[671],[719,666,720],[661,661,661],[],[],[721,41],[666],[722],[],[],[],[723,724,725,725,725,726,96,727,725,726,96,727],[728,729],[666],[730],[731,103,675,286],[],[],[],[678,679],[677,677,732,732],[732,732],[600],[],[],[],[733],[689],[687,605,602,104],[],[],[614,610],[],[734,734,735,735],[532],[632,704],[],[],[736]]
theorem ZH:((Tryz.prog.funcs.toList.drop 600).take 100).map Tryz.prog.leadsTo=qP:=by kernel_rfl
def jI:List (List FuncId):=[[],[],[],[704],[704],[],[737,738,739,740,741,742,743,744,745,706,706],[103],[],[],[],[301],[],[650,650],[104],[],[746],[],[747,651,652,654,653,654],[666],[748],[],[],[],[],[],[96,749,711],[],[662,104,104,666],[731,670,670],[103],[675],[],[104],[],[750,735,735],[751,751,752,752],[743],[753,753],[303,304],[754,754,754,755],[],[743,743,743],[226,226],[743,743],[743,743,743,743],[],[],[],[],[756,756,756],[],[757,752,752],[743,743],[755],[758,758,758],[],[759,759,759],[743],[],[],[],[],[],[],[],[],[],[],[],[],[],[],[],[],[],[],[],[],[],[],[],[],[],[],[],[],[],[],[450,450]]
theorem ZO:((Tryz.prog.funcs.toList.drop 700).take 100).map Tryz.prog.leadsTo=jI:=by kernel_rfl
end Go.Proofs.YtgbbgkcjpbdepaaGreatDoor
set_option maxRecDepth 100000
namespace Go.Proofs.YtgbbgkcjpbdepaaGreatDoor
open Go
abbrev hGlob (fn:Func):List Nat:=fn.body.elim [] Code.globalsNamed
def globS (g:Nat):List Nat:=(List.lookup g [(242,[0]),(311,[1,1,1]),(314,[2,3]),(386,[4]),(387,[5]),(392,[6]),(393,[7]),(789,[6,7,0,3,5,4])]).getD []
theorem Z9:((Tryz.prog.funcs.toList.drop 0).take 100).map hGlob=(List.range' 0 100).map globS:=by kernel_rfl
theorem ZB:((Tryz.prog.funcs.toList.drop 100).take 100).map hGlob=(List.range' 100 100).map globS:=by kernel_rfl
theorem Y3:((Tryz.prog.funcs.toList.drop 200).take 100).map hGlob=(List.range' 200 100).map globS:=by kernel_rfl
theorem YL:((Tryz.prog.funcs.toList.drop 300).take 100).map hGlob=(List.range' 300 100).map globS:=by kernel_rfl
theorem Z7:((Tryz.prog.funcs.toList.drop 400).take 100).map hGlob=(List.range' 400 100).map globS:=by kernel_rfl
theorem ZW:((Tryz.prog.funcs.toList.drop 500).take 100).map hGlob=(List.range' 500 100).map globS:=by kernel_rfl
theorem ZF:((Tryz.prog.funcs.toList.drop 600).take 100).map hGlob=(List.range' 600 100).map globS:=by kernel_rfl
theorem YK:((Tryz.prog.funcs.toList.drop 700).take 100).map hGlob=(List.range' 700 90).map globS:=by kernel_rfl
end Go.Proofs.YtgbbgkcjpbdepaaGreatDoor
set_option maxRecDepth 100000
namespace Go.Proofs.YtgbbgkcjpbdepaaGreatDoor
open Go
theorem ZQ:((Tryz.prog.funcs.toList.drop 0).take 100).any Func.goes=false:=by kernel_rfl
theorem ZT:((Tryz.prog.funcs.toList.drop 0).take 100).all (fun fn=>(Stop.rowOf fn).isNone)=true:=by kernel_rfl
theorem ZM:((Tryz.prog.funcs.toList.drop 100).take 100).any Func.goes=false:=by kernel_rfl
theorem YU:((Tryz.prog.funcs.toList.drop 100).take 100).all (fun fn=>(Stop.rowOf fn).isNone)=true:=by kernel_rfl
theorem Z6:((Tryz.prog.funcs.toList.drop 200).take 100).any Func.goes=false:=by kernel_rfl
theorem Z4:((Tryz.prog.funcs.toList.drop 200).take 100).all (fun fn=>(Stop.rowOf fn).isNone)=true:=by kernel_rfl
theorem YW:((Tryz.prog.funcs.toList.drop 300).take 100).any Func.goes=false:=by kernel_rfl
theorem YV:((Tryz.prog.funcs.toList.drop 300).take 100).all (fun fn=>(Stop.rowOf fn).isNone)=true:=by kernel_rfl
theorem ZK:((Tryz.prog.funcs.toList.drop 400).take 100).any Func.goes=false:=by kernel_rfl
theorem YN:((Tryz.prog.funcs.toList.drop 400).take 100).all (fun fn=>(Stop.rowOf fn).isNone)=true:=by kernel_rfl
theorem YP:((Tryz.prog.funcs.toList.drop 500).take 100).any Func.goes=false:=by kernel_rfl
theorem Z1:((Tryz.prog.funcs.toList.drop 500).take 100).all (fun fn=>(Stop.rowOf fn).isNone)=true:=by kernel_rfl
theorem Z3:((Tryz.prog.funcs.toList.drop 600).take 100).any Func.goes=false:=by kernel_rfl
theorem ZD:((Tryz.prog.funcs.toList.drop 600).take 100).all (fun fn=>(Stop.rowOf fn).isNone)=true:=by kernel_rfl
theorem Z2:((Tryz.prog.funcs.toList.drop 700).take 100).any Func.goes=false:=by kernel_rfl
theorem YQ:((Tryz.prog.funcs.toList.drop 700).take 100).all (fun fn=>(Stop.rowOf fn).isNone)=true:=by kernel_rfl
end Go.Proofs.YtgbbgkcjpbdepaaGreatDoor
set_option maxRecDepth 100000
namespace Go.Proofs.YtgbbgkcjpbdepaaGreatDoor
open Go
abbrev hInp (fn:Func):Option String:=if fn.ours || fn.body.isNone || fn.name == "runtime.NumGoroutine" then some fn.name else none
abbrev hEnt (fn:Func):Option String:=if fn.body.isNone then entryReads.lookup fn.name else none
def inplS (g:Nat):Option String:=List.lookup g [(0, "main.main"),(1, "gosem.cut"),(227, "internal/abi.NoEscape"),(310, "internal/bytealg.CountString"),(321, "internal/bytealg.MakeNoZero"),(382, "internal/bytealg.IndexString"),(445, "internal/bytealg.IndexByteString"),(760, "(runtime.boundsError).Error"),(761, "(runtime.boundsError).RuntimeError"),(762, "(runtime.errorString).Error"),(763, "(runtime.errorString).RuntimeError"),(764, "(runtime.plainError).Error"),(765, "(runtime.plainError).RuntimeError"),(766, "(runtime.errorAddressString).Error"),(767, "(runtime.errorAddressString).RuntimeError"),(768, "(*runtime.TypeAssertionError).Error"),(769, "(*runtime.TypeAssertionError).RuntimeError"),(770, "(*runtime.PanicNilError).Error"),(771, "(*runtime.PanicNilError).RuntimeError"),(772, "(*internal/abi.Type).Align"),(773, "(internal/runtime/maps.unhashableTypeError).Error"),(774, "(internal/runtime/maps.unhashableTypeError).RuntimeError"),(775, "(*strings.Builder).Reset"),(776, "(internal/strconv.Error).Error"),(777, "(*strconv.NumError).Error"),(778, "(*errors.errorString).Error"),(779, "(internal/abi.Kind).String"),(780, "var's door: gosem.cut.vars holds initialisers alone; see the manifest's row cutvarsword (look 11, test files too)"),(781, "var's door: internal/strconv.uint64pow10 is laid by its own initialiser, plain data (look 11)"),(782, "var's door: math/bits.deBruijn32tab is laid by its own initialiser, plain data (look 11)"),(783, "var's door: math/bits.deBruijn64tab is laid by its own initialiser, plain data (look 11)"),(784, "var's door: strconv.ErrRange is laid by its own call of errors.New on one literal (look 11)"),(785, "var's door: strconv.ErrSyntax is laid by its own call of errors.New on one literal (look 11)"),(786, "var's door: the look of gosem.cut.vars went over the folder that the caller named as the repository's root (look 11)"),(787, "var's door: unicode/utf8.acceptRanges is laid by its own initialiser, plain data (look 11)"),(788, "var's door: unicode/utf8.first is laid by its text alone (pinned 1)")]
def entrS (g:Nat):Option String:=List.lookup g [(382, "internal/bytealg.MaxLen")]
theorem YY:((Tryz.prog.funcs.toList.drop 0).take 100).map hInp=(List.range' 0 100).map inplS:=by kernel_rfl
theorem Z0:((Tryz.prog.funcs.toList.drop 0).take 100).map hEnt=(List.range' 0 100).map entrS:=by kernel_rfl
theorem ZU:((Tryz.prog.funcs.toList.drop 100).take 100).map hInp=(List.range' 100 100).map inplS:=by kernel_rfl
theorem YJ:((Tryz.prog.funcs.toList.drop 100).take 100).map hEnt=(List.range' 100 100).map entrS:=by kernel_rfl
theorem ZZ:((Tryz.prog.funcs.toList.drop 200).take 100).map hInp=(List.range' 200 100).map inplS:=by kernel_rfl
theorem ZA:((Tryz.prog.funcs.toList.drop 200).take 100).map hEnt=(List.range' 200 100).map entrS:=by kernel_rfl
theorem YH:((Tryz.prog.funcs.toList.drop 300).take 100).map hInp=(List.range' 300 100).map inplS:=by kernel_rfl
theorem Y2:((Tryz.prog.funcs.toList.drop 300).take 100).map hEnt=(List.range' 300 100).map entrS:=by kernel_rfl
theorem ZE:((Tryz.prog.funcs.toList.drop 400).take 100).map hInp=(List.range' 400 100).map inplS:=by kernel_rfl
theorem ZV:((Tryz.prog.funcs.toList.drop 400).take 100).map hEnt=(List.range' 400 100).map entrS:=by kernel_rfl
theorem ZX:((Tryz.prog.funcs.toList.drop 500).take 100).map hInp=(List.range' 500 100).map inplS:=by kernel_rfl
theorem YM:((Tryz.prog.funcs.toList.drop 500).take 100).map hEnt=(List.range' 500 100).map entrS:=by kernel_rfl
theorem YS:((Tryz.prog.funcs.toList.drop 600).take 100).map hInp=(List.range' 600 100).map inplS:=by kernel_rfl
theorem ZS:((Tryz.prog.funcs.toList.drop 600).take 100).map hEnt=(List.range' 600 100).map entrS:=by kernel_rfl
theorem YX:((Tryz.prog.funcs.toList.drop 700).take 100).map hInp=(List.range' 700 90).map inplS:=by kernel_rfl
theorem ZY:((Tryz.prog.funcs.toList.drop 700).take 100).map hEnt=(List.range' 700 90).map entrS:=by kernel_rfl
end Go.Proofs.YtgbbgkcjpbdepaaGreatDoor
set_option maxRecDepth 100000
namespace Go.Proofs.YtgbbgkcjpbdepaaGreatDoor
open Go
theorem zO {α β:Type} {l:List α} {f:α→β} {a b:Nat} {x y:List β} (hb:a+100=b) (h1:((l.drop a).take 100).map f=x) (h2:(l.drop b).map f=y):(l.drop a).map f=x++y:=by
 subst hb
 rw [← List.take_append_drop 100 (l.drop a),List.map_append,h1,List.drop_drop,h2]
theorem yL {α:Type} {l:List α} {f:α→Bool} {a b:Nat} (hb:a+100=b) (h1:((l.drop a).take 100).any f=false) (h2:(l.drop b).any f=false):(l.drop a).any f=false:=by
 subst hb
 rw [← List.take_append_drop 100 (l.drop a),List.any_append,h1,List.drop_drop,h2]; rfl
theorem yK {α:Type} {l:List α} {f:α→Bool} {a b:Nat} (hb:a+100=b) (h1:((l.drop a).take 100).all f=true) (h2:(l.drop b).all f=true):(l.drop a).all f=true:=by
 subst hb
 rw [← List.take_append_drop 100 (l.drop a),List.all_append,h1,List.drop_drop,h2]; rfl
theorem kR:Tryz.prog.funcs.toList.length=790:=by kernel_rfl
theorem xN:Tryz.prog.funcs.toList.drop 800=[]:=List.drop_eq_nil_of_le (by rw [kR]; decide)
theorem qY {α:Type} {h:Func→α} {T:List α} (e:Tryz.prog.funcs.toList.map h=T) (g:Nat):(Tryz.prog.funcs[g]?).map h=T[g]? := by
 rw [← e,List.getElem?_map,Array.getElem?_toList]
def leadT:List (List FuncId):=q9++(qZ++(qN++(q3++(jG++(q7++(qP++(jI++[])))))))
theorem leadAll:Tryz.prog.funcs.toList.map Tryz.prog.leadsTo=leadT:=(zO (b:=100) rfl YT (zO (b:=200) rfl ZP (zO (b:=300) rfl Y5 (zO (b:=400) rfl ZJ (zO (b:=500) rfl ZC (zO (b:=600) rfl Y0 (zO (b:=700) rfl ZH (zO (b:=800) rfl ZO (by rw [xN]; rfl)))))))))
theorem globAll:Tryz.prog.funcs.toList.map hGlob=(List.range 790).map globS:=((zO (b:=100) rfl Z9 (zO (b:=200) rfl ZB (zO (b:=300) rfl Y3 (zO (b:=400) rfl YL (zO (b:=500) rfl Z7 (zO (b:=600) rfl ZW (zO (b:=700) rfl ZF (zO (b:=800) rfl YK (by rw [xN])))))))))).trans (by kernel_rfl)
theorem inplAll:Tryz.prog.funcs.toList.map hInp=(List.range 790).map inplS:=((zO (b:=100) rfl YY (zO (b:=200) rfl ZU (zO (b:=300) rfl ZZ (zO (b:=400) rfl YH (zO (b:=500) rfl ZE (zO (b:=600) rfl ZX (zO (b:=700) rfl YS (zO (b:=800) rfl YX (by rw [xN])))))))))).trans (by kernel_rfl)
theorem entrAll:Tryz.prog.funcs.toList.map hEnt=(List.range 790).map entrS:=((zO (b:=100) rfl Z0 (zO (b:=200) rfl YJ (zO (b:=300) rfl ZA (zO (b:=400) rfl Y2 (zO (b:=500) rfl ZV (zO (b:=600) rfl YM (zO (b:=700) rfl ZS (zO (b:=800) rfl ZY (by rw [xN])))))))))).trans (by kernel_rfl)
theorem noGoes:Tryz.prog.funcs.toList.any Func.goes=false:=(yL (b:=100) rfl ZQ (yL (b:=200) rfl ZM (yL (b:=300) rfl Z6 (yL (b:=400) rfl YW (yL (b:=500) rfl ZK (yL (b:=600) rfl YP (yL (b:=700) rfl Z3 (yL (b:=800) rfl Z2 (by rw [xN]; rfl)))))))))
theorem noStop:Tryz.prog.funcs.toList.all (fun fn=>(Stop.rowOf fn).isNone)=true:=(yK (b:=100) rfl ZT (yK (b:=200) rfl YU (yK (b:=300) rfl Z4 (yK (b:=400) rfl YV (yK (b:=500) rfl YN (yK (b:=600) rfl Z1 (yK (b:=700) rfl ZD (yK (b:=800) rfl YQ (by rw [xN]; rfl)))))))))
noncomputable def cvT (T:List (List Nat)) (n:Nat):List Nat→List Nat→Nat→List Nat :=
 Nat.rec (fun _ seen _=>seen.reverse) (fun _ ih todo seen m=>List.rec seen.reverse (fun f todo _=>Bool.rec (ih ((T[f]?).getD []++todo) (f::seen) (m ||| 2 ^ f)) (ih todo seen m) (m.testBit f)) todo) n
theorem qO {P:Program} {T:List (List Nat)} (hT:∀ g:Nat,(P.funcs[g]?).elim [] P.leadsTo=(T[g]?).getD []):∀ (n:Nat) (todo seen:List Nat) (m:Nat),(∀ f,m.testBit f=seen.contains f)→P.closureVia n todo seen=cvT T n todo seen m
 | 0,todo,seen,m,_=>by unfold Program.closureVia; rfl
 | n+1,[],seen,m,_=>by unfold Program.closureVia; rfl
 | n+1,f::todo,seen,m,h=>by
  unfold Program.closureVia
  show _=Bool.rec (motive:=fun _=>List Nat) (cvT T n ((T[f]?).getD []++todo) (f::seen) (m ||| 2 ^ f)) (cvT T n todo seen m) (m.testBit f)
  rw [h f]
  cases hc:seen.contains f with
  | true=>rw [if_pos rfl]; exact qO hT n todo seen m h
  | false =>
   rw [if_neg (by decide),hT f]
   refine qO hT n _ _ _ fun g=>?_
   rw [Nat.testBit_or,h g,Nat.testBit_two_pow,List.contains_cons]
   by_cases e:f=g
   ·subst e; simp
   ·have e2:¬ g=f:=fun h=>e h.symm
    simp [e,e2]
theorem jT (g:Nat):(Tryz.prog.funcs[g]?).elim [] Tryz.prog.leadsTo=(leadT[g]?).getD []:=by
 rw [← qY leadAll g]
 cases Tryz.prog.funcs[g]? <;> rfl
def clT:List FuncId:=[3,4,12,13,5,14,28,62,109,167,246,322,394,452,509,554,555,628,696,632,698,41,95,704,629,556,630,631,697,557,558,633,634,699,736,751,752,757,759,700,702,701,559,560,635,561,636,703,562,637,564,563,638,644,639,705,565,640,641,642,147,224,225,706,737,743,226,738,753,739,303,304,740,754,755,758,741,742,744,745,566,643,567,645,568,510,569,646,570,647,649,713,650,715,213,301,714,104,103,648,707,708,203,295,370,376,163,371,442,372,373,443,444,507,374,375,377,378,710,709,712,711,571,572,574,573,651,652,653,654,575,655,716,746,717,576,656,286,577,657,718,747,578,658,579,659,660,580,511,581,582,583,584,662,719,666,721,720,748,663,661,671,664,665,585,586,667,668,722,669,670,587,588,672,723,724,725,726,96,749,727,589,673,728,729,731,675,730,590,593,591,592,674,275,362,594,676,595,677,678,679,680,596,597,681,732,682,453,512,598,513,514,516,515,599,683,600,684,300,379,517,601,605,602,609,607,685,603,687,733,688,689,686,518,519,604,690,520,606,608,521,522,610,611,691,523,612,692,614,524,613,525,105,526,615,617,616,527,528,618,395,454,529,455,530,619,534,623,620,693,531,532,622,149,621,694,734,735,750,756,457,458,456,533,535,459,536,537,460,461,538,539,624,695,540,462,463,464,541,626,97,148,625,465,542,466,467,468,469,323,396,407,397,398,470,478,489,475,547,543,472,545,546,471,544,399,473,401,400,474,476,477,402,403,480,481,479,404,482,405,406,483,408,484,485,548,409,486,487,290,229,307,308,549,410,411,412,488,415,413,414,417,416,419,490,418,247,324,325,420,429,496,424,493,497,550,430,433,421,326,422,491,327,423,492,328,329,330,425,426,331,427,428,494,495,333,332,334,335,432,431,336,338,337,168,248,254,249,253,250,251,339,346,437,340,341,435,434,252,342,257,201,294,347,438,498,258,348,343,344,296,345,436,255,256,259,349,260,350,204,351,352,261,353,262,263,354,264,265,355,356,266,357,358,267,268,359,110,169,176,170,22,16,42,52,10,23,171,269,172,270,360,278,364,439,440,272,271,173,273,276,363,43,44,361,46,174,274,175,177,179,178,277,6,17,45,180,279,181,281,365,441,499,500,551,501,502,552,553,627,503,504,505,506,280,182,183,184,282,63,111,185,129,112,113,186,195,288,191,284,289,369,198,196,188,187,283,366,189,114,190,116,115,117,192,285,367,368,118,193,119,194,287,120,197,121,122,123,200,293,199,292,291,125,124,202,126,205,127,206,210,298,208,297,209,207,128,130,131,133,132,29,64,66,65,134,211,299,139,214,135,136,67,68,137,138,212,70,69,71,72,140,73,74,141,142,75,143,76,77,78,144,79,80,81,15,30,33,31,19,47,98,164,54,20,49,55,99,100,87,48,101,57,106,165,241,242,317,318,243,244,319,320,392,393,107,166,150,227,245,321,88,90,56,51,59,89,151,228,152,230,236,231,82,145,215,32,24,53,9,21,50,102,26,60,34,25,58,108,27,61,35,83,85,84,86,146,216,217,302,218,219,305,306,380,220,221,222,223,36,37,91,153,232,309,238,314,233,310,234,311,381,445,382,383,384,446,92,154,235,312,385,447,448,313,386,449,387,388,451,508,450,389,93,155,94,157,156,158,160,237,159,162,240,316,239,315,390,391,161,38,39,40,7,18,8,11]
theorem fuel:1+(Tryz.prog.funcs.toList.map fun g=>(Tryz.prog.leadsTo g).length+1).sum=2530:=by
 rw [show (Tryz.prog.funcs.toList.map fun g=>(Tryz.prog.leadsTo g).length+1)=(Tryz.prog.funcs.toList.map Tryz.prog.leadsTo).map (fun l=>l.length+1) from by rw [List.map_map]; rfl,leadAll]
 kernel_rfl
theorem YC:Tryz.prog.closure 3=clT:=by
 unfold Program.closure
 rw [fuel,qO jT _ _ _ 0 (fun f=>by simp)]
 kernel_rfl
theorem vC {α:Type} {h:Func→α} {s:Nat→α} (e:Tryz.prog.funcs.toList.map h=(List.range 790).map s) (g:Nat):(Tryz.prog.funcs[g]?).map h=if g<790 then some (s g) else none:=by
 rw [qY e g,List.getElem?_map]
 by_cases hg:g<790
 ·rw [List.getElem?_range hg,if_pos hg]; rfl
 ·rw [List.getElem?_eq_none (by rw [List.length_range]; omega),if_neg hg]; rfl
theorem xB {α:Type} {g:Nat}:∀ {l:List (Nat×α)},(∀ x∈l,x.1<790)→¬ g<790→List.lookup g l=none
 | [],_,_=>rfl
 | x::l,h,hg=>by
  have h1:=h x (by simp)
  rw [List.lookup_cons,show (g == x.1)=false from by simpa using (by omega:¬ g=x.1)]
  exact xB (fun y hy=>h y (by simp [hy])) hg
theorem j7 (g:Nat):(Tryz.prog.funcs[g]?).bind hInp=inplS g:=by
 have:=vC inplAll g
 by_cases hg:g<790
 ·rw [if_pos hg] at this
  cases he:Tryz.prog.funcs[g]? with
  | none=>rw [he] at this; cases this
  | some fn=>rw [he] at this; exact Option.some.inj this
 ·rw [if_neg hg] at this
  cases he:Tryz.prog.funcs[g]? with
  | none=>exact (xB (by decide) hg).symm
  | some fn=>rw [he] at this; cases this
theorem jP (g:Nat):(Tryz.prog.funcs[g]?).bind hEnt=entrS g:=by
 have:=vC entrAll g
 by_cases hg:g<790
 ·rw [if_pos hg] at this
  cases he:Tryz.prog.funcs[g]? with
  | none=>rw [he] at this; cases this
  | some fn=>rw [he] at this; exact Option.some.inj this
 ·rw [if_neg hg] at this
  cases he:Tryz.prog.funcs[g]? with
  | none=>exact (xB (by decide) hg).symm
  | some fn=>rw [he] at this; cases this
theorem kI (g:Nat):((Tryz.prog.funcs[g]?).bind (fun x:Func=>x.body)).elim [] Code.globalsNamed=globS g:=by
 have:=vC globAll g
 by_cases hg:g<790
 ·rw [if_pos hg] at this
  cases he:Tryz.prog.funcs[g]? with
  | none=>rw [he] at this; cases this
  | some fn=>rw [he] at this; exact Option.some.inj this
 ·rw [if_neg hg] at this
  cases he:Tryz.prog.funcs[g]? with
  | none=>unfold globS; rw [xB (by decide) hg]; rfl
  | some fn=>rw [he] at this; cases this
theorem jF:Tryz.prog.inPlace 3=["internal/abi.NoEscape", "internal/bytealg.MakeNoZero", "internal/bytealg.CountString", "internal/bytealg.IndexByteString", "internal/bytealg.IndexString"]:=by
 unfold Program.inPlace
 rw [YC,show (fun g=>(Tryz.prog.funcs[g]?).bind fun fn=>if fn.ours || fn.body.isNone || fn.name == "runtime.NumGoroutine" then some fn.name else none)=inplS from funext j7]
 kernel_rfl
theorem kN : Tryz.prog.varsNamed 3 = ["internal/strconv.uint64pow10", "math/bits.deBruijn32tab", "math/bits.deBruijn64tab", "unicode/utf8.first", "unicode/utf8.acceptRanges", "internal/bytealg.MaxLen", "strconv.ErrSyntax", "strconv.ErrRange"] := by
  unfold Program.varsNamed
  rw [YC, show (fun g => (Tryz.prog.funcs[g]?).bind fun fn => if fn.body.isNone then entryReads.lookup fn.name else none) = entrS from funext jP,
    show (fun g : FuncId => ((Tryz.prog.funcs[g]?).bind (fun x : Func => x.body)).elim [] Code.globalsNamed) = globS from funext kI]
  kernel_rfl
theorem ZN:Tryz.prog.unfollowed 3=true:=by
 unfold Program.unfollowed
 rw [YC]
 kernel_rfl
theorem XO:Tryz.prog.recurses 3=true:=by
 unfold Program.recurses
 rw [ZN,Bool.true_or]
theorem goesNot:Tryz.prog.goes 3=false:=by
 unfold Program.goes
 have h:∀ fn∈Tryz.prog.funcs.toList,fn.goes=false:=fun fn hm=>by
  have:=List.any_eq_false.1 noGoes fn hm
  simpa using this
 have h2:Tryz.prog.funcs.any Func.goes=false:=by rw [← Array.any_toList]; exact noGoes
 rw [h2,Bool.and_false,Bool.or_false,List.any_eq_false]
 intro g _
 cases hg:Tryz.prog.funcs[g]? with
 | none=>simp
 | some fn=>simpa using h fn (Array.mem_toList_iff.2 (Array.mem_of_getElem? hg))
theorem rowNone {fn:Func} (hm:fn∈Tryz.prog.funcs.toList):Stop.rowOf fn=none:=by
 have:=List.all_eq_true.1 noStop fn hm
 simpa using this
theorem YE:Tryz.prog.stops=[]:=by
 unfold Program.stops
 rw [List.filterMap_eq_nil_iff.2 (fun fn hm=>by rw [rowNone hm]; rfl)]; rfl
theorem kX:Tryz.prog.stopKnobs=[]:=by
 unfold Program.stopKnobs
 rw [List.filterMap_eq_nil_iff.2 (fun fn hm=>rowNone hm)]; rfl
theorem kW:Tryz.prog.stopsHeard=true:=by
 unfold Program.stopsHeard
 rw [← Array.all_toList,List.all_eq_true]
 intro fn hm
 rw [rowNone hm]; rfl
end Go.Proofs.YtgbbgkcjpbdepaaGreatDoor
