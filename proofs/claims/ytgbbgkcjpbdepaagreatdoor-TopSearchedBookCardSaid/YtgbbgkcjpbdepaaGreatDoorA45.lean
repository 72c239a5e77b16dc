/- Joined texts: what the statement needs, walks by program (wip/tools). -/
import Derived.Test.YtgbbgkcjpbdepaaGreatDoorA6
import Derived.Test.YtgbbgkcjpbdepaaGreatDoorA33
import Derived.Test.YtgbbgkcjpbdepaaGreatDoorA34
import Derived.Test.YtgbbgkcjpbdepaaGreatDoorA35
import Derived.Test.YtgbbgkcjpbdepaaGreatDoorA36
import Derived.Test.YtgbbgkcjpbdepaaGreatDoorA37
import Derived.Test.YtgbbgkcjpbdepaaGreatDoorA38
import Derived.Test.YtgbbgkcjpbdepaaGreatDoorA39
import Derived.Test.YtgbbgkcjpbdepaaGreatDoorA40
import Derived.Test.YtgbbgkcjpbdepaaGreatDoorA42
import Derived.Test.YtgbbgkcjpbdepaaGreatDoorA44
import Derived.Test.YtgbbgkcjpbdepaaGreatDoorA18
set_option linter.unusedVariables false
set_option linter.unusedSimpArgs false
set_option linter.unusedSectionVars false
set_option linter.unnecessarySimpa false
set_option maxRecDepth 100000
namespace Go.Ex
open Go.Fip
open Go.Proofs
theorem fa509:Tryz.prog.funcs[509]? = some (fnAt 509):=by kernel_rfl
theorem fb509:(fnAt 509).body=some (cdAt 509):=by kernel_rfl
theorem r509 (w:World) (hg:GW w):Go.Fip.Fn Tryz.prog 509 #[] w (fun v _=>v=.bool true):=run_true book_ok fa509 fb509 k509 w hg
theorem fa453:Tryz.prog.funcs[453]? = some (fnAt 453):=by kernel_rfl
theorem fb453:(fnAt 453).body=some (cdAt 453):=by kernel_rfl
theorem r453 (w:World) (hg:GW w):Go.Fip.Fn Tryz.prog 453 #[] w (fun v _=>v=.bool true):=run_true book_ok fa453 fb453 k453 w hg
theorem fa395:Tryz.prog.funcs[395]? = some (fnAt 395):=by kernel_rfl
theorem fb395:(fnAt 395).body=some (cdAt 395):=by kernel_rfl
theorem r395 (w:World) (hg:GW w):Go.Fip.Fn Tryz.prog 395 #[] w (fun v _=>v=.bool true):=run_true book_ok fa395 fb395 k395 w hg
theorem fa323:Tryz.prog.funcs[323]? = some (fnAt 323):=by kernel_rfl
theorem fb323:(fnAt 323).body=some (cdAt 323):=by kernel_rfl
theorem r323 (w:World) (hg:GW w):Go.Fip.Fn Tryz.prog 323 #[] w (fun v _=>v=.bool true):=run_true book_ok fa323 fb323 k323 w hg
theorem fa247:Tryz.prog.funcs[247]? = some (fnAt 247):=by kernel_rfl
theorem fb247:(fnAt 247).body=some (cdAt 247):=by kernel_rfl
theorem r247 (w:World) (hg:GW w):Go.Fip.Fn Tryz.prog 247 #[] w (fun v _=>v=.bool true):=run_true book_ok fa247 fb247 k247 w hg
theorem fa168:Tryz.prog.funcs[168]? = some (fnAt 168):=by kernel_rfl
theorem fb168:(fnAt 168).body=some (cdAt 168):=by kernel_rfl
theorem r168 (w:World) (hg:GW w):Go.Fip.Fn Tryz.prog 168 #[] w (fun v _=>v=.bool true):=run_true book_ok fa168 fb168 k168 w hg
theorem fa63:Tryz.prog.funcs[63]? = some (fnAt 63):=by kernel_rfl
theorem fb63:(fnAt 63).body=some (cdAt 63):=by kernel_rfl
theorem r63 (w:World) (hg:GW w):Go.Fip.Fn Tryz.prog 63 #[] w (fun v _=>v=.bool true):=run_true book_ok fa63 fb63 k63 w hg
theorem fa29:Tryz.prog.funcs[29]? = some (fnAt 29):=by kernel_rfl
theorem fb29:(fnAt 29).body=some (cdAt 29):=by kernel_rfl
theorem r29 (w:World) (hg:GW w):Go.Fip.Fn Tryz.prog 29 #[] w (fun v _=>v=.bool true):=run_true book_ok fa29 fb29 k29 w hg
theorem fa15:Tryz.prog.funcs[15]? = some (fnAt 15):=by kernel_rfl
theorem fb15:(fnAt 15).body=some (cdAt 15):=by kernel_rfl
theorem r15 (w:World) (hg:GW w):Go.Fip.Fn Tryz.prog 15 #[] w (fun v _=>v=.bool true):=run_true book_ok fa15 fb15 k15 w hg
theorem fa511:Tryz.prog.funcs[511]? = some (fnAt 511):=by kernel_rfl
theorem fb511:(fnAt 511).body=some (cdAt 511):=by kernel_rfl
theorem oa511:okC (fnAt 511).ntmps (cdAt 511)=true:=by kernel_rfl
theorem ob511:okC (fnAt 511).ntmps (restN 11 (cdAt 511))=true:=by kernel_rfl
theorem r511 (w:World) (hg:GW w):Go.Fip.Fn Tryz.prog 511 #[] w (fun v _=>v=.bool true):=Good.whole named fa511 fb511 (Good.pre mixed (callM_good named mixed 60) oa511 p3a (Good.end mixed (callM_good named mixed 60) ob511 p3b)) w hg
theorem fa110:Tryz.prog.funcs[110]? = some (fnAt 110):=by kernel_rfl
theorem fb110:(fnAt 110).body=some (cdAt 110):=by kernel_rfl
theorem oa110:okC (fnAt 110).ntmps (cdAt 110)=true:=by kernel_rfl
theorem ob110:okC (fnAt 110).ntmps (restN 13 (cdAt 110))=true:=by kernel_rfl
theorem r110 (w:World) (hg:GW w):Go.Fip.Fn Tryz.prog 110 #[] w (fun v _=>v=.bool true):=Good.whole named fa110 fb110 (Good.pre mixed (callM_good named mixed 60) oa110 p9a (Good.end mixed (callM_good named mixed 60) ob110 p9b)) w hg
noncomputable abbrev trueA:List (Nat×Ans):=[(509,aTrue),(510,aTrue),(511,aTrue),(453,aTrue),(395,aTrue),(323,aTrue),(247,aTrue),(168,aTrue),(110,aTrue),(63,aTrue),(29,aTrue),(15,aTrue)]
theorem true_all:AllOK Tryz.prog trueA:=fun p hp=>by
 simp only [trueA,List.mem_cons,List.not_mem_nil,or_false] at hp
 rcases hp with rfl | rfl | rfl | rfl | rfl | rfl | rfl | rfl | rfl | rfl | rfl | rfl
 ·exact true_ok r509
 ·exact true_ok works2
 ·exact true_ok r511
 ·exact true_ok r453
 ·exact true_ok r395
 ·exact true_ok r323
 ·exact true_ok r247
 ·exact true_ok r168
 ·exact true_ok r110
 ·exact true_ok r63
 ·exact true_ok r29
 ·exact true_ok r15
theorem fa5:Tryz.prog.funcs[5]? = some (fnAt 5):=by kernel_rfl
theorem fb5:(fnAt 5).body=some (cdAt 5):=by kernel_rfl
theorem k5:callO Tryz.prog 10000 (orL trueA) 60 (.fn (.func 5) 0 0 0 0) 0 0 mN qT=(some []:Option (List Out)):=by kernel_rfl
theorem c5 {w:World} (hg:GW w):Go.Fip.Fn Tryz.prog 5 #[] w (fun v _=>v=.bool true):=run_true true_all fa5 fb5 k5 w hg
end Go.Ex
namespace Go.Fip
open Go.Proofs
theorem law60 {v:Value} {l:List En} {a:Int} {w:World} (h0:Rd encE 5 v l w) (ha:0≤a∧a≤255) (hG:Gl w):Fn Tryz.prog 3 #[.agg #[v],.int .u8 a] w (fun u _=>u=.bool true) :=
 c3 h0 ha hG fun h=>Go.Ex.c5 h
end Go.Fip
