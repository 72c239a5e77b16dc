/- Joined texts: what the statement needs, walks by program (wip/tools). -/
import Derived.Test.YtgbbgkcjpbdepaaGreatDoorProg
import Derived.LaidByTextLater
import Derived.KernelRfl
import Derived.Test.YtgbbgkcjpbdepaaGreatDoorRows
set_option linter.unusedVariables false
set_option linter.unusedSimpArgs false
set_option linter.unusedSectionVars false
set_option linter.unnecessarySimpa false
namespace Go.Proofs.YtgbbgkcjpbdepaaGreatDoor
open Go
set_option maxRecDepth 100000
theorem q8:∀ (l:List Nat),(∀ x∈l,1≤x)→l.length≤l.sum
 | [],_=>Nat.zero_le _
 | x::l,h=>by
  have h1:=h x (by simp)
  have h2:=q8 l fun y hy=>h y (by simp [hy])
  simp only [List.length_cons,List.sum_cons]
  omega
theorem kE (P:Program):P.funcs.size≤(P.funcs.toList.map fun g=>(P.leadsTo g).length+1).sum:=by
 have:=q8 (P.funcs.toList.map fun g=>(P.leadsTo g).length+1) fun x hx=>by
  obtain ⟨g,_,e⟩:=List.mem_map.1 hx
  omega
 simpa using this
theorem uI (P:Program) (f:FuncId) (k:Nat) (h:k≤P.funcs.size) {l:List FuncId} (hl:∀ m,P.closureVia (m+k) [f] []=l):P.closure f=l:=by
 unfold Program.closure
 have:=kE P
 obtain ⟨m,hm⟩:∃ m,1+(P.funcs.toList.map fun g=>(P.leadsTo g).length+1).sum=m+k:=⟨1+(P.funcs.toList.map fun g=>(P.leadsTo g).length+1).sum - k,by omega⟩
 rw [hm]
 exact hl m
theorem j8:Tryz.prog.funcs.size=790:=by kernel_rfl
theorem YD:((Tryz.prog.closure 450).all Tryz.prog.newOrTypeOf)=true:=by
 rw [uI Tryz.prog 450 3 (by rw [j8]; decide) (l:=[450]) (fun m=>by kernel_rfl)]
 kernel_rfl
end Go.Proofs.YtgbbgkcjpbdepaaGreatDoor
namespace Go.Proofs.YtgbbgkcjpbdepaaGreatDoor
open Go
noncomputable abbrev laidL:List (String×DataW Unit):=[("internal/strconv.uint64pow10",Rows.laid_internal_strconv_uint64pow10),("math/bits.deBruijn32tab",Rows.laid_math_bits_deBruijn32tab),("math/bits.deBruijn64tab",Rows.laid_math_bits_deBruijn64tab),("unicode/utf8.acceptRanges",Rows.laid_unicode_utf8_acceptRanges),("strconv.ErrSyntax",Rows.laid_strconv_ErrSyntax),("strconv.ErrRange",Rows.laid_strconv_ErrRange)]
end Go.Proofs.YtgbbgkcjpbdepaaGreatDoor
set_option maxRecDepth 100000
namespace Go.Proofs.YtgbbgkcjpbdepaaGreatDoor
open Go
noncomputable def Cd:Code:=(((Tryz.prog.funcs[789]?).bind (·.body))).getD .skip
theorem vid:varsId Tryz.prog=789:=by kernel_rfl
theorem Y1:(Tryz.prog.funcs[789]?).bind (·.body)=some Cd:=by kernel_rfl
theorem lays:Cd.laysInOrder []=some [6,7,0,3,5,4]:=by kernel_rfl
theorem dist:(([6,7,0,3,5,4]:List Nat).eraseDups.length == ([6,7,0,3,5,4]:List Nat).length)=true:=by kernel_rfl
theorem uH {P:Program} {x:Nat} {ops:Array Oper} {y:Bool} {st:List Nat} {f:FuncId} (h1:((ops.toList.all fun o => !o.op.barredAtDoor) && (ops.isEmpty || !(storedIn ops).isEmpty || writesIn ops != 0))=true)
  (h2:(calledIn ops).all (· == f)=true) (hf:(P.closure f).all P.newOrTypeOf=true)
  (h3:(((ops.toList.flatMap (·.op.globalsBeside)).eraseDups.all fun u => !P.bearsDeep u) || (storedIn ops++(if writesIn ops == 0 then [] else st.getLast?.toList)).all P.toldDeep)=true)
  (h4:writesIn ops == 0) (h5:(ops.toList.flatMap (·.op.globalsBeside)).isEmpty=true) (h6:(decide ((storedIn ops).length≤1))=true):(Code.region x ops y).regionsFit P st=true:=by
 unfold Code.regionsFit
 have hc:((calledIn ops).all fun f=>(P.closure f).all P.newOrTypeOf)=true:=by
  rw [List.all_eq_true] at h2 ⊢
  intro g hg
  have:=h2 g hg
  rw [beq_iff_eq] at this
  rw [this]; exact hf
 simp only [Bool.and_eq_true] at h1 ⊢
 exact ⟨⟨⟨⟨⟨h1,by rw [hc,Bool.true_or]⟩,h3⟩,by rw [h4,Bool.true_or]⟩,by rw [h5,Bool.true_or]⟩,by rw [h6,Bool.true_or]⟩
noncomputable def opsAt (c:Code):Array Oper:=match c with
 | .region _ ops _=>ops
 | .seq (.region _ ops _) _=>ops
 | _ => #[]
noncomputable def tl (c:Code):Code:=match c with
 | .seq _ b=>b
 | c=>c
noncomputable def R (k:Nat):Array Oper:=opsAt (Nat.rec Cd (fun _ c=>tl c) k)
theorem jJ:Cd=.seq (.region 0 (R 0) false) (.seq (.region 1 (R 1) false) (.seq (.region 2 (R 2) false) (.seq (.region 3 (R 3) false) (.seq (.region 4 (R 4) false) (.region 5 (R 5) false))))):=by kernel_rfl
theorem fits (k:Nat) (st:List Nat) (h3:(((R k).toList.flatMap (·.op.globalsBeside)).eraseDups.all fun u => !Tryz.prog.bearsDeep u)=true)
  (h1:(((R k).toList.all fun o => !o.op.barredAtDoor) && ((R k).isEmpty || !(storedIn (R k)).isEmpty || writesIn (R k) != 0))=true) (h2:(calledIn (R k)).all (· == 450)=true) (h4:writesIn (R k) == 0) (h5:((R k).toList.flatMap (·.op.globalsBeside)).isEmpty=true) (h6:(decide ((storedIn (R k)).length≤1))=true):(Code.region k (R k) false).regionsFit Tryz.prog st=true :=
 uH h1 h2 YD (by rw [h3,Bool.true_or]) h4 h5 h6
theorem regs : Cd.regionsFit Tryz.prog [] = true := by
  rw [jJ]
  simp only [Code.regionsFit.eq_2, Bool.and_eq_true]
  exact ⟨fits 0 _ (by kernel_rfl) (by kernel_rfl) (by kernel_rfl) (by kernel_rfl) (by kernel_rfl) (by kernel_rfl), fits 1 _ (by kernel_rfl) (by kernel_rfl) (by kernel_rfl) (by kernel_rfl) (by kernel_rfl) (by kernel_rfl),
    fits 2 _ (by kernel_rfl) (by kernel_rfl) (by kernel_rfl) (by kernel_rfl) (by kernel_rfl) (by kernel_rfl), fits 3 _ (by kernel_rfl) (by kernel_rfl) (by kernel_rfl) (by kernel_rfl) (by kernel_rfl) (by kernel_rfl),
    fits 4 _ (by kernel_rfl) (by kernel_rfl) (by kernel_rfl) (by kernel_rfl) (by kernel_rfl) (by kernel_rfl), fits 5 _ (by kernel_rfl) (by kernel_rfl) (by kernel_rfl) (by kernel_rfl) (by kernel_rfl) (by kernel_rfl)⟩
theorem alone:Tryz.prog.callsLaidAlone 789 Cd=true:=by
 unfold Program.callsLaidAlone
 simp only [Bool.and_eq_true]
 exact ⟨⟨⟨⟨by kernel_rfl,by kernel_rfl⟩,regs⟩,by kernel_rfl⟩,by kernel_rfl⟩
end Go.Proofs.YtgbbgkcjpbdepaaGreatDoor
set_option maxRecDepth 100000
namespace Go.Proofs.YtgbbgkcjpbdepaaGreatDoor
open Go
theorem kb0:Tryz.prog.kindBase "internal/strconv.uint64pow10" = some .data:=by kernel_rfl
theorem kb1:Tryz.prog.kindBase "math/bits.deBruijn32tab" = some .data:=by kernel_rfl
theorem kb2:Tryz.prog.kindBase "math/bits.deBruijn64tab" = some .data:=by kernel_rfl
theorem kb3:Tryz.prog.kindBase "unicode/utf8.acceptRanges" = some .data:=by kernel_rfl
theorem kb4:Tryz.prog.kindBase "strconv.ErrSyntax" = some .sentinel:=by kernel_rfl
theorem kb5:Tryz.prog.kindBase "strconv.ErrRange" = some .sentinel:=by kernel_rfl
theorem gn0:Tryz.prog.globalNamed "internal/strconv.uint64pow10" = some 0:=by kernel_rfl
theorem gn1:Tryz.prog.globalNamed "math/bits.deBruijn32tab" = some 6:=by kernel_rfl
theorem gn2:Tryz.prog.globalNamed "math/bits.deBruijn64tab" = some 7:=by kernel_rfl
theorem gn3:Tryz.prog.globalNamed "unicode/utf8.acceptRanges" = some 3:=by kernel_rfl
theorem gn4:Tryz.prog.globalNamed "strconv.ErrSyntax" = some 4:=by kernel_rfl
theorem gn5:Tryz.prog.globalNamed "strconv.ErrRange" = some 5:=by kernel_rfl
theorem byH:Cd.storedByHandle Tryz.prog=[]:=by kernel_rfl
theorem t6:varsNamedLaterB Tryz.prog (varsId Tryz.prog) laidL=true:=by
 rw [vid]
 unfold varsNamedLaterB
 rw [Y1]
 simp only [lays,alone,dist,Bool.true_and,laidL,List.all_cons,List.all_nil,kb0,kb1,kb2,kb3,kb4,kb5,gn0,gn1,gn2,gn3,gn4,gn5,Option.any_some,byH]
 kernel_rfl
end Go.Proofs.YtgbbgkcjpbdepaaGreatDoor
