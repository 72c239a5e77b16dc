/- Joined texts: what the statement needs, walks by program (wip/tools). -/
import Derived.RangeFuncRecord
import Derived.RangeFuncLeaves
import Derived.TacticsIn
import Derived.OrdersIn
import Derived.WalkKit
import Derived.Scope
import Derived.ChangeKeysEq
import Derived.Laws.StructEq
import Derived.ProofKit
import Derived.OpenShut
import Derived.Carry
import Derived.Deep.SlicePairs
import Derived.Test.YteiipodhpbdlbaaGreatRows
import Derived.Laws.Entries
import Derived.Test.YteiipodhpbdlbaaGreatProg
import Derived.Shelf.Small.Bits
set_option linter.unusedVariables false
set_option linter.unusedSimpArgs false
set_option linter.unusedSectionVars false
set_option linter.unnecessarySimpa false
namespace Go.Fip
theorem Z.{u} {α : Sort u} {a : α} : a = a := rfl
theorem om {p : Prop} (h : p := by omega) : p := h
theorem kz {p : Prop} (h : p := by kernel_rfl) : p := h
theorem om3 {p : Prop} (h : p := by first | (dsimp only; omega) | (show _ < _; omega)) : p := h
theorem om2 {p : Prop} (h : p := by first | omega | (simp only [List.length_append, List.length_cons, List.length_nil]; omega)) : p := h
theorem sC {α : Type} {a : α} {l m : List α} (h : l.Sublist m) : l.Sublist (a :: m) := .cons a h
theorem sK {α : Type} {a : α} {l m : List α} (h : l.Sublist m) : (a :: l).Sublist (a :: m) := .cons_cons a h
theorem sR {α : Type} {l : List α} : l.Sublist l := .refl l
theorem dF {p : Prop} [Decidable p] (h : ¬ p) : decide p = false := decide_eq_false h
theorem dT {p : Prop} [Decidable p] (h : p) : decide p = true := decide_eq_true h
end Go.Fip
namespace Go.Fip
open Go.RowKit
def Fr:Option Nat→Fence
 | none=>Fence.wide
 | some l=>Fence.wide.inRound l
theorem Fr_round (r:Option Nat):(Fr r).round=r:=by cases r <;> rfl
theorem Fr_fn (r:Option Nat) (f:FuncId):(Fr r).fn f:=by cases r <;> trivial
theorem Fr_depth (r:Option Nat):(Fr r).depth=none:=by cases r <;> rfl
theorem semAt_Fr (r:Option Nat) (ρ:Operand→Value) (o:Oper) (h:∀ c,o.op≠.defer c):o.semAt (Fr r).round ρ=execOp ρ o:=by
 rw [Fr_round]; exact Oper.semAt_eq r ρ o h
abbrev Env:=List (Nat×Value)
def Env.find:Env→Nat→Option Value
 | [],_=>none
 | p::r,i=>match Nat.beq p.1 i with
  | true=>some p.2
  | false=>Env.find r i
structure Fits (N:Nat) (a:Act) (ds:List Deferred) (env:Env):Prop where
 size:a.tmps.size=N
 defers:a.defers=ds
 slot:∀ i v,env.find i=some v→a.tmps[i]? = some v
theorem Fits.put {N : Nat} {a : Act} {ds : List Deferred} {env : Env} (h : Fits N a ds env) {d : Nat} (hd : d < N) (v : Value) : Fits N (a.put (some d) v) ds ((d, v) :: env) := by
  refine ⟨by simp [Act.put, h.size], by simp [Act.put, h.defers], fun i u hi => ?_⟩
  simp only [Act.put]
  by_cases e : d = i
  · subst e
    have : Nat.beq d d = true := Nat.beq_refl d
    simp only [Env.find, this] at hi
    cases hi
    simp [h.size, hd]
  · have : Nat.beq d i = false := by
      cases hb : Nat.beq d i with
      | true => exact absurd (Nat.eq_of_beq_eq_true hb) e
      | false => rfl
    simp only [Env.find, this] at hi
    rw [Array.getElem?_setIfInBounds_ne e]
    exact h.slot i u hi
def Sub (env' env:Env):Prop:=∀ i v,env'.find i=some v→env.find i=some v
theorem Sub.refl (env:Env):Sub env env:=fun _ _ h=>h
theorem Fits.sub {N:Nat} {a:Act} {ds:List Deferred} {env env':Env} (h:Fits N a ds env) (hs:Sub env' env):Fits N a ds env':=⟨h.size,h.defers,fun i v hi=>h.slot i v (hs i v hi)⟩
theorem Sub.nil (env:Env):Sub [] env:=fun _ _ h=>by simp [Env.find] at h
theorem Sub.cons {env env':Env} {i:Nat} {v:Value} (h:env.find i=some v) (hs:Sub env' env):Sub ((i,v)::env') env:=by
 intro j u hj
 simp only [Env.find] at hj
 split at hj
 ·rename_i hb
  cases hj
  rw [← Nat.eq_of_beq_eq_true hb]
  exact h
 ·exact hs j u hj
def ev (env:Env):Operand→Option Value
 | .tmp t=>env.find t
 | .const v=>some v
 | .global g=>some (.pointer (some ⟨g,0,none⟩))
 | .func f=>some (.func (.func f) #[] #[])
theorem Fits.ev {N:Nat} {a:Act} {ds:List Deferred} {env:Env} (h:Fits N a ds env) {x:Operand} {v:Value} (hx:ev env x=some v):a.eval x=v:=by
 cases x with
 | tmp t =>
  have:=h.slot t v hx
  simp [Act.eval,this]
 | const u=>simp [Fip.ev] at hx; simp [Act.eval,hx]
 | global g=>simp [Fip.ev] at hx; simp [Act.eval,hx]
 | func f=>simp [Fip.ev] at hx; simp [Act.eval,hx]
abbrev Post:=Exit→List Deferred→Env→World→Prop
def lift (N:Nat) (Q:Post):Exit→Act→World→Prop:=fun e a w=>∃ ds env,Fits N a ds env∧Q e ds env w
def Holds (r:Option Nat) (P:Program) (N:Nat) (c:Code) (ds:List Deferred) (env:Env) (w:World) (Q:Post):Prop :=
 ∀ a,Fits N a ds env→c.wpIn (Fr r) 0 P (lift N Q) a w
def Ops (r:Option Nat) (P:Program) (N:Nat) (all:Array Oper) (l:List Oper) (ds:List Deferred) (env:Env) (w:World) (Q:Post):Prop :=
 ∀ a,Fits N a ds env→wpListIn (Fr r) 0 P all (lift N Q) l a w
section rules
variable {r : Option Nat} {P : Program} {N : Nat} {ds : List Deferred} {env : Env} {w : World} {Q : Post}
theorem Holds.mono {c:Code} {Q':Post} (h:Holds r P N c ds env w Q) (hq:∀ e ds env w,Q e ds env w→Q' e ds env w):Holds r P N c ds env w Q' :=
 fun a ha=>Go.wpIn_mono (h a ha) fun _ _ _ ⟨ds,env,hf,q⟩=>⟨ds,env,hf,hq _ _ _ _ q⟩
theorem Holds.sub {c:Code} {env':Env} (h:Holds r P N c ds env' w Q) (hs:Sub env' env):Holds r P N c ds env w Q :=
 fun a ha=>h a (ha.sub hs)
def thn (r:Option Nat) (P:Program) (N:Nat) (y:Code) (Q:Post):Post
 | .normal,ds,env,w=>Holds r P N y ds env w Q
 | e,ds,env,w=>Q e ds env w
theorem seq {x y : Code} (h : Holds r P N x ds env w (thn r P N y Q)) : Holds r P N (.seq x y) ds env w Q :=
  fun a ha => wpIn_seq (Go.wpIn_mono (h a ha) fun e a' w' ⟨ds', env', hf, q⟩ => by
    cases e with
    | normal => exact q a' hf
    | ret => exact ⟨ds', env', hf, q⟩
    | exit i => exact ⟨ds', env', hf, q⟩
    | goto i => exact ⟨ds', env', hf, q⟩
    | panic i => exact ⟨ds', env', hf, q⟩
    | outgrown => exact ⟨ds', env', hf, q⟩)
theorem zJ {y:Code} (h:Holds r P N y ds env w Q):thn r P N y Q .normal ds env w:=h
theorem yP {y:Code} (h:Q .ret ds env w):thn r P N y Q .ret ds env w:=h
theorem yR {y:Code} {i:Nat} (h:Q (.exit i) ds env w):thn r P N y Q (.exit i) ds env w:=h
theorem skip (h:Q .normal ds env w):Holds r P N .skip ds env w Q:=fun _ ha=>wpIn_skip ⟨ds,env,ha,h⟩
theorem label {l:Nat} (h:Q .normal ds env w):Holds r P N (.label l) ds env w Q:=fun _ ha=>wpIn_label ⟨ds,env,ha,h⟩
theorem ret (h:Q .ret ds env w):Holds r P N .ret ds env w Q:=fun _ ha=>wpIn_ret ⟨ds,env,ha,h⟩
theorem exit {i:Nat} (h:Q (.exit i) ds env w):Holds r P N (.exit i) ds env w Q:=fun _ ha=>wpIn_exit ⟨ds,env,ha,h⟩
theorem goto {i:Nat} (h:Q (.goto i) ds env w):Holds r P N (.goto i) ds env w Q:=fun _ ha=>wpIn_goto ⟨ds,env,ha,h⟩
theorem cond {c:Operand} {x y:Code} {b:Bool} (hc:ev env c=some (.bool b)) (ht:b=true→Holds r P N x ds env w Q) (hf:b=false→Holds r P N y ds env w Q) :
  Holds r P N (.cond c x y) ds env w Q :=
 fun a ha=>wpIn_cond_split (ha.ev hc) (fun h=>ht h a ha) (fun h=>hf h a ha)
theorem zP {c:Operand} {x y:Code} {b:Bool} (hc:ev env c=some (.bool b)) (hb:b=true) (ht:Holds r P N x ds env w Q):Holds r P N (.cond c x y) ds env w Q :=
 cond hc (fun _=>ht) (fun h=>by rw [hb] at h; cases h)
theorem zM {c:Operand} {x y:Code} {b:Bool} (hc:ev env c=some (.bool b)) (hb:b=false) (hf:Holds r P N y ds env w Q):Holds r P N (.cond c x y) ds env w Q :=
 cond hc (fun h=>by rw [hb] at h; cases h) (fun _=>hf)
def blk (i:Nat) (Q:Post):Post
 | .exit j,ds,env,w=>if j=i then Q .normal ds env w else Q (.exit j) ds env w
 | e,ds,env,w=>Q e ds env w
theorem block {i : Nat} {c : Code} (h : Holds r P N c ds env w (blk i Q)) : Holds r P N (.block i c) ds env w Q :=
  fun a ha => wpIn_block (Go.wpIn_mono (h a ha) fun e a' w' ⟨ds', env', hf, q⟩ => by
    cases e with
    | exit j =>
      simp only [blk] at q
      simp only [Exit.inBlock]
      split
      · rename_i h; rw [if_pos h] at q; exact ⟨ds', env', hf, q⟩
      · rename_i h; rw [if_neg h] at q; exact ⟨ds', env', hf, q⟩
    | normal => exact ⟨ds', env', hf, q⟩
    | ret => exact ⟨ds', env', hf, q⟩
    | goto i => exact ⟨ds', env', hf, q⟩
    | panic i => exact ⟨ds', env', hf, q⟩
    | outgrown => exact ⟨ds', env', hf, q⟩)
theorem yC {i:Nat} (h:Q .normal ds env w):blk i Q .normal ds env w:=h
theorem y7 {i:Nat} (h:Q .ret ds env w):blk i Q .ret ds env w:=h
theorem zW {i:Nat} (h:Q .normal ds env w):blk i Q (.exit i) ds env w:=by simpa [blk] using h
theorem j8 {i j:Nat} (hj:Nat.beq j i=false) (h:Q (.exit j) ds env w):blk i Q (.exit j) ds env w:=by
 have:j≠i:=fun e=>by subst e; simp at hj
 simpa [blk,this] using h
def lp {S:Type} (E:S→Env) (D:S→List Deferred) (R:S→World→Prop) (μ:S→Nat) (s:S) (Q:Post):Post
 | .normal,ds,env,w=>∃ s',ds=D s'∧Sub (E s') env∧R s' w∧μ s'<μ s
 | e,ds,env,w=>Q e ds env w
theorem uO {p:Nat→Prop} (h:∃ k,p k):∃ k,p k∧∀ j,p j→k≤j:=by
 classical
 obtain ⟨k,hk⟩:=h
 induction k using Nat.strongRecOn with
 | _ k ih =>
  by_cases hs:∃ j,j<k∧p j
  ·obtain ⟨j,hj,hp⟩:=hs; exact ih j hj hp
  ·exact ⟨k,hk,fun j hj=>Nat.le_of_not_lt fun hlt=>hs ⟨j,hlt,hj⟩⟩
theorem loopD {S:Type} (E:S→Env) (D:S→List Deferred) (R:S→World→Prop) (μ:S→Nat) (s0:S) {c:Code} (hds:ds=D s0) (h0:Sub (E s0) env) (hR:R s0 w)
  (hround:∀ s w,R s w→Holds r P N c (D s) (E s) w (lp E D R μ s Q)):Holds r P N (.loop c) ds env w Q:=by
 intro a ha
 classical
 refine wpIn_loop (fun a w=>∃ s,Fits N a (D s) (E s)∧R s w) (fun a w=>if h:∃ k s,Fits N a (D s) (E s)∧R s w∧μ s=k then Classical.choose (uO h) else 0) ?_ ?_
 ·exact ⟨s0,hds ▸ ha.sub h0,hR⟩
 ·rintro a1 w1 ⟨s1,hf1,hR1⟩
  have hex:∃ k s,Fits N a1 (D s) (E s)∧R s w1∧μ s=k:=⟨_,s1,hf1,hR1,rfl⟩
  obtain ⟨⟨s,hf,hRs,hk⟩,hmin⟩:=Classical.choose_spec (uO hex)
  refine Go.wpIn_mono (hround s w1 hRs a1 hf) ?_
  rintro e a2 w2 ⟨ds',env',hf',q⟩
  cases e with
  | normal =>
   obtain ⟨s',rfl,hs',hR',hlt⟩:=q
   refine ⟨⟨s',hf'.sub hs',hR'⟩,?_⟩
   have hex2:∃ k s,Fits N a2 (D s) (E s)∧R s w2∧μ s=k:=⟨_,s',hf'.sub hs',hR',rfl⟩
   have hm2:=(Classical.choose_spec (uO hex2)).2 (μ s') ⟨s',hf'.sub hs',hR',rfl⟩
   rw [dif_pos hex,dif_pos hex2]
   omega
  | ret=>exact ⟨ds',env',hf',q⟩
  | exit i=>exact ⟨ds',env',hf',q⟩
  | goto i=>exact ⟨ds',env',hf',q⟩
  | panic i=>exact ⟨ds',env',hf',q⟩
  | outgrown=>exact ⟨ds',env',hf',q⟩
theorem loop {S:Type} (E:S→Env) (R:S→World→Prop) (μ:S→Nat) (s0:S) {c:Code} (h0:Sub (E s0) env) (hR:R s0 w)
  (hround:∀ s w,R s w→Holds r P N c ds (E s) w (lp E (fun _=>ds) R μ s Q)):Holds r P N (.loop c) ds env w Q:=loopD E (fun _=>ds) R μ s0 rfl h0 hR hround
theorem yX {S:Type} {E:S→Env} {D:S→List Deferred} {R:S→World→Prop} {μ:S→Nat} {s:S} (s':S) (hs:Sub (E s') env) (hR:R s' w) (hm:μ s'<μ s) (hD:ds=D s':=by rfl):lp E D R μ s Q .normal ds env w:=⟨s',hD,hs,hR,hm⟩
theorem qD {S:Type} {E:S→Env} {D:S→List Deferred} {R:S→World→Prop} {μ:S→Nat} {s:S} (h:Q .ret ds env w):lp E D R μ s Q .ret ds env w:=h
theorem xH {S:Type} {E:S→Env} {D:S→List Deferred} {R:S→World→Prop} {μ:S→Nat} {s:S} {i:Nat} (h:Q (.exit i) ds env w):lp E D R μ s Q (.exit i) ds env w:=h
def mid {S:Type} (E:S→Env) (R:S→World→Prop) (ds0:List Deferred) (Q:Post):Post
 | .normal,ds,env,w=>ds=ds0∧∃ s,Sub (E s) env∧R s w
 | e,ds,env,w=>Q e ds env w
theorem cut {S : Type} (E : S → Env) (R : S → World → Prop) {x y : Code} (hx : Holds r P N x ds env w (mid E R ds Q)) (hy : ∀ s w, R s w → Holds r P N y ds (E s) w Q) : Holds r P N (.seq x y) ds env w Q :=
  seq (hx.mono fun e ds' env' w' q => by
    cases e with
    | normal => obtain ⟨rfl, s, hs, hR⟩ := q; exact (hy s w' hR).sub hs
    | ret => exact q
    | exit i => exact q
    | goto i => exact q
    | panic i => exact q
    | outgrown => exact q)
theorem VC {S:Type} {E:S→Env} {R:S→World→Prop} (s:S) (hs:Sub (E s) env) (hR:R s w):mid E R ds Q .normal ds env w:=⟨rfl,s,hs,hR⟩
theorem region {id:Nat} {l:List Oper} (h:Ops r P N l.toArray l ds env w Q):Holds r P N (.region id l.toArray false) ds env w Q:=fun a ha=>wpIn_region_lit (h a ha)
theorem zE {all:Array Oper} (h:Q .normal ds env w):Ops r P N all [] ds env w Q:=fun _ ha=>wpListIn_nil ⟨ds,env,ha,h⟩
theorem xS {all:Array Oper} {rest:List Oper} {d:Nat} {op:Op} {ty:TypeId} {pos:String} {after:Array Edge} {v:Value} {w':World}
  (hd:Nat.blt d N=true) (hop:∀ c,op≠.defer c) (hrun:∀ a,Fits N a ds env→(execOp a.eval ⟨some d,op,ty,pos,after,none⟩).run P w=.ok (.value v) w')
  (h:Ops r P N all rest ds ((d,v)::env) w' Q):Ops r P N all (⟨some d,op,ty,pos,after,none⟩::rest) ds env w Q:=by
 intro a ha
 refine wpListIn_plain rfl fun K hK=>⟨fun f _=>Fr_fn r f,?_⟩
 rw [semAt_Fr r _ _ hop,hrun a ha]
 exact hK _ _ (h _ (ha.put (by simpa [Nat.blt_eq] using hd) v))
theorem uX {all:Array Oper} {rest:List Oper} {op:Op} {ty:TypeId} {pos:String} {after:Array Edge} {w':World}
  (hop:∀ c,op≠.defer c) (hrun:∀ a,Fits N a ds env→(execOp a.eval ⟨none,op,ty,pos,after,none⟩).run P w=.ok .skip w'∨∃ v,(execOp a.eval ⟨none,op,ty,pos,after,none⟩).run P w=.ok (.value v) w')
  (h:Ops r P N all rest ds env w' Q):Ops r P N all (⟨none,op,ty,pos,after,none⟩::rest) ds env w Q:=by
 intro a ha
 refine wpListIn_plain rfl fun K hK=>⟨fun f _=>Fr_fn r f,?_⟩
 rw [semAt_Fr r _ _ hop]
 rcases hrun a ha with h1 | ⟨v,h1⟩ <;> rw [h1] <;> exact hK _ _ (h _ ha)
theorem zB {all:Array Oper} {rest:List Oper} {dst:Option Nat} {op:Op} {ty:TypeId} {pos:String} {after:Array Edge} {j:Nat} {want:Bool} {s:Nat} {b:Bool}
  (hj:(all[j]?).bind (·.dst)=some s) (hs:env.find s=some (.bool b)) (hb:b=want)
  (h:Ops r P N all (⟨dst,op,ty,pos,after,none⟩::rest) ds env w Q):Ops r P N all (⟨dst,op,ty,pos,after,some (j,want)⟩::rest) ds env w Q:=by
 intro a ha
 have hy:yielded all a.tmps j=some b:=by
  unfold yielded
  rw [hj]
  simp only [Option.bind_some]
  have h1:=ha.slot s _ hs
  rw [h1]
 have:=h a ha
 simp only [wpListIn,Region.wanted,if_true] at this
 simp only [wpListIn,Region.wanted,hy,hb,BEq.rfl,if_true]
 exact this
theorem zF {all:Array Oper} {rest:List Oper} {d:Nat} {op:Op} {ty:TypeId} {pos:String} {after:Array Edge} {j:Nat} {want:Bool} {s:Nat} {b:Bool}
  (hj:(all[j]?).bind (·.dst)=some s) (hs:env.find s=some (.bool b)) (hb:b = !want) (hd:Nat.blt d N=true)
  (h:Ops r P N all rest ds ((d,undef)::env) w Q):Ops r P N all (⟨some d,op,ty,pos,after,some (j,want)⟩::rest) ds env w Q:=by
 intro a ha
 have hy:yielded all a.tmps j=some b:=by
  unfold yielded
  rw [hj]
  simp only [Option.bind_some]
  have h1:=ha.slot s _ hs
  rw [h1]
 have hw:(some b == some want)=false:=by rw [hb]; cases want <;> rfl
 simp only [wpListIn,Region.wanted,hy,hw]
 exact ⟨fun f _=>Fr_fn r f,h _ (ha.put (by simpa [Nat.blt_eq] using hd) undef)⟩
end rules
section draw
variable {r : Option Nat} {P : Program} {ops : Array Oper} {S : World → Prop}
def YieldsS (P:Program) (ops:Array Oper) (S:World→Prop) (o:Oper) (v:Value) (a:Act):Prop :=
 (Region.wanted o (yielded ops a.tmps)=true∧∀ w,S w→(execOp a.eval o).run P w=.ok (.value v) w)∨(Region.wanted o (yielded ops a.tmps)=false∧v=undef)
theorem YieldsS.of_same {o:Oper} {v:Value} {a a':Act} (hy:YieldsS P ops S o v a) (he:execOp a'.eval o=execOp a.eval o)
  (hw:Region.wanted o (yielded ops a'.tmps)=Region.wanted o (yielded ops a.tmps)):YieldsS P ops S o v a':=by
 unfold YieldsS at *
 rw [he,hw]
 exact hy
def only (K:Act→World→Prop):Exit→Act→World→Prop
 | .normal,a,w=>K a w
 | _,_,_=>False
def noDefer (ops:Array Oper):Bool:=ops.all fun o=>match o.op with | .defer _=>false | .select .. => false | _=>true
theorem noDefer_spec (h:noDefer ops=true) {j:Nat} {o:Oper} (ho:ops[j]? = some o):(∀ c,o.op≠.defer c)∧(∀ cs b,o.op≠.select cs b):=by
 obtain ⟨hj,rfl⟩:=Array.getElem?_eq_some_iff.1 ho
 have:=Array.all_eq_true.1 h j hj
 constructor
 ·intro c hc; rw [hc] at this; cases this
 ·intro cs b hc; rw [hc] at this; cases this
theorem YieldsS.wpOp {K0:Act→World→Prop} {i:Nat} {o:Oper} {v:Value} {a:Act} (hi:ops[i]? = some o) (hd:∀ c,o.op≠.defer c) (hy:YieldsS P ops S o v a)
  {K:Act→World→Prop} {w:World} (hS:S w) (h:K (a.put o.dst v) w):wpOpIn (Fr r) 0 P ops (only K0) i K a w:=by
 unfold wpOpIn
 simp only [hi]
 rcases hy with ⟨hw,hv⟩ | ⟨hw,rfl⟩
 ·simp only [hw,if_true,Oper.wpIn,semAt_Fr r _ _ hd,hv w hS,Oper.uponIn]; exact ⟨fun f _=>Fr_fn r f,h⟩
 ·simp only [hw,Bool.false_eq_true,if_false]; exact ⟨fun f _=>Fr_fn r f,h⟩
theorem wpOp_putS {K0:Act→World→Prop} {j:Nat} {oi oj:Oper} {v:Value} (hj:ops[j]? = some oj) (hap:oi.apart ops oj=true) (hnd:noDefer ops=true)
  (hsi:∀ cs b,oi.op≠.select cs b) {K:Act→World→Prop} {a:Act} {w:World}
  (hy:YieldsS P ops S oi v a) (h:wpOpIn (Fr r) 0 P ops (only K0) j K (a.put oi.dst v) w) :
  wpOpIn (Fr r) 0 P ops (only K0) j (fun a' w'=>YieldsS P ops S oi v a'∧K (a'.put oi.dst v) w') a w:=by
 obtain ⟨h1,h2,h3⟩:=Oper.apart_spec hap
 obtain ⟨hdj,hsj⟩:=noDefer_spec hnd hj
 have keep:∀ (a:Act),YieldsS P ops S oi v a→∀ u,YieldsS P ops S oi v (a.put oj.dst u):=fun a hy u =>
  hy.of_same (execOp_put oi hsi a oj.dst u h3) (wanted_put oi a oj.dst u h3)
 have keepD:∀ d,YieldsS P ops S oi v { a with defers:=d::a.defers }:=fun d=>hy.of_same rfl rfl
 unfold wpOpIn at *
 simp only [hj] at *
 rw [wanted_put oj a oi.dst v h1] at h
 split
 ·rename_i hw
  simp only [hw,if_true] at h
  unfold Oper.wpIn at *
  refine ⟨fun f _=>Fr_fn r f,?_⟩
  have h:=h.2
  rw [semAt_Fr r _ _ hdj,execOp_put oj hsj a oi.dst v h1] at h
  rw [semAt_Fr r _ _ hdj]
  generalize (execOp a.eval oj).run P w=res at *
  cases res with
  | ok x w' =>
   cases x <;> simp only [Oper.uponIn] at h ⊢
   case value u=>exact ⟨keep a hy u,by rw [← Act.put_comm a v u h2]; exact h⟩
   case skip=>exact ⟨keep a hy _,by rw [← Act.put_comm a v undef h2]; exact h⟩
   case defer d =>
    refine ⟨keep { a with defers:=d::a.defers } (keepD d) _,?_⟩
    rw [← Act.put_comm _ v undef h2, ← Act.put_defers]
    exact h
   case enter f args =>
    refine ⟨h.1,CallsIn.mono h.2 fun e w'' he=>?_⟩
    cases e with
    | returned u=>exact ⟨keep a hy u,by rw [← Act.put_comm a v u h2]; exact he⟩
    | panicked c=>exact he
    | outgrown=>exact he
   case row row args=>exact ⟨h.1,RowsIn.mono h.2 fun u w'' he=>⟨keep a hy u,by rw [← Act.put_comm a v u h2]; exact he⟩⟩
   case round l f tmps assign body =>
    refine ⟨h.1,RoundIn.mono h.2 fun e w'' he=>?_⟩
    cases e with
    | returned u=>exact ⟨keep a hy u,by rw [← Act.put_comm a v u h2]; exact he⟩
    | panicked c=>exact he
    | outgrown=>exact he
  | halt x w' =>
   cases x <;> simp only [Oper.uponIn] at h ⊢
   case panic u=>exact h
 ·rename_i hw
  simp only [hw] at h
  exact ⟨fun f _=>Fr_fn r f,keep a hy _,by rw [← Act.put_comm a v undef h2]; exact h.2⟩
def AnyS (r:Option Nat) (P:Program) (S:World→Prop) (ops:Array Oper) (K0:Act→World→Prop):Nat→Array Bool→Act→World→Prop
 | 0,listed,a,w=>Region.ready .any ops listed=[]∧K0 a w
 | fuel+1,listed,a,w=>(Region.ready .any ops listed=[]→K0 a w) ∧
  ∀ i∈Region.ready .any ops listed,wpOpIn (Fr r) 0 P ops (only K0) i (fun a' w'=>S w'∧AnyS r P S ops K0 fuel (listed.setIfInBounds i true) a' w') a w
theorem uH {K0:Act→World→Prop}:∀ (fuel:Nat) (listed:Array Bool) (a:Act) (w:World),AnyS r P S ops K0 fuel listed a w→wpAnyIn (Fr r) 0 P .any ops (only K0) fuel listed a w
 | 0,_,_,_,h=>h
 | fuel+1,_,_,_,h=>⟨h.1,fun i hi=>wpOpIn_mono (fun a' w' h'=>uH fuel _ a' w' h'.2) (h.2 i hi)⟩
theorem YI {K0 : Act → World → Prop} {i : Nat} {oi : Oper} {v : Value} (hi : ops[i]? = some oi) (hnd : noDefer ops = true) :
    ∀ (fuel : Nat) (listed : Array Bool) (a : Act) (w : World),
      (∀ j oj, ops[j]? = some oj → j ≠ i → listed.getD j true = false → (∀ e ∈ oj.after, Region.binds .any e = true → e.on ≠ i) → oi.apart ops oj = true) →
      i ∈ Region.ready .any ops listed → YieldsS P ops S oi v a → S w →
      AnyS r P S ops K0 fuel (listed.setIfInBounds i true) (a.put oi.dst v) w → AnyS r P S ops K0 (fuel + 1) listed a w := by
  intro fuel
  induction fuel with
  | zero =>
    intro listed a w _ hr hy hS H
    refine ⟨fun h => (by rw [h] at hr; cases hr), fun j hj => ?_⟩
    by_cases hji : j = i
    · subst hji; exact hy.wpOp hi (noDefer_spec hnd hi).1 hS ⟨hS, H⟩
    · have := ready_mono hj hji
      rw [H.1] at this
      cases this
  | succ fuel ih =>
    intro listed a w hfree hr hy hS H
    refine ⟨fun h => (by rw [h] at hr; cases hr), fun j hj => ?_⟩
    by_cases hji : j = i
    · subst hji; exact hy.wpOp hi (noDefer_spec hnd hi).1 hS ⟨hS, H⟩
    · have h1 := H.2 j (ready_mono hj hji)
      obtain ⟨hjun, oj, hoj, hall⟩ := mem_ready.1 hj
      have hnot : ∀ e ∈ oj.after, Region.binds .any e = true → e.on ≠ i := fun e he hb heq => by
        have h1 := hall e he hb
        have h0 := (mem_ready.1 hr).1
        rw [heq] at h1
        rcases Nat.lt_or_ge i listed.size with h' | h'
        · simp [h'] at h0 h1; rw [h0] at h1; cases h1
        · simp [Array.getElem?_eq_none h'] at h1
      have h2 := wpOp_putS hoj (hfree j oj hoj hji hjun hnot) hnd (noDefer_spec hnd hi).2 hy h1
      have hfree' : ∀ k ok, ops[k]? = some ok → k ≠ i → (listed.setIfInBounds j true).getD k true = false →
          (∀ e ∈ ok.after, Region.binds .any e = true → e.on ≠ i) → oi.apart ops ok = true := fun k ok hk hki hun hno => by
        refine hfree k ok hk hki ?_ hno
        by_cases hjk : j = k
        · subst hjk; exact hjun
        · rw [getD_set_ne true hjk] at hun; exact hun
      refine wpOpIn_mono (fun a' w' h3 => ⟨h3.2.1, ih (listed.setIfInBounds j true) a' w' hfree' (ready_mono hr (Ne.symm hji)) h3.1 h3.2.1 ?_⟩) h2
      rw [Array.setIfInBounds_comm _ _ hji]
      exact h3.2.2
end draw
section drawE
variable {r : Option Nat} {P : Program} {N : Nat} {S : World → Prop} {ops : Array Oper} {ds : List Deferred} {env : Env} {w : World} {Q : Post} {listed : Array Bool} {fuel : Nat}
def AnyE (r:Option Nat) (P:Program) (N:Nat) (S:World→Prop) (ops:Array Oper) (fuel:Nat) (listed:Array Bool) (ds:List Deferred) (env:Env) (w:World) (Q:Post):Prop :=
 ∀ a,Fits N a ds env→AnyS r P S ops (fun a w=>lift N Q .normal a w) fuel listed a w
def Yv (P:Program) (N:Nat) (ds:List Deferred) (env:Env) (op:Op) (v:Value) (S:World→Prop):Prop :=
 ∀ a,Fits N a ds env→∀ w,S w→∀ d ty pos after g,(execOp a.eval ⟨d,op,ty,pos,after,g⟩).run P w=.ok (.value v) w
def takesOK (ops:Array Oper) (fuel:Nat) (listed:Array Bool):List Nat→Bool
 | []=>true
 | i::is=>match fuel with
  | 0=>false
  | fuel+1=>Region.free .any ops listed i && (Region.ready .any ops listed).contains i && takesOK ops fuel (listed.setIfInBounds i true) is
def setAll (listed:Array Bool):List Nat→Array Bool
 | []=>listed
 | i::is=>setAll (listed.setIfInBounds i true) is
def Qs (P:Program) (N:Nat) (S:World→Prop) (ops:Array Oper) (ds:List Deferred) (K:Env→Prop):List Nat→Env→Prop
 | [],env=>K env
 | i::is,env=>∃ o d v,ops[i]? = some o∧o.dst=some d∧d<N∧(∀ a,Fits N a ds env→YieldsS P ops S o v a)∧Qs P N S ops ds K is ((d,v)::env)
theorem zR (is:List Nat) (hnd:noDefer ops=true) (hs:S w)
  : ∀ (fuel:Nat) (listed:Array Bool) (env:Env),takesOK ops fuel listed is=true →
   Qs P N S ops ds (fun env=>AnyE r P N S ops (fuel - is.length) (setAll listed is) ds env w Q) is env→AnyE r P N S ops fuel listed ds env w Q:=by
 induction is with
 | nil=>intro fuel listed env _ h; exact h
 | cons i is ih =>
  intro fuel listed env hok h
  obtain ⟨o,d,v,ho,hd,hN,hy,h⟩:=h
  cases fuel with
  | zero=>simp [takesOK] at hok
  | succ fuel =>
   simp only [takesOK,Bool.and_eq_true] at hok
   obtain ⟨⟨hf,hr⟩,hok⟩:=hok
   intro a ha
   refine YI ho hnd fuel listed a w (Region.free_spec ho hf) (by simpa using hr) (hy a ha) hs ?_
   have e:fuel+1 - (i::is).length=fuel - is.length:=by simp
   rw [e] at h
   exact ih fuel _ _ hok h _ (by rw [hd]; exact ha.put hN v)
theorem zV {K:Env→Prop} (h:K env):Qs P N S ops ds K [] env:=h
theorem zI {K:Env→Prop} {i:Nat} {is:List Nat} {d:Nat} {op:Op} {ty:TypeId} {pos:String} {after:Array Edge} {v:Value}
  (hi:ops[i]? = some ⟨some d,op,ty,pos,after,none⟩) (hN:Nat.blt d N=true) (hy:Yv P N ds env op v S) (h:Qs P N S ops ds K is ((d,v)::env)):Qs P N S ops ds K (i::is) env :=
 ⟨_,d,v,hi,rfl,by simpa [Nat.blt_eq] using hN,fun a ha=>.inl ⟨rfl,fun w hw=>hy a ha w hw _ _ _ _ _⟩,h⟩
theorem qI {j s:Nat} {b:Bool} {a:Act} (hj:(ops[j]?).bind (·.dst)=some s) (hs:env.find s=some (.bool b)) (ha:Fits N a ds env):yielded ops a.tmps j=some b:=by
 unfold yielded
 rw [hj]
 simp only [Option.bind_some]
 have h1:=ha.slot s _ hs
 rw [h1]
theorem yY {K:Env→Prop} {i:Nat} {is:List Nat} {d:Nat} {op:Op} {ty:TypeId} {pos:String} {after:Array Edge} {v:Value} {j:Nat} {want:Bool} {s:Nat} {b:Bool}
  (hi:ops[i]? = some ⟨some d,op,ty,pos,after,some (j,want)⟩) (hj:(ops[j]?).bind (·.dst)=some s) (hs:env.find s=some (.bool b)) (hb:b=want)
  (hN:Nat.blt d N=true) (hy:Yv P N ds env op v S) (h:Qs P N S ops ds K is ((d,v)::env)):Qs P N S ops ds K (i::is) env :=
 ⟨_,d,v,hi,rfl,by simpa [Nat.blt_eq] using hN,fun a ha=>.inl ⟨by simp [Region.wanted,qI hj hs ha,hb],fun w hw=>hy a ha w hw _ _ _ _ _⟩,h⟩
theorem xW {K:Env→Prop} {i:Nat} {is:List Nat} {d:Nat} {op:Op} {ty:TypeId} {pos:String} {after:Array Edge} {j:Nat} {want:Bool} {s:Nat} {b:Bool}
  (hi:ops[i]? = some ⟨some d,op,ty,pos,after,some (j,want)⟩) (hj:(ops[j]?).bind (·.dst)=some s) (hs:env.find s=some (.bool b)) (hb:b = !want)
  (hN:Nat.blt d N=true) (h:Qs P N S ops ds K is ((d,undef)::env)):Qs P N S ops ds K (i::is) env :=
 ⟨_,d,undef,hi,rfl,by simpa [Nat.blt_eq] using hN,fun a ha=>.inr ⟨by simp only [Region.wanted,qI hj hs ha,hb]; cases want <;> rfl,rfl⟩,h⟩
theorem ZP {S:World→Prop} (hS:S w) {all:Array Oper} {rest:List Oper} {d:Nat} {op:Op} {ty:TypeId} {pos:String} {after:Array Edge} {v:Value}
  (hop:(match op with | .defer _=>false | _=>true)=true) (hd:Nat.blt d N=true) (hy:Yv P N ds env op v S)
  (h:Ops r P N all rest ds ((d,v)::env) w Q):Ops r P N all (⟨some d,op,ty,pos,after,none⟩::rest) ds env w Q :=
 xS hd (fun c hc=>by rw [hc] at hop; cases hop) (fun a ha=>hy a ha w hS _ _ _ _ _) h
theorem yH (hr:Region.ready .any ops listed=[]) (h:Q .normal ds env w):AnyE r P N S ops fuel listed ds env w Q:=fun a ha=>by
 cases fuel with
 | zero=>exact ⟨hr,ds,env,ha,h⟩
 | succ fuel=>exact ⟨fun _=>⟨ds,env,ha,h⟩,by rw [hr]; simp⟩
def stepPost (r:Option Nat) (P:Program) (N:Nat) (S:World→Prop) (ops:Array Oper) (fuel:Nat) (listed:Array Bool) (Q:Post):Post
 | .normal,ds,env,w=>S w∧AnyE r P N S ops fuel listed ds env w Q
 | _,_,_,_=>False
def AllR (r:Option Nat) (P:Program) (N:Nat) (S:World→Prop) (ops:Array Oper) (fuel:Nat) (listed:Array Bool) (ds:List Deferred) (env:Env) (w:World) (Q:Post):List Nat→Prop
 | []=>True
 | i::is=>(∃ o,ops[i]? = some o∧Ops r P N ops [o] ds env w (stepPost r P N S ops fuel (listed.setIfInBounds i true) Q))∧AllR r P N S ops fuel listed ds env w Q is
theorem AllR.mem {is:List Nat} (h:AllR r P N S ops fuel listed ds env w Q is) {i:Nat} (hi:i∈is):∃ o,ops[i]? = some o∧Ops r P N ops [o] ds env w (stepPost r P N S ops fuel (listed.setIfInBounds i true) Q):=by
 induction is with
 | nil=>cases hi
 | cons j is ih =>
  rcases List.mem_cons.1 hi with rfl | hi
  ·exact h.1
  ·exact ih h.2 hi
theorem X0 (rs : List Nat) (hr : Region.ready .any ops listed = rs) (hne : rs.isEmpty = false) (h : AllR r P N S ops fuel listed ds env w Q rs) : AnyE r P N S ops (fuel + 1) listed ds env w Q := by
  intro a ha
  refine ⟨fun h0 => (by rw [hr] at h0; subst h0; cases hne), fun i hi => ?_⟩
  rw [hr] at hi
  obtain ⟨o, ho, hop⟩ := h.mem hi
  have h1 := hop a ha
  unfold wpOpIn
  simp only [ho]
  simp only [wpListIn] at h1
  split
  · rename_i hw
    rw [if_pos hw] at h1
    refine ⟨h1.1, ?_⟩
    have h2 := h1.2
    generalize (o.semAt (Fr r).round a.eval).run P w = res at *
    have fin : ∀ a' w', lift N (stepPost r P N S ops fuel (listed.setIfInBounds i true) Q) .normal a' w' →
        S w' ∧ AnyS r P S ops (fun a w => lift N Q .normal a w) fuel (listed.setIfInBounds i true) a' w' := fun a' w' ⟨ds', env', hf, hs, hA⟩ => ⟨hs, hA a' hf⟩
    cases res with
    | ok x w' =>
      cases x <;> simp only [Oper.uponIn] at h2 ⊢
      case value u => exact fin _ _ h2
      case skip => exact fin _ _ h2
      case defer d => exact fin _ _ h2
      case enter f args =>
        refine ⟨h2.1, CallsIn.mono h2.2 fun e w'' he => ?_⟩
        cases e with
        | returned u => exact fin _ _ he
        | panicked c => obtain ⟨_, _, _, hx⟩ := he; exact hx.elim
        | outgrown => obtain ⟨_, _, _, _, _, hx⟩ := he; exact hx.elim
      case row row args => exact ⟨h2.1, RowsIn.mono h2.2 fun u w'' he => fin _ _ he⟩
      case round l f tmps assign body =>
        refine ⟨h2.1, RoundIn.mono h2.2 fun e w'' he => ?_⟩
        cases e with
        | returned u => exact fin _ _ he
        | panicked c => obtain ⟨_, _, _, hx⟩ := he; exact hx.elim
        | outgrown => obtain ⟨_, _, _, _, _, hx⟩ := he; exact hx.elim
    | halt x w' =>
      cases x <;> simp only [Oper.uponIn] at h2 ⊢
      case panic u => obtain ⟨_, _, _, hx⟩ := h2; exact hx.elim
  · rename_i hw
    rw [if_neg hw] at h1
    obtain ⟨ds', env', hf, hs, hA⟩ := h1.2
    exact ⟨h1.1, hs, hA _ hf⟩
def Redrawn (w w':World):Prop:=w'.heap=w.heap∧w'.os=w.os∧w'.tape=w.tape∧w'.output=w.output
theorem z8 {id:Nat} {l:List Oper} (S:World→Prop) (hm:P.follows .mixedOrders=true)
  (h:∀ w1,Redrawn w w1→AnyE r P N S l.toArray l.length (Array.replicate l.length false) ds env w1 Q):Holds r P N (.region id l.toArray true) ds env w Q:=by
 intro a ha
 refine Go.wpIn_mono (Q:=only fun a w=>lift N Q .normal a w) ?_ ?_
 ·refine wpIn_region_any hm (uH (S:=S) _ _ _ _ ?_)
  have:=h { w with drawn:=w.drawn+1 } ⟨rfl,rfl,rfl,rfl⟩ a ha
  simpa using this
 ·intro e a' w' hq
  cases e with
  | normal=>exact hq
  | _=>exact hq.elim
end drawE
end Go.Fip
namespace Go.Fip
open Go.RowKit
structure Agree (lo hi:Nat) (w w':World):Prop where
 os:w'.os=w.os
 tape:w'.tape=w.tape
 output:w'.output=w.output
 size:w.heap.size≤w'.heap.size
 block:∀ k,lo≤k→k<hi→w'.heap[k]? = w.heap[k]?
theorem Agree.refl (lo hi:Nat) (w:World):Agree lo hi w w:=⟨rfl,rfl,rfl,Nat.le_refl _,fun _ _ _=>rfl⟩
theorem Agree.trans {lo hi:Nat} {a b c:World} (h:Agree lo hi a b) (k:Agree lo hi b c):Agree lo hi a c :=
 ⟨k.os.trans h.os,k.tape.trans h.tape,k.output.trans h.output,Nat.le_trans h.size k.size,fun i h1 h2=>(k.block i h1 h2).trans (h.block i h1 h2)⟩
theorem Agree.mono {lo hi lo' hi':Nat} {w w':World} (h:Agree lo hi w w') (h1:lo≤lo') (h2:hi'≤hi):Agree lo' hi' w w' :=
 ⟨h.os,h.tape,h.output,h.size,fun k a b=>h.block k (by omega) (by omega)⟩
theorem Agree.of_below {lo hi B:Nat} {w w':World} (h:Below B w w') (hB:hi≤B):Agree lo hi w w':=⟨h.os,h.tape,h.output,h.size,fun k _ b=>h.block k (by omega)⟩
theorem Agree.below {hi:Nat} {w w':World} (h:Agree 0 hi w w'):Below hi w w':=⟨h.os,h.tape,h.output,h.size,fun k b=>h.block k (Nat.zero_le _) b⟩
theorem Below.of_redrawn {w w':World} (h:Redrawn w w') (B:Nat):Below B w w':=⟨h.2.1,h.2.2.1,h.2.2.2,by rw [h.1]; exact Nat.le_refl _,fun k _=>by rw [h.1]⟩
structure Item where
 lo:Nat
 hi:Nat
 φ:World→Prop
def Item.ok (i:Item) (w:World):Prop:=i.lo≤i.hi∧i.hi≤w.heap.size∧∀ w',Agree i.lo i.hi w w'→i.φ w'
theorem Item.ok.now {i:Item} {w:World} (h:i.ok w):i.φ w:=h.2.2 w (Agree.refl _ _ _)
theorem Item.ok.agree {i:Item} {w w':World} (h:i.ok w) (ha:Agree i.lo i.hi w w'):i.ok w':=⟨h.1,Nat.le_trans h.2.1 ha.size,fun w'' hw=>h.2.2 w'' (ha.trans hw)⟩
def Item.apart (i j:Item):Prop:=i.hi≤j.lo∨j.hi≤i.lo
theorem Item.apart.symm {i j:Item} (h:i.apart j):j.apart i:=h.elim .inr .inl
structure Heap (H:List Item) (w:World):Prop where
 ok:∀ i∈H,i.ok w
 apart:H.Pairwise Item.apart
structure Off (lo hi:Nat) (w w':World):Prop where
 os:w'.os=w.os
 tape:w'.tape=w.tape
 output:w'.output=w.output
 size:w.heap.size≤w'.heap.size
 block:∀ k,k<w.heap.size→(k<lo∨hi≤k)→w'.heap[k]? = w.heap[k]?
theorem Off.agree {lo hi a b:Nat} {w w':World} (h:Off lo hi w w') (hb:b≤w.heap.size) (hap:b≤lo∨hi≤a):Agree a b w w' :=
 ⟨h.os,h.tape,h.output,h.size,fun k h1 h2=>h.block k (by omega) (by omega)⟩
theorem Heap.get {H:List Item} {w:World} (h:Heap H w) {n:Nat} {i:Item} (hn:H[n]? = some i):i.φ w:=(h.ok i (List.mem_of_getElem? hn)).now
theorem Heap.okAt {H:List Item} {w:World} (h:Heap H w) {n:Nat} {i:Item} (hn:H[n]? = some i):i.ok w:=h.ok i (List.mem_of_getElem? hn)
theorem Heap.grow {H:List Item} {w w':World} (h:Heap H w) (hb:Below w.heap.size w w'):Heap H w' :=
 ⟨fun i hi=>(h.ok i hi).agree (Agree.of_below hb (h.ok i hi).2.1),h.apart⟩
theorem Heap.redrawn {H:List Item} {w w':World} (h:Heap H w) (hr:Redrawn w w'):Heap H w':=h.grow (Below.of_redrawn hr _)
theorem Heap.add {H:List Item} {w w':World} (h:Heap H w) (hb:Below w.heap.size w w') {i:Item} (hlo:w.heap.size≤i.lo) (hok:i.ok w'):Heap (i::H) w':=by
 refine ⟨fun j hj=>?_,List.Pairwise.cons (fun j hj=>.inr ?_) h.apart⟩
 ·rcases List.mem_cons.1 hj with rfl | hj
  ·exact hok
  ·exact (h.grow hb).ok j hj
 ·exact Nat.le_trans (h.ok j hj).2.1 hlo
theorem Heap.set {H:List Item} {w w':World} (h:Heap H w) {n:Nat} {i j:Item} (hn:H[n]? = some i) (ho:Off i.lo i.hi w w')
  (hj:(i.lo≤j.lo∧j.hi≤i.hi)∨w.heap.size≤j.lo) (hok:j.ok w'):Heap (H.set n j) w':=by
 induction H generalizing n with
 | nil=>simp at hn
 | cons x H ih =>
  have hx:=h.ok x (by simp)
  have hp:=List.pairwise_cons.1 h.apart
  cases n with
  | zero =>
   simp at hn; subst hn
   refine ⟨fun y hy=>?_,List.Pairwise.cons (fun y hy=>?_) hp.2⟩
   ·rcases List.mem_cons.1 hy with rfl | hy
    ·exact hok
    ·have hy':=h.ok y (List.mem_cons_of_mem _ hy)
     exact hy'.agree (ho.agree hy'.2.1 (by have:=hp.1 y hy; unfold Item.apart at this; omega))
   ·have h1:=hp.1 y hy
    have h2:=(h.ok y (List.mem_cons_of_mem _ hy)).2.1
    have h3:=(h.ok y (List.mem_cons_of_mem _ hy)).1
    have h4:=hok.1
    unfold Item.apart at *
    omega
  | succ n =>
   have hn':H[n]? = some i:=by simpa using hn
   have h':=ih ⟨fun y hy=>h.ok y (List.mem_cons_of_mem _ hy),hp.2⟩ hn'
   have hi:=h.ok i (List.mem_cons_of_mem _ (List.mem_of_getElem? hn'))
   have hxi:=hp.1 i (List.mem_of_getElem? hn')
   refine ⟨fun y hy=>?_,List.Pairwise.cons (fun y hy=>?_) h'.apart⟩
   ·rcases List.mem_cons.1 hy with rfl | hy
    ·exact hx.agree (ho.agree hx.2.1 (by unfold Item.apart at hxi; omega))
    ·exact h'.ok y hy
   ·rcases List.mem_or_eq_of_mem_set hy with hy | rfl
    ·exact hp.1 y hy
    ·have h4:=hok.1
     have h5:=hx.1
     have h6:=hx.2.1
     unfold Item.apart at *
     omega
theorem Heap.sub {H H':List Item} {w:World} (h:Heap H w) (hs:H'.Sublist H):Heap H' w:=⟨fun i hi=>h.ok i (hs.subset hi),h.apart.sublist hs⟩
theorem Heap.weaken {H : List Item} {w : World} (h : Heap H w) {n : Nat} {i : Item} {φ : World → Prop} (hn : H[n]? = some i) (hw : ∀ w', i.φ w' → φ w') : Heap (H.set n ⟨i.lo, i.hi, φ⟩) w :=
  h.set hn ⟨rfl, rfl, rfl, Nat.le_refl _, fun _ _ _ => rfl⟩ (.inl ⟨Nat.le_refl _, Nat.le_refl _⟩) (by
    have hi := h.okAt hn
    exact ⟨hi.1, hi.2.1, fun w' hw' => hw _ (hi.2.2 w' hw')⟩)
def base (w0:World):Item:=⟨0,w0.heap.size,Below w0.heap.size w0⟩
theorem Heap.start (w0 : World) : Heap [base w0] w0 :=
  ⟨fun i hi => by
    simp at hi; subst hi
    exact ⟨Nat.zero_le _, Nat.le_refl _, fun w' h => h.below⟩, by simp⟩
structure Fn (P:Program) (f:FuncId) (args:Array Value) (w:World) (R:Value→World→Prop):Prop where
 enters:∀ w',(callFunc f args).run P w'=.ok (.enter f args) w'
 calls:CallsIn Fence.wide 0 P f args w fun e w'=>∃ v,e=.returned v∧Below w.heap.size w w'∧∀ w'',Agree w.heap.size w'.heap.size w' w''→R v w''
theorem Fn.callsFr {P:Program} {f:FuncId} {args:Array Value} {w:World} {R:Value→World→Prop} (h:Fn P f args w R) (r:Option Nat) :
  CallsIn (Fr r) 0 P f args w fun e w'=>∃ v,e=.returned v∧Below w.heap.size w w'∧∀ w'',Agree w.heap.size w'.heap.size w' w''→R v w'':=by
 cases r with
 | none=>exact h.calls
 | some l=>exact h.calls
def evs (env:Env):List Operand→Option (List Value)
 | []=>some []
 | x::xs=>match ev env x,evs env xs with
  | some v,some vs=>some (v::vs)
  | _,_=>none
theorem Fits.evs {N:Nat} {a:Act} {ds:List Deferred} {env:Env} (h:Fits N a ds env):∀ {xs:List Operand} {vs:List Value},evs env xs=some vs→xs.map a.eval=vs
 | [],vs,hx=>by simp [Fip.evs] at hx; simp [hx]
 | x::xs,vs,hx=>by
  simp only [Fip.evs] at hx
  split at hx
  ·rename_i v us h1 h2
   cases hx
   simp [h.ev h1,Fits.evs h h2]
  ·cases hx
section calls
variable {r : Option Nat} {P : Program} {N : Nat} {ds : List Deferred} {env : Env} {w : World} {Q : Post} {all : Array Oper} {rest : List Oper} {H : List Item}
theorem xR {d:Nat} {c:Operand} {xs:List Operand} {vs:List Value} {ats:Array TypeId} {ty:TypeId} {pos:String} {after:Array Edge} {f:FuncId} {first cap:List Value} {R:Value→World→Prop}
  (hf:ev env c=some (.func (.func f) first.toArray cap.toArray)) (hx:evs env xs=some vs) (hd:Nat.blt d N=true) (hH:Heap H w)
  (hc:Fn P f (first++(vs++cap)).toArray w R)
  (h:∀ v w' lo hi,Heap (⟨lo,hi,R v⟩::H) w'→R v w'→Ops r P N all rest ds ((d,v)::env) w' Q) :
  Ops r P N all (⟨some d,.call ⟨.value c,xs.toArray,ats⟩,ty,pos,after,none⟩::rest) ds env w Q:=by
 intro a ha
 refine wpListIn_plain rfl fun K hK=>⟨fun f _=>Fr_fn r f,?_⟩
 rw [semAt_Fr r _ _ (fun c hc=>by cases hc)]
 have hargs:(xs.toArray.map a.eval)=vs.toArray:=by rw [List.map_toArray,ha.evs hx]
 have hrun:(execOp a.eval ⟨some d,.call ⟨.value c,xs.toArray,ats⟩,ty,pos,after,none⟩).run P w=.ok (.enter f (first++(vs++cap)).toArray) w:=by
  simp only [execOp,resolve,hargs,ha.ev hf,Deferred.ofValue,Sem.run_bind,Sem.run_pure,Result.andThen,invoke]
  have e:first.toArray++vs.toArray++cap.toArray=(first++(vs++cap)).toArray:=by simp
  rw [e]
  exact hc.enters w
 rw [hrun]
 refine ⟨fun h=>by simp [Fr_depth] at h,CallsIn.mono (hc.callsFr r) ?_⟩
 rintro e w' ⟨v,rfl,hb,hR⟩
 exact hK _ _ (h v w' w.heap.size w'.heap.size (hH.add hb (Nat.le_refl _) ⟨hb.size,Nat.le_refl _,hR⟩) (hR w' (Agree.refl _ _ _)) _ (ha.put (by simpa [Nat.blt_eq] using hd) v))
theorem zS {d:Nat} {c:Operand} {xs:List Operand} {vs:List Value} {ats:Array TypeId} {ty:TypeId} {pos:String} {after:Array Edge} {f:FuncId} {first cap:List Value} {v:Value}
  (hf:ev env c=some (.func (.func f) first.toArray cap.toArray)) (hx:evs env xs=some vs) (hd:Nat.blt d N=true) (hH:Heap H w)
  (hc:Fn P f (first++(vs++cap)).toArray w fun u _=>u=v)
  (h:∀ w',Heap H w'→Ops r P N all rest ds ((d,v)::env) w' Q) :
  Ops r P N all (⟨some d,.call ⟨.value c,xs.toArray,ats⟩,ty,pos,after,none⟩::rest) ds env w Q :=
 xR hf hx hd hH hc fun u w' lo hi hw hu=>by subst hu; exact h w' (hw.sub (List.sublist_cons_self _ _))
end calls
def RV (P:Program) (env:Env) (w:World):ResultVar→Value→Prop
 | .tmp t,v=>env.find t=some v
 | .cell t T,v=>∃ a,env.find t=some (.pointer (some a))∧(loadVar T a).run P w=.ok v w
def resSem (tmps:Array Value) (x:ResultVar):Sem Value :=
 match x with
  | .tmp t=>pure (tmps.getD t undef)
  | .cell a t=>do loadVar t (← asAddr (tmps.getD a undef))
theorem RV.run {P:Program} {N:Nat} {ds:List Deferred} {env:Env} {w:World} {x:ResultVar} {v:Value} (h:RV P env w x v) {a:Act} (ha:Fits N a ds env):(resSem a.tmps x).run P w=.ok v w:=by
 cases x with
 | tmp t =>
  have:=ha.slot t v h
  simp [resSem,this]
 | cell t T =>
  obtain ⟨p,h1,h2⟩:=h
  have:=ha.slot t _ h1
  simp [resSem,this,asAddr,h2]
def Results (P:Program) (fn:Func) (N:Nat) (ds:List Deferred) (env:Env) (w:World) (v:Value):Prop:=∀ a,Fits N a ds env→(results fn a.tmps).run P w=.ok v w
section results
variable {P : Program} {fn : Func} {N : Nat} {ds : List Deferred} {env : Env} {w : World} {x y z : ResultVar} {u v t : Value}
theorem XJ (h:fn.results = #[]):Results P fn N ds env w (.tuple #[]):=fun a _=>by simp [results,h]
theorem yI (h:fn.results = #[x]) (hx:RV P env w x u):Results P fn N ds env w u:=fun a ha=>by
 have e1:=hx.run ha
 unfold results
 rw [h]
 show (do let vs ← (#[x]:Array ResultVar).mapM (resSem a.tmps); pure (if h:vs.size=1 then vs[0] else .tuple vs):Sem Value).run P w=_
 simp [e1,Result.andThen]
theorem u0 (h:fn.results = #[x,y]) (hx:RV P env w x u) (hy:RV P env w y v):Results P fn N ds env w (.tuple #[u,v]):=fun a ha=>by
 have e1:=hx.run ha
 have e2:=hy.run ha
 unfold results
 rw [h]
 show (do let vs ← (#[x,y]:Array ResultVar).mapM (resSem a.tmps); pure (if h:vs.size=1 then vs[0] else .tuple vs):Sem Value).run P w=_
 simp [e1,e2,Result.andThen]
theorem WD (h:fn.results = #[x,y,z]) (hx:RV P env w x u) (hy:RV P env w y v) (hz:RV P env w z t):Results P fn N ds env w (.tuple #[u,v,t]):=fun a ha=>by
 have e1:=hx.run ha
 have e2:=hy.run ha
 have e3:=hz.run ha
 unfold results
 rw [h]
 show (do let vs ← (#[x,y,z]:Array ResultVar).mapM (resSem a.tmps); pure (if h:vs.size=1 then vs[0] else .tuple vs):Sem Value).run P w=_
 simp [e1,e2,e3,Result.andThen]
end results
def markItem (D:Nat):Item:=⟨D,D+1,fun w=>w.heap[D]? = some (.deferred (some []))⟩
def isMark (D:Nat):Deferred:={ target:=.collected D,args := #[] }
def bodyQ (P : Program) (fn : Func) (N : Nat) (w0 : World) (R : Value → World → Prop) : Post
  | .normal, ds, env, w | .ret, ds, env, w => ∃ (Ds : List Nat) (H : List Item) (v : Value), ds = Ds.map isMark ∧ Heap (Ds.map markItem ++ base w0 :: H) w ∧
      (∀ w', Heap (base w0 :: H) w' → Results P fn N ds env w' v) ∧ ∀ w', Heap H w' → R v w'
  | _, _, _, _ => False
theorem xZ (w:World) (D:Nat) (o:Obj):Off D (D+1) w (w.putObj D o):=⟨rfl,rfl,rfl,by simp,fun k _ hk=>World.putObj_heap_other (by omega)⟩
theorem Heap.kept {H:List Item} {w0 w w':World} (h:Heap (base w0::H) w) (ha:Agree w0.heap.size w.heap.size w w'):Heap H w':=by
 have hp:=List.pairwise_cons.1 h.apart
 refine ⟨fun i hi=>?_,hp.2⟩
 have h1:=h.ok i (List.mem_cons_of_mem _ hi)
 have h2:=hp.1 i hi
 refine h1.agree ⟨ha.os,ha.tape,ha.output,ha.size,fun k a b=>ha.block k ?_ (Nat.lt_of_lt_of_le b h1.2.1)⟩
 unfold Item.apart base at h2
 simp only at h2
 omega
theorem vV {P:Program} {fn:Func} {w0:World} {R:Value→World→Prop} {v:Value} {H:List Item} (tmps:Array Value)
  (hres:∀ w',Heap (base w0::H) w'→(results fn tmps).run P w'=.ok v w') (hR:∀ w',Heap H w'→R v w'):∀ (Ds:List Nat) (w:World),
  Heap (Ds.map markItem++base w0::H) w →
  LeavesInM Fence.wide 0 P fn tmps (fun e w'=>∃ v,e=.returned v∧Below w0.heap.size w0 w'∧∀ w'',Agree w0.heap.size w'.heap.size w' w''→R v w'') (Ds.map isMark) .returning w
 | [],w,hH=>⟨v,hres w hH,v,rfl,hH.get (n:=0) rfl,fun _ h2=>hR _ (hH.kept h2)⟩
 | D::Ds,w,hH=>by
  have hD:w.heap[D]? = some (.deferred (some [])):=hH.get (n:=0) rfl
  have hlt:D<w.heap.size:=(Array.getElem?_eq_some_iff.1 hD).1
  refine ⟨by simp,.inl ⟨D,_,rfl,run_takeDeferred hD,?_⟩⟩
  have h0:Heap (Ds.map markItem++base w0::H) (w.putObj D (.deferred none)):=by
   have:=hH.set (n:=0) (i:=markItem D) (j:=⟨D,D+1,fun _=>True⟩) (w':=w.putObj D (.deferred none)) rfl (xZ w D _) (.inl ⟨Nat.le_refl _,Nat.le_refl _⟩) ⟨by simp,by simp; omega,fun _ _=>trivial⟩
   exact this.sub (List.sublist_cons_self _ _)
  exact vV tmps hres hR Ds _ h0
theorem VZ {P:Program} {f:FuncId} {fn:Func} {c:Code} {args:List Value} {w:World} {R:Value→World→Prop} {env:Env} {N:Nat}
  (hf:P.funcs[f]? = some fn) (hb:fn.body=some c) (hen:∀ w',(callFunc f args.toArray).run P w'=.ok (.enter f args.toArray) w')
  (hN:fn.ntmps=N) (hargs:args.length≤N) (henv:∀ i v,env.find i=some v→args[i]? = some v)
  (h:Holds none P N c [] env w (bodyQ P fn N w R)):Fn P f args.toArray w R:=by
 refine ⟨hen,callsIn_of_wp_marks hf hb trivial ?_⟩
 refine Go.wpIn_mono (h { tmps:=args.toArray++Array.replicate (fn.ntmps - args.toArray.size) undef,defers:=[] } ⟨by simp [hN]; omega,rfl,fun i v hi=>?_⟩) ?_
 ·have h1:=henv i v hi
  have hlt:=(List.getElem?_eq_some_iff.1 h1).1
  simp only [Array.getElem?_append,List.size_toArray,hlt,if_true,List.getElem?_toArray]
  exact h1
 ·rintro e a' w' ⟨ds,env',hf',hq⟩
  cases e with
  | normal =>
   obtain ⟨Ds,H,v,rfl,hH,hres,hR⟩:=hq
   show LeavesInM _ _ _ _ _ _ a'.defers _ _
   rw [hf'.defers]
   exact vV a'.tmps (fun w2 h2=>hres w2 h2 a' hf') hR Ds w' hH
  | ret =>
   obtain ⟨Ds,H,v,rfl,hH,hres,hR⟩:=hq
   show LeavesInM _ _ _ _ _ _ a'.defers _ _
   rw [hf'.defers]
   exact vV a'.tmps (fun w2 h2=>hres w2 h2 a' hf') hR Ds w' hH
  | exit i=>exact hq.elim
  | goto i=>exact hq.elim
  | panic i=>exact hq.elim
  | outgrown=>exact hq.elim
theorem ent {P:Program} {f:FuncId} {fn:Func} {c:Code} (hf:P.funcs[f]? = some fn) (hname:(fn.name == "runtime.NumGoroutine")=false) (hb:fn.body=some c):∀ (aS0:Array Value) (w:World),(callFunc f aS0).run P w=.ok (.enter f aS0) w:=by
 intro args w
 have h1:fn.name ≠ "runtime.NumGoroutine" := by simpa using hname
 simp [callFunc,hf,h1,hb,mark]
def argEnv:Nat→List Value→Env
 | _,[]=>[]
 | i,v::vs=>(i,v)::argEnv (i+1) vs
theorem uD (args:List Value):∀ (k i:Nat) (v:Value),(argEnv k args).find i=some v→k≤i∧args[i - k]? = some v:=by
 induction args with
 | nil=>intro k i v h; simp [argEnv,Env.find] at h
 | cons u us ih =>
  intro k i v h
  simp only [argEnv,Env.find] at h
  split at h
  ·rename_i hb
   cases h
   have:k=i:=Nat.eq_of_beq_eq_true hb
   subst this
   simp
  ·rename_i hb
   have hne:k≠i:=fun e=>by subst e; rw [Nat.beq_refl] at hb; cases hb
   obtain ⟨h1,h2⟩:=ih (k+1) i v h
   refine ⟨by omega,?_⟩
   have:i - k=(i - (k+1))+1:=by omega
   rw [this]
   simpa using h2
theorem VI {P:Program} {f:FuncId} {fn:Func} {c:Code} {args:List Value} {w:World} {R:Value→World→Prop} {N:Nat}
  (hf:P.funcs[f]? = some fn) (hb:fn.body=some c) (hen:∀ (aS0:Array Value) (w':World),(callFunc f aS0).run P w'=.ok (.enter f aS0) w')
  (hN:fn.ntmps=N) (hargs:Nat.ble args.length N=true)
  (h:Heap [base w] w→Holds none P N c [] (argEnv 0 args) w (bodyQ P fn N w R)):Fn P f args.toArray w R :=
 VZ hf hb (fun w'=>hen _ w') hN (by simpa [Nat.ble_eq] using hargs) (fun i v hi=>by simpa using (uD args 0 i v hi).2) (h (Heap.start w))
theorem fin {P:Program} {fn:Func} {N:Nat} {w0 w:World} {R:Value→World→Prop} {env:Env} {H:List Item} {v:Value} (hH:Heap (base w0::H) w)
  (hres:∀ w',Heap (base w0::H) w'→Results P fn N [] env w' v) (hR:∀ w',Heap H w'→R v w'):bodyQ P fn N w0 R .ret [] env w :=
 ⟨[],H,v,rfl,hH,hres,hR⟩
end Go.Fip
namespace Go.Fip
open Go.RowKit
def TSlice (P:Program) (T E sz:Nat):Prop:=P.underlying T=some (.slice E)∧(P.info? E).map (·.size)=some sz
def TArr (P:Program) (T n E sz:Nat):Prop:=P.underlying T=some (.array n E)∧(P.info? E).map (·.size)=some sz
def TOne (P:Program) (T:Nat):Prop:=∀ w,(isAgg T).run P w=.ok false w
def TAgg (P:Program) (T n:Nat):Prop:=(∀ w,(isAgg T).run P w=.ok true w)∧(P.info? T).map (·.size)=some n
def TField (P:Program) (T f off:Nat):Prop:=∀ (b o:Nat) (w:World),(Instr.fieldAt T (.pointer (some ⟨b,o,none⟩)) f).run P w=.ok (.pointer (some ⟨b,o+off,none⟩)) w
theorem run_size {P:Program} {E sz:Nat} (h:(P.info? E).map (·.size)=some sz) (w:World):(sizeOf E).run P w=.ok sz w:=by
 cases hi:P.info? E with
 | none=>rw [hi] at h; cases h
 | some i=>rw [hi] at h; simp at h; simp [sizeOf,typeInfo,hi,h]
theorem add_none (b o n:Nat):(⟨b,o,none⟩:Addr).add n=⟨b,o+n,none⟩:=by
 unfold Addr.add
 split
 ·rename_i h; subst h; rfl
 ·rfl
theorem tfield_of {P:Program} {T f off:Nat} {fs:Array Field} {fd:Field} (h1:P.underlying T=some (.struct fs)) (h2:fs[f]? = some fd) (h3:fd.offset=off)
  (h4:∃ s,(P.info? fd.type).map (·.size)=some (s+1)):TField P T f off:=by
 intro b o w
 obtain ⟨s,h4⟩:=h4
 simp [Instr.fieldAt,run_underlying h1,h2,Instr.sureAddr,fieldPlace,run_size h4,h3,Result.andThen,add_none]
def eb:Value→Nat
 | .slice (some a) _ _=>a.block
 | _=>0
def eo:Value→Nat
 | .slice (some a) _ _=>a.off
 | _=>0
def SliceIs (v:Value) (n:Nat):Prop:=∃ a c,v=.slice a n c∧n≤c∧((a=none∧c=0)∨∃ b o,a=some ⟨b,o,none⟩)
def Rd {α:Type} (enc:α→List Value) (sz:Nat) (v:Value) (xs:List α) (w:World):Prop :=
 SliceIs v xs.length∧∀ i x,xs[i]? = some x→∀ j u,(enc x)[j]? = some u→w.cell? ⟨eb v,eo v+i * sz+j,none⟩=some u
theorem Rd.is {α:Type} {enc:α→List Value} {sz:Nat} {v:Value} {xs:List α} {w:World} (h:Rd enc sz v xs w):SliceIs v xs.length:=h.1
def nth {α:Type} [Inhabited α] (xs:List α) (i:Int):α:=xs.getD i.toNat default
theorem qR {α:Type} [Inhabited α] {xs:List α} {i:Int} (h:0≤i∧i<xs.length):xs[i.toNat]? = some (nth xs i):=by
 have:i.toNat<xs.length:=by omega
 simp [nth,List.getD,List.getElem?_eq_getElem this]
theorem Rd.at {α:Type} [Inhabited α] {enc:α→List Value} {sz:Nat} {v:Value} {xs:List α} {w:World} (h:Rd enc sz v xs w) {i:Int} (hi:0≤i∧i<xs.length) {j:Nat} {u:Value} (hu:(enc (nth xs i))[j]? = some u) :
  w.cell? ⟨eb v,eo v+i.toNat * sz+j,none⟩=some u:=h.2 _ _ (qR hi) j u hu
theorem Rd.lt {α:Type} {enc:α→List Value} {sz:Nat} {v:Value} {xs:List α} {w:World} (h:Rd enc sz v xs w) {i:Nat} {x:α} (hi:xs[i]? = some x) {j:Nat} {u:Value} (hu:(enc x)[j]? = some u):eb v<w.heap.size :=
 World.block_lt_of_cell? w _ (h.2 i x hi j u hu)
theorem Rd.below {α:Type} {enc:α→List Value} {sz:Nat} {v:Value} {xs:List α} {w w':World} (h:Rd enc sz v xs w) (hb:Below w.heap.size w w'):Rd enc sz v xs w' :=
 ⟨h.1,fun i x hi j u hu=>(hb.cell (p:=⟨eb v,eo v+i * sz+j,none⟩) (h.lt hi hu)).trans (h.2 i x hi j u hu)⟩
theorem Rd.now {α:Type} {enc:α→List Value} {sz:Nat} {v:Value} {xs:List α} {w w':World} (h:Rd enc sz v xs w) {H:List Item} {n:Nat} (hH:Heap H w') (hn:H[n]? = some (base w)):Rd enc sz v xs w':=h.below (hH.get hn)
def encI (x:Int):List Value:=[.int .i64 x]
def encP (p:Int×Int):List Value:=[.int .i64 p.1,.int .i64 p.2]
section yv
variable {P : Program} {N : Nat} {ds : List Deferred} {env : Env} {S : World → Prop} {x y c : Operand} {v u : Value}
theorem y8 (h:ev env x=some v):Yv P N ds env (.move x) v S:=fun a ha w _ _ _ _ _ _=>by simp [execOp,ha.ev h]
theorem yO (h:ev env x=some v):Yv P N ds env (.assign x) v S:=fun a ha w _ _ _ _ _ _=>by simp [execOp,ha.ev h]
theorem z7 {b:Bool} (hc:ev env c=some (.bool b)) (hb:b=true) (hx:ev env x=some v):Yv P N ds env (.pick c x y) v S:=fun a ha w _ _ _ _ _ _=>by
 simp [execOp,ha.ev hc,ha.ev hx,hb,asBool]
theorem yA {b:Bool} (hc:ev env c=some (.bool b)) (hb:b=false) (hy:ev env y=some v):Yv P N ds env (.pick c x y) v S:=fun a ha w _ _ _ _ _ _=>by
 simp [execOp,ha.ev hc,ha.ev hy,hb,asBool]
theorem xD {b:Bool} {T:TypeId} (h:ev env x=some (.bool b)):Yv P N ds env (.unOp .not T x) (.bool (!b)) S:=fun a ha w _ _ _ _ _ _=>by
 simp [execOp,ha.ev h,Op.unary]
theorem zX {T E sz n:Nat} (hT:TSlice P T E sz) (h:ev env x=some v) (hv:SliceIs v n):Yv P N ds env (.call ⟨.builtin .len, #[x], #[T]⟩) (.int .i64 (n:Int)) S:=fun a ha w _ _ _ _ _ _=>by
 obtain ⟨p,cp,rfl,_⟩:=hv
 simp [execOp,resolve,invoke,builtin,Builtin.len_,ha.ev h,run_underlying hT.1,goInt,Result.andThen]
section arith
variable {T T' : TypeId} {k : IntKind} {m n : Int}
theorem zU (hx:ev env x=some (.int .i64 m)) (hy:ev env y=some (.int .i64 n)) (hr : -9223372036854775808≤m+n∧m+n≤9223372036854775807) :
  Yv P N ds env (.binOp .add T x y T') (.int .i64 (m+n)) S:=fun a ha w _ _ _ _ _ _=>by
 simp [execOp,ha.ev hx,ha.ev hy,eqGuard,binOp,Op.intArith,IntWalk.i64_in _ hr,Result.andThen]
theorem xI (hx:ev env x=some (.int .i64 m)) (hy:ev env y=some (.int .i64 n)) (hr : -9223372036854775808≤m - n∧m - n≤9223372036854775807) :
  Yv P N ds env (.binOp .sub T x y T') (.int .i64 (m - n)) S:=fun a ha w _ _ _ _ _ _=>by
 simp [execOp,ha.ev hx,ha.ev hy,eqGuard,binOp,Op.intArith,IntWalk.i64_in _ hr,Result.andThen]
theorem yv_quo (hx:ev env x=some (.int .i64 m)) (hy:ev env y=some (.int .i64 n)) (h0:0≤m) (hm:m≤9223372036854775807) (h1:0<n) :
  Yv P N ds env (.binOp .quo T x y T') (.int .i64 (m / n)) S:=fun a ha w _ _ _ _ _ _=>by
 have e:m.tdiv n=m / n:=Int.tdiv_eq_ediv_of_nonneg h0
 have h2:m / n≤m:=Int.ediv_le_self n h0
 have h3:0≤m / n:=Int.ediv_nonneg h0 (by omega)
 have hn:n≠0:=by omega
 have e2:=IntWalk.i64_in (m / n) ⟨by omega,by omega⟩
 simp [execOp,ha.ev hx,ha.ev hy,eqGuard,binOp,Op.intDiv,hn,e,e2]
theorem yv_rem (hx:ev env x=some (.int k m)) (hy:ev env y=some (.int k n)) (h0:0≤m) (h1:0<n) :
  Yv P N ds env (.binOp .rem T x y T') (.int k (m % n)) S:=fun a ha w _ _ _ _ _ _=>by
 have e:m.tmod n=m % n:=Int.tmod_eq_emod_of_nonneg h0
 have hn:n≠0:=by omega
 simp [execOp,ha.ev hx,ha.ev hy,eqGuard,binOp,Op.intDiv,hn,e,Result.andThen]
theorem yF (hx:ev env x=some (.int k m)) (hy:ev env y=some (.int k n)):Yv P N ds env (.binOp .lss T x y T') (.bool (decide (m<n))) S:=fun a ha w _ _ _ _ _ _=>by
 simp [execOp,ha.ev hx,ha.ev hy,eqGuard,binOp,Op.intCmp,Result.andThen]
theorem jY (hx:ev env x=some (.int k m)) (hy:ev env y=some (.int k n)):Yv P N ds env (.binOp .leq T x y T') (.bool (decide (m≤n))) S:=fun a ha w _ _ _ _ _ _=>by
 simp [execOp,ha.ev hx,ha.ev hy,eqGuard,binOp,Op.intCmp,Result.andThen]
theorem vS (hx:ev env x=some (.int k m)) (hy:ev env y=some (.int k n)):Yv P N ds env (.binOp .gtr T x y T') (.bool (decide (n<m))) S:=fun a ha w _ _ _ _ _ _=>by
 simp [execOp,ha.ev hx,ha.ev hy,eqGuard,binOp,Op.intCmp,Result.andThen]
theorem vK (hx:ev env x=some (.int k m)) (hy:ev env y=some (.int k n)):Yv P N ds env (.binOp .geq T x y T') (.bool (decide (n≤m))) S:=fun a ha w _ _ _ _ _ _=>by
 simp [execOp,ha.ev hx,ha.ev hy,eqGuard,binOp,Op.intCmp,Result.andThen]
theorem xJ (hx:ev env x=some (.int k m)) (hy:ev env y=some (.int k n)):Yv P N ds env (.binOp .eql T x y T') (.bool (decide (m=n))) S:=fun a ha w _ _ _ _ _ _=>by
 simp only [execOp,ha.ev hx,ha.ev hy,eqGuard,binOp,Op.intCmp,Sem.run_bind]
 have e:(m == n)=decide (m=n):=rfl
 simp [Result.andThen,e]
theorem yT (hx:ev env x=some (.int k m)) (hy:ev env y=some (.int k n)):Yv P N ds env (.binOp .neq T x y T') (.bool (!decide (m=n))) S:=fun a ha w _ _ _ _ _ _=>by
 simp only [execOp,ha.ev hx,ha.ev hy,eqGuard,binOp,Op.intCmp,Sem.run_bind]
 have e:(m == n)=decide (m=n):=rfl
 simp [Result.andThen,bne,e]
end arith
theorem zQ {vs:Array Value} {i:Nat} (hx:ev env x=some (.tuple vs)) (hi:vs[i]? = some v):Yv P N ds env (.extract x i) v S:=fun a ha w _ _ _ _ _ _=>by
 simp [execOp,ha.ev hx,Instr.extract,hi]
theorem zD {T f off b o:Nat} (hT:TField P T f off) (hx:ev env x=some (.pointer (some ⟨b,o,none⟩))):Yv P N ds env (.fieldAddr T x f) (.pointer (some ⟨b,o+off,none⟩)) S:=fun a ha w _ _ _ _ _ _=>by
 simp [execOp,ha.ev hx,hT b o w,Result.andThen]
theorem z6 {p:Addr} (hx:ev env x=some (.pointer (some p))):Yv P N ds env (.nilCheck x) (.pointer (some p)) S:=fun a ha w _ _ _ _ _ _=>by
 simp [execOp,ha.ev hx]
theorem zN {T E sz n:Nat} {k:IntKind} {i:Int} (hT:TSlice P T E sz) (hx:ev env x=some v) (hy:ev env y=some (.int k i)) (hv:SliceIs v n) (hi:0≤i∧i<n) :
  Yv P N ds env (.indexAddr T x y) (.pointer (some ⟨eb v,eo v+i.toNat * sz,none⟩)) S:=fun a ha w _ _ _ _ _ _=>by
 obtain ⟨p,cp,rfl,hc,⟨rfl,rfl⟩ | ⟨b,o,rfl⟩⟩:=hv
 ·omega
 ·simp [execOp,ha.ev hx,ha.ev hy,Instr.indexAt,asIntOf,run_underlying hT.1,run_size hT.2,hi,Result.andThen,eb,eo,add_none]
theorem zY {T E sz n b o:Nat} {k:IntKind} {i:Int} (hT:TArr P T n E sz) (hx:ev env x=some (.pointer (some ⟨b,o,none⟩))) (hy:ev env y=some (.int k i)) (hi:0≤i∧i<n) :
  Yv P N ds env (.indexAddr T x y) (.pointer (some ⟨b,o+i.toNat * sz,none⟩)) S:=fun a ha w _ _ _ _ _ _=>by
 simp [execOp,ha.ev hx,ha.ev hy,Instr.indexAt,asIntOf,Instr.sureAddr,run_underlying hT.1,run_size hT.2,hi,Result.andThen,add_none]
theorem zC {T b o:Nat} (hT:TOne P T) (hx:ev env x=some (.pointer (some ⟨b,o,none⟩))) (hc:∀ w,S w→w.cell? ⟨b,o,none⟩=some v):Yv P N ds env (.load T x) v S:=fun a ha w hw _ _ _ _ _=>by
 simp [execOp,ha.ev hx,Instr.loadAt,Instr.sureAddr,loadVar,hT w,load,Sem.run,hc w hw,Result.andThen]
theorem zZ {T n b o:Nat} {cs:List Value} (hT:TAgg P T n) (hn:cs.length=n) (hx:ev env x=some (.pointer (some ⟨b,o,none⟩)))
  (hc:∀ w,S w→∀ j u,cs[j]? = some u→w.cell? ⟨b,o+j,none⟩=some u):Yv P N ds env (.load T x) (.agg cs.toArray) S:=fun a ha w hw _ _ _ _ _=>by
 subst hn
 have:=run_loadCells_list (P:=P) (w:=w) ⟨b,o,none⟩ cs (fun j u hj=>by rw [add_none]; exact hc w hw j u hj)
 simp [execOp,ha.ev hx,Instr.loadAt,Instr.sureAddr,loadVar,hT.1 w,run_size hT.2,this,Result.andThen]
def evA (env:Env):List Operand→Option (List Value):=evs env
theorem x7 {g:FuncId} {xs ys:List Operand} {us vs:List Value} (hx:evs env xs=some us) (hy:evs env ys=some vs):Yv P N ds env (.makeFunc (.func g) xs.toArray ys.toArray) (.func (.func g) us.toArray vs.toArray) S:=fun a ha w _ _ _ _ _ _=>by
 simp [execOp,Instr.makeFunc,List.map_toArray,ha.evs hx,ha.evs hy,Result.andThen]
theorem ZQ {T:TypeId} {ps:Array (Nat×Operand)} {us:List (Nat×Value)} (hx:∀ a,Fits N a ds env→(ps.map fun (i,x)=>(i,a.eval x))=us.toArray)
  (hr:∀ w,(Instr.build T us.toArray).run P w=.ok v w):Yv P N ds env (.build T ps) v S:=fun a ha w _ _ _ _ _ _=>by
 simp only [execOp,hx a ha,Sem.run_bind,hr w,Sem.run_pure,Result.andThen]
end yv
end Go.Fip
namespace Go.Fip
open Go.RowKit
def Bx (b t:Nat) (cs:List Value) (w:World):Prop:=w.heap[b]? = some (.cells cs.toArray t (0,0))
def bx (b t:Nat) (cs:List Value):Item:=⟨b,b+1,Bx b t cs⟩
theorem yL {b t:Nat} {cs:List Value} {w:World} (h:Bx b t cs w) {j:Nat} {v:Value} (hj:cs[j]? = some v):w.cell? ⟨b,j,none⟩=some v:=by
 unfold Bx at h
 simp [World.cell?,h,hj]
theorem Z9 {b t:Nat} {cs us:List Value} {w:World} (h:Bx b t cs w) {k:Nat} (hk:us=(cs.drop k).take us.length) (j:Nat) (u:Value) (hj:us[j]? = some u):w.cell? ⟨b,k+j,none⟩=some u:=by
 refine yL h ?_
 rw [hk] at hj
 rw [List.getElem?_take] at hj
 split at hj
 ·rw [List.getElem?_drop] at hj; exact hj
 ·cases hj
theorem kV {b t:Nat} {cs:List Value} {w:World} (h:Bx b t cs w):(bx b t cs).ok w :=
 ⟨Nat.le_succ b,(Array.getElem?_eq_some_iff.1 h).1,fun w' ha=>(ha.block b (Nat.le_refl _) (Nat.lt_succ_self b)).trans h⟩
theorem below_alloc (w:World) (o:Obj):Below w.heap.size w (w.alloc o):=(Below.refl _ w).alloc (Nat.le_refl _) o
theorem heap_new (w:World) (o:Obj):(w.alloc o).heap[w.heap.size]? = some o:=World.alloc_heap_new w o
theorem xY (w:World) (g:Nat) (cs:Array Value):Off g (g+1) w (w.setRow g cs):=⟨rfl,rfl,rfl,by simp,fun k _ hk=>setRow_other w g k cs (by omega)⟩
theorem Off.mono' {g lo hi:Nat} {w w':World} (h:Off g (g+1) w w') (hg:lo≤g∧g<hi):Off lo hi w w':=⟨h.os,h.tape,h.output,h.size,fun k hk hne=>h.block k hk (by omega)⟩
section eff
variable {r : Option Nat} {P : Program} {N : Nat} {ds : List Deferred} {env : Env} {w : World} {Q : Post} {all : Array Oper} {rest : List Oper} {H : List Item} {x y : Operand} {v u : Value}
  {d : Nat} {ty : TypeId} {pos : String} {after : Array Edge}
theorem Z1 {op:Op} {T:Nat} {us:List Value} (hd:Nat.blt d N=true) (hH:Heap H w) (hop:∀ c,op≠.defer c)
  (hrun:∀ a,Fits N a ds env→(execOp a.eval ⟨some d,op,ty,pos,after,none⟩).run P w=.ok (.value (.pointer (some ⟨w.heap.size,0,none⟩))) (w.alloc (.cells us.toArray T)))
  (h:∀ b w',Heap (bx b T us::H) w'→Ops r P N all rest ds ((d,.pointer (some ⟨b,0,none⟩))::env) w' Q) :
  Ops r P N all (⟨some d,op,ty,pos,after,none⟩::rest) ds env w Q :=
 xS hd hop hrun (h _ _ (hH.add (below_alloc w _) (Nat.le_refl _) (kV (heap_new w _))))
theorem yM {T : Nat} {us : List Value} (hx : ev env x = some v) (hus : v.cells = us.toArray) (hd : Nat.blt d N = true) (hH : Heap H w)
    (h : ∀ b w', Heap (bx b T us :: H) w' → Ops r P N all rest ds ((d, .pointer (some ⟨b, 0, none⟩)) :: env) w' Q) :
    Ops r P N all (⟨some d, .box T x, ty, pos, after, none⟩ :: rest) ds env w Q :=
  Z1 hd hH (fun c hc => by cases hc) (fun a ha => by
    simp only [execOp, Instr.box, newVar, newRow, newObj, ha.ev hx, hus, Sem.run_bind, Sem.run_pure, Sem.run, Result.andThen]
    rfl) h
theorem xG {T : Nat} {us : List Value} {z : Value} (hz : ∀ w, (zeroValue T).run P w = .ok z w) (hus : z.cells = us.toArray) (hd : Nat.blt d N = true) (hH : Heap H w)
    (h : ∀ b w', Heap (bx b T us :: H) w' → Ops r P N all rest ds ((d, .pointer (some ⟨b, 0, none⟩)) :: env) w' Q) :
    Ops r P N all (⟨some d, .alloc T, ty, pos, after, none⟩ :: rest) ds env w Q :=
  Z1 hd hH (fun c hc => by cases hc) (fun a ha => by
    simp only [execOp, Instr.alloc, newVar, newRow, newObj, hz w, hus, Sem.run_bind, Sem.run_pure, Sem.run, Result.andThen]
    rfl) h
def splice (cs:List Value) (j:Nat) (us:List Value):List Value:=cs.take j++us++cs.drop (j+us.length)
theorem run_storeVar_at {T g o sz:Nat} {cur:Array Value} {t:Nat} {us:List Value} (hsz:(P.info? T).map (·.size)=some sz) (hv:v.cells=us.toArray) (hl:us.length=sz)
  (hg:w.heap[g]? = some (.cells cur t (0,0))) (ho:o+us.length≤cur.size) (h1:∀ u∈us,u.oneCell'=true) :
  (storeVar T ⟨g,o,none⟩ v).run P w=.ok () (w.setRow g (splice cur.toList o us).toArray):=by
 subst hl
 have hs:=run_storeCells_at (P:=P) g o t us 0 cur w hg (by simpa using ho) h1
 simp only [Nat.add_zero] at hs
 unfold storeVar splice
 simp only [Sem.run_bind,run_size hsz,Result.andThen,hv,List.size_toArray,ne_eq,not_true_eq_false,if_false]
 exact hs
theorem qL {T g o sz : Nat} {cur : Array Value} {t : Nat} {us : List Value} (hp : ev env x = some (.pointer (some ⟨g, o, none⟩))) (hx : ev env y = some v) (hsz : (P.info? T).map (·.size) = some sz)
    (hv : v.cells = us.toArray) (hl : us.length = sz) (hg : w.heap[g]? = some (.cells cur t (0, 0))) (ho : o + us.length ≤ cur.size) (h1 : ∀ u ∈ us, u.oneCell' = true)
    (h : Ops r P N all rest ds env (w.setRow g (splice cur.toList o us).toArray) Q) :
    Ops r P N all (⟨none, .store T x y, ty, pos, after, none⟩ :: rest) ds env w Q :=
  uX (fun c hc => by cases hc) (fun a ha => .inl (by
    simp only [execOp, Instr.storeAt, Instr.sureAddr, ha.ev hp, ha.ev hx, Sem.run_bind, Sem.run_pure, Result.andThen, run_storeVar_at hsz hv hl hg ho h1])) h
theorem yS {T b j sz n:Nat} {t:Nat} {cs us:List Value} (hp:ev env x=some (.pointer (some ⟨b,j,none⟩))) (hx:ev env y=some v) (hH:Heap H w) (hn:H[n]? = some (bx b t cs))
  (hsz:(P.info? T).map (·.size)=some sz) (hv:v.cells=us.toArray) (hl:us.length=sz) (ho:Nat.ble (j+us.length) cs.length=true) (h1:us.all (·.oneCell')=true)
  (h:∀ w',Heap (H.set n (bx b t (splice cs j us))) w'→Ops r P N all rest ds env w' Q) :
  Ops r P N all (⟨none,.store T x y,ty,pos,after,none⟩::rest) ds env w Q:=by
 have hb:w.heap[b]? = some (.cells cs.toArray t (0,0)):=hH.get hn
 refine qL hp hx hsz hv hl hb (by simpa [Nat.ble_eq] using ho) (by simpa using h1) (h _ ?_)
 refine hH.set hn (xY w b _) (.inl ⟨Nat.le_refl _,Nat.le_refl _⟩) (kV ?_)
 exact setRow_heap w b _ _ t (0,0) hb
structure El {α:Type} (P:Program) (T E sz:Nat) (enc:α→List Value):Prop where
 und:P.underlying T=some (.slice E)
 info:∃ i z,P.info? E=some i∧i.zero=some z∧i.size=sz∧i.bytes≤1024∧z.cells.size=sz
 pos:0<sz
 len:∀ x,(enc x).length=sz
 one:∀ x,∀ u∈enc x,u.oneCell'=true
theorem El.slice {α:Type} {T E sz:Nat} {enc:α→List Value} (h:El P T E sz enc):TSlice P T E sz:=by
 obtain ⟨i,z,h1,h2,h3,_⟩:=h.info
 exact ⟨h.und,by simp [h1,h3]⟩
def Ow {α:Type} (lo hi E sz:Nat) (enc:α→List Value) (v:Value) (xs:List α) (w:World):Prop :=
 w.ownsRow 0 E sz v xs.length (xs.flatMap enc)∧∀ k,v.ownBlock=some k→lo≤k∧k<hi
def ow {α:Type} (lo hi E sz:Nat) (enc:α→List Value) (v:Value) (xs:List α):Item:=⟨lo,hi,Ow lo hi E sz enc v xs⟩
theorem vM {α : Type} {lo hi E sz : Nat} {enc : α → List Value} {v : Value} {xs : List α} {w : World} (h : Ow lo hi E sz enc v xs w) (h1 : lo ≤ hi) (h2 : hi ≤ w.heap.size) : (ow lo hi E sz enc v xs).ok w := by
  refine ⟨h1, h2, fun w' ha => ⟨⟨h.1.1, ?_⟩, h.2⟩⟩
  rcases h.1.2 with h3 | ⟨g, cap, cur, hv, hb, hg, h4⟩
  · exact .inl h3
  · have := h.2 g (by rw [hv]; rfl)
    exact .inr ⟨g, cap, cur, hv, hb, (ha.block g this.1 this.2).trans hg, h4⟩
theorem zL {α:Type} {enc:α→List Value} {sz:Nat} (hl:∀ x,(enc x).length=sz) (xs:List α):(xs.flatMap enc).length=xs.length * sz:=by
 induction xs with
 | nil=>simp
 | cons x xs ih=>simp [hl,ih,Nat.add_mul,Nat.add_comm]
theorem xT {α:Type} {enc:α→List Value} {sz:Nat} (hl:∀ x,(enc x).length=sz):∀ (xs:List α) (i:Nat) (x:α) (j:Nat) (u:Value),xs[i]? = some x→(enc x)[j]? = some u→(xs.flatMap enc)[i * sz+j]? = some u
 | [],i,x,j,u,hi,_=>by simp at hi
 | y::ys,i,x,j,u,hi,hj=>by
  cases i with
  | zero =>
   simp at hi; subst hi
   have:j<(enc y).length:=(List.getElem?_eq_some_iff.1 hj).1
   simp only [List.flatMap_cons,Nat.zero_mul,Nat.zero_add]
   rw [List.getElem?_append_left this]; exact hj
  | succ i =>
   have hi':ys[i]? = some x:=by simpa using hi
   have:=xT hl ys i x j u hi' hj
   simp only [List.flatMap_cons]
   rw [List.getElem?_append_right (by rw [hl,Nat.add_mul]; omega),hl]
   have e:(i+1) * sz+j - sz=i * sz+j:=by rw [Nat.add_mul]; omega
   rw [e]; exact this
theorem Ow.is {α:Type} {lo hi E sz:Nat} {enc:α→List Value} {v:Value} {xs:List α} {w:World} (h:Ow lo hi E sz enc v xs w):SliceIs v xs.length:=by
 rcases h.1.2 with ⟨hv,h3⟩ | ⟨g,cap,cur,hv,hb,hg,h4,_⟩
 ·exact ⟨none,0,by rw [h3]; exact hv,by omega,.inl ⟨rfl,rfl⟩⟩
 ·exact ⟨_,cap,hv,h4,.inr ⟨g,0,rfl⟩⟩
theorem Ow.rd {α:Type} {lo hi E sz:Nat} {enc:α→List Value} {v:Value} {xs:List α} {w:World} (hl:∀ x,(enc x).length=sz) (h:Ow lo hi E sz enc v xs w):Rd enc sz v xs w:=by
 refine ⟨h.is,fun i x hi j u hj=>?_⟩
 have hlt:i<xs.length:=(List.getElem?_eq_some_iff.1 hi).1
 rcases h.1.2 with ⟨hv,h3⟩ | ⟨g,cap,cur,hv,hb,hg,h4,h5,h6,h7⟩
 ·omega
 ·subst hv
  have h8:=xT hl xs i x j u hi hj
  have h9:i * sz+j<xs.length * sz:=by
   have:=(List.getElem?_eq_some_iff.1 h8).1
   rwa [zL hl] at this
  rw [← h7,List.getElem?_take,if_pos h9] at h8
  simp only [eb,eo,Nat.zero_add]
  simp only [World.cell?,hg]
  simpa using h8
theorem vJ {α:Type} (E sz:Nat) (enc:α→List Value) (hH:Heap H w):Heap (ow w.heap.size w.heap.size E sz enc (.slice none 0 0) []::H) w :=
 hH.add (Below.refl _ w) (Nat.le_refl _) (vM ⟨World.ownsRow_nil w 0 E sz,fun k hk=>by cases hk⟩ (Nat.le_refl _) (Nat.le_refl _))
theorem kW {α : Type} {T E sz : Nat} {enc : α → List Value} (hE : El P T E sz enc) (xs : List α) (hn : xs.length ≤ 1000000) (w : World) :
    (ow w.heap.size (w.heap.size + 1) E sz enc (.slice (some ⟨w.heap.size, 0, none⟩) xs.length xs.length) xs).ok (w.alloc (.cells (xs.flatMap enc).toArray E)) := by
  refine vM ⟨?_, fun k hk => ?_⟩ (Nat.le_succ _) (by simp)
  · have := World.ownsRow_lit (base := 0) (e := E) (size := sz) w (xs.flatMap enc).toArray xs.length (Nat.zero_le _) (by simp [maxLen]; omega) (by simp [zL hE.len])
    simpa using this
  · simp [Value.ownBlock] at hk; omega
theorem VN {α:Type} {T E sz n:Nat} {enc:α→List Value} {ps:Array (Nat×Operand)} {us:List (Nat×Value)} (hE:El P T E sz enc) (xs:List α) (hl:xs.length=n) (hn:n≤1000000)
  (hd:Nat.blt d N=true) (hx:∀ a,Fits N a ds env→(ps.map fun (i,x)=>(i,a.eval x))=us.toArray)
  (hr:∀ w,(Instr.buildSlice T n us.toArray).run P w=.ok (.slice (some ⟨w.heap.size,0,none⟩) n n) (w.alloc (.cells (xs.flatMap enc).toArray E)))
  (hH:Heap H w)
  (h:∀ v lo hi w',Heap (ow lo hi E sz enc v xs::H) w'→Ops r P N all rest ds ((d,v)::env) w' Q) :
  Ops r P N all (⟨some d,.buildSlice T n ps,ty,pos,after,none⟩::rest) ds env w Q:=by
 subst hl
 refine xS hd (fun c hc=>by cases hc) (fun a ha=>?_) (h _ _ _ _ (hH.add (below_alloc w _) (Nat.le_refl _) (kW hE xs hn w)))
 simp only [execOp,hx a ha,Sem.run_bind,hr w,Sem.run_pure,Result.andThen]
theorem ZJ {w w':World} {row:Option Nat} {lo hi:Nat} (h:w.grownBy w' row) (hr:∀ k,row=some k→lo≤k∧k<hi):Off lo hi w w' :=
 ⟨h.os,h.tape,h.output,h.size,fun k hk hne=>h.block k hk (fun e=>by have:=hr k e.symm; omega)⟩
theorem qV (t ty e : TypeId) (i : TypeInfo) (z : Value) (ht : P.underlying t = some (.slice e)) (hi : P.info? e = some i) (hz : i.zero = some z)
    (hzs : z.cells.size = i.size) (v : Value) (n : Nat) (xs : List Value) (hown : w.ownsRow 0 e i.size v n xs)
    (a : Addr) (m c : Nat) (news : List Value) (hl : news.length = m * i.size) (hnews : ∀ j u, news[j]? = some u → w.cell? (a.add j) = some u) (h1 : ∀ u ∈ news, u.oneCell' = true)
    (h63 : n + m ≤ maxLen) (hbytes : (n + m) * i.bytes ≤ 140737488355328) :
    ∃ v' w', (Builtin.append_ #[t, t] ty #[v, .slice (some a) m c]).run P w = .ok v' w' ∧ w'.ownsRow 0 e i.size v' (n + m) (xs ++ news) ∧ w.grownBy w' v.ownBlock ∧
      (v'.ownBlock = v.ownBlock ∨ (v'.ownBlock = some w.heap.size ∧ w.heap.size < w'.heap.size)) := by
  have hsmall : n + m ≤ 9223372036854775807 := by simp only [maxLen] at h63; omega
  have hlen : (xs ++ news).length = (n + m) * i.size := by rw [List.length_append, hown.1, hl, Nat.add_mul]
  have grown : ∀ (old : Nat), old < n + m → ∀ (row : Option Nat),
      (w.drew.alloc (.cells (xs.toArray ++ news.toArray ++ Builtin.zeroCells z.cells (grownCap w (n + m) old e - (n + m))) e)).ownsRow 0 e i.size
        (.slice (some ⟨w.heap.size, 0, none⟩) (n + m) (grownCap w (n + m) old e)) (n + m) (xs ++ news) ∧
      w.grownBy (w.drew.alloc (.cells (xs.toArray ++ news.toArray ++ Builtin.zeroCells z.cells (grownCap w (n + m) old e - (n + m))) e)) row := by
    intro old ho row
    have hge := grownCap_ge w (n + m) old e
    have hcm : grownCap w (n + m) old e ≤ maxLen := grownCap_le_maxLen w (n + m) old e h63
    refine ⟨⟨hlen, .inr ⟨w.heap.size, _, _, rfl, Nat.zero_le _, heap_alloc_new w.drew _, hge, hcm, ?_, ?_⟩⟩, ⟨rfl, rfl, rfl, by simp, fun k hk _ => Below.heap_alloc w.drew _ k hk⟩⟩
    · simp only [Array.size_append, List.size_toArray, size_zeroCells, hzs, hown.1, hl, ← Nat.add_mul]
      congr 1
      omega
    · simp only [Array.toList_append, List.append_assoc]
      rw [← List.append_assoc, ← hlen]
      exact List.take_left
  rcases hown.2 with ⟨rfl, rfl⟩ | ⟨g, cap, cur, rfl, hbg, hg, hnc, hcm, hcs, htake⟩
  · have hx : xs = [] := List.eq_nil_of_length_eq_zero (by simpa using hown.1)
    subst hx
    by_cases hm : m = 0
    · subst hm
      have hn : news = [] := List.eq_nil_of_length_eq_zero (by simpa using hl)
      subst hn
      refine ⟨.slice none 0 0, w, ?_, World.ownsRow_nil w 0 e i.size, ⟨rfl, rfl, rfl, Nat.le_refl _, fun _ _ _ => rfl⟩, .inl rfl⟩
      simp [Builtin.append_, run_underlying ht, sizeOf, typeInfo, hi, Builtin.lenOf, Builtin.firstCells, loadCells, loadCellsFrom]
    · have hr := run_append_nil (P := P) w t ty e i z ht hi hz a m c news hl hnews (by omega) (by omega) (by have hb := hbytes; simp only [Nat.zero_add] at hb; omega)
      have hgr := grown 0 (by omega) (Value.ownBlock (.slice none 0 0))
      simp only [Nat.zero_add, List.nil_append, Array.empty_append] at hgr ⊢
      exact ⟨_, _, hr, hgr.1, hgr.2, .inr ⟨rfl, by simp⟩⟩
  · by_cases hroom : n + m ≤ cap
    · have hfit : n * i.size + news.length ≤ cur.size := by rw [hl, hcs, ← Nat.add_mul]; exact Nat.mul_le_mul_right _ hroom
      have hr := run_append_room (P := P) w t ty e i ht hi g n cap cur hg a m c news hl hnews h1 hroom hfit
      refine ⟨_, _, hr, ⟨hlen, .inr ⟨g, cap, _, rfl, hbg, setRow_heap w g cur _ e _ hg, hroom, hcm, ?_, ?_⟩⟩, ⟨rfl, rfl, rfl, by simp, fun k _ hk => setRow_other w g k _ (fun e => hk (by simp [Value.ownBlock, e]))⟩, .inl rfl⟩
      · simp only [List.size_toArray, List.length_append, List.length_take, List.length_drop, Array.length_toList]
        omega
      · rw [htake, ← hlen]
        exact List.take_left
    · have holds : ∀ j u, xs[j]? = some u → w.cell? ((⟨g, 0, none⟩ : Addr).add j) = some u := hown.cells (g := g) rfl
      have hr := run_append_grow (P := P) w t ty e i z ht hi hz ⟨g, 0, none⟩ n cap xs hown.1 holds a m c news hl hnews (by omega) (by omega) (growslice_fits (by omega) hbytes)
      have hgr := grown cap (by omega) (Value.ownBlock (.slice (some ⟨g, 0, none⟩) n cap))
      exact ⟨_, _, hr, hgr.1, hgr.2, .inr ⟨rfl, by simp⟩⟩
theorem Rd.flat {α:Type} {enc:α→List Value} {sz:Nat} (hl:∀ x,(enc x).length=sz) (hp:0<sz) {b o n c:Nat} {ys:List α} (hu:Rd enc sz (.slice (some ⟨b,o,none⟩) n c) ys w) :
  ∀ j u,(ys.flatMap enc)[j]? = some u→w.cell? ((⟨b,o,none⟩:Addr).add j)=some u:=by
 intro j u hj
 have hlt:j<ys.length * sz:=by have:=(List.getElem?_eq_some_iff.1 hj).1; rwa [zL hl] at this
 have hq:j / sz<ys.length:=by rw [Nat.div_lt_iff_lt_mul hp]; exact hlt
 have hx:ys[j / sz]? = some ys[j / sz]:=List.getElem?_eq_getElem hq
 have hm:j % sz<(enc ys[j / sz]).length:=by rw [hl]; exact Nat.mod_lt _ hp
 have h1:=xT hl ys (j / sz) _ (j % sz) _ hx (List.getElem?_eq_getElem hm)
 have e:j / sz * sz+j % sz=j:=by rw [Nat.mul_comm]; exact Nat.div_add_mod j sz
 rw [e,hj] at h1
 have h2:=hu.2 (j / sz) _ hx (j % sz) _ (List.getElem?_eq_getElem hm)
 simp only [eb,eo] at h2
 rw [add_none]
 rw [Nat.add_assoc,e] at h2
 rw [h2]; exact h1.symm
theorem YR {α : Type} {T E sz ty' : Nat} {enc : α → List Value} (hE : El P T E sz enc) {lo hi : Nat} {v : Value} {xs : List α} (hv : Ow lo hi E sz enc v xs w) {u : Value} {ys : List α} (hu : Rd enc sz u ys w) (hb : xs.length + ys.length ≤ 1000000) (hhi : hi ≤ w.heap.size) (hlh : lo ≤ hi) :
    ∃ v' w', (Builtin.append_ #[T, T] ty' #[v, u]).run P w = .ok v' w' ∧ Off lo hi w w' ∧ ∃ lo' hi', ((lo ≤ lo' ∧ hi' ≤ hi) ∨ w.heap.size ≤ lo') ∧ (ow lo' hi' E sz enc v' (xs ++ ys)).ok w' := by
  obtain ⟨i, z, hi1, hz, hsz, hby, hzs⟩ := hE.info
  obtain ⟨a, c, rfl, hc, ⟨rfl, rfl⟩ | ⟨b, o, rfl⟩⟩ := hu.1
  · have hy : ys = [] := List.eq_nil_of_length_eq_zero (by omega)
    subst hy
    refine ⟨v, w, run_append_owned_none w 0 T ty' E i sz hE.und hi1 v _ _ hv.1, ⟨rfl, rfl, rfl, Nat.le_refl _, fun _ _ _ => rfl⟩, lo, hi, .inl ⟨Nat.le_refl _, Nat.le_refl _⟩, ?_⟩
    rw [List.append_nil]
    exact vM hv hlh hhi
  · subst hsz
    obtain ⟨v', w', hr, hown, hg, hloc⟩ := qV (P := P) (w := w) T ty' E i z hE.und hi1 hz hzs v xs.length _ hv.1 ⟨b, o, none⟩ ys.length c (ys.flatMap enc) (zL hE.len ys) (hu.flat hE.len hE.pos)
      (fun u hu => by obtain ⟨x, _, hx⟩ := List.mem_flatMap.1 hu; exact hE.one x u hx) (by simp [maxLen]; omega)
      (by have : (xs.length + ys.length) * i.bytes ≤ 1000000 * 1024 := Nat.mul_le_mul hb hby; omega)
    refine ⟨v', w', hr, ZJ hg hv.2, ?_⟩
    have hown' : w'.ownsRow 0 E i.size v' (xs ++ ys).length ((xs ++ ys).flatMap enc) := by rw [List.length_append, List.flatMap_append]; exact hown
    rcases hloc with h | ⟨h, h2⟩
    · exact ⟨lo, hi, .inl ⟨Nat.le_refl _, Nat.le_refl _⟩, vM ⟨hown', fun k hk => hv.2 k (by rw [← h]; exact hk)⟩ hlh (Nat.le_trans hhi hg.size)⟩
    · exact ⟨w.heap.size, w.heap.size + 1, .inr (Nat.le_refl _), vM ⟨hown', fun k hk => by rw [h] at hk; cases hk; omega⟩ (Nat.le_succ _) h2⟩
theorem yG {α:Type} {T E sz n lo hi:Nat} {enc:α→List Value} (hE:El P T E sz enc) {xs ys:List α} (hs:ev env x=some v) (hx:ev env y=some u) (hd:Nat.blt d N=true) (hH:Heap H w)
  (hn:H[n]? = some (ow lo hi E sz enc v xs)) (hu:Rd enc sz u ys w) (hb:xs.length+ys.length≤1000000)
  (h:∀ v' lo' hi' w',Heap (H.set n (ow lo' hi' E sz enc v' (xs++ys))) w'→Ops r P N all rest ds ((d,v')::env) w' Q) :
  Ops r P N all (⟨some d,.call ⟨.builtin .append, #[x,y], #[T,T]⟩,ty,pos,after,none⟩::rest) ds env w Q:=by
 have hok:=hH.okAt hn
 obtain ⟨v',w',hr,hoff,lo',hi',hloc,hok'⟩:=YR (P:=P) (w:=w) (ty':=ty) hE (hH.get hn) hu hb hok.2.1 hok.1
 refine xS hd (fun c hc=>by cases hc) (fun a ha=>?_) (h v' lo' hi' w' (hH.set hn hoff hloc hok'))
 simp only [execOp,resolve,invoke,builtin,Sem.run_bind,Sem.run_pure,Result.andThen,List.map_toArray,List.map_cons,List.map_nil,ha.ev hs,ha.ev hx,hr]
theorem uK {α : Type} {T E sz : Nat} {enc : α → List Value} (hE : El P T E sz enc) {xs ys : List α} {a : Option Addr} {nn cap : Nat} (hs : ev env x = some v) (hvv : v = .slice a nn cap) (hx : ev env y = some u) (hd : Nat.blt d N = true) (hH : Heap H w)
    (hv : Rd enc sz v xs w) (hu : Rd enc sz u ys w) (hcap : cap < xs.length + ys.length) (hb : xs.length + ys.length ≤ 1000000)
    (h : ∀ v' lo' hi' w', Heap (ow lo' hi' E sz enc v' (xs ++ ys) :: H) w' → Ops r P N all rest ds ((d, v') :: env) w' Q) :
    Ops r P N all (⟨some d, .call ⟨.builtin .append, #[x, y], #[T, T]⟩, ty, pos, after, none⟩ :: rest) ds env w Q := by
  obtain ⟨i, z, hi1, hz, hsz, hby, hzs⟩ := hE.info
  subst hsz
  subst hvv
  obtain ⟨a1, c1, e1, hc1, ha1⟩ := hv.1
  simp only [Value.slice.injEq] at e1
  obtain ⟨rfl, rfl, rfl⟩ := e1
  obtain ⟨a2, c2, rfl, hc2, ⟨rfl, rfl⟩ | ⟨b, o, rfl⟩⟩ := hu.1
  · omega
  have hby2 : (xs.length + ys.length) * i.bytes ≤ 1000000 * 1024 := Nat.mul_le_mul hb hby
  have hnews := hu.flat hE.len hE.pos
  have hone : ∀ u ∈ ys.flatMap enc, u.oneCell' = true := fun u hu => by obtain ⟨x, _, hx⟩ := List.mem_flatMap.1 hu; exact hE.one x u hx
  have key : ∃ (v' : Value) (w' : World), (Builtin.append_ #[T, T] ty #[.slice a xs.length cap, .slice (some ⟨b, o, none⟩) ys.length c2]).run P w = .ok v' w' ∧ Below w.heap.size w w' ∧ (ow w.heap.size (w.heap.size + 1) E i.size enc v' (xs ++ ys)).ok w' := by
    have own : ∀ old, old < xs.length + ys.length → (ow w.heap.size (w.heap.size + 1) E i.size enc (.slice (some ⟨w.heap.size, 0, none⟩) (xs.length + ys.length) (grownCap w (xs.length + ys.length) old E)) (xs ++ ys)).ok
        (w.drew.alloc (.cells ((xs.flatMap enc).toArray ++ (ys.flatMap enc).toArray ++ Builtin.zeroCells z.cells (grownCap w (xs.length + ys.length) old E - (xs.length + ys.length))) E)) := by
      intro old ho
      have hge := grownCap_ge w (xs.length + ys.length) old E
      have hcm : grownCap w (xs.length + ys.length) old E ≤ maxLen := grownCap_le_maxLen w _ old E (by simp [maxLen]; omega)
      have hlen : ((xs ++ ys).flatMap enc).length = (xs ++ ys).length * i.size := zL hE.len _
      refine vM ⟨⟨hlen, .inr ⟨w.heap.size, _, _, by rw [List.length_append], Nat.zero_le _, heap_alloc_new w.drew _, by rw [List.length_append]; exact hge, hcm, ?_, ?_⟩⟩, fun k hk => ?_⟩ (Nat.le_succ _) (by simp)
      · simp only [Array.size_append, List.size_toArray, size_zeroCells, hzs, zL hE.len, ← Nat.add_mul]
        congr 1
        omega
      · simp only [Array.toList_append, List.append_assoc]
        rw [← List.append_assoc, ← List.flatMap_append, ← hlen]
        exact List.take_left
      · simp [Value.ownBlock] at hk; omega
    have bel : ∀ o, Below w.heap.size w (w.drew.alloc o) := fun o => ⟨rfl, rfl, rfl, by simp, fun k hk => Below.heap_alloc w.drew o k hk⟩
    rcases ha1 with ⟨rfl, rfl⟩ | ⟨b1, o1, rfl⟩
    · have hx0 : xs = [] := List.eq_nil_of_length_eq_zero (by omega)
      subst hx0
      have hm : 0 < ys.length := by simpa using hcap
      have hr := run_append_nil (P := P) w T ty E i z hE.und hi1 hz ⟨b, o, none⟩ ys.length c2 (ys.flatMap enc) (zL hE.len ys) hnews (by omega) (by omega) (by have := hby2; simp only [List.length_nil, Nat.zero_add] at this; omega)
      have ho := own 0 (by simpa using hm)
      have e0 : ([] : List α).flatMap enc = [] := rfl
      have e1 : ([] : List Value).toArray = #[] := rfl
      rw [e0, e1] at ho
      simp only [List.length_nil, Nat.zero_add, List.nil_append, Array.empty_append] at ho hr ⊢
      exact ⟨_, _, hr, bel _, ho⟩
    · have hr := run_append_grow (P := P) w T ty E i z hE.und hi1 hz ⟨b1, o1, none⟩ xs.length cap (xs.flatMap enc) (zL hE.len xs) (hv.flat hE.len hE.pos) ⟨b, o, none⟩ ys.length c2 (ys.flatMap enc) (zL hE.len ys) hnews (by omega) (by omega)
        (growslice_fits (by omega) (by omega))
      exact ⟨_, _, hr, bel _, own cap (by omega)⟩
  obtain ⟨v', w', hr, hbl, hok⟩ := key
  refine xS hd (fun c hc => by cases hc) (fun a ha => ?_) (h v' _ _ w' (hH.add hbl (Nat.le_refl _) hok))
  simp only [execOp, resolve, invoke, builtin, Sem.run_bind, Sem.run_pure, Result.andThen, List.map_toArray, List.map_cons, List.map_nil, ha.ev hs, ha.ev hx, hr]
theorem vI {α : Type} {enc : α → List Value} {sz : Nat} (hl : ∀ x, (enc x).length = sz) (hp : 0 < sz) {zc : Array Value} {z0 : α} (hz : zc.toList = enc z0) (k : Nat) :
    (madeCells zc (k * sz)).toList = (List.replicate k z0).flatMap enc := by
  have hs : zc.size = sz := by rw [← Array.length_toList, hz, hl]
  apply List.ext_getElem?
  intro j
  by_cases hj : j < k * sz
  · have hq : j / sz < k := by rw [Nat.div_lt_iff_lt_mul hp]; exact hj
    have hm : j % sz < (enc z0).length := by rw [hl]; exact Nat.mod_lt _ hp
    have h1 := xT hl (List.replicate k z0) (j / sz) z0 (j % sz) _ (by simp [hq]) (List.getElem?_eq_getElem hm)
    have e : j / sz * sz + j % sz = j := by rw [Nat.mul_comm]; exact Nat.div_add_mod j sz
    rw [e] at h1
    rw [h1]
    have hm2 : j % sz < zc.size := by rw [hs]; exact Nat.mod_lt _ hp
    have h3 : zc[j % sz]! = (enc z0)[j % sz] := by
      rw [getElem!_pos zc _ hm2]
      have : zc.toList[j % sz]? = (enc z0)[j % sz]? := by rw [hz]
      simpa [hm2, hm] using this
    simp [madeCells, hj, hs, h3]
  · rw [List.getElem?_eq_none (by simp [madeCells]; omega), List.getElem?_eq_none (by rw [zL hl, List.length_replicate]; omega)]
theorem YX {α:Type} {T E sz:Nat} {enc:α→List Value} (hE:El P T E sz enc) {m:Int} (z0:α) (hz0:∀ i,P.info? E=some i→i.zero.map (·.cells.toList)=some (enc z0)) (hx:ev env x=some (.int .i64 m)) (hy:ev env y=some (.int .i64 m)) (hd:Nat.blt d N=true) (hH:Heap H w)
  (h0:0≤m) (hm:m≤1000000)
  (h:∀ v lo hi w',Heap (ow lo hi E sz enc v (List.replicate m.toNat z0)::H) w'→Ops r P N all rest ds ((d,v)::env) w' Q) :
  Ops r P N all (⟨some d,.makeSlice T x y,ty,pos,after,none⟩::rest) ds env w Q:=by
 obtain ⟨i,z,hi1,hz,hsz,hby,hzs⟩:=hE.info
 have hzc:=hz0 i hi1
 rw [hz] at hzc
 simp only [Option.map_some,Option.some.injEq] at hzc
 have hbm:(i.bytes:Int) * m≤1024 * 1000000:=Int.mul_le_mul (by omega) hm h0 (by omega)
 have hr:=run_make (P:=P) w T E i z hE.und hi1 hz .i64 .i64 m m h0 (Int.le_refl _) (by omega) (by omega)
 rw [hsz] at hr
 have hown:Ow w.heap.size (w.heap.size+1) E sz enc (.slice (some ⟨w.heap.size,0,none⟩) m.toNat m.toNat) (List.replicate m.toNat z0) (w.alloc (.cells (madeCells z.cells (m.toNat * sz)) E)):=by
  refine ⟨⟨zL hE.len _,.inr ⟨w.heap.size,m.toNat,_,by simp,Nat.zero_le _,heap_new w _,by simp,by simp [maxLen]; omega,by simp [madeCells],?_⟩⟩,fun k hk=>?_⟩
  ·rw [vI hE.len hE.pos hzc,List.length_replicate]
   exact List.take_of_length_le (by rw [zL hE.len,List.length_replicate]; exact Nat.le_refl _)
  ·simp [Value.ownBlock] at hk; omega
 refine xS hd (fun c hc=>by cases hc) (fun a ha=>?_) (h _ w.heap.size (w.heap.size+1) _ (hH.add (below_alloc w _) (Nat.le_refl _) (vM hown (Nat.le_succ _) (by simp))))
 simp only [execOp,ha.ev hx,ha.ev hy,Sem.run_bind,hr,Sem.run_pure,Result.andThen]
theorem uP (A ex B us:List Value) (k:Nat) (hk:k+us.length≤ex.length):splice (A++(ex++B)) (A.length+k) us=A++(splice ex k us++B):=by
 have e1:k - ex.length=0:=by omega
 have e2:k+us.length - ex.length=0:=by omega
 have e3:A.take (A.length+k)=A:=List.take_of_length_le (by omega)
 have e4:A.drop (A.length+(k+us.length))=[]:=List.drop_of_length_le (by omega)
 simp [splice,List.take_append,List.drop_append,Nat.add_assoc,e1,e2,e3,e4]
theorem j0 {α : Type} [Inhabited α] {T E T' sz n lo hi : Nat} {enc : α → List Value} (hE : El P T E sz enc) {s : Value} {xs : List α} {i : Int} {k tsz : Nat} {us : List Value} {z : α}
    (hp : ev env x = some (.pointer (some ⟨eb s, eo s + i.toNat * sz + k, none⟩))) (hx : ev env y = some v) (hH : Heap H w) (hn : H[n]? = some (ow lo hi E sz enc s xs)) (hi' : 0 ≤ i ∧ i < xs.length)
    (hsz : (P.info? T').map (·.size) = some tsz) (hv : v.cells = us.toArray) (hl : us.length = tsz) (hz : enc z = splice (enc (nth xs i)) k us) (hk : k + us.length ≤ sz)
    (h : ∀ w', Heap (H.set n (ow lo hi E sz enc s (xs.set i.toNat z))) w' → Ops r P N all rest ds env w' Q) :
    Ops r P N all (⟨none, .store T' x y, ty, pos, after, none⟩ :: rest) ds env w Q := by
  have hok := hH.okAt hn
  have how : Ow lo hi E sz enc s xs w := hH.get hn
  have hlt : i.toNat < xs.length := by omega
  rcases how.1.2 with ⟨_, h3⟩ | ⟨g, cap, cur, hsv, hb, hg, h4, h5, h6, h7⟩
  · omega
  subst hsv
  simp only [eb, eo, Nat.zero_add] at hp
  have hgl := how.2 g rfl
  have hnx : xs[i.toNat]? = some (nth xs i) := qR hi'
  have hrow : (i.toNat + 1) * sz ≤ xs.length * sz := Nat.mul_le_mul_right _ hlt
  rw [Nat.add_mul, Nat.one_mul] at hrow
  have hcapsz : xs.length * sz ≤ cap * sz := Nat.mul_le_mul_right _ h4
  have hone : ∀ u ∈ us, u.oneCell' = true := fun u hu => hE.one z u (by rw [hz]; simp [splice, hu])
  refine qL hp hx hsz hv hl hg (by omega) hone (h _ ?_)
  refine hH.set hn ((xY w g _).mono' hgl) (.inl ⟨Nat.le_refl _, Nat.le_refl _⟩) (vM ⟨⟨by rw [zL hE.len], .inr ⟨g, cap, _, by simp, hb, setRow_heap w g cur _ E (0, 0) hg, by simpa using h4, h5, ?_, ?_⟩⟩, how.2⟩ hok.1 (by rw [setRow_size]; exact hok.2.1))
  · simp [splice]; omega
  · have hx2 : xs = xs.take i.toNat ++ nth xs i :: xs.drop (i.toNat + 1) := by
      have := List.take_append_drop i.toNat xs
      rw [List.drop_eq_getElem_cons hlt] at this
      have e : xs[i.toNat] = nth xs i := by rw [List.getElem?_eq_getElem hlt] at hnx; exact Option.some.inj hnx
      rw [e] at this
      exact this.symm
    have hset : xs.set i.toNat z = xs.take i.toNat ++ z :: xs.drop (i.toNat + 1) := List.set_eq_take_append_cons_drop ▸ (by simp [hlt])
    have hcur : cur.toList = (xs.take i.toNat).flatMap enc ++ (enc (nth xs i) ++ ((xs.drop (i.toNat + 1)).flatMap enc ++ cur.toList.drop (xs.length * sz))) := by
      have h8 := List.take_append_drop (xs.length * sz) cur.toList
      rw [h7] at h8
      have h9 : xs.flatMap enc = (xs.take i.toNat).flatMap enc ++ (enc (nth xs i) ++ (xs.drop (i.toNat + 1)).flatMap enc) := by
        conv => lhs; rw [hx2]
        simp
      rw [h9] at h8
      simpa using h8.symm
    have hAl : ((xs.take i.toNat).flatMap enc).length = i.toNat * sz := by rw [zL hE.len, List.length_take]; congr 1; omega
    have hsp : splice cur.toList (i.toNat * sz + k) us = (xs.take i.toNat).flatMap enc ++ (enc z ++ ((xs.drop (i.toNat + 1)).flatMap enc ++ cur.toList.drop (xs.length * sz))) := by
      generalize cur.toList.drop (xs.length * sz) = D at hcur ⊢
      rw [hcur, ← hAl, uP _ _ _ _ _ (by rw [hE.len]; exact hk), hz]
    rw [List.toList_toArray, hsp, hset, ← List.append_assoc, ← List.append_assoc]
    have hL : ((xs.take i.toNat).flatMap enc ++ enc z ++ (xs.drop (i.toNat + 1)).flatMap enc).length = (xs.take i.toNat ++ z :: xs.drop (i.toNat + 1)).length * sz := by
      rw [← zL hE.len]; simp
    rw [← hL, List.take_left]
    simp
end eff
end Go.Fip
namespace Go.Fip
open Go.RowKit
def cutv (v:Value) (sz lo hi:Nat):Value :=
 match v with
 | .slice a _ c=>.slice (if c=lo then a else a.map (·.add (lo * sz))) (hi - lo) (c - lo)
 | v=>v
def qC (v:Value) (sz lo hi m:Nat):Value :=
 match v with
 | .slice a _ _=>.slice (if m=lo then a else a.map (·.add (lo * sz))) (hi - lo) (m - lo)
 | v=>v
theorem Rd.cut3 {α : Type} {enc : α → List Value} {sz : Nat} {v : Value} {xs : List α} {w : World} (h : Rd enc sz v xs w) {lo hi m : Nat} (h1 : lo ≤ hi) (h2 : hi ≤ xs.length) (hm : hi ≤ m)
    (hc : ∀ a n c, v = .slice a n c → m ≤ c) : Rd enc sz (qC v sz lo hi m) ((xs.take hi).drop lo) w := by
  obtain ⟨⟨a, c, rfl, hnc, ha⟩, h3⟩ := h
  have hmc := hc a _ c rfl
  have hl : ((xs.take hi).drop lo).length = hi - lo := by rw [List.length_drop, List.length_take]; omega
  refine ⟨⟨_, _, by unfold qC; rw [hl], by omega, ?_⟩, fun i x hx j u hj => ?_⟩
  · rcases ha with ⟨rfl, rfl⟩ | ⟨b, o, rfl⟩
    · exact .inl ⟨by simp, by omega⟩
    · refine .inr ?_
      by_cases e : m = lo
      · exact ⟨b, o, by simp [e]⟩
      · exact ⟨b, o + lo * sz, by simp [e, add_none]⟩
  · have hlt : i < hi - lo := by rw [← hl]; exact (List.getElem?_eq_some_iff.1 hx).1
    rw [List.getElem?_drop, List.getElem?_take, if_pos (by omega)] at hx
    have h4 := h3 (lo + i) x hx j u hj
    rcases ha with ⟨rfl, rfl⟩ | ⟨b, o, rfl⟩
    · omega
    · have e : ¬ m = lo := by omega
      simp only [qC, e, if_false, Option.map_some, eb, eo, add_none] at h4 ⊢
      rw [← h4]
      congr 2
      rw [Nat.add_mul]; omega
theorem Rd.cut {α:Type} {enc:α→List Value} {sz:Nat} {v:Value} {xs:List α} {w:World} (h:Rd enc sz v xs w) {lo hi:Nat} (h1:lo≤hi) (h2:hi≤xs.length):Rd enc sz (cutv v sz lo hi) ((xs.take hi).drop lo) w:=by
 obtain ⟨a,c,e,hnc,_⟩:=h.1
 have:=h.cut3 h1 h2 (m:=c) (by omega) (fun a' n' c' e'=>by rw [e] at e'; simp only [Value.slice.injEq] at e'; omega)
 subst e
 exact this
theorem Rd.upto {α:Type} {enc:α→List Value} {sz:Nat} {v:Value} {xs:List α} {w:World} (h:Rd enc sz v xs w) {hi:Nat} (h2:hi≤xs.length):Rd enc sz (cutv v sz 0 hi) (xs.take hi) w:=by
 simpa using h.cut (Nat.zero_le _) h2
theorem Rd.from {α:Type} {enc:α→List Value} {sz:Nat} {v:Value} {xs:List α} {w:World} (h:Rd enc sz v xs w) {lo:Nat} (h2:lo≤xs.length):Rd enc sz (cutv v sz lo xs.length) (xs.drop lo) w:=by
 simpa using h.cut h2 (Nat.le_refl _)
section cutops
variable {P : Program} {N : Nat} {ds : List Deferred} {env : Env} {S : World → Prop} {x y z c : Operand} {v u : Value} {T E sz n : Nat} {k k2 k3 : IntKind} {l h m : Int}
theorem kA {hi : Nat} (hT : TSlice P T E sz) (hv : SliceIs v n) (h2 : hi ≤ n) {lo : Nat} (h1 : lo ≤ hi) (wl wh : Option Value) (hl : wl = none ∧ lo = 0 ∨ ∃ k, wl = some (.int k (lo : Int))) (hh : wh = none ∧ hi = n ∨ ∃ k, wh = some (.int k (hi : Int))) (w : World) :
    (Instr.sliceAt T v wl wh none).run P w = .ok (cutv v sz lo hi) w := by
  obtain ⟨a, c, rfl, hnc, ha⟩ := hv
  have e1 : ∀ (k : IntKind) (y : Nat) (q : Int) (code : BoundsCode), 0 ≤ q → q ≤ y → (Instr.sliceBound (.int k q) y code).run P w = .ok q.toNat w := by
    intro k y q code h0 h1
    simp [Instr.sliceBound, asIntOf, h0, h1]
  have eb1 : (Instr.sliceBounds true n c wl wh none).run P w = .ok (lo, hi, c) w := by
    rcases hh with ⟨rfl, rfl⟩ | ⟨kh, rfl⟩ <;> rcases hl with ⟨rfl, rfl⟩ | ⟨kl, rfl⟩
    · simp [Instr.sliceBounds]
    · have := e1 kl hi (lo : Int) .sliceB (by omega) (by omega)
      simp [Instr.sliceBounds, this, Result.andThen]
    · have := e1 kh c (hi : Int) .sliceAcap (by omega) (by omega)
      simp [Instr.sliceBounds, this, Result.andThen]
    · have h3 := e1 kh c (hi : Int) .sliceAcap (by omega) (by omega)
      have h4 := e1 kl hi (lo : Int) .sliceB (by omega) (by omega)
      simp [Instr.sliceBounds, h3, h4, Result.andThen]
  simp [Instr.sliceAt, Instr.slice, run_underlying hT.1, eb1, run_size hT.2, Result.andThen, cutv]
theorem vP (hT:TSlice P T E sz) (hx:ev env x=some v) (hy:ev env y=some (.int k l)) (hv:SliceIs v n) (hb:0≤l∧l≤n):Yv P N ds env (.slice T x (some y) none none) (cutv v sz l.toNat n) S:=fun a ha w _ _ _ _ _ _=>by
 have e:((l.toNat:Nat):Int)=l:=by omega
 have:=kA (P:=P) hT hv (Nat.le_refl n) (lo:=l.toNat) (by omega) (some (.int k l)) none (.inr ⟨k,by rw [e]⟩) (.inl ⟨rfl,rfl⟩) w
 simp [execOp,ha.ev hx,ha.ev hy,this,Result.andThen]
theorem vF (hT:TSlice P T E sz) (hx:ev env x=some v) (hy:ev env y=some (.int k h)) (hv:SliceIs v n) (hb:0≤h∧h≤n):Yv P N ds env (.slice T x none (some y) none) (cutv v sz 0 h.toNat) S:=fun a ha w _ _ _ _ _ _=>by
 have e:((h.toNat:Nat):Int)=h:=by omega
 have:=kA (P:=P) hT hv (hi:=h.toNat) (by omega) (lo:=0) (by omega) none (some (.int k h)) (.inl ⟨rfl,rfl⟩) (.inr ⟨k,by rw [e]⟩) w
 simp [execOp,ha.ev hx,ha.ev hy,this,Result.andThen]
theorem kH (hT:TSlice P T E sz) (hx:ev env x=some v) (hy:ev env y=some (.int k l)) (hz:ev env z=some (.int k2 h)) (hv:SliceIs v n) (hb:0≤l∧l≤h∧h≤n):Yv P N ds env (.slice T x (some y) (some z) none) (cutv v sz l.toNat h.toNat) S:=fun a ha w _ _ _ _ _ _=>by
 have e:((h.toNat:Nat):Int)=h:=by omega
 have e2:((l.toNat:Nat):Int)=l:=by omega
 have:=kA (P:=P) hT hv (hi:=h.toNat) (by omega) (lo:=l.toNat) (by omega) (some (.int k l)) (some (.int k2 h)) (.inr ⟨k,by rw [e2]⟩) (.inr ⟨k2,by rw [e]⟩) w
 simp [execOp,ha.ev hx,ha.ev hy,ha.ev hz,this,Result.andThen]
theorem YV (hT:TSlice P T E sz) (hx:ev env x=some v) (hy:ev env y=some (.int k h)) (hz:ev env z=some (.int k2 h)) (hv:SliceIs v n) (hb:h=n):Yv P N ds env (.slice T x none (some y) (some z)) (qC v sz 0 n n) S:=fun a ha w _ _ _ _ _ _=>by
 subst hb
 obtain ⟨p,c,rfl,hnc,hp⟩:=hv
 have e1:∀ (k:IntKind) (y:Nat) (q:Int) (code:BoundsCode),0≤q→q≤y→(Instr.sliceBound (.int k q) y code).run P w=.ok q.toNat w:=by
  intro k y q code h0 h1
  simp [Instr.sliceBound,asIntOf,h0,h1]
 have h3:=e1 k2 c (n:Int) .slice3Acap (by omega) (by omega)
 have h4:=e1 k n (n:Int) .slice3B (by omega) (by omega)
 simp [execOp,ha.ev hx,ha.ev hy,ha.ev hz,Instr.sliceAt,Instr.slice,run_underlying hT.1,Instr.sliceBounds,h3,h4,run_size hT.2,Result.andThen,qC]
end cutops
def putE (dst:Option Nat) (v:Value) (env:Env):Env :=
 match dst with
 | some d=>(d,v)::env
 | none=>env
def dstOK (N:Nat):Option Nat→Bool
 | some d=>Nat.blt d N
 | none=>true
theorem vZ {r:Option Nat} {P:Program} {N:Nat} {ds:List Deferred} {env:Env} {w:World} {Q:Post} {all:Array Oper} {rest:List Oper} {dst:Option Nat} {op:Op} {ty:TypeId} {pos:String} {after:Array Edge} {v:Value} {w':World}
  (hd:dstOK N dst=true) (hop:∀ c,op≠.defer c) (hrun:∀ a,Fits N a ds env→(execOp a.eval ⟨dst,op,ty,pos,after,none⟩).run P w=.ok (.value v) w')
  (h:Ops r P N all rest ds (putE dst v env) w' Q):Ops r P N all (⟨dst,op,ty,pos,after,none⟩::rest) ds env w Q:=by
 cases dst with
 | some d=>exact xS hd hop hrun h
 | none=>exact uX hop (fun a ha=>.inr ⟨v,hrun a ha⟩) h
section copyclear
variable {r : Option Nat} {P : Program} {N : Nat} {ds : List Deferred} {env : Env} {w : World} {Q : Post} {all : Array Oper} {rest : List Oper} {H : List Item} {x y : Operand} {v u : Value}
  {dst : Option Nat} {ty : TypeId} {pos : String} {after : Array Edge}
theorem j5 {α:Type} {T E sz lo hi:Nat} {enc:α→List Value} (hE:El P T E sz enc) {g nn cap:Nat} {xs ys:List α} {cur:Array Value} (hg:w.heap[g]? = some (.cells cur E (0,0)))
  (hn:nn=xs.length) (h4:xs.length≤cap) (h5:cap≤maxLen) (h6:cur.size=cap * sz) (h7:cur.toList.take (xs.length * sz)=xs.flatMap enc) (hgl:lo≤g∧g<hi) (q:Nat) (hq:q+ys.length≤xs.length) :
  Ow lo hi E sz enc (.slice (some ⟨g,0,none⟩) nn cap) (xs.take q++ys++xs.drop (q+ys.length)) (w.setRow g (splice cur.toList (q * sz) (ys.flatMap enc)).toArray):=by
 subst hn
 have hl:(xs.take q++ys++xs.drop (q+ys.length)).length=xs.length:=by simp; omega
 have hyl:=zL hE.len ys
 have hle:(q+ys.length) * sz≤xs.length * sz:=Nat.mul_le_mul_right _ hq
 have hle2:xs.length * sz≤cap * sz:=Nat.mul_le_mul_right _ h4
 rw [Nat.add_mul] at hle
 refine ⟨⟨zL hE.len _,.inr ⟨g,cap,_,by rw [hl],Nat.zero_le _,setRow_heap w g cur _ E (0,0) hg,by rw [hl]; exact h4,h5,?_,?_⟩⟩,fun k hk=>by simp [Value.ownBlock] at hk; omega⟩
 ·simp [splice,hyl]; omega
 ·rw [hl,List.toList_toArray]
  have hsplit:xs=xs.take q++((xs.drop q).take ys.length++xs.drop (q+ys.length)):=by
   rw [← List.drop_drop,List.take_append_drop,List.take_append_drop]
  have h8:=List.take_append_drop (xs.length * sz) cur.toList
  rw [h7] at h8
  have h9:xs.flatMap enc=(xs.take q).flatMap enc++(((xs.drop q).take ys.length).flatMap enc++(xs.drop (q+ys.length)).flatMap enc):=by
   conv=>lhs; rw [hsplit]
   simp
  generalize cur.toList.drop (xs.length * sz)=D at h8
  rw [h9,List.append_assoc,List.append_assoc] at h8
  have hAl:((xs.take q).flatMap enc).length=q * sz:=by rw [zL hE.len,List.length_take]; congr 1; omega
  have hMl:(((xs.drop q).take ys.length).flatMap enc).length=ys.length * sz:=by rw [zL hE.len,List.length_take,List.length_drop]; congr 1; omega
  rw [← h8]
  have hs:=uP ((xs.take q).flatMap enc) (((xs.drop q).take ys.length).flatMap enc) ((xs.drop (q+ys.length)).flatMap enc++D) (ys.flatMap enc) 0 (by rw [hMl,hyl]; omega)
  rw [hAl,Nat.add_zero] at hs
  rw [hs]
  have hs2:splice (((xs.drop q).take ys.length).flatMap enc) 0 (ys.flatMap enc)=ys.flatMap enc:=by
   simp only [splice,List.take_zero,List.nil_append,Nat.zero_add]
   rw [List.drop_of_length_le (by rw [hMl,hyl]; exact Nat.le_refl _),List.append_nil]
  rw [hs2, ← List.append_assoc, ← List.append_assoc]
  have hL:((xs.take q).flatMap enc++ys.flatMap enc++(xs.drop (q+ys.length)).flatMap enc).length=xs.length * sz:=by
   rw [← hl, ← zL hE.len]; simp
  rw [← hL,List.take_left]
  simp
theorem XN {α : Type} {T T2 E sz n lo hi : Nat} {enc : α → List Value} (hE : El P T E sz enc) {xs ys : List α} (hs : ev env x = some v) (hx : ev env y = some u) (hd : dstOK N dst = true) (hH : Heap H w)
    (hn : H[n]? = some (ow lo hi E sz enc v xs)) (hu : Rd enc sz u ys w) (hb : ys.length ≤ xs.length)
    (h : ∀ w', Heap (H.set n (ow lo hi E sz enc v (ys ++ xs.drop ys.length))) w' → Ops r P N all rest ds (putE dst (.int .i64 (ys.length : Int)) env) w' Q) :
    Ops r P N all (⟨dst, .call ⟨.builtin .copy, #[x, y], #[T, T2]⟩, ty, pos, after, none⟩ :: rest) ds env w Q := by
  have hok := hH.okAt hn
  have how : Ow lo hi E sz enc v xs w := hH.get hn
  obtain ⟨i, z, hi1, hz, hsz, hby, hzs⟩ := hE.info
  have hsize := run_size (P := P) hE.slice.2
  obtain ⟨a2, c2, rfl, hc2, hu2⟩ := hu.1
  have hmin : Nat.min ys.length xs.length = ys.length := Nat.min_eq_left hb
  rcases how.1.2 with ⟨rfl, h3⟩ | ⟨g, cap, cur, hsv, hb0, hg, h4, h5, h6, h7⟩
  · have hy0 : ys = [] := List.eq_nil_of_length_eq_zero (by omega)
    have hx0 : xs = [] := List.eq_nil_of_length_eq_zero h3
    subst hy0; subst hx0
    refine vZ hd (fun c hc => by cases hc) (fun a ha => ?_) (h w ?_)
    · have hf : (Builtin.firstCells sz 0 (.slice a2 0 c2)).run P w = .ok #[] w := by
        cases a2 with
        | none => simp [Builtin.firstCells]
        | some p => simp [Builtin.firstCells, loadCells, loadCellsFrom]
      simp only [List.length_nil] at *
      simp [execOp, resolve, invoke, builtin, Builtin.copy_, ha.ev hs, ha.ev hx, run_underlying hE.und, Builtin.lenOf, hsize, hf, goInt, Result.andThen]
    · have := hH.set hn ⟨rfl, rfl, rfl, Nat.le_refl _, fun _ _ _ => rfl⟩ (.inl ⟨Nat.le_refl _, Nat.le_refl _⟩) hok
      simpa using this
  · subst hsv
    have hf : (Builtin.firstCells sz ys.length (.slice a2 ys.length c2)).run P w = .ok (ys.flatMap enc).toArray w := by
      rcases hu2 with ⟨rfl, rfl⟩ | ⟨b, o, rfl⟩
      · have hy0 : ys = [] := List.eq_nil_of_length_eq_zero (by omega)
        subst hy0
        simp [Builtin.firstCells]
      · exact run_firstCells_some (P := P) w sz ys.length ⟨b, o, none⟩ ys.length c2 _ (zL hE.len ys) (hu.flat hE.len hE.pos)
    have hyl := zL hE.len ys
    have hle : ys.length * sz ≤ cap * sz := Nat.mul_le_mul_right _ (by omega)
    have hst := run_storeCells_at (P := P) g 0 E (ys.flatMap enc) 0 cur w hg (by rw [hyl]; omega) (fun u hu => by obtain ⟨x, _, hx⟩ := List.mem_flatMap.1 hu; exact hE.one x u hx)
    have hov := j5 (P := P) (w := w) (lo := lo) (hi := hi) hE (ys := ys) hg rfl h4 h5 h6 h7 (how.2 g rfl) 0 (by omega)
    simp only [Nat.zero_mul, List.take_zero, List.nil_append, Nat.zero_add] at hov
    refine vZ hd (fun c hc => by cases hc) (fun a ha => ?_) (h _ (hH.set hn ((xY w g _).mono' (how.2 g rfl)) (.inl ⟨Nat.le_refl _, Nat.le_refl _⟩) (vM hov hok.1 (by rw [setRow_size]; exact hok.2.1))))
    simp only [execOp, resolve, invoke, builtin, Builtin.copy_, Sem.run_bind, Sem.run_pure, Result.andThen, List.map_toArray, List.map_cons, List.map_nil, ha.ev hs, ha.ev hx]
    simp [run_underlying hE.und, Builtin.lenOf, hsize, hf, goInt, Result.andThen, hst, hmin, splice]
end copyclear
end Go.Fip
namespace Go.Fip
open Go.RowKit
def YieldAt (F:Fence) (m:Nat) (P:Program) (l:Nat) (args:Array Value) (W:World) (R:Ending→World→Prop):Prop :=
 ∃ fn tmps assign body,(Instr.yield l args).run P W=.ok (.round l fn tmps assign body) W∧RoundIn F m P l fn tmps assign body W R
structure Iter (P:Program) (g:FuncId) (cap:List Value) (D:World→Prop) (xs:List Value):Prop where
 enters:∀ (aS0:Array Value) (w:World),(callFunc g aS0).run P w=.ok (.enter g aS0) w
 calls:∀ (l:Nat) (J:Nat→World→Prop) (Jx:World→Prop),
  (∀ i w w',J i w→Below w.heap.size w w'→J i w')→(∀ w w',Jx w→Below w.heap.size w w'→Jx w')→(∀ i w,J i w→D w) →
  (∀ i x,xs[i]? = some x→∀ w,J i w→YieldAt Fence.wide 0 P l #[x] w fun e w'=>(e=.returned (.bool true)∧J (i+1) w')∨(e=.returned (.bool false)∧Jx w')) →
  ∀ w,J 0 w→CallsIn Fence.wide 0 P g (.func (.yield l) #[] #[]::cap).toArray w fun e w'=>(∃ v,e=.returned v)∧(J xs.length w'∨Jx w')
def recItem (l:Nat) (rc:Loop):Item:=⟨l,l+1,fun w=>w.heap[l]? = some (.loop rc)⟩
theorem jB {l:Nat} {rc:Loop} {w:World} (h:w.heap[l]? = some (.loop rc)):(recItem l rc).ok w :=
 ⟨Nat.le_succ _,(Array.getElem?_eq_some_iff.1 h).1,fun _ ha=>(ha.block l (Nat.le_refl _) (Nat.lt_succ_self _)).trans h⟩
theorem kK {l:Nat} {w:World} (h:w.heap[l]? = some (.deferred (some []))):(markItem l).ok w :=
 ⟨Nat.le_succ _,(Array.getElem?_eq_some_iff.1 h).1,fun _ ha=>(ha.block l (Nat.le_refl _) (Nat.lt_succ_self _)).trans h⟩
theorem Heap.putRec {H:List Item} {w:World} {l:Nat} {rc:Loop} (h:Heap (recItem l rc::H) w) (rc':Loop):Heap (recItem l rc'::H) (w.putObj l (.loop rc')):=by
 have hl:w.heap[l]? = some (.loop rc):=h.get (n:=0) rfl
 exact h.set (n:=0) rfl (xZ w l _) (.inl ⟨Nat.le_refl _,Nat.le_refl _⟩) (jB (World.putObj_heap_same (Array.getElem?_eq_some_iff.1 hl).1))
def roundQ (l:Nat) (I:List Item→Prop) (Ix:Code→List Item→Prop) (rc:Loop):Post
 | .normal,_,_,w=>∃ H',I H'∧Heap (recItem l rc::H') w
 | .ret,_,_,w=>∃ H',Ix .ret H'∧Heap (recItem l rc::H') w
 | .exit i,_,_,w=>∃ H',Ix (.exit i) H'∧Heap (recItem l rc::H') w
 | .goto i,_,_,w=>∃ H',Ix (.goto i) H'∧Heap (recItem l rc::H') w
 | _,_,_,_=>False
def asgQ (P:Program) (N:Nat) (l:Nat) (body:Code) (I:List Item→Prop) (Ix:Code→List Item→Prop) (rc:Loop):Post
 | .normal,ds,env,w=>∃ H1,Heap (recItem l rc::H1) w∧∀ w2,Heap (recItem l { rc with state:=.busy }::H1) w2→Holds (some l) P N body ds env w2 (roundQ l I Ix { rc with state:=.busy })
 | _,_,_,_=>False
theorem rangeFunc {P : Program} {N : Nat} {ds : List Deferred} {env : Env} {w : World} {Q : Post} {g : Operand} {p : Nat} {assign body : Code} {gf : FuncId} {cap : List Value} {D : World → Prop} {xs : List Value} {H : List Item}
    (hg : ev env g = some (.func (.func gf) #[] cap.toArray)) (hit : Iter P gf cap D xs) (hp : Nat.blt p N = true) (hH : Heap H w)
    (I : Nat → List Item → Prop) (Ix : Code → List Item → Prop) (h0 : I 0 H) (hD : ∀ i H w, I i H → Heap H w → D w)
    (hround : ∀ (l D0 : Nat) (i : Nat) (x : Value) (H : List Item) (w : World) (rc : Loop), xs[i]? = some x → I i H → Heap (recItem l rc :: markItem D0 :: H) w →
      Holds (some l) P N assign [] ((p, x) :: env) w (asgQ P N l body (fun H' => ∃ H2, I (i + 1) H2 ∧ H' = markItem D0 :: H2) (fun c H' => ∃ H2, Ix c H2 ∧ H' = markItem D0 :: H2) rc))
    (hdone : ∀ (D0 : Nat) (H : List Item) (w : World), I xs.length H → Heap (markItem D0 :: H) w → Q .normal (isMark D0 :: ds) env w)
    (hstop : ∀ (D0 : Nat) (c : Code) (H : List Item) (w : World), Ix c H → Heap (markItem D0 :: H) w → Holds none P N c (isMark D0 :: ds) env w Q) :
    Holds none P N (.rangeFunc g #[p] assign body) ds env w Q := by
  intro a ha
  refine wpIn_rangeFunc ?_
  intro fn _
  obtain ⟨rec, hrec⟩ : ∃ rec : LoopState → Option Code → Loop, rec = fun st pe => { state := st, pending := pe, fn, tmps := a.tmps, params := #[p], assign, body, defers := w.heap.size } := ⟨_, rfl⟩
  obtain ⟨W1, hW1⟩ : ∃ W1, (w.alloc (.deferred (some []))).alloc (.loop (rec .ready none)) = W1 := ⟨_, rfl⟩
  have hHd : Heap (markItem w.heap.size :: H) (w.alloc (.deferred (some []))) := hH.add (below_alloc w _) (Nat.le_refl _) (kK (heap_new w _))
  have hH1 : Heap (recItem (w.heap.size + 1) (rec .ready none) :: markItem w.heap.size :: H) W1 := by
    rw [← hW1]
    refine hHd.add (below_alloc _ _) (by simp [recItem]) (jB ?_)
    have := heap_new (w.alloc (.deferred (some []))) (.loop (rec .ready none))
    rwa [World.size_alloc] at this
  have hro : Fence.wide.round = none := rfl
  refine ⟨w.heap.size + 1, [isMark w.heap.size], W1, { target := .fn (.func gf) cap.toArray, args := #[.func (.yield (w.heap.size + 1)) #[] #[]] }, W1, gf,
    (.func (.yield (w.heap.size + 1)) #[] #[] :: cap).toArray, W1, ?_, ?_, ?_, ?_, fun h => by simp [Fr_depth] at h, ?_⟩
  · rw [Fr_round, ← hW1, hrec]; exact run_enterLoop_outer _ _ _ _ _
  · simp only [resolve, rangeCall, ha.ev hg]
    simp [go_sem]
  · intro f' _; exact Fr_fn _ _
  · simp only [invoke]
    have e : (#[Value.func (.yield (w.heap.size + 1)) #[] #[]] : Array Value) ++ cap.toArray = (.func (.yield (w.heap.size + 1)) #[] #[] :: cap).toArray := by simp
    rw [e]
    exact hit.enters _ W1
  · refine CallsIn.mono (hit.calls (w.heap.size + 1)
      (fun i W => ∃ H2, I i H2 ∧ Heap (recItem (w.heap.size + 1) (rec .ready none) :: markItem w.heap.size :: H2) W)
      (fun W => ∃ c H2, Ix c H2 ∧ Heap (recItem (w.heap.size + 1) (rec .done (some c)) :: markItem w.heap.size :: H2) W)
      (fun i W W' ⟨H2, hi, hh⟩ hb => ⟨H2, hi, hh.grow hb⟩) (fun W W' ⟨c, H2, hi, hh⟩ hb => ⟨c, H2, hi, hh.grow hb⟩)
      (fun i W ⟨H2, hi, hh⟩ => hD i H2 W hi (hh.sub ((List.sublist_cons_self _ _).trans (List.sublist_cons_self _ _)))) ?_ W1 ⟨H, h0, hH1⟩) ?_
    · rintro i x hx W ⟨H2, hi, hh⟩
      have hl : W.heap[w.heap.size + 1]? = some (.loop (rec .ready none)) := hh.get (n := 0) rfl
      have hy := run_yield (P := P) (args := #[x]) hl (by rw [hrec]; rfl)
      rw [hrec] at hy
      refine ⟨fn, _, assign, body, hy, roundIn_of_wpIn trivial ?_⟩
      have hfit : Fits N { tmps := (#[p].zip #[x]).foldl (fun tmps (t, a) => tmps.setIfInBounds t a) a.tmps, defers := [] } [] ((p, x) :: env) := by
        have h1 : Fits N { tmps := a.tmps, defers := [] } [] env := ⟨ha.size, rfl, ha.slot⟩
        have := h1.put (by simpa [Nat.blt_eq] using hp : p < N) x
        simpa [Act.put] using this
      refine Go.wpIn_mono (hround (w.heap.size + 1) w.heap.size i x H2 W (rec .ready none) hx hi hh _ hfit) ?_
      rintro e a' w' ⟨ds', env', hf', q⟩
      cases e with
      | normal =>
        obtain ⟨H3, hh3, hb⟩ := q
        have hl3 : w'.heap[w.heap.size + 1]? = some (.loop (rec .ready none)) := hh3.get (n := 0) rfl
        refine ⟨_, run_beginRound hl3 (by rw [hrec]), ?_⟩
        refine Go.wpIn_mono (hb _ (hh3.putRec _) a' hf') ?_
        have fin : ∀ (jump : Option Code) (H5 : List Item) (W3 : World), Heap (recItem (w.heap.size + 1) { rec .ready none with state := .busy } :: H5) W3 →
            (Instr.endRound (w.heap.size + 1) jump).run P W3 = .ok (.bool jump.isNone) (W3.putObj (w.heap.size + 1) (.loop (rec (if jump.isNone then .ready else .done) jump))) ∧
            Heap (recItem (w.heap.size + 1) (rec (if jump.isNone then .ready else .done) jump) :: H5) (W3.putObj (w.heap.size + 1) (.loop (rec (if jump.isNone then .ready else .done) jump))) := fun jump H5 W3 h5 => by
          have hl5 : W3.heap[w.heap.size + 1]? = some (.loop { rec .ready none with state := .busy }) := h5.get (n := 0) rfl
          have := run_endRound (P := P) jump hl5
          rw [hrec] at this ⊢
          refine ⟨this, ?_⟩
          have := h5.putRec (rec (if jump.isNone then .ready else .done) jump)
          rw [hrec] at this
          exact this
        rintro e2 a2 w2 ⟨ds2, env2, hf2, q2⟩
        cases e2 with
        | normal =>
          obtain ⟨_, ⟨H6, hi6, rfl⟩, hh6⟩ := q2
          obtain ⟨hr, hk⟩ := fin none _ w2 hh6
          exact ⟨_, _, hr, .inl ⟨rfl, H6, hi6, hk⟩⟩
        | ret =>
          obtain ⟨_, ⟨H6, hi6, rfl⟩, hh6⟩ := q2
          obtain ⟨hr, hk⟩ := fin (some .ret) _ w2 hh6
          exact ⟨_, _, hr, .inr ⟨rfl, _, H6, hi6, hk⟩⟩
        | exit t =>
          obtain ⟨_, ⟨H6, hi6, rfl⟩, hh6⟩ := q2
          obtain ⟨hr, hk⟩ := fin (some (.exit t)) _ w2 hh6
          exact ⟨_, _, hr, .inr ⟨rfl, _, H6, hi6, hk⟩⟩
        | goto t =>
          obtain ⟨_, ⟨H6, hi6, rfl⟩, hh6⟩ := q2
          obtain ⟨hr, hk⟩ := fin (some (.goto t)) _ w2 hh6
          exact ⟨_, _, hr, .inr ⟨rfl, _, H6, hi6, hk⟩⟩
        | panic c => exact q2.elim
        | outgrown => exact q2.elim
      | ret => exact q.elim
      | exit t => exact q.elim
      | goto t => exact q.elim
      | panic c => exact q.elim
      | outgrown => exact q.elim
    · rintro e W2 ⟨⟨v, rfl⟩, (⟨H2, hi, hh⟩ | ⟨c, H2, hi, hh⟩)⟩
      · have hl : W2.heap[w.heap.size + 1]? = some (.loop (rec .ready none)) := hh.get (n := 0) rfl
        have hr := run_endLoop (P := P) hl (by rw [hrec]; simp)
        rw [hrec] at hr
        refine ⟨none, _, hr, ?_⟩
        have := (hh.putRec (rec .exhausted none)).sub (List.sublist_cons_self _ _)
        rw [hrec] at this
        exact ⟨_, _, ⟨ha.size, by simp [ha.defers], ha.slot⟩, hdone w.heap.size H2 _ hi this⟩
      · have hl : W2.heap[w.heap.size + 1]? = some (.loop (rec .done (some c))) := hh.get (n := 0) rfl
        have hr := run_endLoop (P := P) hl (by rw [hrec]; simp)
        rw [hrec] at hr
        refine ⟨some c, _, hr, ?_⟩
        have := (hh.putRec (rec .exhausted (some c))).sub (List.sublist_cons_self _ _)
        rw [hrec] at this
        exact hstop w.heap.size c H2 _ hi this _ ⟨ha.size, by simp [ha.defers], ha.slot⟩
theorem YB {P:Program} {N:Nat} {r:Option Nat} {ds:List Deferred} {env:Env} {w:World} {Q:Post} {all:Array Oper} {rest:List Oper} {d:Nat} {ty:TypeId} {pos:String} {after:Array Edge} {c x:Operand} {ats:Array TypeId} {l:Nat} {v:Value} {A B:World→Prop}
  (hf:ev env c=some (.func (.yield l) #[] #[])) (hx:ev env x=some v) (hd:Nat.blt d N=true)
  (hy:YieldAt (Fr r) 0 P l #[v] w fun e w'=>(e=.returned (.bool true)∧A w')∨(e=.returned (.bool false)∧B w'))
  (ht:∀ w',A w'→Ops r P N all rest ds ((d,.bool true)::env) w' Q) (hn:∀ w',B w'→Ops r P N all rest ds ((d,.bool false)::env) w' Q) :
  Ops r P N all (⟨some d,.call ⟨.value c, #[x],ats⟩,ty,pos,after,none⟩::rest) ds env w Q:=by
 intro a ha
 refine wpListIn_plain rfl fun K hK=>⟨fun f _=>Fr_fn r f,?_⟩
 rw [semAt_Fr r _ _ (fun c hc=>by cases hc)]
 obtain ⟨fn,tmps,assign,body,hrun,hround⟩:=hy
 have hrun2:(execOp a.eval ⟨some d,.call ⟨.value c, #[x],ats⟩,ty,pos,after,none⟩).run P w=.ok (.round l fn tmps assign body) w:=by
  simp only [execOp,resolve,Deferred.ofValue,Sem.run_bind,Sem.run_pure,Result.andThen,invoke,List.map_toArray,List.map_cons,List.map_nil,ha.ev hf,ha.ev hx]
  have e:(#[]:Array Value) ++ #[v] = #[v]:=by simp
  rw [e]
  exact hrun
 rw [hrun2]
 refine ⟨fun h=>by simp [Fr_depth] at h,RoundIn.mono hround ?_⟩
 rintro e w' (⟨rfl,hA⟩ | ⟨rfl,hB⟩)
 ·exact hK _ _ (ht w' hA _ (ha.put (by simpa [Nat.blt_eq] using hd) _))
 ·exact hK _ _ (hn w' hB _ (ha.put (by simpa [Nat.blt_eq] using hd) _))
def iterQ (J:World→Prop) (Jx:World→Prop):Post
 | .normal,ds,_,w | .ret,ds,_,w=>ds=[]∧(J w∨Jx w)
 | _,_,_,_=>False
def jItem (w:World) (J:World→Prop):Item:=⟨0,w.heap.size,J⟩
theorem vL {w : World} {J : World → Prop} (hg : ∀ w w', J w → Below w.heap.size w w' → J w') (h : J w) : Heap [jItem w J] w :=
  ⟨fun i hi => by
    simp at hi; subst hi
    exact ⟨Nat.zero_le _, Nat.le_refl _, fun w' ha => hg w w' h ha.below⟩, by simp⟩
theorem XV {P : Program} {g : FuncId} {fn : Func} {c : Code} {cap : List Value} {D : World → Prop} {xs : List Value} {N : Nat}
    (hf : P.funcs[g]? = some fn) (hb : fn.body = some c) (hen : ∀ (aS0 : Array Value) (w' : World), (callFunc g aS0).run P w' = .ok (.enter g aS0) w') (hres : fn.results = #[])
    (hN : fn.ntmps = N) (hargs : Nat.ble (cap.length + 1) N = true)
    (h : ∀ (l : Nat) (J : Nat → World → Prop) (Jx : World → Prop), (∀ i w w', J i w → Below w.heap.size w w' → J i w') → (∀ w w', Jx w → Below w.heap.size w w' → Jx w') → (∀ i w, J i w → D w) →
      (∀ i x, xs[i]? = some x → ∀ w, J i w → YieldAt (Fr none) 0 P l #[x] w fun e w' => (e = .returned (.bool true) ∧ J (i + 1) w') ∨ (e = .returned (.bool false) ∧ Jx w')) →
      ∀ w, Heap [jItem w (J 0)] w → Holds none P N c [] (argEnv 0 (.func (.yield l) #[] #[] :: cap)) w (iterQ (J xs.length) Jx)) : Iter P g cap D xs := by
  refine ⟨hen, fun l J Jx hJ hJx hD hY w hw => ?_⟩
  refine callsIn_of_wp hf hb trivial ?_
  refine Go.wpIn_mono (h l J Jx hJ hJx hD hY w (vL (hJ 0) hw) { tmps := (.func (.yield l) #[] #[] :: cap).toArray ++ Array.replicate (fn.ntmps - (.func (.yield l) #[] #[] :: cap).toArray.size) undef, defers := [] } ⟨?_, rfl, fun i v hi => ?_⟩) ?_
  · have : cap.length + 1 ≤ N := by simpa [Nat.ble_eq] using hargs
    simp [hN]; omega
  · have h1 : (.func (.yield l) #[] #[] :: cap)[i]? = some v := by simpa using (uD (.func (.yield l) #[] #[] :: cap) 0 i v hi).2
    have hlt := (List.getElem?_eq_some_iff.1 h1).1
    simp only [Array.getElem?_append, List.size_toArray, hlt, if_true, List.getElem?_toArray]
    exact h1
  · rintro e a' w' ⟨ds, env', hf', hq⟩
    cases e with
    | normal =>
      obtain ⟨rfl, hq⟩ := hq
      exact ⟨hf'.defers, _, XJ hres a' hf', ⟨_, rfl⟩, hq⟩
    | ret =>
      obtain ⟨rfl, hq⟩ := hq
      exact ⟨hf'.defers, _, XJ hres a' hf', ⟨_, rfl⟩, hq⟩
    | exit i => exact hq.elim
    | goto i => exact hq.elim
    | panic i => exact hq.elim
    | outgrown => exact hq.elim
end Go.Fip
namespace Go.Fip
open Go.RowKit
structure MapT {K V:Type} [DecidableEq K] (P:Program) (MT KT ET:Nat) (kv:K→Value) (vv:V→Value) (z:V):Prop where
 und:P.underlying MT=some (.map KT ET)
 desc:∃ d,P.underlying KT=some d∧∀ a b,Instr.sameNow d (kv a) (kv b)=none
 eq:∀ a b w,(Op.equal KT (kv a) (kv b)).run P w=.ok (decide (a=b)) w
 ck:∀ a w e,(Instr.checkKey e 10000 KT (kv a)).run P w=.ok () w
 zero:∀ w,(zeroValue ET).run P w=.ok (vv z) w
 same:∀ a,Instr.sameBits 10000 (kv a) (kv a)=true
section maps
variable {K V : Type} [DecidableEq K] {P : Program} {MT KT ET : Nat} {kv : K → Value} {vv : V → Value} {z : V} {w : World}
def findI (k:K):List (K×V)→Nat→Option (Nat×V)
 | [],_=>none
 | p::m,i=>if k=p.1 then some (i,p.2) else findI k m (i+1)
def find (k:K) (m:List (K×V)):Option V:=(findI k m 0).map (·.2)
def upd (k:K) (v:V):List (K×V)→List (K×V)
 | []=>[(k,v)]
 | p::m=>if k=p.1 then (k,v)::m else p::upd k v m
def del (k:K):List (K×V)→List (K×V)
 | []=>[]
 | p::m=>if k=p.1 then m else p::del k m
def Views (kv:K→Value) (vv:V→Value) (es:List MapEntry) (m:List (K×V)):Prop:=es.map (fun e=>(e.key,e.val))=m.map fun p=>(kv p.1,vv p.2)
theorem v8 (hM:MapT P MT KT ET kv vv z) (k:K):∀ (es:List MapEntry) (m:List (K×V)) (i:Nat),Views kv vv es m→(Instr.findAsking KT (kv k) es i).run P w=.ok ((findI k m i).map fun p=>(p.1,vv p.2)) w
 | [],m,i,h=>by
  cases m with
  | nil=>simp [Instr.findAsking,findI]
  | cons p m=>simp [Views] at h
 | e::es,m,i,h=>by
  cases m with
  | nil=>simp [Views] at h
  | cons p m =>
   simp only [Views,List.map_cons,List.cons.injEq,Prod.mk.injEq] at h
   obtain ⟨⟨h1,h2⟩,h3⟩:=h
   simp only [Instr.findAsking,Sem.run_bind,h1,hM.eq,Result.andThen,findI]
   by_cases hk:k=p.1
   ·simp [hk,h2]
   ·simp only [hk,decide_false,Bool.false_eq_true,if_false]
    exact v8 hM k es m (i+1) h3
theorem qN (hM:MapT P MT KT ET kv vv z) (k:K) (es:List MapEntry) (m:List (K×V)) (h:Views kv vv es m):(Instr.findKey KT (kv k) es).run P w=.ok ((findI k m 0).map fun p=>(p.1,vv p.2)) w:=by
 obtain ⟨d,hd,hn⟩:=hM.desc
 simp only [Instr.findKey,Sem.run_bind,run_underlying hd,Result.andThen]
 cases es with
 | nil =>
  cases m with
  | nil=>simp [Instr.findNow,findI]
  | cons p m=>simp [Views] at h
 | cons e es =>
  cases m with
  | nil=>simp [Views] at h
  | cons p m =>
   have h1:e.key=kv p.1:=by simp only [Views,List.map_cons,List.cons.injEq,Prod.mk.injEq] at h; exact h.1.1
   simp only [Instr.findNow,h1,hn]
   exact v8 hM k (e::es) (p::m) 0 h
def Mp (kv:K→Value) (vv:V→Value) (b:Nat) (m:List (K×V)) (w:World):Prop :=
 ∃ es clock,w.heap[b]? = some (.map es clock)∧Views kv vv es.toList m∧(m.map Prod.fst).Nodup∧(es.toList.map (·.born)).Nodup∧∀ e∈es.toList,e.born<clock
def mp (kv:K→Value) (vv:V→Value) (b:Nat) (m:List (K×V)):Item:=⟨b,b+1,Mp kv vv b m⟩
omit [DecidableEq K] in
theorem ZV {b:Nat} {m:List (K×V)} (h:Mp kv vv b m w):(mp kv vv b m).ok w:=by
 obtain ⟨es,clock,h1,h2⟩:=h
 exact ⟨Nat.le_succ b,(Array.getElem?_eq_some_iff.1 h1).1,fun w' ha=>⟨es,clock,(ha.block b (Nat.le_refl _) (Nat.lt_succ_self b)).trans h1,h2⟩⟩
omit [DecidableEq K] in
theorem Views.length {es:List MapEntry} {m:List (K×V)} (h:Views kv vv es m):es.length=m.length:=by
 have:=congrArg List.length h
 simpa using this
theorem run_getMap {b:Nat} {es:Array MapEntry} {c:Nat} (h:w.heap[b]? = some (.map es c)):(getObj b).run P w=.ok (.map es c) w:=by simp [getObj,Sem.run,h]
theorem run_setMap {b:Nat} {es:Array MapEntry} {c:Nat} (o:Obj) (h:w.heap[b]? = some (.map es c)):(setObj b o).run P w=.ok () (w.putObj b o):=by simp [setObj,Sem.run,h,World.putObj]
theorem uR (k:K):∀ (m:List (K×V)) (i:Nat),(findI k m i).map (·.2)=find k m
 | [],i=>rfl
 | p::m,i=>by
  unfold find
  simp only [findI]
  split
  ·rfl
  ·rw [uR k m (i+1),uR k m 1]
theorem uT {k:K}:∀ {m:List (K×V)} {i:Nat},findI k m i=none→k ∉ m.map Prod.fst
 | [],i,_=>by simp
 | p::m,i,h=>by
  simp only [findI] at h
  split at h
  ·cases h
  ·rename_i hk
   simp only [List.map_cons,List.mem_cons,not_or]
   exact ⟨hk,uT h⟩
theorem qY (k:K) (v:V):∀ (m:List (K×V)),k ∉ m.map Prod.fst→upd k v m=m++[(k,v)]
 | [],_=>rfl
 | p::m,h=>by
  simp only [List.map_cons,List.mem_cons,not_or] at h
  simp [upd,h.1,qY k v m h.2]
theorem uQ {k:K} {v:V} {es:List MapEntry} {val:Value}:∀ {m:List (K×V)} {i j:Nat} {u:V},Views kv vv es m→findI k m i=some (j,u)→i≤j∧j - i<es.length∧(es[j - i]?).map (·.key)=some (kv k) ∧
  Views kv vv (es.modify (j - i) fun e=>{ e with key:=kv k,val:=vv v }) (upd k v m)∧Views kv vv (es.eraseIdx (j - i)) (del k m)
 | [],i,j,u,_,h=>by simp [findI] at h
 | p::m,i,j,u,hv,h=>by
  cases es with
  | nil=>simp [Views] at hv
  | cons e es =>
   simp only [Views,List.map_cons,List.cons.injEq,Prod.mk.injEq] at hv
   obtain ⟨⟨h1,h2⟩,h3⟩:=hv
   simp only [findI] at h
   split at h
   ·rename_i hk
    cases h
    subst hk
    refine ⟨Nat.le_refl _,by simp,by simp [h1],?_,?_⟩
    ·simp [upd,Views,h3]
    ·simp [del,Views,h3]
   ·rename_i hk
    obtain ⟨a,b,c,d,f⟩:=uQ (v:=v) (val:=val) h3 h
    have e1:j - i=(j - (i+1))+1:=by omega
    refine ⟨by omega,by simp; omega,by rw [e1]; simpa using c,?_,?_⟩
    ·rw [e1]
     simp only [upd,hk,if_false,List.modify_succ_cons]
     simp only [Views] at d ⊢
     simp [h1,h2,d]
    ·rw [e1]
     simp only [del,hk,if_false,List.eraseIdx_cons_succ]
     simp only [Views] at f ⊢
     simp [h1,h2,f]
theorem kU (k : K) (v : V) : ∀ (m : List (K × V)), k ∈ m.map Prod.fst → (upd k v m).map Prod.fst = m.map Prod.fst
  | [], h => by simp at h
  | p :: m, h => by
    by_cases hk : k = p.1
    · simp [upd, hk]
    · have : k ∈ m.map Prod.fst := by
        simp only [List.map_cons, List.mem_cons] at h
        exact h.resolve_left hk
      simp [upd, hk, kU k v m this]
theorem kR (k:K):∀ (m:List (K×V)),((del k m).map Prod.fst).Sublist (m.map Prod.fst)
 | []=>by simp [del]
 | p::m=>by
  by_cases hk:k=p.1
  ·simp [del,hk]
  ·simp only [del,hk,if_false,List.map_cons]
   exact (kR k m).cons_cons _
theorem jO {k:K}:∀ {m:List (K×V)} {i j:Nat} {u:V},findI k m i=some (j,u)→k∈m.map Prod.fst
 | [],i,j,u,h=>by simp [findI] at h
 | p::m,i,j,u,h=>by
  simp only [findI] at h
  split at h
  ·rename_i hk; simp [hk]
  ·simp only [List.map_cons,List.mem_cons]; exact .inr (jO h)
theorem YH (hM:MapT P MT KT ET kv vv z) {b:Nat} {m:List (K×V)} (h:Mp kv vv b m w) (k:K) (v:V) :
  ∃ w',(Instr.mapUpdate MT (.map (some b)) (kv k) (vv v)).run P w=.ok () w'∧Off b (b+1) w w'∧Mp kv vv b (upd k v m) w':=by
 obtain ⟨es,clock,h1,h2,h3,h4,h5⟩:=h
 have hf:=qN (w:=w) hM k es.toList m h2
 have hlt:=(Array.getElem?_eq_some_iff.1 h1).1
 cases hx:findI k m 0 with
 | none =>
  rw [hx] at hf
  simp only [Option.map_none] at hf
  have hnm:=uT hx
  refine ⟨w.putObj b (.map (es.push { key:=kv k,val:=vv v,born:=clock }) (clock+1)),?_,xZ w b _,_,_,World.putObj_heap_same hlt,?_,?_,?_,?_⟩
  ·simp [Instr.mapUpdate,run_underlying hM.und,run_getMap h1,hM.ck,hf,run_setMap _ h1,Result.andThen]
  ·rw [qY k v m hnm]
   simp only [Views] at h2 ⊢
   simp [h2]
  ·rw [qY k v m hnm,List.map_append,List.nodup_append]
   refine ⟨h3,by simp,fun a ha c hc=>?_⟩
   simp at hc
   subst hc
   intro e; subst e
   exact hnm ha
  ·rw [Array.toList_push,List.map_append,List.nodup_append]
   refine ⟨h4,by simp,fun a ha c hc=>?_⟩
   simp at hc
   obtain ⟨e,he,rfl⟩:=List.mem_map.1 ha
   have:=h5 e he
   omega
  ·intro e he
   rw [Array.toList_push,List.mem_append] at he
   rcases he with he | he
   ·have:=h5 e he; omega
   ·simp at he; subst he; exact Nat.lt_succ_self _
 | some p =>
  obtain ⟨j,u⟩:=p
  rw [hx] at hf
  simp only [Option.map_some] at hf
  obtain ⟨a,hb,hc,hd,_⟩:=uQ (v:=v) (val:=vv v) h2 hx
  simp only [Nat.sub_zero] at hb hc hd
  have hkey:((es[j]?).map (·.key)).getD (kv k)=kv k:=by
   have:(es.toList[j]?).map (·.key)=some (kv k):=hc
   rw [Array.getElem?_toList] at this
   rw [this]; rfl
  have hks:(Instr.keyThatStays (kv k) (kv k)).run P w=.ok (kv k) w:=by simp [Instr.keyThatStays,hM.same]
  refine ⟨w.putObj b (.map (es.modify j fun e=>{ e with key:=kv k,val:=vv v }) clock),?_,xZ w b _,_,_,World.putObj_heap_same hlt,?_,?_,?_,?_⟩
  ·simp [Instr.mapUpdate,run_underlying hM.und,run_getMap h1,hM.ck,hf,hkey,hks,run_setMap _ h1,Result.andThen]
  ·rw [Array.toList_modify]; exact hd
  ·rw [kU k v m (jO hx)]; exact h3
  ·rw [Array.toList_modify]
   have:(es.toList.modify j fun e=>{ e with key:=kv k,val:=vv v }).map (·.born)=es.toList.map (·.born):=by
    apply List.ext_getElem?
    intro i
    simp only [List.getElem?_map,List.getElem?_modify]
    by_cases e:j=i
    ·subst e; cases es.toList[j]? <;> simp
    ·simp [e]
   rw [this]; exact h4
  ·intro e he
   rw [Array.toList_modify] at he
   obtain ⟨i,hi⟩:=List.mem_iff_getElem?.1 he
   rw [List.getElem?_modify] at hi
   cases hq:es.toList[i]? with
   | none=>rw [hq] at hi; simp at hi
   | some e0 =>
    rw [hq] at hi
    have:=h5 e0 (List.mem_of_getElem? hq)
    by_cases hji:j=i
    ·simp [hji] at hi; subst hi; exact this
    ·simp [hji] at hi; subst hi; exact this
end maps
section mapops
variable {K V : Type} [DecidableEq K] {MT KT ET : Nat} {kv : K → Value} {vv : V → Value} {z : V}
variable {r : Option Nat} {P : Program} {N : Nat} {ds : List Deferred} {env : Env} {w : World} {Q : Post} {all : Array Oper} {rest : List Oper} {H : List Item} {x y c : Operand} {S : World → Prop}
  {d : Nat} {ty : TypeId} {pos : String} {after : Array Edge}
theorem YO (kv:K→Value) (vv:V→Value) (hd:Nat.blt d N=true) (hH:Heap H w)
  (h:∀ b w',Heap (mp kv vv b []::H) w'→Ops r P N all rest ds ((d,.map (some b))::env) w' Q) :
  Ops r P N all (⟨some d,.makeMap MT none,ty,pos,after,none⟩::rest) ds env w Q:=by
 refine xS hd (fun c hc=>by cases hc) (fun a ha=>?_) (h w.heap.size (w.alloc (.map #[] 0)) (hH.add (below_alloc w _) (Nat.le_refl _) (ZV ⟨#[],0,heap_new w _,rfl,by simp,by simp,by simp⟩)))
 simp only [execOp,Option.map_none,Sem.run_bind,run_makeMap,Result.andThen,Sem.run_pure]
theorem ZI (hM:MapT P MT KT ET kv vv z) {b n:Nat} {m:List (K×V)} {k:K} {v:V} (hx:ev env x=some (.map (some b))) (hy:ev env y=some (kv k)) (hc:ev env c=some (vv v)) (hH:Heap H w) (hn:H[n]? = some (mp kv vv b m))
  (h:∀ w',Heap (H.set n (mp kv vv b (upd k v m))) w'→Ops r P N all rest ds env w' Q) :
  Ops r P N all (⟨none,.mapUpdate MT x y c,ty,pos,after,none⟩::rest) ds env w Q:=by
 obtain ⟨w',hr,ho,hm⟩:=YH hM (hH.get hn:Mp kv vv b m w) k v
 refine uX (fun c hc=>by cases hc) (fun a ha=>.inl ?_) (h w' (hH.set hn ho (.inl ⟨Nat.le_refl _,Nat.le_refl _⟩) (ZV hm)))
 simp only [execOp,ha.ev hx,ha.ev hy,ha.ev hc,Sem.run_bind,hr,Result.andThen,Sem.run_pure]
def raw (b:Nat) (o:Obj):Item:=⟨b,b+1,fun w=>w.heap[b]? = some o⟩
theorem jV {b:Nat} {o:Obj} (h:w.heap[b]? = some o):(raw b o).ok w :=
 ⟨Nat.le_succ b,(Array.getElem?_eq_some_iff.1 h).1,fun _ ha=>(ha.block b (Nat.le_refl _) (Nat.lt_succ_self b)).trans h⟩
omit [DecidableEq K] in
/-- The map's item laid open: its very entries. -/
theorem Heap.XW {b n:Nat} {m:List (K×V)} (hH:Heap H w) (hn:H[n]? = some (mp kv vv b m)) :
  ∃ es clock,Heap (H.set n (raw b (.map es clock))) w∧Views kv vv es.toList m∧(m.map Prod.fst).Nodup∧(es.toList.map (·.born)).Nodup∧∀ e∈es.toList,e.born<clock:=by
 obtain ⟨es,clock,h1,h2⟩:=(hH.get hn:Mp kv vv b m w)
 exact ⟨es,clock,hH.set hn ⟨rfl,rfl,rfl,Nat.le_refl _,fun _ _ _=>rfl⟩ (.inl ⟨Nat.le_refl _,Nat.le_refl _⟩) (jV h1),h2⟩
theorem Z4 {b:Nat} {es:Array MapEntry} {clock:Nat} (hT:P.underlying MT=some (.map KT ET)) (hx:ev env x=some (.map (some b))) (hd:Nat.blt d N=true) (hH:Heap H w) (hb:w.heap[b]? = some (.map es clock))
  (h:∀ r0 w',Heap (raw r0 (.mapIter (some b) clock #[] clock)::H) w'→Ops r P N all rest ds ((d,.pointer (some ⟨r0,0,none⟩))::env) w' Q) :
  Ops r P N all (⟨some d,.range MT x,ty,pos,after,none⟩::rest) ds env w Q:=by
 refine xS hd (fun c hc=>by cases hc) (fun a ha=>?_) (h w.heap.size (w.alloc (.mapIter (some b) clock #[] clock)) (hH.add (below_alloc w _) (Nat.le_refl _) (jV (heap_new w _))))
 simp only [execOp,ha.ev hx,Instr.range,Sem.run_bind,run_underlying hT,Result.andThen,run_getMap hb,Sem.run_pure,newObj,Sem.run]
 rfl
theorem XS {b r0 k : Nat} {es : Array MapEntry} {clock : Nat} {seen : Array Nat} (hx : ev env x = some (.pointer (some ⟨r0, 0, none⟩))) (hd : Nat.blt d N = true) (hH : Heap H w)
    (hb : w.heap[b]? = some (.map es clock)) (hk : H[k]? = some (raw r0 (.mapIter (some b) clock seen clock))) (hborn : ∀ e ∈ es.toList, e.born < clock)
    (hover : (∀ e ∈ es.toList, e.born ∈ seen.toList) → ∀ w', Heap H w' → Ops r P N all rest ds ((d, .tuple #[.bool false]) :: env) w' Q)
    (hstep : ∀ e ∈ es.toList, e.born ∉ seen.toList → ∀ w', Heap (H.set k (raw r0 (.mapIter (some b) clock (seen.push e.born) clock))) w' → Ops r P N all rest ds ((d, .tuple #[.bool true, e.key, e.val]) :: env) w' Q) :
    Ops r P N all (⟨some d, .next x false, ty, pos, after, none⟩ :: rest) ds env w Q := by
  have hr0 : w.heap[r0]? = some (.mapIter (some b) clock seen clock) := hH.get hk
  have hlt := (Array.getElem?_eq_some_iff.1 hr0).1
  -- the guard of the model never strikes
  have hg : ((!seen.isEmpty && !es.isEmpty && es.all fun e => decide (e.born ≥ clock)) = true) → False := by
    intro h
    simp only [Bool.and_eq_true, Bool.not_eq_true', Array.all_eq_true, decide_eq_true_eq] at h
    obtain ⟨⟨_, h2⟩, h3⟩ := h
    have h4 : 0 < es.size := by
      rcases Nat.eq_zero_or_pos es.size with h0 | h0
      · have : es.isEmpty = true := by simpa using h0
        rw [this] at h2; cases h2
      · exact h0
    have := h3 0 h4
    have := hborn es[0] (Array.getElem_mem_toList h4)
    omega
  have hold : (es.filter fun e => !seen.contains e.born).filter (fun e => decide (e.born < clock)) = es.filter fun e => !seen.contains e.born := by
    apply Array.filter_eq_self.2
    intro e he
    have := hborn e (by simpa using (Array.mem_filter.1 he).1)
    simpa using this
  have hnew : (es.filter fun e => !seen.contains e.born).filter (fun e => decide (e.born ≥ clock)) = #[] := by
    apply Array.filter_eq_empty_iff.2
    intro e he
    have := hborn e (by simpa using (Array.mem_filter.1 he).1)
    simp; omega
  obtain ⟨left, hleft⟩ : ∃ left, left = es.filter fun e => !seen.contains e.born := ⟨_, rfl⟩
  have hget : (getObj r0).run P w = .ok (.mapIter (some b) clock seen clock) w := by simp [getObj, Sem.run, hr0]
  have hgetm := run_getMap (P := P) hb
  have memleft : ∀ e, e ∈ left.toList ↔ e ∈ es.toList ∧ e.born ∉ seen.toList := fun e => by
    rw [hleft]; simp [Array.mem_filter]
  by_cases he : left.isEmpty = true
  · have hl0 : left = #[] := by simpa using he
    have hov : ∀ e ∈ es.toList, e.born ∈ seen.toList := fun e h => by
      by_cases hm : e.born ∈ seen.toList
      · exact hm
      · have := (memleft e).2 ⟨h, hm⟩
        rw [hl0] at this; simp at this
    refine xS hd (fun c hc => by cases hc) (fun a ha => ?_) (hover hov w hH)
    simp only [execOp, ha.ev hx, Instr.next, Sem.run_bind, hget, hgetm, Result.andThen]
    rw [← hleft] at hold hnew
    simp only [Sem.run_ite, if_neg hg, ← hleft, hold, hnew, Sem.run_bind, Sem.run_pure, Result.andThen]
    rw [hl0]
    simp [Question.forced]
  · have hne : 0 < left.size := by
      rcases Nat.eq_zero_or_pos left.size with h0 | h0
      · exact absurd (by simpa using h0) he
      · exact h0
    -- which one comes hangs on the tape
    have key : ∃ (e : MapEntry) (w1 : World), e ∈ left.toList ∧ Redrawn w w1 ∧ ∀ a, Fits N a ds env → (execOp a.eval ⟨some d, .next x false, ty, pos, after, none⟩).run P w = .ok (.value (.tuple #[.bool true, e.key, e.val])) (w1.putObj r0 (.mapIter (some b) clock (seen.push e.born) clock)) := by
      obtain ⟨t, ht, w1, hw1, hch⟩ : ∃ t, t < left.size ∧ ∃ w1, Redrawn w w1 ∧ (choose (.mapNext left.size)).run P w = .ok t w1 := by
        by_cases hf : left.size ≤ 1
        · exact ⟨0, hne, w, ⟨rfl, rfl, rfl, rfl⟩, by simp [choose, Sem.run, Question.forced, hf]⟩
        · refine ⟨w.tape w.drawn (.mapNext left.size) % left.size, Nat.mod_lt _ hne, { w with drawn := w.drawn + 1 }, ⟨rfl, rfl, rfl, rfl⟩, ?_⟩
          simp [choose, Sem.run, Question.forced, hf, Question.cut]
      refine ⟨left[t], w1, Array.getElem_mem_toList ht, hw1, fun a ha => ?_⟩
      have hr1 : w1.heap[r0]? = some (.mapIter (some b) clock seen clock) := by rw [hw1.1]; exact hr0
      have hset : ∀ o, (setObj r0 o).run P w1 = .ok () (w1.putObj r0 o) := fun o => by simp [setObj, Sem.run, hr1, World.putObj]
      simp only [execOp, ha.ev hx, Instr.next, Sem.run_bind, hget, hgetm, Result.andThen]
      rw [← hleft] at hold hnew
      simp only [Sem.run_ite, if_neg hg, ← hleft, hold, hnew, Sem.run_bind, Sem.run_pure, Result.andThen]
      have hcand : ((if left.isEmpty = true then #[none] else #[]) ++ Array.map some (left ++ #[])) = Array.map some left := by simp [he]
      rw [hcand, Array.size_map, hch]
      simp [ht, hset, Result.andThen]
    obtain ⟨e, w1, hel, hw1, hrun⟩ := key
    have hmem := (memleft e).1 hel
    have hH1 := hH.redrawn hw1
    have hlt1 : r0 < w1.heap.size := by rw [hw1.1]; exact hlt
    exact xS hd (fun c hc => by cases hc) hrun (hstep e hmem.1 hmem.2 _ (hH1.set hk (xZ w1 r0 _) (.inl ⟨Nat.le_refl _, Nat.le_refl _⟩) (jV (World.putObj_heap_same hlt1))))
theorem ZU {b r0:Nat} {es:Array MapEntry} {clock:Nat} {seen:Array Nat} {e:MapEntry} (hx:ev env x=some (.pointer (some ⟨r0,0,none⟩))) (he:e∈es.toList) (hnd:(es.toList.map (·.born)).Nodup)
  (hm:∀ w,S w→w.heap[b]? = some (.map es clock)) (hr:∀ w,S w→w.heap[r0]? = some (.mapIter (some b) clock (seen.push e.born) clock)):Yv P N ds env (.entry x) (.tuple #[e.key,e.val]) S:=fun a ha w hw _ _ _ _ _=>by
 have h1:=hm w hw
 have h2:=hr w hw
 have hget:(getObj r0).run P w=.ok (.mapIter (some b) clock (seen.push e.born) clock) w:=by simp [getObj,Sem.run,h2]
 have hgetm:=run_getMap (P:=P) h1
 have hf:es.find? (fun e'=>e'.born == e.born)=some e:=by
  rw [← Array.find?_toList]
  obtain ⟨i,hi,rfl⟩:=List.getElem_of_mem he
  rw [List.find?_eq_some_iff_getElem]
  refine ⟨by simp,i,hi,rfl,fun j hj=>?_⟩
  have:=List.pairwise_iff_getElem.1 hnd j i (by simp at hi ⊢; omega) (by simpa using hi) hj
  simpa using this
 simp only [execOp,ha.ev hx,Instr.entry,Sem.run_bind,hget,hgetm,Result.andThen,Array.back?_push]
 simp [hf,Result.andThen]
end mapops
end Go.Fip
namespace Go.Fip
open Go.RowKit
section getters
variable {P : Program} {H : List Item} {w : World} {n : Nat}
theorem Heap.yU {α:Type} {T E sz lo hi:Nat} {enc:α→List Value} (hE:El P T E sz enc) {v:Value} {xs:List α} (hH:Heap H w) (hn:H[n]? = some (ow lo hi E sz enc v xs)):Rd enc sz v xs w :=
 Ow.rd hE.len (hH.get hn)
theorem Heap.VV {b t j:Nat} {cs:List Value} {v:Value} (hH:Heap H w) (hn:H[n]? = some (bx b t cs)) (hj:cs[j]? = some v):w.cell? ⟨b,j,none⟩=some v:=yL (hH.get hn) hj
theorem Heap.yQ {b t k:Nat} {cs us:List Value} (hH:Heap H w) (hn:H[n]? = some (bx b t cs)) (hk:us=(cs.drop k).take us.length) (j:Nat) (u:Value) (hj:us[j]? = some u):w.cell? ⟨b,k+j,none⟩=some u:=Z9 (hH.get hn) hk j u hj
theorem Heap.WE {K V:Type} {kv:K→Value} {vv:V→Value} {b:Nat} {m:List (K×V)} (hH:Heap H w) (hn:H[n]? = some (mp kv vv b m)):Mp kv vv b m w:=hH.get hn
theorem Heap.XH {b:Nat} {o:Obj} (hH:Heap H w) (hn:H[n]? = some (raw b o)):w.heap[b]? = some o:=hH.get hn
theorem Rd.VS {α:Type} [Inhabited α] {enc:α→List Value} {sz:Nat} {v:Value} {xs:List α} (h:Rd enc sz v xs w) {i:Int} (hi:0≤i∧i<xs.length) (j:Nat) (u:Value) (hu:(enc (nth xs i))[j]? = some u) :
  w.cell? ⟨eb v,eo v+i.toNat * sz+j,none⟩=some u:=h.2 _ _ (qR hi) j u hu
end getters
theorem X6 {α:Type} {P:Program} {T E sz bytes:Nat} {z:Value} {enc:α→List Value} (h1:P.underlying T=some (.slice E)) (hi:(P.info? E).map (fun i=>(i.zero,i.size,i.bytes))=some (some z,sz,bytes))
  (hb:Nat.ble bytes 1024=true) (hz:z.cells.size=sz) (hp:Nat.blt 0 sz=true) (hl:∀ x,(enc x).length=sz) (ho:∀ x,∀ u∈enc x,u.oneCell'=true):El P T E sz enc:=by
 refine ⟨h1,?_,by simpa [Nat.blt_eq] using hp,hl,ho⟩
 cases h:P.info? E with
 | none=>rw [h] at hi; cases hi
 | some i =>
  rw [h] at hi
  simp only [Option.map_some,Option.some.injEq,Prod.mk.injEq] at hi
  obtain ⟨a,b,c⟩:=hi
  exact ⟨i,z,rfl,a,b,by rw [c]; simpa [Nat.ble_eq] using hb,hz⟩
theorem zG {p:Prop} [Decidable p] (h:¬ p):(!decide p)=true:=by simp [h]
theorem yW {p:Prop} [Decidable p] (h:¬ ¬ p):(!decide p)=false:=by simpa using h
theorem zH {p:Prop} [Decidable p] (h:p):(!decide p)=false:=by simp [h]
def ag (l:List Int):Value:=.agg (l.map (Value.int .i64)).toArray
structure EqI (P:Program) (T n:Nat):Prop where
 eq:∀ (a b:List Int) (w:World),a.length=n→b.length=n→(Op.equal T (ag a) (ag b)).run P w=.ok (decide (a=b)) w
 guard:P.eqGuardType P.depth T=false
section yv2
variable {P : Program} {N : Nat} {ds : List Deferred} {env : Env} {S : World → Prop} {x y c : Operand} {v u : Value}
theorem jT {A B:TypeId} {da:TypeDesc} {k k':IntKind} {m:Int} (hA:P.underlying A=some da) (hB:P.underlying B=some (.int k')) (hx:ev env x=some (.int k m)) (hw:k'.wrap m=m):Yv P N ds env (.convert A B x) (.int k' m) S:=fun act hact w _ _ _ _ _ _=>by
 simp [execOp,hact.ev hx,convert,run_underlying hA,run_underlying hB,Conv.intToInt,hw,Result.andThen]
theorem kQ {m:Int} (h : -9223372036854775808≤m∧m≤9223372036854775807):IntKind.i64.wrap m=m:=IntWalk.i64_in m h
end yv2
end Go.Fip
namespace Go.Fip
open Go.RowKit
def Own {α:Type} (E sz:Nat) (enc:α→List Value) (v:Value) (xs:List α) (w:World):Prop:=w.ownsRow 0 E sz v xs.length (xs.flatMap enc)
theorem Heap.vX {α:Type} {E sz n lo hi:Nat} {enc:α→List Value} {v:Value} {xs:List α} {H:List Item} {w:World} (hH:Heap H w) (hn:H[n]? = some ⟨lo,hi,Own E sz enc v xs⟩):Heap (H.set n (ow lo hi E sz enc v xs)) w:=by
 have hok:=hH.okAt hn
 have hown:Own E sz enc v xs w:=hH.get hn
 refine hH.set hn ⟨rfl,rfl,rfl,Nat.le_refl _,fun _ _ _=>rfl⟩ (.inl ⟨Nat.le_refl _,Nat.le_refl _⟩) (vM ⟨hown,fun g hg=>?_⟩ hok.1 hok.2.1)
 by_cases hin:lo≤g∧g<hi
 ·exact hin
 ·exfalso
  have hlt:=(hown.lt g hg).2
  have h1:=hok.2.2 (w.putObj g (.deferred none)) ⟨rfl,rfl,rfl,by simp,fun k a b=>World.putObj_heap_other (by simp only at a b; omega)⟩
  rcases h1.2 with ⟨hv,_⟩ | ⟨g',cap,cur,hv,_,hg',_⟩
  ·rw [hv] at hg; cases hg
  ·rw [hv] at hg
   simp [Value.ownBlock] at hg
   subst hg
   rw [World.putObj_heap_same hlt] at hg'
   cases hg'
theorem Heap.recast {α:Type} {E sz n lo hi:Nat} {enc:α→List Value} {v:Value} {xs ys:List α} {H:List Item} {w:World} (hH:Heap H w) (hn:H[n]? = some (ow lo hi E sz enc v xs)) (e:xs=ys):Heap (H.set n (ow lo hi E sz enc v ys)) w:=by
 subst e
 exact hH.set hn ⟨rfl,rfl,rfl,Nat.le_refl _,fun _ _ _=>rfl⟩ (.inl ⟨Nat.le_refl _,Nat.le_refl _⟩) (hH.okAt hn)
theorem Heap.u5 {n b t:Nat} {cs cs':List Value} {H:List Item} {w:World} (hH:Heap H w) (hn:H[n]? = some (bx b t cs)) (e:cs=cs'):Heap (H.set n (bx b t cs')) w:=by
 subst e
 exact hH.set hn ⟨rfl,rfl,rfl,Nat.le_refl _,fun _ _ _=>rfl⟩ (.inl ⟨Nat.le_refl _,Nat.le_refl _⟩) (hH.okAt hn)
theorem Heap.own {α:Type} {E sz n lo hi:Nat} {enc:α→List Value} {v:Value} {xs:List α} {H:List Item} {w:World} (hH:Heap H w) (hn:H[n]? = some (ow lo hi E sz enc v xs)):Own E sz enc v xs w:=by
 have:Ow lo hi E sz enc v xs w:=hH.get hn
 exact this.1
end Go.Fip
namespace Go.Fip
open Go.RowKit
theorem Bx.now {b t:Nat} {cs:List Value} {w w':World} (h:Bx b t cs w) {H:List Item} {n:Nat} (hH:Heap H w') (hn:H[n]? = some (base w)):Bx b t cs w':=by
 have hb:Below w.heap.size w w':=hH.get hn
 have hlt:b<w.heap.size:=(Array.getElem?_eq_some_iff.1 h).1
 exact (hb.block b hlt).trans h
def idx {α:Type} (p:α→Bool) (l:List α):Int:=match l.findIdx? p with | some i=>(i:Int) | none => -1
theorem zO {α:Type} [Inhabited α] {l:List α} {i:Nat} (h:i<l.length):nth l (i:Int)=l[i]:=by simp [nth,List.getD,List.getElem?_eq_getElem h]
theorem xP {α:Type} [Inhabited α] {p:α→Bool} {l:List α} {k:Nat} (hk:k<l.length) (h:∀ i,i<k→p (nth l (i:Int))=false) (hp:p (nth l (k:Int))=true):idx p l=(k:Int):=by
 have:l.findIdx? p=some k:=by
  rw [List.findIdx?_eq_some_iff_getElem]
  refine ⟨hk,by rw [← zO hk]; exact hp,fun j hj=>?_⟩
  rw [← zO (Nat.lt_trans hj hk),h j hj]
  simp
 simp [idx,this]
theorem xE {α:Type} [Inhabited α] {p:α→Bool} {l:List α} (h:∀ i,i<l.length→p (nth l (i:Int))=false):idx p l = -1:=by
 have:l.findIdx? p=none:=by
  rw [List.findIdx?_eq_none_iff]
  intro x hx
  obtain ⟨i,hi,rfl⟩:=List.getElem_of_mem hx
  rw [← zO hi]
  exact h i hi
 simp [idx,this]
theorem vQ {α:Type} [Inhabited α] (p:α→Bool) (l:List α):(idx p l = -1∧∀ i,i<l.length→p (nth l (i:Int))=false)∨∃ k,k<l.length∧idx p l=(k:Int)∧p (nth l (k:Int))=true∧∀ i,i<k→p (nth l (i:Int))=false:=by
 cases h:l.findIdx? p with
 | none =>
  left
  rw [List.findIdx?_eq_none_iff] at h
  exact ⟨by simp [idx,List.findIdx?_eq_none_iff.2 h],fun i hi=>by rw [zO hi]; exact h _ (List.getElem_mem hi)⟩
 | some k =>
  right
  have h0:idx p l=(k:Int):=by simp [idx,h]
  rw [List.findIdx?_eq_some_iff_getElem] at h
  obtain ⟨hk,hp,hn⟩:=h
  refine ⟨k,hk,h0,by rw [zO hk]; exact hp,fun i hi=>?_⟩
  rw [zO (Nat.lt_trans hi hk)]
  simpa using hn i hi
theorem q3 {α:Type} [Inhabited α] {p:α→Bool} {l:List α}:0≤idx p l↔∃ i,i<l.length∧p (nth l (i:Int))=true:=by
 rcases vQ p l with ⟨h,hn⟩ | ⟨k,hk,h,hp,_⟩
 ·constructor
  ·intro h2; omega
  ·rintro ⟨i,hi,hp⟩; rw [hn i hi] at hp; cases hp
 ·exact ⟨fun _=>⟨k,hk,hp⟩,fun _=>by omega⟩
theorem VO {α:Type} [Inhabited α] {p:α→Bool} {l:List α} : -1≤idx p l∧idx p l<(l.length:Int):=by
 rcases vQ p l with ⟨h,hn⟩ | ⟨k,hk,h,hp,_⟩ <;> omega
def has {α:Type} (p:α→Bool) (l:List α):Bool:=decide (0≤idx p l)
theorem vT {α:Type} [Inhabited α] {p:α→Bool} {l:List α}:has p l=true↔∃ i,i<l.length∧p (nth l (i:Int))=true:=by
 unfold has; rw [decide_eq_true_eq]; exact q3
theorem uY {α:Type} [Inhabited α] {p:α→Bool} {l:List α}:has p l=false↔∀ i,i<l.length→p (nth l (i:Int))=false:=by
 rw [← Bool.not_eq_true,vT]
 constructor
 ·intro h i hi
  cases hp:p (nth l (i:Int)) with
  | true=>exact absurd ⟨i,hi,hp⟩ h
  | false=>rfl
 ·rintro h ⟨i,hi,hp⟩; rw [h i hi] at hp; cases hp
end Go.Fip
namespace Go.Fip
theorem Heap.vY {H:List Item} {w:World} {n b t:Nat} {cs:List Value} (hH:Heap H w) (hn:H[n]? = some (bx b t cs)):Bx b t cs w:=hH.get hn
end Go.Fip
namespace Go.Fip
open Go.RowKit
theorem Heap.front {L:List Item} {w:World} (h:Heap L w) {n:Nat} {i:Item} (hn:L[n]? = some i):Heap (i::L.eraseIdx n) w:=by
 have hlt:n<L.length:=(List.getElem?_eq_some_iff.1 hn).1
 have hi:L[n]=i:=(List.getElem?_eq_some_iff.1 hn).2
 have hp:L.Perm (i::L.eraseIdx n):=by
  rw [← hi,List.eraseIdx_eq_take_drop_succ]
  conv=>lhs; rw [← List.take_append_drop n L,List.drop_eq_getElem_cons hlt]
  exact List.perm_middle
 exact ⟨fun j hj=>h.ok j (hp.symm.subset hj),(hp.pairwise_iff (fun hab=>Item.apart.symm hab)).1 h.apart⟩
theorem YC {α:Type} [Inhabited α] (l:List α) (n k:Nat):nth (l.drop n) (k:Int)=nth l ((n+k:Nat):Int):=by
 unfold nth
 rw [List.getD_eq_getElem?_getD,List.getD_eq_getElem?_getD,List.getElem?_drop]
 rfl
def bestTo {α:Type} [Inhabited α] (p:α→α→Bool) (l:List α):Nat→α
 | 0=>nth l 0
 | k+1=>if p (nth l ((k+1:Nat):Int)) (bestTo p l k)=true then nth l ((k+1:Nat):Int) else bestTo p l k
theorem kO {α:Type} [Inhabited α] {p:α→α→Bool} {l:List α} {k:Nat} (h:p (nth (l.drop 1) (k:Int)) (bestTo p l k)=true):bestTo p l (k+1)=nth (l.drop 1) (k:Int):=by
 have e:nth (l.drop 1) (k:Int)=nth l ((k+1:Nat):Int):=by rw [YC,Nat.add_comm]
 rw [e] at h ⊢
 show (if _ then _ else _)=_
 rw [if_pos h]
theorem kP {α:Type} [Inhabited α] {p:α→α→Bool} {l:List α} {k:Nat} (h:p (nth (l.drop 1) (k:Int)) (bestTo p l k)=false):bestTo p l (k+1)=bestTo p l k:=by
 have e:nth (l.drop 1) (k:Int)=nth l ((k+1:Nat):Int):=by rw [YC,Nat.add_comm]
 rw [e] at h
 show (if _ then _ else _)=_
 rw [if_neg (Bool.eq_false_iff.1 h)]
end Go.Fip
namespace Go.Fip
theorem WP {α:Type} {P:Program} {E:Nat} {z:Value} {enc:α→List Value} {z0:α} (h:(P.info? E).map (·.zero)=some (some z)) (hz:z.cells.toList=enc z0):∀ i,P.info? E=some i→i.zero.map (·.cells.toList)=some (enc z0):=fun i hi=>by
 rw [hi] at h
 simp only [Option.map_some,Option.some.injEq] at h
 rw [h]; simp [hz]
end Go.Fip
namespace Go.Fip
theorem vD {α:Type} {E sz:Nat} {enc:α→List Value} {w:World}:Own E sz enc (.slice none 0 0) ([]:List α) w:=World.ownsRow_nil w 0 E sz
end Go.Fip
namespace Go.Fip
open Go.RowKit
theorem Heap.perm {H H':List Item} {w:World} (h:Heap H w) (hp:H.Perm H'):Heap H' w :=
 ⟨fun j hj=>h.ok j (hp.symm.subset hj),(hp.pairwise_iff (fun hab=>Item.apart.symm hab)).1 h.apart⟩
theorem XL {P:Program} {fn:Func} {N:Nat} {w0 w:World} {R:Value→World→Prop} {env:Env} {H:List Item} {v:Value} (Ds:List Nat) (hH:Heap (base w0::(H++Ds.map markItem)) w)
  (hres:∀ w',Heap (base w0::H) w'→Results P fn N (Ds.map isMark) env w' v) (hR:∀ w',Heap H w'→R v w'):bodyQ P fn N w0 R .ret (Ds.map isMark) env w:=by
 refine ⟨Ds,H,v,rfl,hH.perm ?_,hres,hR⟩
 exact (List.Perm.cons _ List.perm_append_comm).trans List.perm_middle.symm
def scp (Q:Post):Post
 | .goto _,_,_,_=>False
 | e,ds,env,w=>Q e ds env w
theorem scope {P:Program} {N:Nat} {ds:List Deferred} {env:Env} {w:World} {Q:Post} {c:Code} (h:Holds none P N c ds env w (scp Q)):Holds none P N (.scope c) ds env w Q:=by
 intro a ha
 refine wpIn_wide.2 (wp_scope_straight (wpIn_wide.1 (Go.wpIn_mono (h a ha) ?_)))
 rintro e a' w' ⟨ds',env',hf,q⟩
 cases e with
 | goto i=>exact q.elim
 | normal=>exact ⟨ds',env',hf,q⟩
 | ret=>exact ⟨ds',env',hf,q⟩
 | exit i=>exact ⟨ds',env',hf,q⟩
 | panic i=>exact ⟨ds',env',hf,q⟩
 | outgrown=>exact ⟨ds',env',hf,q⟩
theorem X5 {Q:Post} {ds:List Deferred} {env:Env} {w:World} (h:Q .ret ds env w):scp Q .ret ds env w:=h
theorem Bx.below {b t:Nat} {cs:List Value} {w w':World} (h:Bx b t cs w) (hb:Below w.heap.size w w'):Bx b t cs w':=by
 have hlt:b<w.heap.size:=(Array.getElem?_eq_some_iff.1 h).1
 exact (hb.block b hlt).trans h
end Go.Fip
namespace Go.Fip
open Go.RowKit
section
variable {P : Program}
def IntField (P:Program) (i:Nat) (f:Field):Prop:=f.name ≠ "_" ∧ f.offset=i∧(∀ w,(isAgg f.type).run P w=.ok false w)∧P.underlying f.type=some (.int .i64)
theorem uW {T i:Nat} (hT:∀ w,(isAgg T).run P w=.ok false w) (l:List Int) (x:Int) (h:l[i]? = some x) (w:World):(part T (l.map (Value.int .i64)).toArray i).run P w=.ok (.int .i64 x) w:=by
 simp [part,hT w,h,Result.andThen]
theorem uU (d : Nat) (w : World) : ∀ (fs : List Field) (k : Nat) (a b : List Int), (∀ i f, fs[i]? = some f → IntField P (k + i) f) → a.length = k + fs.length → b.length = k + fs.length →
    (Op.eqFields (d + 1) (a.map (Value.int .i64)).toArray (b.map (Value.int .i64)).toArray fs).run P w = .ok (decide (a.drop k = b.drop k)) w
  | [], k, a, b, _, ha, hb => by
    rw [List.drop_of_length_le (by simp at ha; omega), List.drop_of_length_le (by simp at hb; omega)]
    simp [Op.eqFields]
  | f :: fs, k, a, b, h, ha, hb => by
    simp only [List.length_cons] at ha hb
    obtain ⟨h1, h2, h3, h4⟩ := h 0 f rfl
    have ha' : k < a.length := by omega
    have hb' : k < b.length := by omega
    have ih := uU d w fs (k + 1) a b (fun i f hf => by have := h (i + 1) f (by simpa using hf); have e : k + (i + 1) = k + 1 + i := (by omega); rwa [e] at this) (by omega) (by omega)
    have e1 := uW (P := P) h3 a a[k] (List.getElem?_eq_getElem ha') w
    have e2 := uW (P := P) h3 b b[k] (List.getElem?_eq_getElem hb') w
    have e3 := run_equalIn_int (P := P) w d f.type .i64 .i64 a[k] b[k] h4
    simp only [Nat.add_zero] at h2
    simp only [Op.eqFields]
    rw [if_pos h1]
    simp only [Sem.run_bind, h2, e1, e2, e3, Result.andThen]
    rw [List.drop_eq_getElem_cons ha', List.drop_eq_getElem_cons hb']
    by_cases hab : a[k] = b[k]
    · simp only [hab, BEq.rfl, Bool.not_true, Bool.false_eq_true, if_false, List.cons.injEq, true_and]
      exact ih
    · have e4 : (a[k] == b[k]) = false := by simpa using hab
      have e5 : decide (a[k] :: a.drop (k + 1) = b[k] :: b.drop (k + 1)) = false := decide_eq_false (fun h => hab (List.cons.inj h).1)
      rw [e4, e5]
      simp
theorem YQ {T n:Nat} {fs:List Field} (hu:P.underlying T=some (.struct (P.fieldsOf T))) (hf:(P.fieldsOf T).toList=fs) (hs:P.stoodInHeld T=false) (hg:P.eqGuardType P.depth T=false)
  (hn:fs.length=n) (h:∀ i f,fs[i]? = some f→IntField P i f):EqI P T n:=by
 refine ⟨fun a b w ha hb=>?_,hg⟩
 have:=run_equalIn_agg (P:=P) w 9999 T (a.map (Value.int .i64)).toArray (b.map (Value.int .i64)).toArray hu hs
 simp only [Op.equal,Op.maxDepth,ag]
 rw [this,hf,uU 9998 w fs 0 a b (by simpa using h) (by omega) (by omega)]
 simp
def intField (P:Program) (i:Nat) (f:Field):Bool:=f.name != "_" && f.offset == i && (match P.underlying f.type with | some (.int .i64)=>true | _=>false)
theorem qK {i:Nat} {f:Field} (h:intField P i f=true):IntField P i f:=by
 unfold intField at h
 simp only [Bool.and_eq_true,bne_iff_ne,ne_eq,beq_iff_eq] at h
 obtain ⟨⟨h1,h2⟩,h3⟩:=h
 have h4:P.underlying f.type=some (.int .i64):=by
  split at h3
  ·assumption
  ·cases h3
 exact ⟨h1,h2,fun w=>by simp [isAgg,run_underlying h4,Result.andThen],h4⟩
end
end Go.Fip
namespace Go.Fip
theorem YT {α β:Type} [Inhabited α] {f:α→β} {l:List α} {i:Nat} {x:β} (h:(l.map f)[i]? = some x):i<l.length∧x=f (nth l (i:Int)):=by
 have hlt:i<l.length:=by simpa using (List.getElem?_eq_some_iff.1 h).1
 refine ⟨hlt,?_⟩
 rw [zO hlt]
 rw [List.getElem?_map,List.getElem?_eq_getElem hlt] at h
 exact (Option.some.inj h).symm
theorem kN {α:Type} [Inhabited α] {l:List α} {i:Nat} (h:i<l.length):l.drop i=nth l (i:Int)::l.drop (i+1):=by
 rw [List.drop_eq_getElem_cons h,zO h]
end Go.Fip
namespace Go.Fip
theorem SliceIs.cells {v:Value} {n:Nat} (h:SliceIs v n):v.cells=[v].toArray:=by
 obtain ⟨a,c,rfl,_⟩:=h; rfl
theorem SliceIs.one {v:Value} {n:Nat} (h:SliceIs v n):[v].all (·.oneCell')=true:=by
 obtain ⟨a,c,rfl,_⟩:=h; rfl
end Go.Fip
namespace Go.Fip
section
variable {K V : Type} [DecidableEq K]
theorem q5 (k:K):find k ([]:List (K×V))=none:=rfl
theorem xB (k:K) (p:K×V) (m:List (K×V)):find k (p::m)=if k=p.1 then some p.2 else find k m:=by
 unfold find
 simp only [findI]
 split
 ·rfl
 ·rw [uR k m 1]; rfl
theorem v7 (k k':K) (v:V):∀ m:List (K×V),find k' (upd k v m)=if k'=k then some v else find k' m
 | []=>by rw [upd,xB,q5]
 | p::m=>by
  rw [upd]
  by_cases h:k=p.1
  ·rw [if_pos h,xB,xB]
   by_cases h2:k'=k
   ·rw [if_pos h2,if_pos h2]
   ·rw [if_neg h2,if_neg h2,if_neg (fun e=>h2 (e.trans h.symm))]
  ·rw [if_neg h,xB,xB,v7 k k' v m]
   by_cases h2:k'=p.1
   ·rw [if_pos h2,if_neg (fun e=>h (e.symm.trans h2)),if_pos h2]
   ·rw [if_neg h2,if_neg h2]
theorem uI {k:K}:∀ {m:List (K×V)},find k m=none↔k ∉ m.map Prod.fst
 | []=>by simp [q5]
 | p::m=>by
  rw [xB]
  by_cases h:k=p.1
  ·rw [if_pos h]; simp [h]
  ·rw [if_neg h,uI]; simp [h]
theorem uA {k k':K} (h:k'≠k):∀ m:List (K×V),find k' (del k m)=find k' m
 | []=>rfl
 | p::m=>by
  rw [del]
  by_cases h2:k=p.1
  ·rw [if_pos h2,xB,if_neg (fun e=>h (e.trans h2.symm))]
  ·rw [if_neg h2,xB,xB,uA h m]
theorem jD {k:K}:∀ {m:List (K×V)},(m.map Prod.fst).Nodup→find k (del k m)=none
 | [],_=>rfl
 | p::m,h=>by
  rw [List.map_cons,List.nodup_cons] at h
  rw [del]
  by_cases h2:k=p.1
  ·rw [if_pos h2,uI,h2]; exact h.1
  ·rw [if_neg h2,xB,if_neg h2]; exact jD h.2
end
theorem xC {P:Program} {N:Nat} {ds:List Deferred} {env:Env} {op:Op} {k:IntKind} {a b:Int} {S:World→Prop} (h:a=b) (hy:Yv P N ds env op (.int k a) S):Yv P N ds env op (.int k b) S:=h ▸ hy
end Go.Fip
namespace Go.Fip
theorem ZF {α:Type} [Inhabited α] {l:List α} {i:Nat} (h:i<l.length):l.take i++[nth l (i:Int)]=l.take (i+1):=by
 rw [List.take_succ_eq_append_getElem h,zO h]
end Go.Fip
namespace Go.Fip
open Go.RowKit
section
variable {P : Program} {N : Nat} {ds : List Deferred} {env : Env} {S : World → Prop} {x : Operand}
theorem ZH {b r0:Nat} {es:Array MapEntry} {clock:Nat} {seen:Array Nat} {e:MapEntry} {kv vv:Value} (hk:e.key=kv) (hv:e.val=vv) (hx:ev env x=some (.pointer (some ⟨r0,0,none⟩))) (he:e∈es.toList) (hnd:(es.toList.map (·.born)).Nodup)
  (hm:∀ w,S w→w.heap[b]? = some (.map es clock)) (hr:∀ w,S w→w.heap[r0]? = some (.mapIter (some b) clock (seen.push e.born) clock)):Yv P N ds env (.entry x) (.tuple #[kv,vv]) S:=by
 subst hk; subst hv
 exact ZU hx he hnd hm hr
end
section
variable {K V : Type} [DecidableEq K] {kv : K → Value} {vv : V → Value}
structure Ents (kv:K→Value) (vv:V→Value) (es:Array MapEntry) (clock:Nat) (m:List (K×V)):Prop where
 views:Views kv vv es.toList m
 nd:(m.map Prod.fst).Nodup
 bornNd:(es.toList.map (·.born)).Nodup
 born:∀ e∈es.toList,e.born<clock
theorem k7 {k:K} {v:V}:∀ {m:List (K×V)},find k m=some v→(k,v)∈m
 | [],h=>by rw [q5] at h; cases h
 | p::m,h=>by
  rw [xB] at h
  by_cases hk:k=p.1
  ·rw [if_pos hk] at h; cases h; subst hk; exact List.mem_cons_self
  ·rw [if_neg hk] at h; exact List.mem_cons_of_mem _ (k7 h)
theorem kI {k:K} {v:V}:∀ {m:List (K×V)},(m.map Prod.fst).Nodup→(k,v)∈m→find k m=some v
 | p::m,hn,h=>by
  rw [List.map_cons,List.nodup_cons] at hn
  rw [xB]
  rcases List.mem_cons.1 h with rfl | h
  ·rw [if_pos rfl]
  ·have:k∈m.map Prod.fst:=List.mem_map.2 ⟨_,h,rfl⟩
   rw [if_neg (by intro e; rw [e] at this; exact hn.1 this)]
   exact kI hn.2 h
omit [DecidableEq K] in
theorem Views.entry:∀ {es:List MapEntry} {m:List (K×V)},Views kv vv es m→∀ e∈es,∃ k v,e.key=kv k∧e.val=vv v∧(k,v)∈m
 | [],_,_,e,he=>by cases he
 | a::es,[],h,_,_=>by simp [Views] at h
 | a::es,p::m,h,e,he=>by
  simp only [Views,List.map_cons,List.cons.injEq,Prod.mk.injEq] at h
  rcases List.mem_cons.1 he with rfl | he
  ·exact ⟨p.1,p.2,h.1.1,h.1.2,List.mem_cons_self⟩
  ·obtain ⟨k,v,h1,h2,h3⟩:=Views.entry (m:=m) h.2 e he
   exact ⟨k,v,h1,h2,List.mem_cons_of_mem _ h3⟩
omit [DecidableEq K] in
theorem Views.of_mem:∀ {es:List MapEntry} {m:List (K×V)},Views kv vv es m→∀ k v,(k,v)∈m→∃ e∈es,e.key=kv k∧e.val=vv v
 | _,[],_,_,_,h=>by cases h
 | [],p::m,h,_,_,_=>by simp [Views] at h
 | a::es,p::m,h,k,v,hm=>by
  simp only [Views,List.map_cons,List.cons.injEq,Prod.mk.injEq] at h
  rcases List.mem_cons.1 hm with rfl | hm
  ·exact ⟨a,List.mem_cons_self,h.1.1,h.1.2⟩
  ·obtain ⟨e,he,h1,h2⟩:=Views.of_mem (m:=m) h.2 k v hm
   exact ⟨e,List.mem_cons_of_mem _ he,h1,h2⟩
theorem Ents.entry {es:Array MapEntry} {clock:Nat} {m:List (K×V)} (h:Ents kv vv es clock m) {e:MapEntry} (he:e∈es.toList):∃ k v,e.key=kv k∧e.val=vv v∧find k m=some v:=by
 obtain ⟨k,v,h1,h2,h3⟩:=h.views.entry e he
 exact ⟨k,v,h1,h2,kI h.nd h3⟩
theorem Ents.of_find {es:Array MapEntry} {clock:Nat} {m:List (K×V)} (h:Ents kv vv es clock m) {k:K} {v:V} (hf:find k m=some v):∃ e∈es.toList,e.key=kv k∧e.val=vv v :=
 h.views.of_mem k v (k7 hf)
omit [DecidableEq K] in
theorem Ents.inj {es:Array MapEntry} {clock:Nat} {m:List (K×V)} (h:Ents kv vv es clock m) {e e':MapEntry} (he:e∈es.toList) (he':e'∈es.toList) (hb:e.born=e'.born):e=e':=by
 obtain ⟨i,hi,rfl⟩:=List.getElem_of_mem he
 obtain ⟨j,hj,rfl⟩:=List.getElem_of_mem he'
 have hp:=List.pairwise_iff_getElem.1 h.bornNd
 rcases Nat.lt_trichotomy i j with hlt | rfl | hlt
 ·exact absurd (show (es.toList.map (·.born))[i]'(by simpa using hi)=(es.toList.map (·.born))[j]'(by simpa using hj) by rw [List.getElem_map,List.getElem_map]; exact hb) (hp i j (by simpa using hi) (by simpa using hj) hlt)
 ·rfl
 ·exact absurd (show (es.toList.map (·.born))[j]'(by simpa using hj)=(es.toList.map (·.born))[i]'(by simpa using hi) by rw [List.getElem_map,List.getElem_map]; exact hb.symm) (hp j i (by simpa using hj) (by simpa using hi) hlt)
theorem qJ {α:Type} {p q:α→Bool}:∀ (l:List α),(∀ x∈l,p x=true→q x=true)→(l.filter p).length≤(l.filter q).length∧(∀ y∈l,q y=true→p y=false→(l.filter p).length<(l.filter q).length)
 | [],_=>⟨Nat.le_refl _,fun y hy=>(by cases hy)⟩
 | a::l,h=>by
  obtain ⟨h1,h2⟩:=qJ l (fun x hx=>h x (List.mem_cons_of_mem _ hx))
  have ha:=h a (List.mem_cons_self)
  constructor
  ·cases hp:p a with
   | true=>rw [List.filter_cons_of_pos (by simpa using hp),List.filter_cons_of_pos (by simpa using ha hp)]; simp; exact h1
   | false =>
    rw [List.filter_cons_of_neg (by simp [hp])]
    cases hq:q a with
    | true=>rw [List.filter_cons_of_pos (by simpa using hq)]; simp; omega
    | false=>rw [List.filter_cons_of_neg (by simp [hq])]; exact h1
  ·intro y hy hq hp
   rcases List.mem_cons.1 hy with rfl | hy
   ·rw [List.filter_cons_of_neg (by simp [hp]),List.filter_cons_of_pos (by simpa using hq)]; simp; omega
   ·have h3:=h2 y hy hq hp
    cases hp':p a with
    | true=>rw [List.filter_cons_of_pos (by simpa using hp'),List.filter_cons_of_pos (by simpa using ha hp')]; simp; exact h3
    | false =>
     rw [List.filter_cons_of_neg (by simp [hp'])]
     cases hq':q a with
     | true=>rw [List.filter_cons_of_pos (by simpa using hq')]; simp; omega
     | false=>rw [List.filter_cons_of_neg (by simp [hq'])]; exact h3
def unseen (es:Array MapEntry) (seen:Array Nat):Nat:=(es.toList.filter fun e => !seen.toList.contains e.born).length
theorem uG {es:Array MapEntry} {seen:Array Nat} {e:MapEntry} (he:e∈es.toList) (hn:e.born ∉ seen.toList):unseen es (seen.push e.born)<unseen es seen:=by
 unfold unseen
 refine (qJ es.toList (fun x _ hx=>?_)).2 e he ?_ ?_
 ·simp at hx ⊢; exact hx.1
 ·simpa using hn
 ·simp
end
theorem Item.within {i:Item} {w:World} (h:i.ok w) {b:Nat} {o:Obj} (hb:w.heap[b]? = some o) (hφ:∀ w',i.φ w'→(∀ k,k≠b→w'.heap[k]? = w.heap[k]?)→w'.heap[b]? ≠ some (.deferred none)):i.lo≤b∧b<i.hi:=by
 by_cases hin:i.lo≤b∧b<i.hi
 ·exact hin
 ·exfalso
  have hlt:=(Array.getElem?_eq_some_iff.1 hb).1
  have h1:=h.2.2 (w.putObj b (.deferred none)) ⟨rfl,rfl,rfl,by simp,fun k a b'=>World.putObj_heap_other (by omega)⟩
  exact hφ _ h1 (fun k hk=>World.putObj_heap_other (by omega)) (World.putObj_heap_same hlt)
end Go.Fip
namespace Go.Fip
open Go.RowKit
structure FnM (P:Program) (f:FuncId) (args:Array Value) (w:World) (g:Nat) (R:Value→World→Prop):Prop where
 enters:∀ w',(callFunc f args).run P w'=.ok (.enter f args) w'
 calls:CallsIn Fence.wide 0 P f args w fun e w'=>∃ v,e=.returned v∧Off g (g+1) w w'∧∀ w'',Agree g (g+1) w' w''→R v w''
theorem FnM.callsFr {P:Program} {f:FuncId} {args:Array Value} {w:World} {g:Nat} {R:Value→World→Prop} (h:FnM P f args w g R) (r:Option Nat) :
  CallsIn (Fr r) 0 P f args w fun e w'=>∃ v,e=.returned v∧Off g (g+1) w w'∧∀ w'',Agree g (g+1) w' w''→R v w'':=by
 cases r with
 | none=>exact h.calls
 | some l=>exact h.calls
section
variable {r : Option Nat} {P : Program} {N : Nat} {ds : List Deferred} {env : Env} {w : World} {Q : Post} {all : Array Oper} {rest : List Oper} {H : List Item}
theorem uS {d:Nat} {c:Operand} {xs:List Operand} {vs:List Value} {ats:Array TypeId} {ty:TypeId} {pos:String} {after:Array Edge} {f:FuncId} {first cap:List Value} {R:Value→World→Prop} {g n:Nat} {i:Item}
  (hf:ev env c=some (.func (.func f) first.toArray cap.toArray)) (hx:evs env xs=some vs) (hd:dstOK N (some d)=true) (hH:Heap H w) (hn:H[n]? = some i) (hg:i.lo≤g∧g<i.hi)
  (hc:FnM P f (first++(vs++cap)).toArray w g R)
  (h:∀ v w',Heap (H.set n ⟨i.lo,i.hi,R v⟩) w'→R v w'→Ops r P N all rest ds ((d,v)::env) w' Q) :
  Ops r P N all (⟨some d,.call ⟨.value c,xs.toArray,ats⟩,ty,pos,after,none⟩::rest) ds env w Q:=by
 intro a ha
 refine wpListIn_plain rfl fun K hK=>⟨fun f _=>Fr_fn r f,?_⟩
 rw [semAt_Fr r _ _ (fun c hc=>by cases hc)]
 have hargs:(xs.toArray.map a.eval)=vs.toArray:=by rw [List.map_toArray,ha.evs hx]
 have hrun:(execOp a.eval ⟨some d,.call ⟨.value c,xs.toArray,ats⟩,ty,pos,after,none⟩).run P w=.ok (.enter f (first++(vs++cap)).toArray) w:=by
  simp only [execOp,resolve,hargs,ha.ev hf,Deferred.ofValue,Sem.run_bind,Sem.run_pure,Result.andThen,invoke]
  have e:first.toArray++vs.toArray++cap.toArray=(first++(vs++cap)).toArray:=by simp
  rw [e]
  exact hc.enters w
 rw [hrun]
 refine ⟨fun h=>by simp [Fr_depth] at h,CallsIn.mono (hc.callsFr r) ?_⟩
 rintro e w' ⟨v,rfl,ho,hR⟩
 have hok:=hH.okAt hn
 have ho':Off i.lo i.hi w w':=⟨ho.os,ho.tape,ho.output,ho.size,fun k hk hne=>ho.block k hk (by omega)⟩
 refine hK _ _ (h v w' (hH.set hn ho' (.inl ⟨Nat.le_refl _,Nat.le_refl _⟩) ⟨hok.1,Nat.le_trans hok.2.1 ho.size,fun w'' hw=>hR w'' (hw.mono hg.1 hg.2)⟩) (hR w' (Agree.refl _ _ _)) _ (ha.put (by simpa [dstOK,Nat.blt_eq] using hd) v))
end
def restL (w0:World) (g:Nat):Item:=⟨0,g,Agree 0 g w0⟩
def restR (w0:World) (g:Nat):Item:=⟨g+1,w0.heap.size,Agree (g+1) w0.heap.size w0⟩
def bodyQM (P:Program) (fn:Func) (N:Nat) (w0:World) (g:Nat) (R:Value→World→Prop):Post
 | .normal,ds,env,w | .ret,ds,env,w=>ds=[]∧∃ (φ:World→Prop) (H:List Item) (v:Value),Heap (⟨g,g+1,φ⟩::restL w0 g::restR w0 g::H) w∧Results P fn N [] env w v∧∀ w',φ w'→R v w'
 | _,_,_,_=>False
theorem finM {P:Program} {fn:Func} {N g:Nat} {w0 w:World} {φ:World→Prop} {R:Value→World→Prop} {env:Env} {H:List Item} {v:Value} (hH:Heap (⟨g,g+1,φ⟩::restL w0 g::restR w0 g::H) w)
  (hres:Results P fn N [] env w v) (hR:∀ w',φ w'→R v w'):bodyQM P fn N w0 g R .ret [] env w:=⟨rfl,φ,H,v,hH,hres,hR⟩
theorem XA {P:Program} {fn:Func} {N g:Nat} {w0 w:World} {φ:World→Prop} {R:Value→World→Prop} {env:Env} {H:List Item} {v:Value} (hH:Heap (⟨g,g+1,φ⟩::restL w0 g::restR w0 g::H) w)
  (hres:Results P fn N [] env w v) (hR:∀ w',φ w'→R v w'):bodyQM P fn N w0 g R .normal [] env w:=⟨rfl,φ,H,v,hH,hres,hR⟩
theorem qZ {P : Program} {f : FuncId} {fn : Func} {c : Code} {args : List Value} {w : World} {g : Nat} {φ : World → Prop} {R : Value → World → Prop} {N : Nat}
    (hf : P.funcs[f]? = some fn) (hb : fn.body = some c) (hen : ∀ (aS0 : Array Value) (w' : World), (callFunc f aS0).run P w' = .ok (.enter f aS0) w')
    (hN : fn.ntmps = N) (hargs : Nat.ble args.length N = true) (hrow : (⟨g, g + 1, φ⟩ : Item).ok w)
    (h : Heap [⟨g, g + 1, φ⟩, restL w g, restR w g] w → Holds none P N c [] (argEnv 0 args) w (bodyQM P fn N w g R)) : FnM P f args.toArray w g R := by
  have hlt : g + 1 ≤ w.heap.size := hrow.2.1
  have hH : Heap [⟨g, g + 1, φ⟩, restL w g, restR w g] w := by
    refine ⟨fun i hi => ?_, ?_⟩
    · simp at hi
      rcases hi with rfl | rfl | rfl
      · exact hrow
      · exact ⟨Nat.zero_le _, by show g ≤ _; omega, fun w' h => h⟩
      · exact ⟨hlt, Nat.le_refl _, fun w' h => h⟩
    · simp [Item.apart, restL, restR]
  refine ⟨hen _, callsIn_of_wp hf hb trivial ?_⟩
  have hargs' : args.length ≤ N := by simpa [Nat.ble_eq] using hargs
  refine Go.wpIn_mono (h hH { tmps := args.toArray ++ Array.replicate (fn.ntmps - args.toArray.size) undef, defers := [] } ⟨by simp [hN]; omega, rfl, fun i v hi => ?_⟩) ?_
  · have h1 : args[i]? = some v := by simpa using (uD args 0 i v hi).2
    have hlt := (List.getElem?_eq_some_iff.1 h1).1
    simp only [Array.getElem?_append, List.size_toArray, hlt, if_true, List.getElem?_toArray]
    exact h1
  · have key : ∀ a' env' w', Fits N a' [] env' → (∃ (φ : World → Prop) (H : List Item) (v : Value), Heap (⟨g, g + 1, φ⟩ :: restL w g :: restR w g :: H) w' ∧ Results P fn N [] env' w' v ∧ ∀ w', φ w' → R v w') →
        ∃ v, (results fn a'.tmps).run P w' = .ok v w' ∧ Off g (g + 1) w w' ∧ ∀ w'', Agree g (g + 1) w' w'' → R v w'' := by
      rintro a' env' w' hf' ⟨φ, H, v, hH, hres, hR⟩
      have hL : Agree 0 g w w' := hH.get (n := 1) rfl
      have hRr : Agree (g + 1) w.heap.size w w' := hH.get (n := 2) rfl
      refine ⟨v, hres a' hf', ⟨hL.os, hL.tape, hL.output, hL.size, fun k hk hne => ?_⟩, fun w'' ha => hR w'' ((hH.okAt (n := 0) rfl).2.2 w'' ha)⟩
      rcases Nat.lt_or_ge k g with h1 | h1
      · exact hL.block k (Nat.zero_le _) h1
      · exact hRr.block k (by omega) hk
    rintro e a' w' ⟨ds, env', hf', hq⟩
    cases e with
    | normal =>
      obtain ⟨rfl, hq⟩ := hq
      obtain ⟨v, h1, h2, h3⟩ := key a' env' w' hf' hq
      exact ⟨hf'.defers, _, h1, v, rfl, h2, h3⟩
    | ret =>
      obtain ⟨rfl, hq⟩ := hq
      obtain ⟨v, h1, h2, h3⟩ := key a' env' w' hf' hq
      exact ⟨hf'.defers, _, h1, v, rfl, h2, h3⟩
    | exit i => exact hq.elim
    | goto i => exact hq.elim
    | panic i => exact hq.elim
    | outgrown => exact hq.elim
theorem Bx.nowM {b t g:Nat} {cs:List Value} {w0 w:World} {H:List Item} {n m:Nat} (h:Bx b t cs w0) (hne:b≠g) (hH:Heap H w) (hn:H[n]? = some (restL w0 g)) (hm:H[m]? = some (restR w0 g)):Bx b t cs w:=by
 have hL:Agree 0 g w0 w:=hH.get hn
 have hR:Agree (g+1) w0.heap.size w0 w:=hH.get hm
 have hlt:b<w0.heap.size:=(Array.getElem?_eq_some_iff.1 h).1
 rcases Nat.lt_or_ge b g with h1 | h1
 ·exact (hL.block b (Nat.zero_le _) h1).trans h
 ·exact (hR.block b (by omega) hlt).trans h
theorem jE {α:Type} {g E sz:Nat} {enc:α→List Value} {v:Value} {xs:List α} {w:World} (h:Own E sz enc v xs w) (hg:v.ownBlock=some g):(⟨g,g+1,Ow g (g+1) E sz enc v xs⟩:Item).ok w :=
 vM ⟨h,fun k hk=>by rw [hg] at hk; cases hk; omega⟩ (Nat.le_succ _) (h.lt g hg).2
theorem Heap.ne {H:List Item} {w:World} {n m lo hi b:Nat} {φ:World→Prop} {t:Nat} {cs:List Value} {g:Nat} (hH:Heap H w) (hn:H[n]? = some ⟨lo,hi,φ⟩) (hm:H[m]? = some (bx b t cs)) (hg:lo≤g∧g<hi) (hnm:n≠m):b≠g:=by
 have hp:=List.pairwise_iff_getElem.1 hH.apart
 obtain ⟨h1,e1⟩:=List.getElem?_eq_some_iff.1 hn
 obtain ⟨h2,e2⟩:=List.getElem?_eq_some_iff.1 hm
 rcases Nat.lt_or_gt_of_ne hnm with hlt | hlt
 ·have:=hp n m h1 h2 hlt
  rw [e1,e2] at this
  simp only [Item.apart,bx] at this
  omega
 ·have:=hp m n h2 h1 hlt
  rw [e1,e2] at this
  simp only [Item.apart,bx] at this
  omega
section
variable {r : Option Nat} {P : Program} {N : Nat} {ds : List Deferred} {env : Env} {w : World} {Q : Post} {all : Array Oper} {rest : List Oper} {H : List Item} {x : Operand} {v : Value} {dst : Option Nat} {ty : TypeId} {pos : String} {after : Array Edge}
theorem uL {α : Type} {T E sz n lo hi q : Nat} {enc : α → List Value} (hE : El P T E sz enc) {xs : List α} (z0 : α) (hz0 : ∀ i, P.info? E = some i → i.zero.map (·.cells.toList) = some (enc z0)) (hs : ev env x = some (cutv v sz q xs.length)) (hd : dstOK N dst = true) (hH : Heap H w)
    (hn : H[n]? = some (ow lo hi E sz enc v xs)) (hq : q ≤ xs.length)
    (h : ∀ w', Heap (H.set n (ow lo hi E sz enc v (xs.take q ++ List.replicate (xs.length - q) z0))) w' → Ops r P N all rest ds (putE dst (.tuple #[]) env) w' Q) :
    Ops r P N all (⟨dst, .call ⟨.builtin .clear, #[x], #[T]⟩, ty, pos, after, none⟩ :: rest) ds env w Q := by
  have hok := hH.okAt hn
  have how : Ow lo hi E sz enc v xs w := hH.get hn
  obtain ⟨i, z, hi1, hz, hsz, hby, hzs⟩ := hE.info
  have hzc := hz0 i hi1
  rw [hz] at hzc
  simp only [Option.map_some, Option.some.injEq] at hzc
  have same : Heap (H.set n (ow lo hi E sz enc v xs)) w := hH.set hn ⟨rfl, rfl, rfl, Nat.le_refl _, fun _ _ _ => rfl⟩ (.inl ⟨Nat.le_refl _, Nat.le_refl _⟩) hok
  by_cases hqe : q = xs.length
  · subst hqe
    refine vZ hd (fun c hc => by cases hc) (fun a ha => ?_) (h w (by simpa using same))
    obtain ⟨a1, c1, rfl, _⟩ := how.is
    have e : (cutv (.slice a1 xs.length c1) sz xs.length xs.length) = .slice (if c1 = xs.length then a1 else a1.map (·.add (xs.length * sz))) 0 (c1 - xs.length) := by simp [cutv]
    rw [e] at hs
    simp only [execOp, resolve, invoke, builtin, Sem.run_bind, Sem.run_pure, Result.andThen, List.map_toArray, List.map_cons, List.map_nil, ha.ev hs]
    cases (if c1 = xs.length then a1 else a1.map (·.add (xs.length * sz))) <;> simp [Builtin.clear_, run_underlying hE.und, Result.andThen]
  · rcases how.1.2 with ⟨rfl, h3⟩ | ⟨g, cap, cur, hsv, hb0, hg, h4, h5, h6, h7⟩
    · omega
    · subst hsv
      obtain ⟨m, hm⟩ : ∃ m, xs.length - q = m + 1 := ⟨xs.length - q - 1, by omega⟩
      have ec : cutv (.slice (some ⟨g, 0, none⟩) xs.length cap) sz q xs.length = .slice (some ⟨g, q * sz, none⟩) (xs.length - q) (cap - q) := by
        simp only [cutv]
        rw [if_neg (by omega)]
        simp [Addr.add]
        intro h; exact h.symm
      rw [ec] at hs
      have hzl : (Builtin.zeroCells z.cells (xs.length - q)).toList = (List.replicate (xs.length - q) z0).flatMap enc := by
        have := vI hE.len hE.pos hzc (xs.length - q)
        rw [← this]
        simp [Builtin.zeroCells, madeCells, hzs]
      have hle : xs.length * sz ≤ cap * sz := Nat.mul_le_mul_right _ h4
      have hqs : q * sz + (xs.length - q) * sz = xs.length * sz := by rw [← Nat.add_mul]; congr 1; omega
      have hst := run_storeCells_at (P := P) g (q * sz) E ((List.replicate (xs.length - q) z0).flatMap enc) 0 cur w hg (by rw [zL hE.len, List.length_replicate]; omega) (fun u hu => by obtain ⟨x, _, hx⟩ := List.mem_flatMap.1 hu; exact hE.one x u hx)
      have hov := j5 (P := P) (w := w) (lo := lo) (hi := hi) hE (ys := List.replicate (xs.length - q) z0) hg rfl h4 h5 h6 h7 (how.2 g rfl) q (by simp; omega)
      have ed : xs.drop (q + (List.replicate (xs.length - q) z0).length) = [] := List.drop_of_length_le (by simp; omega)
      rw [ed, List.append_nil] at hov
      refine vZ hd (fun c hc => by cases hc) (fun a ha => ?_) (h _ (hH.set hn ((xY w g _).mono' (how.2 g rfl)) (.inl ⟨Nat.le_refl _, Nat.le_refl _⟩) (vM hov hok.1 (by rw [setRow_size]; exact hok.2.1))))
      · have hcl : (Builtin.clear_ #[T] ty #[.slice (some ⟨g, q * sz, none⟩) (xs.length - q) (cap - q)]).run P w = .ok (.tuple #[]) (w.setRow g (splice cur.toList (q * sz) ((List.replicate (xs.length - q) z0).flatMap enc)).toArray) := by
          have hzv : (zeroValue E).run P w = .ok z w := by simp [zeroValue, typeInfo, hi1, hz, Result.andThen]
          unfold Builtin.clear_
          rw [hm] at hzl hst ⊢
          simp only [Nat.add_zero] at hst
          simp [run_underlying hE.und, hzv, hzl, hst, Result.andThen, splice]
        simp only [execOp, resolve, invoke, builtin, Sem.run_bind, Sem.run_pure, Result.andThen, List.map_toArray, List.map_cons, List.map_nil, ha.ev hs, hcl]
end
theorem Own.upto {α : Type} {E sz q : Nat} {enc : α → List Value} {v : Value} {xs : List α} {w : World} (hl : ∀ x, (enc x).length = sz) (h : Own E sz enc v xs w) (hq : q ≤ xs.length) : Own E sz enc (cutv v sz 0 q) (xs.take q) w := by
  have hlt : (xs.take q).length = q := by simp; omega
  rcases h.2 with ⟨rfl, h3⟩ | ⟨g, cap, cur, rfl, hb, hg, h4, h5, h6, h7⟩
  · have : q = 0 := by omega
    subst this
    simp only [cutv, List.take_zero]
    exact (by simpa using vD (E := E) (sz := sz) (enc := enc) (w := w))
  · have e : cutv (.slice (some ⟨g, 0, none⟩) xs.length cap) sz 0 q = .slice (some ⟨g, 0, none⟩) q cap := by simp [cutv, Addr.add]
    rw [e]
    refine ⟨by rw [zL hl], .inr ⟨g, cap, cur, by rw [hlt], hb, hg, by rw [hlt]; omega, h5, h6, ?_⟩⟩
    rw [hlt]
    have h8 : (xs.take q).flatMap enc = (xs.flatMap enc).take (q * sz) := by
      have h9 : xs.flatMap enc = (xs.take q).flatMap enc ++ (xs.drop q).flatMap enc := by rw [← List.flatMap_append, List.take_append_drop]
      rw [h9, List.take_left']
      rw [zL hl, hlt]
    rw [h8, ← h7, List.take_take]
    congr 1
    have := Nat.mul_le_mul_right sz hq
    omega
end Go.Fip
namespace Go.Fip
open Go.RowKit
theorem ZC {α:Type} [Inhabited α] {p:α→Bool} {l:List α} {k:Nat} (hk:k<l.length) (h:∀ i,i<k→p (nth l (i:Int))=false) (hp:p (nth l (k:Int))=true):l.take k=(l.take (k+1)).filter fun x => !p x:=by
 rw [List.take_succ_eq_append_getElem hk,List.filter_append]
 rw [zO hk] at hp
 have e1:[l[k]].filter (fun x => !p x)=[]:=by simp [hp]
 have e2:(l.take k).filter (fun x => !p x)=l.take k:=by
  rw [List.filter_eq_self]
  intro x hx
  obtain ⟨i,hi,rfl⟩:=List.getElem_of_mem hx
  have hi2:i<k:=by simp at hi; omega
  have:=h i hi2
  rw [zO (by omega)] at this
  simp [this]
 rw [e1,e2,List.append_nil]
theorem Y6 {α:Type} [Inhabited α] {p:α→Bool} {l:List α} (h:∀ i,i<l.length→p (nth l (i:Int))=false):l=l.filter fun x => !p x:=by
 symm
 rw [List.filter_eq_self]
 intro x hx
 obtain ⟨i,hi,rfl⟩:=List.getElem_of_mem hx
 have:=h i hi
 rw [zO hi] at this
 simp [this]
def DelAt {α:Type} (p:α→Bool) (l L:List α) (i j:Nat):Prop:=i≤j∧j≤l.length∧L.length=l.length∧L.take i=(l.take j).filter (fun x => !p x)∧L.drop j=l.drop j
theorem DelAt.nth {α:Type} [Inhabited α] {p:α→Bool} {l L:List α} {i j:Nat} (h:DelAt p l L i j) (hj:j<l.length):Fip.nth L (j:Int)=Fip.nth l (j:Int):=by
 obtain ⟨_,_,hL,_,hd⟩:=h
 have h1:=kN (l:=L) (i:=j) (by omega)
 have h2:=kN (l:=l) (i:=j) hj
 rw [hd,h2] at h1
 exact (List.cons.inj h1).1.symm
theorem DelAt.drop {α:Type} [Inhabited α] {p:α→Bool} {l L:List α} {i j:Nat} (h:DelAt p l L i j) (hj:j<l.length) (hp:p (Fip.nth l (j:Int))=true):DelAt p l L i (j+1):=by
 obtain ⟨h1,h2,hL,ht,hd⟩:=h
 refine ⟨by omega,hj,hL,?_,?_⟩
 ·rw [zO hj] at hp
  rw [ht,List.take_succ_eq_append_getElem hj,List.filter_append]
  have:[l[j]].filter (fun x => !p x)=[]:=by simp [hp]
  rw [this,List.append_nil]
 ·rw [← List.drop_drop, ← List.drop_drop,hd]
theorem DelAt.keep {α:Type} [Inhabited α] {p:α→Bool} {l L:List α} {i j:Nat} (h:DelAt p l L i j) (hj:j<l.length) (hp:p (Fip.nth l (j:Int))=false):DelAt p l (L.set i (Fip.nth l (j:Int))) (i+1) (j+1):=by
 obtain ⟨h1,h2,hL,ht,hd⟩:=h
 refine ⟨by omega,hj,by simpa using hL,?_,?_⟩
 ·rw [zO hj] at hp
  rw [List.take_succ_eq_append_getElem hj,List.filter_append]
  have e:[l[j]].filter (fun x => !p x)=[l[j]]:=by simp [hp]
  rw [e, ← ht,zO hj,List.take_succ_eq_append_getElem (by simp; omega)]
  simp [List.take_set]
  rw [List.set_eq_of_length_le (by simp; omega)]
 ·rw [List.drop_set,if_pos (by omega), ← List.drop_drop, ← List.drop_drop,hd]
theorem DelAt.done {α:Type} {p:α→Bool} {l L:List α} {i j:Nat} (h:DelAt p l L i j) (hj:j=l.length) (z:α):(L.take i++List.replicate (L.length - i) z).take i=l.filter fun x => !p x:=by
 obtain ⟨h1,h2,hL,ht,hd⟩:=h
 rw [List.take_append_of_le_length (by simp; omega),List.take_take,Nat.min_self,ht,hj,List.take_length]
end Go.Fip
namespace Go.Fip
theorem Ow.blk {α:Type} {lo hi E sz:Nat} {enc:α→List Value} {v:Value} {xs:List α} {w:World} (h:Ow lo hi E sz enc v xs w) (hx:1≤xs.length):∃ g,v.ownBlock=some g∧lo≤g∧g<hi:=by
 rcases h.1.2 with ⟨_,h3⟩ | ⟨g,cap,cur,rfl,_⟩
 ·omega
 ·exact ⟨g,rfl,h.2 g rfl⟩
end Go.Fip
namespace Go.Fip
theorem YW {v:Value} {vs:List Value} (h:v.oneCell'=true) (hs:vs.all (·.oneCell')=true):(v::vs).all (·.oneCell')=true:=by
 rw [List.all_cons,h,hs]; rfl
theorem SliceIs.one1 {v:Value} {n:Nat} (h:SliceIs v n):v.oneCell'=true:=by
 obtain ⟨a,c,rfl,_⟩:=h; rfl
end Go.Fip
namespace Go.Fip
end Go.Fip
namespace Go.Fip
def noDf : Op → Bool
  | .defer _ => false
  | _ => true
theorem uC {env env' : Env} {i : Nat} {v : Value} (h : env.find i = some v) (hs : Sub env' env) : Sub ((i, v) :: env') env := Sub.cons h hs
section
variable {r : Option Nat} {P : Program} {N : Nat} {S : World → Prop} {ds : List Deferred} {env : Env} {w : World} {Q : Post} {all : Array Oper} {rest : List Oper} {d : Nat} {x : Operand} {ty : TypeId} {pos : String} {after : Array Edge} {v : Value}
theorem oY {op : Op} (hS : S w) (hy : Yv P N ds env op v S) (h : Ops r P N all rest ds ((d, v) :: env) w Q) (hop : noDf op = true := by rfl) (hd : Nat.blt d N = true := by rfl) : Ops r P N all (⟨some d, op, ty, pos, after, none⟩ :: rest) ds env w Q := ZP hS (by cases op <;> first | rfl | cases hop) hd hy h
theorem oM (hS : S w) (hx : ev env x = some v) (h : Ops r P N all rest ds ((d, v) :: env) w Q) (hd : Nat.blt d N = true := by rfl) : Ops r P N all (⟨some d, .move x, ty, pos, after, none⟩ :: rest) ds env w Q := ZP hS rfl hd (y8 hx) h
theorem oA (hS : S w) (hx : ev env x = some v) (h : Ops r P N all rest ds ((d, v) :: env) w Q) (hd : Nat.blt d N = true := by rfl) : Ops r P N all (⟨some d, .assign x, ty, pos, after, none⟩ :: rest) ds env w Q := ZP hS rfl hd (yO hx) h
theorem zr {id : Nat} {l : List Oper} {y : Code} (h : Ops r P N l.toArray l ds env w (thn r P N y Q)) : Holds r P N (.seq (.region id l.toArray false) y) ds env w Q := seq (region h)
theorem zt {y : Code} (h : Holds r P N y ds env w Q) : Ops r P N all [] ds env w (thn r P N y Q) := zE (zJ h)
theorem zq {id : Nat} {l : List Oper} (h : Ops r P N l.toArray l ds env w Q) : Ops r P N all [] ds env w (thn r P N (.region id l.toArray false) Q) := zE (zJ (region h))
theorem zs {id : Nat} {l : List Oper} {y : Code} (h : Ops r P N l.toArray l ds env w (thn r P N y Q)) : Ops r P N all [] ds env w (thn r P N (.seq (.region id l.toArray false) y) Q) := zE (zJ (seq (region h)))
theorem zu {id : Nat} {l : List Oper} {y : Code} (h : Ops r P N l.toArray l ds env w (thn r P N y Q)) : thn r P N (.seq (.region id l.toArray false) y) Q .normal ds env w := zJ (seq (region h))
theorem zb {i id : Nat} {l : List Oper} {y : Code} (h : Ops r P N l.toArray l ds env w (thn r P N y Q)) : Ops r P N all [] ds env w (blk i (thn r P N (.seq (.region id l.toArray false) y) Q)) := zE (yC (zJ (seq (region h))))
theorem fz {f : FuncId} {fn : Func} {c : Code} {args : List Value} {R : Value → World → Prop} (hf : P.funcs[f]? = some fn) (hb : fn.body = some c) (hname : (fn.name == "runtime.NumGoroutine") = false) (hN : fn.ntmps = N) (hargs : Nat.ble args.length N = true)
    (h : Heap [base w] w → Holds none P N c [] (argEnv 0 args) w (bodyQ P fn N w R)) : Fn P f args.toArray w R := VI hf hb (ent hf hname hb) hN hargs h
theorem rt {i : Nat} (h : ev env (.tmp i) = some v) : RV P env w (.tmp i) v := h
theorem cw {H : List Item} {n b t j : Nat} {cs : List Value} (hn : H[n]? = some (bx b t cs)) (hj : cs[j]? = some v) : ∀ w, Heap H w → w.cell? ⟨b, j, none⟩ = some v := fun _ hw => Heap.VV hw hn hj
end
section
variable {r : Option Nat} {P : Program} {N : Nat} {S : World → Prop} {ops : Array Oper} {ds : List Deferred} {env : Env} {K : Env → Prop} {i : Nat} {is : List Nat} {d : Nat} {x : Operand} {ty : TypeId} {pos : String} {after : Array Edge} {v : Value} {w : World} {Q : Post} {fuel : Nat} {listed : Array Bool}
theorem qM (hi : ops[i]? = some ⟨some d, .move x, ty, pos, after, none⟩) (hN : Nat.blt d N = true) (hx : ev env x = some v) (h : Qs P N S ops ds K is ((d, v) :: env)) : Qs P N S ops ds K (i :: is) env := zI hi hN (y8 hx) h
theorem qW {j : Nat} {want : Bool} {s : Nat} {b : Bool} (hi : ops[i]? = some ⟨some d, .move x, ty, pos, after, some (j, want)⟩) (hj : (ops[j]?).bind (·.dst) = some s) (hs : env.find s = some (.bool b)) (hb : b = want) (hN : Nat.blt d N = true) (hx : ev env x = some v) (h : Qs P N S ops ds K is ((d, v) :: env)) : Qs P N S ops ds K (i :: is) env := yY hi hj hs hb hN (y8 hx) h
theorem z1 (j : Nat) {o : Oper} (hr : Region.ready .any ops listed = [j]) (ho : ops[j]? = some o) (h : Ops r P N ops [o] ds env w (stepPost r P N S ops fuel (listed.setIfInBounds j true) Q)) : AnyE r P N S ops (fuel + 1) listed ds env w Q :=
  X0 [j] hr rfl ⟨⟨_, ho, h⟩, trivial⟩
end
end Go.Fip

namespace Go.Fip
open Go.ChangeShapes Go.WideShapes Go.ChangeAt Go.RowKit
section
variable {H : Type} {enc : TypeId × Value → H} {P : Program} {w : World}
theorem uJ (hl:laidOutB P=true) {W W':World} (hb:Below W.heap.size W W'):∀ (ts:List TypeId) (vs:List Value) (ds:List (DataW H)) (ps:List MemPlace),(ts.all fun t=>P.readableRec t && decide (t<P.types.size))=true →
  DataW.TrodAll enc P W 0 (fun _=>true) true ts vs ds ps→(∀ x∈ps,x.block<W.heap.size)→DataW.TrodAll enc P W' 0 (fun b=>decide (b<W.heap.size)) true ts vs ds ps
 | [],vs,ds,ps,_,h,_=>by
  obtain ⟨rfl,rfl,rfl⟩:=trodAll_nil h
  rfl
 | t::ts,vs,ds,ps,hr,h,hlt=>by
  obtain ⟨v,vs,d,ds,p,q,rfl,rfl,rfl,h1,h2⟩:=trodAll_cons h
  simp only [List.all_cons,Bool.and_eq_true,decide_eq_true_eq] at hr
  exact ⟨p,q,Below.trod hl hr.1.1 hr.1.2 h1 hb (fun x hx=>hlt x (List.mem_append_left _ hx)),uJ hl hb ts vs ds q (by simpa using hr.2) h2 (fun x hx=>hlt x (List.mem_append_right _ hx)),rfl⟩
theorem Z3 {f:Func} {s:ChangeSpec} {apart fresh:Bool} {W W':World} {args:Array Value} {ds:List (DataW H)} {before p:List MemPlace} {tb:TypeId} (hl:laidOutB P=true) (hb:Below W.heap.size W W')
  (hr:(f.params.toList.all fun t=>P.readableRec t && decide (t<P.types.size))=true) (hv:s.vars=[]) (hW:DataW.Whole enc P f.params.toList s.vars apart W args.toList ds [] before)
  (hA:DataW.TrodAll enc P W 0 (fun _=>true) true f.params.toList args.toList ds p) (hp:before=p) (hrt:f.resultTypes = #[tb]) (htb:P.underlying tb=some .bool) (hs:s.fn H (ds++[])={ results:=[.lit (.bool true)],args:=ds }) :
  s.post enc P f apart fresh false false W args (.bool true) W':=by
 subst hp
 refine ⟨ds,[],before,[],before,[],hW,?_,?_,?_,Below.frame hb _,fun h=>by cases h⟩
 ·rw [hs,hrt]; exact trodAll_mk1 (shut_bool htb _)
 ·rw [hs]; exact uJ hl hb _ _ _ _ hr hA (fun x hx=>by simpa using hW.lt x hx)
 ·rw [hs,hv]; rfl
end
end Go.Fip
namespace Go.Fip
open Go.ChangeShapes Go.WideShapes Go.ChangeAt Go.RowKit
section
variable {H : Type} {enc : TypeId × Value → H} {P : Program} {w : World}
theorem ZD {t e e0 b : Nat} {k : IntKind} (ht : P.underlying t = some (.slice e)) (he : P.underlying e = some (.array 2 e0)) (ce : P.cellsOf e = 2) (c0 : P.cellsOf e0 = 1) (hk : P.underlying e0 = some (.int k)) {fuel : Nat} {v : Value} {x : DataW H × List MemPlace}
    (hok : Cell.okWide P w .any b t v) (h : DataW.trod enc P w 0 (fun _ => true) true fuel t [v] = some x) : ∃ xs : List (Int × Int), Rd (fun p => [.int k p.1, .int k p.2]) 2 v xs w := by
  rcases Go.Deep.open_slice ht h with ⟨e1, _⟩ | ⟨a, len, cap, m, n, D, Pl, e1, hb, h2, _, h4, _, h6⟩
  · cases e1
    exact ⟨[], ⟨⟨none, 0, rfl, Nat.le_refl _, .inl ⟨rfl, rfl⟩⟩, fun i x hx => by simp at hx⟩⟩
  · cases e1
    simp [Cell.okWide, Cell.ok, ht] at hok
    have hsp : a.spot = none := hok.2.2.2.1
    obtain ⟨ab, ao, aS0⟩ := a
    simp only at hsp
    subst hsp
    simp only [if_true] at h4
    have ea : ∀ o : Nat, (⟨ab, ao, none⟩ : Addr).add o = ⟨ab, ao + o, none⟩ := fun o => by
      unfold Addr.add
      split
      · subst_vars; rfl
      · rfl
    have each : ∀ i, i < len → ∃ p : Int × Int, w.cell? ⟨ab, ao + i * 2, none⟩ = some (.int k p.1) ∧ w.cell? ⟨ab, ao + i * 2 + 1, none⟩ = some (.int k p.2) := fun i hi => by
      obtain ⟨cs', g1, g2⟩ := h6 i (by omega)
      rw [ce, ea] at g1
      obtain ⟨_, hlen, hcell⟩ := World.cells?_some g1
      obtain ⟨xs, m', _, _, hcl, hxl, hf⟩ := DataW.trod_array he g2
      match cs', hlen, xs, hxl with
      | [v0, v1], _, [y0, y1], _ =>
        have f0 := hf 0 (by omega)
        have f1 := hf 1 (by omega)
        simp [c0] at f0 f1
        have e0 := hcell 0 (by omega)
        have e1 := hcell 1 (by omega)
        obtain ⟨n0, q0, _, _⟩ := DataW.trod_int hk f0
        obtain ⟨n1, q1, _, _⟩ := DataW.trod_int hk f1
        simp only [List.cons.injEq, and_true] at q0 q1
        refine ⟨(n0, n1), ?_, ?_⟩
        · rw [← q0]
          simpa [Addr.add] using e0
        · rw [← q1]
          have : (⟨ab, ao + i * 2, none⟩ : Addr).add 1 = ⟨ab, ao + i * 2 + 1, none⟩ := by
            unfold Addr.add; rfl
          rw [this] at e1
          simpa using e1
    obtain ⟨p, hp⟩ := Go.Deep.choose_lt each
    refine ⟨(List.range len).map p, ⟨⟨some ⟨ab, ao, none⟩, cap, by simp, by simpa using h2, .inr ⟨ab, ao, rfl⟩⟩, fun i x hx j u hj => ?_⟩⟩
    rw [List.getElem?_map] at hx
    by_cases hi : i < len
    · rw [List.getElem?_range hi] at hx
      simp at hx
      subst hx
      obtain ⟨h9, h10⟩ := hp i hi
      match j, hj with
      | 0, hj => simp at hj; subst hj; exact h9
      | 1, hj => simp at hj; subst hj; exact h10
      | j + 2, hj => simp at hj
    · rw [List.getElem?_eq_none (by simp; omega)] at hx
      simp at hx
end
end Go.Fip
namespace Go.Fip
open Go.ChangeShapes Go.WideShapes Go.ChangeAt Go.RowKit
section
variable {H : Type} {enc : TypeId × Value → H} {P : Program} {w : World}
theorem ZZ {t b e0 e1:Nat} {f0 f1:Field} (ht:P.underlying t=some (.struct #[f0,f1])) (o0:f0.offset=0) (o1:f1.offset=1) (s0:P.underlying f0.type=some (.int .i64)) (s1:P.underlying f1.type=some (.slice e0))
  (ha:P.underlying e0=some (.array 2 e1)) (ce:P.cellsOf e0=2) (c2:P.cellsOf e1=1) (hk:P.underlying e1=some (.int .i64)) (c0:P.cellsOf f0.type=1) (c1:P.cellsOf f1.type=1) (hct:P.cellTypes P.depth t=some [f0.type,f1.type]) (hcs:P.cellsOf t=2) {v:Value} {d:DataW H} {ps:List MemPlace}
  (hok:Value.okWide P w .any b t v) (h:DataW.Trod enc P w 0 (fun _=>true) true t v d ps):∃ (n:Int) (y:Value) (xs:List (Int×Int)),v=.agg #[.int .i64 n,y]∧Rd encP 2 y xs w:=by
 obtain ⟨fuel,h⟩:=h
 simp only [Value.okWide,ht] at hok
 obtain ⟨cs,rfl,hsz,ts,hts,_,hrow⟩:=hok
 rw [hct] at hts
 cases hts
 rw [hcs] at hsz
 obtain ⟨x,y,rfl⟩:∃ x y,cs = #[x,y]:=by
  obtain ⟨l⟩:=cs
  match l,hsz with
  | [x,y],_=>exact ⟨x,y,rfl⟩
 have hcells:(Value.agg #[x,y]).cells.toList=[x,y]:=rfl
 rw [hcells] at h
 obtain ⟨xs,n,_,_,_,_,hf⟩:=DataW.trod_struct ht h
 have g0:=hf 0 f0 rfl
 have g1:=hf 1 f1 rfl
 have hl:xs.length=2:=by assumption
 match xs,hl with
 | [a0,a1],_ =>
  simp [o0,o1,c0,c1] at g0 g1
  obtain ⟨u1,hu1,k1⟩:=hrow 1 y rfl
  simp at hu1
  subst hu1
  obtain ⟨n0,e0',_,_⟩:=DataW.trod_int s0 g0
  simp only [List.cons.injEq,and_true] at e0'
  subst e0'
  obtain ⟨xs,hx⟩:=ZD s1 ha ce c2 hk k1 g1
  exact ⟨n0,y,xs,rfl,hx⟩
end
end Go.Fip
namespace Go.Proofs.YteiipodhpbdlbaaGreat
open Go.ChangeShapes Go.WideShapes Go.ChangeAt Go.RowKit Go.Fip
theorem own:ownKnob Tryz.prog.godebug=none:=by kernel_rfl
theorem laid:laidOutB Tryz.prog=true:=by kernel_rfl
section
variable {H : Type} {enc : TypeId × Value → H} {W : World} {b : Nat} {v : Value} {d : DataW H} {ps : List MemPlace}
set_option maxRecDepth 100000 in
theorem argT (hok:Value.okWide Tryz.prog W .any b 24 v) (h:DataW.Trod enc Tryz.prog W 0 (fun _=>true) true 24 v d ps):∃ (n:Int) (y:Value) (xs:List (Int×Int)),v=.agg #[.int .i64 n,y]∧Rd encP 2 y xs W :=
 ZZ Tryz.underlying24 rfl rfl Tryz.underlying3 Tryz.underlying22 Tryz.underlying36 (by kernel_rfl) (by kernel_rfl) Tryz.underlying3 (by kernel_rfl) (by kernel_rfl) (by kernel_rfl) (by kernel_rfl) hok h
end
end Go.Proofs.YteiipodhpbdlbaaGreat
namespace Go.Fip
open Go.RowKit
theorem VE {P:Program} {N:Nat} {ds:List Deferred} {env:Env} {S:World→Prop} {x:Operand} {T n E sz b:Nat} (hT:TArr P T n E sz) (hx:ev env x=some (.pointer (some ⟨b,0,none⟩))):Yv P N ds env (.slice T x none none none) (.slice (some ⟨b,0,none⟩) n n) S:=fun a ha w _ _ _ _ _ _=>by
 have e:(⟨b,0,none⟩:Addr).add 0=⟨b,0,none⟩:=by unfold Addr.add; split <;> rfl
 simp [execOp,ha.ev hx,Instr.sliceAt,run_underlying hT.1,Instr.sliceBounds,run_size hT.2,Result.andThen,Instr.sureAddr,asAddr,e]
theorem Bx.rdI {b t:Nat} {xs:List Int} {w:World} (h:Bx b t (xs.map (Value.int .i64)) w):Rd encI 1 (.slice (some ⟨b,0,none⟩) xs.length xs.length) xs w:=by
 refine ⟨⟨_,_,rfl,Nat.le_refl _,.inr ⟨_,_,rfl⟩⟩,fun i x hi j u hj=>?_⟩
 match j,hj with
 | 0,hj =>
  simp [encI] at hj
  subst hj
  have hlt:=(List.getElem?_eq_some_iff.1 hi).1
  simp only [eb,eo,Nat.mul_one,Nat.add_zero,Nat.zero_add]
  exact yL h (by rw [List.getElem?_map,hi]; rfl)
 | j+1,hj=>simp [encI] at hj
def ints (C:List Int):List Value:=C.map (Value.int .i64)
theorem Y4 {C:List Int} {i:Int} (h:0≤i∧i<(C.length:Int)):(ints C)[i.toNat]? = some (.int .i64 (nth C i)):=by
 unfold ints
 rw [List.getElem?_map,qR h]; rfl
theorem vA {C:List Int}:(ints C).length=C.length:=List.length_map ..
theorem YG {C:List Int} {i x:Int} (h:0≤i∧i<(C.length:Int)):splice (ints C) i.toNat [.int .i64 x]=ints (C.set i.toNat x):=by
 unfold splice ints
 rw [List.map_set,List.set_eq_take_append_cons_drop,if_pos (by rw [List.length_map]; omega)]
 simp
theorem XE {C:List Int}:(ints C).all (·.oneCell')=true:=by
 unfold ints
 rw [List.all_eq_true]
 intro x hx
 obtain ⟨y,_,rfl⟩:=List.mem_map.1 hx
 rfl
theorem XZ {P:Program} {N:Nat} {ds:List Deferred} {env:Env} {S:World→Prop} {x y:Operand} {T n E:Nat} {k:IntKind} {C:List Int} {i:Int} (hT:TArr P T n E 1) (hE:TOne P E) (hx:ev env x=some (ag C)) (hy:ev env y=some (.int k i)) (hn:C.length=n) (hi:0≤i∧i<(n:Int)) :
  Yv P N ds env (.index T x y) (.int .i64 (nth C i)) S:=fun act hact w _ _ _ _ _ _=>by
 have h2:=hE w
 have h3:(C.map (Value.int .i64))[i.toNat]? = some (.int .i64 (nth C i)):=Y4 (by omega)
 simp [execOp,hact.ev hx,hact.ev hy,Instr.index,asIntOf,run_underlying hT.1,run_size hT.2,part,h2,Result.andThen,ag,hi]
 rw [List.getElem?_map] at h3
 obtain ⟨z,hz,he⟩:=Option.map_eq_some_iff.1 h3
 cases he
 rw [hz]
 rfl
section kinds
variable {P : Program} {N : Nat} {ds : List Deferred} {env : Env} {S : World → Prop} {x y : Operand} {k : IntKind} {m n : Int} {T T' : TypeId}
theorem Z7 {m:Int} (h:0≤m∧m≤18446744073709551615):IntKind.u64.wrap m=m:=IntWalk.u64_in m h
end kinds
theorem xM {P:Program} {N:Nat} {ds:List Deferred} {env:Env} {op:Op} {a b:Bool} {S:World→Prop} (h:a=b) (hy:Yv P N ds env op (.bool a) S):Yv P N ds env op (.bool b) S:=h ▸ hy
end Go.Fip
namespace Go.Fip
open Go.RowKit
def seg (pre:List Value) (C:List Int) (post:List Value):List Value:=pre++(ints C++post)
section
variable {pre post : List Value} {C : List Int}
theorem YZ:(seg pre C post).length=pre.length+(C.length+post.length):=by simp [seg,ints]
theorem XT {j:Nat} {v:Value} (h:pre[j]? = some v):(seg pre C post)[j]? = some v:=by
 have hlt:=(List.getElem?_eq_some_iff.1 h).1
 unfold seg
 rw [List.getElem?_append_left hlt]; exact h
theorem VP {i:Int} (h:0≤i∧i<(C.length:Int)):(seg pre C post)[pre.length+i.toNat]? = some (.int .i64 (nth C i)):=by
 unfold seg
 rw [List.getElem?_append_right (by omega),Nat.add_sub_cancel_left,List.getElem?_append_left (by rw [vA]; omega)]
 exact Y4 h
theorem ZT {n j:Nat} {v:Value} (hn:C.length=n) (h:post[j]? = some v):(seg pre C post)[pre.length+(n+j)]? = some v:=by
 unfold seg
 rw [List.getElem?_append_right (by omega),Nat.add_sub_cancel_left,List.getElem?_append_right (by rw [vA]; omega),vA,hn,Nat.add_sub_cancel_left]
 exact h
theorem ZY {j:Nat} {u:Value} (h:(ints C)[j]? = some u):(seg pre C post)[pre.length+j]? = some u:=by
 have hlt:=(List.getElem?_eq_some_iff.1 h).1
 unfold seg
 rw [List.getElem?_append_right (by omega),Nat.add_sub_cancel_left,List.getElem?_append_left hlt]; exact h
theorem YK {i x:Int} (h:0≤i∧i<(C.length:Int)):splice (seg pre C post) (pre.length+i.toNat) [.int .i64 x]=seg pre (C.set i.toNat x) post:=by
 unfold seg
 rw [uP _ _ _ _ _ (by rw [vA]; simp only [List.length_cons,List.length_nil]; omega),YG h]
end
section
variable {r : Option Nat} {P : Program} {N : Nat} {ds : List Deferred} {env : Env} {w : World} {Q : Post} {all : Array Oper} {rest : List Oper} {H : List Item} {x y : Operand} {ty : TypeId} {pos : String} {after : Array Edge} {S : World → Prop}
variable {pre post : List Value} {C : List Int} {T b o t n : Nat} {i z : Int} {v : Value}
theorem kE (hT:TOne P T) (hx:ev env x=some (.pointer (some ⟨b,o,none⟩))) (ho:o=pre.length+i.toNat) (hi:0≤i∧i<(C.length:Int)) (hb:∀ w,S w→Bx b t (seg pre C post) w):Yv P N ds env (.load T x) (.int .i64 (nth C i)) S:=by
 subst ho
 exact zC hT hx (fun w hw=>yL (hb w hw) (VP hi))
theorem yD {j:Nat} (hT:TOne P T) (hx:ev env x=some (.pointer (some ⟨b,o,none⟩))) (ho:o=j) (h:pre[j]? = some v) (hb:∀ w,S w→Bx b t (seg pre C post) w):Yv P N ds env (.load T x) v S:=by
 subst ho
 exact zC hT hx (fun w hw=>yL (hb w hw) (XT h))
theorem uN {j m:Nat} (hT:TOne P T) (hx:ev env x=some (.pointer (some ⟨b,o,none⟩))) (hC:C.length=m) (ho:o=pre.length+(m+j)) (h:post[j]? = some v) (hb:∀ w,S w→Bx b t (seg pre C post) w):Yv P N ds env (.load T x) v S:=by
 subst ho
 exact zC hT hx (fun w hw=>yL (hb w hw) (ZT hC h))
theorem ZK {m:Nat} (hT:TAgg P T m) (hx:ev env x=some (.pointer (some ⟨b,o,none⟩))) (hC:C.length=m) (ho:o=pre.length) (hb:∀ w,S w→Bx b t (seg pre C post) w):Yv P N ds env (.load T x) (ag C) S:=by
 subst ho
 exact zZ (cs:=ints C) hT (by rw [vA]; exact hC) hx (fun w hw j u hj=>yL (hb w hw) (ZY hj))
theorem jS (hp:ev env x=some (.pointer (some ⟨b,o,none⟩))) (hx:ev env y=some (.int .i64 z)) (ho:o=pre.length+i.toNat) (hH:Heap H w) (hn:H[n]? = some (bx b t (seg pre C post))) (hsz:(P.info? T).map (·.size)=some 1) (hi:0≤i∧i<(C.length:Int))
  (h:∀ w',Heap (H.set n (bx b t (seg pre (C.set i.toNat z) post))) w'→Ops r P N all rest ds env w' Q):Ops r P N all (⟨none,.store T x y,ty,pos,after,none⟩::rest) ds env w Q:=by
 subst ho
 exact yS (us:=[.int .i64 z]) hp hx hH hn hsz rfl rfl (by rw [Nat.ble_eq,YZ]; simp only [List.length_cons,List.length_nil]; omega) rfl (fun w' hw=>h w' (by rwa [YK hi] at hw))
end
end Go.Fip
namespace Go.Fip
theorem ZG {P : Program} {MT KT ET : Nat} {f g : Field} {V : Type} {vv : V → Value} {z : V} (hu : P.underlying MT = some (.map KT ET)) (hk : P.underlying KT = some (.struct #[f, g])) (hf' : intField P 0 f = true) (hg2 : intField P 1 g = true) (hs : P.stoodInHeld KT = false)
    (hg : P.eqGuardType P.depth KT = false) (hz : ∀ w, (zeroValue ET).run P w = .ok (vv z) w) : MapT P MT KT ET (fun n : Int × Int => .agg #[.int .i64 n.1, .int .i64 n.2]) vv z := by
  have hf := qK hf'
  have hgi := qK hg2
  have hfo : P.fieldsOf KT = #[f, g] := by simp [Program.fieldsOf, hk]
  refine ⟨hu, ⟨_, hk, fun _ _ => rfl⟩, fun a b w => ?_, fun a w e => ?_, hz, fun a => ?_⟩
  · have := (YQ (n := 2) (fs := [f, g]) (by rw [hfo]; exact hk) (by rw [hfo]) hs hg rfl (fun i f' hi => by
      match i with
      | 0 => simp at hi; subst hi; exact hf
      | 1 => simp at hi; subst hi; exact hgi
      | i + 2 => simp at hi)).eq [a.1, a.2] [b.1, b.2] w rfl rfl
    simpa [ag, Prod.ext_iff] using this
  · obtain ⟨h1, h2, h3, h4⟩ := hf
    obtain ⟨k1, k2, k3, k4⟩ := hgi
    have e1 : (part f.type #[Value.int .i64 a.1, Value.int .i64 a.2] 0).run P w = .ok (.int .i64 a.1) w := by simp [part, h3 w, Result.andThen]
    have e1' : (part g.type #[Value.int .i64 a.1, Value.int .i64 a.2] 1).run P w = .ok (.int .i64 a.2) w := by simp [part, k3 w, Result.andThen]
    have key : ∀ d, (Instr.checkKey e (d + 2) KT (.agg #[.int .i64 a.1, .int .i64 a.2])).run P w = .ok () w := fun d => by
      have e2 : (Instr.checkKey e (d + 1) f.type (.int .i64 a.1)).run P w = .ok () w := by simp [Instr.checkKey, run_underlying h4, Result.andThen]
      have e3 : (Instr.checkKey e (d + 1) g.type (.int .i64 a.2)).run P w = .ok () w := by simp [Instr.checkKey, run_underlying k4, Result.andThen]
      rw [Instr.checkKey]
      simp [run_underlying hk, Result.andThen, h1, h2, e1, e2, k1, k2, e1', e3]
    exact key 9998
  · have key : ∀ d, Instr.sameBits (d + 1) (.agg #[.int .i64 a.1, .int .i64 a.2]) (.agg #[.int .i64 a.1, .int .i64 a.2]) = true := fun d => by simp [Instr.sameBits]
    exact key 9999
end Go.Fip
namespace Go.Fip
open Go.RowKit
end Go.Fip
namespace Go.Fip
open Go.Proofs
namespace T
theorem mixed:Tryz.prog.follows .mixedOrders=true:=by kernel_rfl
theorem sz3:(Tryz.prog.info? 3).map (·.size)=some 1:=by kernel_rfl
theorem yB:TOne Tryz.prog 3:=fun _=>by kernel_rfl
theorem WF:(Tryz.prog.info? 22).map (·.size)=some 1:=by kernel_rfl
theorem y9:TSlice Tryz.prog 22 36 2:=⟨by kernel_rfl,by kernel_rfl⟩
theorem yN:TOne Tryz.prog 22:=fun _=>by kernel_rfl
theorem VY:(Tryz.prog.info? 24).map (·.size)=some 2:=by kernel_rfl
theorem xX:TAgg Tryz.prog 24 2:=⟨fun _=>by kernel_rfl,by kernel_rfl⟩
theorem qP:TField Tryz.prog 24 0 0:=tfield_of Tryz.underlying24 rfl rfl ⟨0,by kernel_rfl⟩
theorem yK:TField Tryz.prog 24 1 1:=tfield_of Tryz.underlying24 rfl rfl ⟨0,by kernel_rfl⟩
theorem VF:(Tryz.prog.info? 28).map (·.size)=some 1:=by kernel_rfl
theorem yE:TSlice Tryz.prog 28 3 1:=⟨by kernel_rfl,by kernel_rfl⟩
theorem xL:TOne Tryz.prog 28:=fun _=>by kernel_rfl
theorem V5:(Tryz.prog.info? 35).map (·.size)=some 2:=by kernel_rfl
theorem vW:TAgg Tryz.prog 35 2:=⟨fun _=>by kernel_rfl,by kernel_rfl⟩
theorem q6:TField Tryz.prog 35 0 0:=tfield_of Tryz.underlying35 rfl rfl ⟨0,by kernel_rfl⟩
theorem vC:TField Tryz.prog 35 1 1:=tfield_of Tryz.underlying35 rfl rfl ⟨0,by kernel_rfl⟩
theorem VK:(Tryz.prog.info? 36).map (·.size)=some 2:=by kernel_rfl
theorem xA:TArr Tryz.prog 36 2 3 1:=⟨by kernel_rfl,by kernel_rfl⟩
theorem jL:TAgg Tryz.prog 36 2:=⟨fun _=>by kernel_rfl,by kernel_rfl⟩
theorem uV:TOne Tryz.prog 42:=fun _=>by kernel_rfl
theorem jR:TArr Tryz.prog 61 8 3 1:=⟨by kernel_rfl,by kernel_rfl⟩
theorem WA:TAgg Tryz.prog 61 8:=⟨fun _=>by kernel_rfl,by kernel_rfl⟩
theorem xV:TField Tryz.prog 63 0 0:=tfield_of Tryz.underlying63 rfl rfl ⟨1,by kernel_rfl⟩
theorem jM:TField Tryz.prog 63 1 2:=tfield_of Tryz.underlying63 rfl rfl ⟨7,by kernel_rfl⟩
theorem Z0:TOne Tryz.prog 133:=fun _=>by kernel_rfl
theorem V7:(Tryz.prog.info? 133).map (·.size)=some 1:=by kernel_rfl
theorem VG:TArr Tryz.prog 135 9 3 1:=⟨by kernel_rfl,by kernel_rfl⟩
theorem YP:TOne Tryz.prog 136:=fun _=>by kernel_rfl
theorem v6:TField Tryz.prog 138 0 0:=tfield_of Tryz.underlying138 rfl rfl ⟨1,by kernel_rfl⟩
theorem VM:TField Tryz.prog 138 1 2:=tfield_of Tryz.underlying138 rfl rfl ⟨8,by kernel_rfl⟩
theorem YM:TField Tryz.prog 138 2 11:=tfield_of Tryz.underlying138 rfl rfl ⟨0,by kernel_rfl⟩
theorem VT:(Tryz.prog.info? 236).map (·.size)=some 2:=by kernel_rfl
theorem VQ:TAgg Tryz.prog 236 2:=⟨fun _=>by kernel_rfl,by kernel_rfl⟩
theorem VL:TField Tryz.prog 236 0 0:=tfield_of Tryz.underlying236 rfl rfl ⟨0,by kernel_rfl⟩
theorem ZR:TField Tryz.prog 236 1 1:=tfield_of Tryz.underlying236 rfl rfl ⟨0,by kernel_rfl⟩
theorem yZ:El Tryz.prog 22 36 2 encP:=X6 (z:=(.agg #[(.int .i64 0),(.int .i64 0)])) (bytes:=16) (by kernel_rfl) (by kernel_rfl) rfl rfl rfl (fun _=>rfl) (by simp [encP,Value.oneCell'])
theorem zA:El Tryz.prog 28 3 1 encI:=X6 (z:=(.int .i64 0)) (bytes:=8) (by kernel_rfl) (by kernel_rfl) rfl rfl rfl (fun _=>rfl) (by simp [encI,Value.oneCell'])
theorem vO:∀ i,Tryz.prog.info? 3=some i→i.zero.map (·.cells.toList)=some (encI 0):=WP (z:=(.int .i64 0)) (by kernel_rfl) rfl
theorem VR:MapT Tryz.prog 136 236 3 (fun n:Int×Int=>.agg #[.int .i64 n.1,.int .i64 n.2]) (fun n:Int=>.int .i64 n) 0:=ZG (by kernel_rfl) Tryz.underlying236 (by kernel_rfl) (by kernel_rfl) (by kernel_rfl) (by kernel_rfl) (fun _=>by kernel_rfl)
end T
end Go.Fip
namespace Go.Fip
namespace S
abbrev Pr:=Int×Int
theorem all_snoc {p:Nat→Prop} {k:Nat} (h:∀ i,i<k→p i) (hk:p k):∀ i,i<k+1→p i:=fun i hi=>by
 rcases Nat.lt_succ_iff_lt_or_eq.1 hi with h1 | rfl
 ·exact h i h1
 ·exact hk
theorem all_zero {p:Nat→Prop}:∀ i,i<0→p i:=fun i hi=>absurd hi (Nat.not_lt_zero i)
def at2 (l:List Pr) (w:Int):Int:=if w % 2=0 then (nth l (w / 2)).1 else (nth l (w / 2)).2
def okJob (p:Pr):Prop:=1≤p.1∧p.1≤500∧1≤p.2∧p.2≤500
instance (p:Pr):Decidable (okJob p):=by unfold okJob; infer_instance
def okTime (p:Pr):Prop:=0≤p.1∧p.1≤100000∧0≤p.2∧p.2≤100000
instance (p:Pr):Decidable (okTime p):=by unfold okTime; infer_instance
def AllJ (l:List Pr):Prop:=∀ i,i<l.length→okJob (nth l (i:Int))
instance (l:List Pr):Decidable (AllJ l):=by unfold AllJ; infer_instance
def AllT (l:List Pr):Prop:=∀ i,i<l.length→okTime (nth l (i:Int))
instance (l:List Pr):Decidable (AllT l):=by unfold AllT; infer_instance
def Jobs (l:List Pr):Prop:=1≤l.length∧l.length≤8∧AllJ l
instance (l:List Pr):Decidable (Jobs l):=by unfold Jobs; infer_instance
def checkJobs (l:List Pr):Int:=if l.length<1∨8<l.length then 6 else if AllJ l then 0 else 3
theorem Jobs.at2 {l:List Pr} (h:Jobs l) {w:Int} (h0:0≤w) (h1:w<2 * (l.length:Int)):1≤at2 l w∧at2 l w≤500:=by
 have h2:=h.2.2 (w / 2).toNat (by omega)
 have e:(((w / 2).toNat:Nat):Int)=w / 2:=by omega
 rw [e] at h2
 unfold S.at2 okJob at *
 split <;> omega
theorem AllT.at2 {l:List Pr} (h:AllT l) {w:Int} (h0:0≤w) (h1:w<2 * (l.length:Int)):0≤at2 l w∧at2 l w≤100000:=by
 have h2:=h (w / 2).toNat (by omega)
 have e:(((w / 2).toNat:Nat):Int)=w / 2:=by omega
 rw [e] at h2
 unfold S.at2 okTime at *
 split <;> omega
def clash (l p:List Pr) (v w:Int):Prop:=(v % 2=w % 2∨v / 2=w / 2)∧at2 p v<at2 p w+at2 l w∧at2 p w<at2 p v+at2 l v
instance (l p:List Pr) (v w:Int):Decidable (clash l p v w):=by unfold clash; infer_instance
def Right (l p:List Pr):Prop:=∀ v,v<2 * l.length→∀ w,w<v→¬ clash l p (v:Int) (w:Int)
instance (l p:List Pr):Decidable (Right l p):=by unfold Right; infer_instance
theorem Jobs.nth {l:List Pr} (h:Jobs l) {i:Int} (h0:0≤i) (h1:i<(l.length:Int)):okJob (nth l i):=by
 have h2:=h.2.2 i.toNat (by omega)
 have e:((i.toNat:Nat):Int)=i:=by omega
 rw [e] at h2
 exact h2
end S
end Go.Fip
namespace Go.Fip.S
end Go.Fip.S
namespace Go.Fip.S
end Go.Fip.S
namespace Go.Fip.S
def place (l:List Int) (x:Int):Int:=idx (fun y=>decide (y=x)) l
theorem place_lt (l:List Int) (x:Int) : -1≤place l x∧place l x<(l.length:Int):=VO
def okFor (B T F:List Int) (i:Int):Prop:=0≤place B i∧0≤place T i∧0≤nth F i∧nth F i≤1
instance (B T F:List Int) (i:Int):Decidable (okFor B T F i):=by unfold okFor; infer_instance
def AllO (n:Nat) (B T F:List Int):Prop:=∀ i,i<n→okFor B T F (i:Int)
instance (n:Nat) (B T F:List Int):Decidable (AllO n B T F):=by unfold AllO; infer_instance
def Ord (n:Nat) (B T F:List Int):Prop:=B.length=n∧T.length=n∧F.length=n∧AllO n B T F
instance (n:Nat) (B T F:List Int):Decidable (Ord n B T F):=by unfold Ord; infer_instance
def checkOrder (l:List Pr) (B T F:List Int):Int :=
 if checkJobs l≠0 then checkJobs l else if B.length≠l.length∨T.length≠l.length∨F.length≠l.length then 15 else if AllO l.length B T F then 0 else 2
def row (B T:List Int) (b:Int):List Int:=if b=1 then T else B
def Waits (B T F:List Int) (w v:Int):Prop :=
 if w % 2≠v % 2 then w / 2=v / 2∧nth F (w / 2)=v % 2 else place (row B T (w % 2)) (w / 2)=place (row B T (w % 2)) (v / 2)+1
instance (B T F:List Int) (w v:Int):Decidable (Waits B T F w v):=by unfold Waits; infer_instance
end Go.Fip.S
namespace Go.Fip.S
end Go.Fip.S
namespace Go.Fip
namespace Pt
abbrev Pr:=Int×Int
end Pt
end Go.Fip
namespace Go.Fip
end Go.Fip
namespace Go.Fip
namespace Ps
section
variable {α : Type} [Inhabited α] (lt : α → α → Bool)
def swp (l:List α) (j:Nat):List α:=(l.set j (nth l ((j:Int) - 1))).set (j - 1) (nth l (j:Int))
def down:Nat→List α→List α
 | 0,l=>l
 | j+1,l=>if lt (nth l ((j+1:Nat):Int)) (nth l (((j+1:Nat):Int) - 1)) then down j (swp l (j+1)) else l
def srt (l:List α):Nat→List α
 | 0=>l
 | k+1=>down lt (k+1) (srt l k)
def sorted (l:List α):List α:=srt lt l (l.length - 1)
end
section
variable {α : Type} [Inhabited α] {lt : α → α → Bool}
theorem Y1 {l:List α} {j:Nat}:(swp l j).length=l.length:=by simp [swp]
theorem kG:∀ (j:Nat) (l:List α),(down lt j l).length=l.length
 | 0,l=>rfl
 | j+1,l=>by
  simp only [down]
  split
  ·rw [kG j,Y1]
  ·rfl
theorem srt_len {l:List α}:∀ k,(srt lt l k).length=l.length
 | 0=>rfl
 | k+1=>by rw [srt,kG,srt_len k]
theorem sorted_len {l:List α}:(sorted lt l).length=l.length:=srt_len _
theorem down_t {l:List α} {j:Nat} (hj:0<j) (h:lt (nth l (j:Int)) (nth l ((j:Int) - 1))=true):down lt (j - 1) (swp l j)=down lt j l:=by
 cases j with
 | zero=>omega
 | succ j=>simp only [down]; rw [if_pos h]; rfl
theorem down_f {l:List α} {j:Nat} (h:0<j→lt (nth l (j:Int)) (nth l ((j:Int) - 1))=false):down lt j l=l:=by
 cases j with
 | zero=>rfl
 | succ j=>simp only [down]; rw [if_neg (by rw [h (by omega)]; simp)]
theorem set_swp {l:List α} {j:Nat} (hj:0<j):(l.set ((j:Int)).toNat (nth l ((j:Int) - 1))).set ((j:Int) - 1).toNat (nth l (j:Int))=swp l j:=by
 unfold swp
 rw [show ((j:Int)).toNat=j by omega,show ((j:Int) - 1).toNat=j - 1 by omega]
end
end Ps
end Go.Fip
namespace Go.Fip
namespace S
section
variable (l : List Pr) (B T F : List Int)
def SolF (s:Nat→Int):Prop:=∀ w,w<2 * l.length→0≤s w∧(∀ v,v<2 * l.length→Waits B T F (w:Int) (v:Int)→s v+at2 l (v:Int)≤s w) ∧
 (s w=0∨∃ v,v<2 * l.length∧Waits B T F (w:Int) (v:Int)∧s w=s v+at2 l (v:Int))
def rank (s:Nat→Int) (n w:Nat):Nat:=((List.range n).filter fun v=>decide (s v<s w)).length
theorem XQ {s:Nat→Int} {n w:Nat} (hw:w<n):rank s n w<n:=by
 unfold rank
 have h:((List.range n).filter fun v=>decide (s v<s w)).length≤(List.range n).length:=List.length_filter_le _ _
 rcases Nat.lt_or_eq_of_le h with h1 | h1
 ·simpa using h1
 ·have:=List.length_filter_eq_length_iff.1 h1 w (List.mem_range.2 hw)
  simp at this
structure PI (r w v:Nat) (c:Bool) (A:List Int):Prop where
 len:A.length=2 * l.length
 lo:∀ x,x<2 * l.length→0≤nth A (x:Int)
 hi:∀ x,x<2 * l.length→nth A (x:Int)≤500 * (256 * (r:Int)+16 * w+v)
 sup:∀ x,x<2 * l.length→nth A (x:Int)=0∨∃ y,y<2 * l.length∧Waits B T F (x:Int) (y:Int)∧nth A (x:Int)≤nth A (y:Int)+at2 l (y:Int)
 un:c=false→∀ x,x<2 * l.length→∀ y,y<2 * l.length→(x<w∨(x=w∧y<v))→Waits B T F (x:Int) (y:Int)→nth A (y:Int)+at2 l (y:Int)≤nth A (x:Int)
 pr:∀ s,SolF l B T F s→(∀ x,x<2 * l.length→nth A (x:Int)≤s x)∧(∀ x,x<2 * l.length→rank s (2 * l.length) x<r→nth A (x:Int)=s x) ∧
  (∀ x,x<2 * l.length→x<w→rank s (2 * l.length) x=r→nth A (x:Int)=s x) ∧
  (w<2 * l.length→rank s (2 * l.length) w=r→∀ y,y<2 * l.length→y<v→Waits B T F (w:Int) (y:Int)→s y+at2 l (y:Int)≤nth A (w:Int))
 ch:c=true→∀ s,SolF l B T F s→∃ x,x<2 * l.length∧r≤rank s (2 * l.length) x
variable {l B T F}
theorem PI.row {r w:Nat} {c:Bool} {A:List Int} {v:Nat} (h:PI l B T F r w v c A) (hj:Jobs l) (hv:v=2 * l.length) (hw:w<2 * l.length):PI l B T F r (w+1) 0 c A where
 len:=h.len
 lo:=h.lo
 hi:=fun x hx=>by have:=h.hi x hx; have:=hj.2.1; omega
 sup:=h.sup
 un:=fun hc x hx y hy hxy hW=>h.un hc x hx y hy (by omega) hW
 pr:=fun s hs=>by
  obtain ⟨h1,h2,h3,h4⟩:=h.pr s hs
  refine ⟨h1,h2,fun x hx hxw hxr=>?_,fun _ _ y _ hyv=>by omega⟩
  rcases Nat.lt_or_eq_of_le (Nat.le_of_lt_succ hxw) with h5 | rfl
  ·exact h3 x hx h5 hxr
  ·refine Int.le_antisymm (h1 x hx) ?_
   rcases (hs x hx).2.2 with h6 | ⟨y,hy,hW,he⟩
   ·rw [h6]; exact h.lo x hx
   ·have:=h4 hx hxr y hy (by omega) hW; omega
 ch:=h.ch
theorem PI.none {r w:Nat} {A:List Int} (h:PI l B T F r w 0 true A) (hr:r=2 * l.length):¬ ∃ s,SolF l B T F s:=by
 rintro ⟨s,hs⟩
 obtain ⟨x,hx,hle⟩:=h.ch rfl s hs
 have:=XQ (s:=s) hx
 omega
variable (l B T F)
def SolP (p:List Pr):Prop:=p.length=l.length∧∀ w,w<2 * l.length→0≤at2 p (w:Int)∧(∀ v,v<2 * l.length→Waits B T F (w:Int) (v:Int)→at2 p (v:Int)+at2 l (v:Int)≤at2 p (w:Int)) ∧
 (at2 p (w:Int)=0∨∃ v,v<2 * l.length∧Waits B T F (w:Int) (v:Int)∧at2 p (w:Int)=at2 p (v:Int)+at2 l (v:Int))
instance (p:List Pr):Decidable (SolP l B T F p):=by unfold SolP; infer_instance
open Classical in
noncomputable def playOf:Option (List Pr):=if h:∃ p,SolP l B T F p then some (Classical.choose h) else none
variable {l B T F}
end
end S
end Go.Fip
namespace Go.Fip.S
section
variable {l : List Pr} {B T F c : List Int}
variable (l B T F c)
noncomputable def play:List Pr×Int:=if checkOrder l B T F≠0 then ([],checkOrder l B T F) else if (playOf l B T F).isSome then ((playOf l B T F).getD [],0) else ([],13)
def prev (i:Nat):Int:=if i=0 then nth c ((c.length:Int) - 1) else nth c ((i:Int) - 1)
def InC (n:Nat) (c:List Int):Prop:=∀ i,i<c.length→0≤nth c (i:Int)∧nth c (i:Int)<2 * (n:Int)
instance (n:Nat) (c:List Int):Decidable (InC n c):=by unfold InC; infer_instance
def Circ:Prop:=∀ i,i<c.length→Waits B T F (nth c (i:Int)) (prev c i)
instance:Decidable (Circ B T F c):=by unfold Circ; infer_instance
variable {l B T F c}
end
end Go.Fip.S
namespace Go.Fip.S
theorem jN {l:List Int} {x:Int} (h:0≤place l x):nth l (place l x)=x∧place l x<(l.length:Int):=by
 rcases vQ (fun y=>decide (y=x)) l with ⟨h1,_⟩ | ⟨k,hk,h1,hp,_⟩
 ·unfold place at h; omega
 ·have e:place l x=(k:Int):=h1
  rw [e]; exact ⟨by simpa using hp,by omega⟩
theorem jQ {l:List Int} {x:Int} (h:0≤place l x):x∈l:=by
 obtain ⟨h1,h2⟩:=jN h
 have e:((place l x).toNat:Int)=place l x:=by omega
 rw [← e,zO (by omega)] at h1
 rw [← h1]; exact List.getElem_mem _
theorem pigeon:∀ (n:Nat) (l:List Int),l.length=n→(∀ i,i<n→(i:Int)∈l)→(∀ x∈l,0≤x∧x<(n:Int))∧l.Nodup
 | 0,l,hl,_=>by
  have:l=[]:=List.eq_nil_of_length_eq_zero hl
  subst this
  exact ⟨fun x hx=>(by cases hx),List.nodup_nil⟩
 | n+1,l,hl,h=>by
  have hm:=h n (by omega)
  obtain ⟨h1,h2⟩:=pigeon n (l.erase (n:Int)) (by rw [List.length_erase_of_mem hm,hl]; rfl) (fun i hi=>(List.mem_erase_of_ne (by omega)).2 (h i (by omega)))
  refine ⟨fun x hx=>?_,?_⟩
  ·by_cases e:x=(n:Int)
   ·omega
   ·have:=h1 x ((List.mem_erase_of_ne e).2 hx); omega
  ·refine ((List.perm_cons_erase hm).nodup_iff).2 (List.nodup_cons.2 ⟨fun hx=>?_,h2⟩)
   have:=h1 _ hx; omega
theorem row_ok {n:Nat} {l:List Int} (hl:l.length=n) (h:∀ i,i<n→0≤place l (i:Int)) :
  (∀ i,0≤i→i<(n:Int)→0≤nth l i∧nth l i<(n:Int))∧∀ i,0≤i→i<(n:Int)→place l (nth l i)=i:=by
 obtain ⟨h1,h2⟩:=pigeon n l hl (fun i hi=>jQ (h i hi))
 have hin:∀ i,0≤i→i<(n:Int)→0≤nth l i∧nth l i<(n:Int):=fun i h0 hi=>by
  have e:(i.toNat:Int)=i:=by omega
  rw [← e,zO (by omega)]
  exact h1 _ (List.getElem_mem _)
 refine ⟨hin,fun i h0 hi=>?_⟩
 have hb:=hin i h0 hi
 have hp:0≤place l (nth l i):=by
  have:=h (nth l i).toNat (by omega)
  rwa [show (((nth l i).toNat:Nat):Int)=nth l i by omega] at this
 obtain ⟨h3,h4⟩:=jN hp
 have e:(i.toNat:Int)=i:=by omega
 have e2:((place l (nth l i)).toNat:Int)=place l (nth l i):=by omega
 have h5:l[(place l (nth l i)).toNat]'(by omega)=l[i.toNat]'(by omega):=by
  rw [← zO (by omega), ← zO (by omega),e,e2]; exact h3
 have hp2:=List.pairwise_iff_getElem.1 h2
 rcases Nat.lt_trichotomy (place l (nth l i)).toNat i.toNat with hlt | heq | hlt
 ·exact absurd h5 (hp2 _ _ (by omega) (by omega) hlt)
 ·omega
 ·exact absurd h5.symm (hp2 _ _ (by omega) (by omega) hlt)
theorem Ord.row {n:Nat} {B T F:List Int} (h:Ord n B T F) (b:Int):(row B T b).length=n∧(∀ i,0≤i→i<(n:Int)→0≤nth (row B T b) i∧nth (row B T b) i<(n:Int)) ∧
  (∀ i,0≤i→i<(n:Int)→place (row B T b) (nth (row B T b) i)=i)∧∀ i,0≤i→i<(n:Int)→0≤place (row B T b) i∧place (row B T b) i<(n:Int):=by
 obtain ⟨h1,h2,h3,h4⟩:=h
 have hB:=row_ok h1 (fun i hi=>(h4 i hi).1)
 have hT:=row_ok h2 (fun i hi=>(h4 i hi).2.1)
 have pB:∀ i,0≤i→i<(n:Int)→0≤place B i∧place B i<(n:Int):=fun i h0 hi=>by
  have:=(h4 i.toNat (by omega)).1
  rw [show (((i.toNat:Nat)):Int)=i by omega] at this
  have:=place_lt B i; omega
 have pT:∀ i,0≤i→i<(n:Int)→0≤place T i∧place T i<(n:Int):=fun i h0 hi=>by
  have:=(h4 i.toNat (by omega)).2.1
  rw [show (((i.toNat:Nat)):Int)=i by omega] at this
  have:=place_lt T i; omega
 unfold S.row
 split
 ·exact ⟨h2,hT.1,hT.2,pT⟩
 ·exact ⟨h1,hB.1,hB.2,pB⟩
def preL (L F:List Int) (x:Int):List Int :=
 (if 0<place L (x / 2) then [2 * nth L (place L (x / 2) - 1)+x % 2] else [])++(if ¬ nth F (x / 2)=x % 2 then [if x % 2=0 then x+1 else x - 1] else [])
def pre (B T F:List Int) (x:Int):List Int:=preL (row B T (x % 2)) F x
def readyL (E:List (Int×Int)):List Int→Int→Int×Bool
 | [],a=>(a,true)
 | v::vs,a=>match find v E with
  | none=>(0,false)
  | some e=>readyL E vs (max a e)
def ready (E:List (Int×Int)) (B T F:List Int) (x:Int):Int×Bool:=readyL E (pre B T F x) 0
end Go.Fip.S
namespace Go.Fip.S
theorem place_iff {l:List Int} {x:Int}:0≤place l x↔x∈l:=by
 constructor
 ·exact jQ
 ·intro h
  obtain ⟨i,hi,rfl⟩:=List.getElem_of_mem h
  exact q3.2 ⟨i,hi,by rw [zO hi]; simp⟩
end Go.Fip.S
namespace Go.Fip.S
abbrev Mm:=List (Int×Int)
end Go.Fip.S
namespace Go.Fip.S
def Rnd (l:List Pr) (B T F:List Int) (E L:Mm) (a b:Int) (k:Nat) (E3 L3:Mm) (a3 b3:Int):Prop :=
 (E3=E∧L3=L∧a3=a∧b3=b∧∀ x,x<k→(find ((x:Nat):Int) L3).getD 0=0∨(ready E3 B T F (x:Int)).2=false)∨(L3.length<L.length∧a+b<a3+b3)
section
variable {l : List Pr} {B T F : List Int} {E L E3 L3 : Mm} {a b a3 b3 : Int} {k : Nat}
theorem moved (h:Rnd l B T F E L a b k E3 L3 a3 b3) (hs:¬ [a,b]=[a3,b3]):L3.length<L.length:=by
 rcases h with ⟨_,_,h3,h4,_⟩ | h
 ·exact absurd (by rw [h3,h4]) hs
 ·exact h.1
end
end Go.Fip.S
namespace Go.Fip.S
end Go.Fip.S
namespace Go.Fip
namespace S
def XX (l:List Pr) (x y:Int):Bool:=decide ((nth l y).1<(nth l x).1)
def X2 (l:List Pr) (x y:Int):Bool:=decide ((nth l y).2<(nth l x).2)
end S
end Go.Fip
namespace Go.Fip.S
def shortsTo (l:List Pr):Nat→List Int
 | 0=>[]
 | k+1=>if (nth l (k:Int)).1≤(nth l (k:Int)).2 then shortsTo l k++[(k:Int)] else shortsTo l k
def longsTo (l:List Pr):Nat→List Int
 | 0=>[]
 | k+1=>if (nth l (k:Int)).1≤(nth l (k:Int)).2 then longsTo l k else longsTo l k++[(k:Int)]
section
variable {l : List Pr}
variable (l)
def shortR (k:Nat):Int:=bestTo (XX l) (shortsTo l k) ((shortsTo l k).length - 1)
def longR (k:Nat):Int:=bestTo (X2 l) (longsTo l k) ((longsTo l k).length - 1)
def useShort (k:Nat):Prop:=(longsTo l k).length=0∨(0<(shortsTo l k).length∧(nth l (longR l k)).2≤(nth l (shortR l k)).1)
instance (k:Nat):Decidable (useShort l k):=by unfold useShort; infer_instance
variable {l}
end
end Go.Fip.S
namespace Go.Fip.S
end Go.Fip.S
namespace Go.Fip
namespace Pt
section
variable (a b m : Int)
def n1 (p q r s:Int):Int:=min ((a * q - p * b) / (r * b - a * s)) ((m - q) / s)
end
end Pt
end Go.Fip
namespace Go.Fip
end Go.Fip
namespace Go.Proofs
open Go.Shelf
def Tryz.lays125_ren:Go.Shelf.Ren:=⟨fun | 125=>179 | 128=>222 | 129=>223 | n=>n,fun | 46=>214 | 3=>3 | 51=>255 | 53=>257 | 4=>4 | 5=>5 | 9=>9 | n=>n,fun | n=>n⟩
theorem Tryz.lays125 : Go.Proofs.Lays.n125 Tryz.prog Tryz.lays125_ren := {
  mixed := by kernel_rfl
  f125 := Tryz.func179.trans (congrArg some (by kernel_rfl))
  f128 := Tryz.func222.trans (congrArg some (by kernel_rfl))
  f129 := Tryz.func223.trans (congrArg some (by kernel_rfl))
  t3 := Tryz.underlying3
  a3 := Tryz.isAgg3
  z3 := Tryz.sizeOf3
  v3 := Tryz.zeroValue3
  t4 := Tryz.underlying4
  a4 := Tryz.isAgg4
  z4 := Tryz.sizeOf4
  v4 := Tryz.zeroValue4
  t5 := Tryz.underlying5
  a5 := Tryz.isAgg5
  z5 := Tryz.sizeOf5
  v5 := Tryz.zeroValue5
  t9 := Tryz.underlying9
  a9 := Tryz.isAgg9
  z9 := Tryz.sizeOf9
  v9 := Tryz.zeroValue9
  t46 := Tryz.underlying214
  a46 := Tryz.isAgg214
  z46 := Tryz.sizeOf214
  v46 := Tryz.zeroValue214
  t51 := Tryz.underlying255
  a51 := Tryz.isAgg255
  z51 := Tryz.sizeOf255
  v51 := Tryz.zeroValue255
  t53 := Tryz.underlying257
  a53 := Tryz.isAgg257
  z53 := Tryz.sizeOf257
  v53 := Tryz.zeroValue257 }
theorem Tryz.bits_Len (x:Int) (w:World) (h0:0≤x) (h1:x≤18446744073709551615) :
  Calls Tryz.prog 179 #[.int .u64 x] w fun e w'=>e=.returned (.int .i64 (Lib.bitLen x.toNat))∧w'=w:=Any.bits_Len Tryz.lays125 x w h0 h1
end Go.Proofs
namespace Go.Fip
open Go.RowKit
section drawY
variable {r : Option Nat} {P : Program} {ops : Array Oper} {S : World → Prop} {X : List Nat}
def AnyY (r:Option Nat) (P:Program) (S:World→Prop) (X:List Nat) (ops:Array Oper) (K0:Act→World→Prop):Nat→Array Bool→Act→World→Prop
 | 0,listed,a,w=>Region.ready .any ops listed=[]∧K0 a w
 | fuel+1,listed,a,w=>(Region.ready .any ops listed=[]→K0 a w) ∧
  ∀ i∈Region.ready .any ops listed,wpOpIn (Fr r) 0 P ops (only K0) i (fun a' w'=>(X.contains i=false→S w→S w')∧AnyY r P S X ops K0 fuel (listed.setIfInBounds i true) a' w') a w
theorem jJ {K0:Act→World→Prop}:∀ (fuel:Nat) (listed:Array Bool) (a:Act) (w:World),AnyY r P S X ops K0 fuel listed a w→wpAnyIn (Fr r) 0 P .any ops (only K0) fuel listed a w
 | 0,_,_,_,h=>h
 | fuel+1,_,_,_,h=>⟨h.1,fun i hi=>wpOpIn_mono (fun a' w' h'=>jJ fuel _ a' w' h'.2) (h.2 i hi)⟩
def behindY (ops:Array Oper):Nat→Nat→Nat→Bool
 | 0,_,_=>false
 | f+1,i,j=>match ops[j]? with
  | some o=>o.after.any fun e=>Region.binds .any e && (Nat.beq e.on i || behindY ops f i e.on)
  | none=>false
def ClosedY (ops:Array Oper) (listed:Array Bool):Prop:=∀ k ok,ops[k]? = some ok→listed.getD k false=true→∀ e∈ok.after,Region.binds .any e=true→listed.getD e.on false=true
theorem jU {listed:Array Bool} (hc:ClosedY ops listed) {i:Nat} (f:Nat):∀ j oj,behindY ops f i j=true→ops[j]? = some oj→(∀ e∈oj.after,Region.binds .any e=true→listed.getD e.on false=true)→listed.getD i false=true:=by
 induction f with
 | zero=>intro j oj h; cases h
 | succ f ih =>
  intro j oj h hj ha
  unfold behindY at h
  simp only [hj] at h
  obtain ⟨k,hk,h2⟩:=Array.any_eq_true.1 h
  rw [Bool.and_eq_true,Bool.or_eq_true] at h2
  have hl:=ha _ (Array.getElem_mem hk) h2.1
  rcases h2.2 with h3 | h3
  ·rw [← Nat.eq_of_beq_eq_true h3]; exact hl
  ·cases ho:ops[(oj.after[k]).on]? with
   | some o=>exact ih _ o h3 ho (hc _ o ho hl)
   | none =>
    cases f with
    | zero=>cases h3
    | succ f=>unfold behindY at h3; simp only [ho] at h3; cases h3
theorem ClosedY.set {listed:Array Bool} (hc:ClosedY ops listed) {j:Nat} (hj:j∈Region.ready .any ops listed):ClosedY ops (listed.setIfInBounds j true):=fun k ok hk hl e he hb=>by
 obtain ⟨_,oj,hoj,hall⟩:=mem_ready.1 hj
 by_cases hjk:j=k
 ·subst hjk
  rw [hk] at hoj
  cases hoj
  exact getD_set_true (hall e he hb)
 ·rw [getD_set_ne false hjk] at hl
  exact getD_set_true (hc k ok hk hl e he hb)
theorem YJ {K0 : Act → World → Prop} {i : Nat} {oi : Oper} {v : Value} (hi : ops[i]? = some oi) (hnd : noDefer ops = true)
    (hX : ∀ j, X.contains j = true → behindY ops ops.size i j = true) :
    ∀ (fuel : Nat) (listed : Array Bool) (a : Act) (w : World), ClosedY ops listed →
      (∀ j oj, ops[j]? = some oj → j ≠ i → listed.getD j true = false → (∀ e ∈ oj.after, Region.binds .any e = true → e.on ≠ i) → oi.apart ops oj = true) →
      i ∈ Region.ready .any ops listed → YieldsS P ops S oi v a → S w →
      AnyY r P S X ops K0 fuel (listed.setIfInBounds i true) (a.put oi.dst v) w → AnyY r P S X ops K0 (fuel + 1) listed a w := by
  intro fuel
  induction fuel with
  | zero =>
    intro listed a w _ _ hr hy hS H
    refine ⟨fun h => (by rw [h] at hr; cases hr), fun j hj => ?_⟩
    by_cases hji : j = i
    · subst hji; exact hy.wpOp hi (noDefer_spec hnd hi).1 hS ⟨fun _ _ => hS, H⟩
    · have := ready_mono hj hji
      rw [H.1] at this
      cases this
  | succ fuel ih =>
    intro listed a w hc hfree hr hy hS H
    refine ⟨fun h => (by rw [h] at hr; cases hr), fun j hj => ?_⟩
    by_cases hji : j = i
    · subst hji; exact hy.wpOp hi (noDefer_spec hnd hi).1 hS ⟨fun _ _ => hS, H⟩
    · have h1 := H.2 j (ready_mono hj hji)
      obtain ⟨hjun, oj, hoj, hall⟩ := mem_ready.1 hj
      have hnot : ∀ e ∈ oj.after, Region.binds .any e = true → e.on ≠ i := fun e he hb heq => by
        have h1 := hall e he hb
        have h0 := (mem_ready.1 hr).1
        rw [heq] at h1
        rcases Nat.lt_or_ge i listed.size with h' | h'
        · simp [h'] at h0 h1; rw [h0] at h1; cases h1
        · simp [Array.getElem?_eq_none h'] at h1
      have hjX : X.contains j = false := by
        cases hcj : X.contains j with
        | false => rfl
        | true =>
          have h3 := jU hc _ j oj (hX j hcj) hoj hall
          have h0 := (mem_ready.1 hr).1
          rcases Nat.lt_or_ge i listed.size with h' | h'
          · simp [h'] at h0 h3; rw [h0] at h3; cases h3
          · simp [Array.getElem?_eq_none h'] at h3
      have h2 := wpOp_putS hoj (hfree j oj hoj hji hjun hnot) hnd (noDefer_spec hnd hi).2 hy h1
      have hfree' : ∀ k ok, ops[k]? = some ok → k ≠ i → (listed.setIfInBounds j true).getD k true = false →
          (∀ e ∈ ok.after, Region.binds .any e = true → e.on ≠ i) → oi.apart ops ok = true := fun k ok hk hki hun hno => by
        refine hfree k ok hk hki ?_ hno
        by_cases hjk : j = k
        · subst hjk; exact hjun
        · rw [getD_set_ne true hjk] at hun; exact hun
      refine wpOpIn_mono (fun a' w' h3 => ⟨h3.2.1, ih (listed.setIfInBounds j true) a' w' (hc.set hj) hfree' (ready_mono hr (Ne.symm hji)) h3.1 (h3.2.1 hjX hS) ?_⟩) h2
      rw [Array.setIfInBounds_comm _ _ hji]
      exact h3.2.2
theorem kC {K0 : Act → World → Prop} {i : Nat} {oi : Oper} {v : Value} (hi : ops[i]? = some oi) (hnd : noDefer ops = true) :
    ∀ (fuel : Nat) (listed : Array Bool) (a : Act) (w : World),
      (∀ j oj, ops[j]? = some oj → j ≠ i → listed.getD j true = false → (∀ e ∈ oj.after, Region.binds .any e = true → e.on ≠ i) → oi.apart ops oj = true) →
      i ∈ Region.ready .any ops listed → YieldsS P ops (fun _ => True) oi v a →
      AnyY r P S X ops K0 fuel (listed.setIfInBounds i true) (a.put oi.dst v) w → AnyY r P S X ops K0 (fuel + 1) listed a w := by
  intro fuel
  induction fuel with
  | zero =>
    intro listed a w _ hr hy H
    refine ⟨fun h => (by rw [h] at hr; cases hr), fun j hj => ?_⟩
    by_cases hji : j = i
    · subst hji; exact hy.wpOp hi (noDefer_spec hnd hi).1 trivial ⟨fun _ h => h, H⟩
    · have := ready_mono hj hji
      rw [H.1] at this
      cases this
  | succ fuel ih =>
    intro listed a w hfree hr hy H
    refine ⟨fun h => (by rw [h] at hr; cases hr), fun j hj => ?_⟩
    by_cases hji : j = i
    · subst hji; exact hy.wpOp hi (noDefer_spec hnd hi).1 trivial ⟨fun _ h => h, H⟩
    · have h1 := H.2 j (ready_mono hj hji)
      obtain ⟨hjun, oj, hoj, hall⟩ := mem_ready.1 hj
      have hnot : ∀ e ∈ oj.after, Region.binds .any e = true → e.on ≠ i := fun e he hb heq => by
        have h1 := hall e he hb
        have h0 := (mem_ready.1 hr).1
        rw [heq] at h1
        rcases Nat.lt_or_ge i listed.size with h' | h'
        · simp [h'] at h0 h1; rw [h0] at h1; cases h1
        · simp [Array.getElem?_eq_none h'] at h1
      have h2 := wpOp_putS hoj (hfree j oj hoj hji hjun hnot) hnd (noDefer_spec hnd hi).2 hy h1
      have hfree' : ∀ k ok, ops[k]? = some ok → k ≠ i → (listed.setIfInBounds j true).getD k true = false →
          (∀ e ∈ ok.after, Region.binds .any e = true → e.on ≠ i) → oi.apart ops ok = true := fun k ok hk hki hun hno => by
        refine hfree k ok hk hki ?_ hno
        by_cases hjk : j = k
        · subst hjk; exact hjun
        · rw [getD_set_ne true hjk] at hun; exact hun
      refine wpOpIn_mono (fun a' w' h3 => ⟨h3.2.1, ih (listed.setIfInBounds j true) a' w' hfree' (ready_mono hr (Ne.symm hji)) h3.1 ?_⟩) h2
      rw [Array.setIfInBounds_comm _ _ hji]
      exact h3.2.2
end drawY
section drawEY
variable {r : Option Nat} {P : Program} {N : Nat} {S : World → Prop} {X : List Nat} {ops : Array Oper} {ds : List Deferred} {env : Env} {w : World} {Q : Post} {listed : Array Bool} {fuel : Nat}
def AnyEY (r:Option Nat) (P:Program) (N:Nat) (S:World→Prop) (X:List Nat) (ops:Array Oper) (fuel:Nat) (listed:Array Bool) (ds:List Deferred) (env:Env) (w:World) (Q:Post):Prop :=
 ∀ a,Fits N a ds env→AnyY r P S X ops (fun a w=>lift N Q .normal a w) fuel listed a w
def takesOKY (X:List Nat) (ops:Array Oper) (fuel:Nat) (listed:Array Bool):List Nat→Bool
 | []=>true
 | i::is=>match fuel with
  | 0=>false
  | fuel+1=>Region.free .any ops listed i && (Region.ready .any ops listed).contains i && X.all (behindY ops ops.size i) && takesOKY X ops fuel (listed.setIfInBounds i true) is
def closedYB (ops : Array Oper) (listed : Array Bool) : Bool := (List.range ops.size).all fun k => !(listed.getD k false) || (match ops[k]? with
  | some o => o.after.all fun e => !(Region.binds .any e) || listed.getD e.on false
  | none => true)
theorem jF (h:closedYB ops listed=true):ClosedY ops listed:=fun k ok hk hl e he hb=>by
 have h1:=List.all_eq_true.1 h k (List.mem_range.2 (Array.getElem?_eq_some_iff.1 hk).1)
 rw [hk,hl] at h1
 simp only [Bool.not_true,Bool.false_or] at h1
 obtain ⟨q,hq,rfl⟩:=Array.getElem_of_mem he
 have h2:=Array.all_eq_true.1 h1 q hq
 rw [hb] at h2
 simpa using h2
theorem kT (is:List Nat) (hnd:noDefer ops=true) (hs:S w)
  : ∀ (fuel:Nat) (listed:Array Bool) (env:Env),ClosedY ops listed→takesOKY X ops fuel listed is=true →
   Qs P N S ops ds (fun env=>AnyEY r P N S X ops (fuel - is.length) (setAll listed is) ds env w Q) is env→AnyEY r P N S X ops fuel listed ds env w Q:=by
 induction is with
 | nil=>intro fuel listed env _ _ h; exact h
 | cons i is ih =>
  intro fuel listed env hc hok h
  obtain ⟨o,d,v,ho,hd,hN,hy,h⟩:=h
  cases fuel with
  | zero=>simp [takesOKY] at hok
  | succ fuel =>
   simp only [takesOKY,Bool.and_eq_true] at hok
   obtain ⟨⟨⟨hf,hr⟩,hx⟩,hok⟩:=hok
   intro a ha
   refine YJ ho hnd (fun j hj=>List.all_eq_true.1 hx j (by simpa using hj)) fuel listed a w hc (Region.free_spec ho hf) (by simpa using hr) (hy a ha) hs ?_
   have e:fuel+1 - (i::is).length=fuel - is.length:=by simp
   rw [e] at h
   exact ih fuel _ _ (hc.set (by simpa using hr)) hok h _ (by rw [hd]; exact ha.put hN v)
theorem xO (is:List Nat) (hnd:noDefer ops=true) (hs:S w)
  : ∀ (fuel:Nat) (listed:Array Bool) (env:Env),(closedYB ops listed && takesOKY X ops fuel listed is)=true →
   Qs P N S ops ds (fun env=>AnyEY r P N S X ops (fuel - is.length) (setAll listed is) ds env w Q) is env→AnyEY r P N S X ops fuel listed ds env w Q:=by
 intro fuel listed env hok h
 rw [Bool.and_eq_true] at hok
 exact kT is hnd hs fuel listed env (jF hok.1) hok.2 h
theorem yV (is:List Nat) (hnd:noDefer ops=true)
  : ∀ (fuel:Nat) (listed:Array Bool) (env:Env),takesOK ops fuel listed is=true →
   Qs P N (fun _=>True) ops ds (fun env=>AnyEY r P N S X ops (fuel - is.length) (setAll listed is) ds env w Q) is env→AnyEY r P N S X ops fuel listed ds env w Q:=by
 induction is with
 | nil=>intro fuel listed env _ h; exact h
 | cons i is ih =>
  intro fuel listed env hok h
  obtain ⟨o,d,v,ho,hd,hN,hy,h⟩:=h
  cases fuel with
  | zero=>simp [takesOK] at hok
  | succ fuel =>
   simp only [takesOK,Bool.and_eq_true] at hok
   obtain ⟨⟨hf,hr⟩,hok⟩:=hok
   intro a ha
   refine kC ho hnd fuel listed a w (Region.free_spec ho hf) (by simpa using hr) (hy a ha) ?_
   have e:fuel+1 - (i::is).length=fuel - is.length:=by simp
   rw [e] at h
   exact ih fuel _ _ hok h _ (by rw [hd]; exact ha.put hN v)
theorem uF (hr:Region.ready .any ops listed=[]) (h:Q .normal ds env w):AnyEY r P N S X ops fuel listed ds env w Q:=fun a ha=>by
 cases fuel with
 | zero=>exact ⟨hr,ds,env,ha,h⟩
 | succ fuel=>exact ⟨fun _=>⟨ds,env,ha,h⟩,by rw [hr]; simp⟩
def stepPostY (r:Option Nat) (P:Program) (N:Nat) (S:World→Prop) (X:List Nat) (w0:World) (i:Nat) (ops:Array Oper) (fuel:Nat) (listed:Array Bool) (Q:Post):Post
 | .normal,ds,env,w=>(X.contains i=false→S w0→S w)∧AnyEY r P N S X ops fuel listed ds env w Q
 | _,_,_,_=>False
def AllRY (r:Option Nat) (P:Program) (N:Nat) (S:World→Prop) (X:List Nat) (ops:Array Oper) (fuel:Nat) (listed:Array Bool) (ds:List Deferred) (env:Env) (w:World) (Q:Post):List Nat→Prop
 | []=>True
 | i::is=>(∃ o,ops[i]? = some o∧Ops r P N ops [o] ds env w (stepPostY r P N S X w i ops fuel (listed.setIfInBounds i true) Q))∧AllRY r P N S X ops fuel listed ds env w Q is
theorem AllRY.mem {is:List Nat} (h:AllRY r P N S X ops fuel listed ds env w Q is) {i:Nat} (hi:i∈is):∃ o,ops[i]? = some o∧Ops r P N ops [o] ds env w (stepPostY r P N S X w i ops fuel (listed.setIfInBounds i true) Q):=by
 induction is with
 | nil=>cases hi
 | cons j is ih =>
  rcases List.mem_cons.1 hi with rfl | hi
  ·exact h.1
  ·exact ih h.2 hi
theorem xN (rs : List Nat) (hr : Region.ready .any ops listed = rs) (hne : rs.isEmpty = false) (h : AllRY r P N S X ops fuel listed ds env w Q rs) : AnyEY r P N S X ops (fuel + 1) listed ds env w Q := by
  intro a ha
  refine ⟨fun h0 => (by rw [hr] at h0; subst h0; cases hne), fun i hi => ?_⟩
  rw [hr] at hi
  obtain ⟨o, ho, hop⟩ := h.mem hi
  have h1 := hop a ha
  unfold wpOpIn
  simp only [ho]
  simp only [wpListIn] at h1
  split
  · rename_i hw
    rw [if_pos hw] at h1
    refine ⟨h1.1, ?_⟩
    have h2 := h1.2
    generalize (o.semAt (Fr r).round a.eval).run P w = res at *
    have fin : ∀ a' w', lift N (stepPostY r P N S X w i ops fuel (listed.setIfInBounds i true) Q) .normal a' w' →
        (X.contains i = false → S w → S w') ∧ AnyY r P S X ops (fun a w => lift N Q .normal a w) fuel (listed.setIfInBounds i true) a' w' := fun a' w' ⟨ds', env', hf, hs, hA⟩ => ⟨hs, hA a' hf⟩
    cases res with
    | ok x w' =>
      cases x <;> simp only [Oper.uponIn] at h2 ⊢
      case value u => exact fin _ _ h2
      case skip => exact fin _ _ h2
      case defer d => exact fin _ _ h2
      case enter f args =>
        refine ⟨h2.1, CallsIn.mono h2.2 fun e w'' he => ?_⟩
        cases e with
        | returned u => exact fin _ _ he
        | panicked c => obtain ⟨_, _, _, hx⟩ := he; exact hx.elim
        | outgrown => obtain ⟨_, _, _, _, _, hx⟩ := he; exact hx.elim
      case row row args => exact ⟨h2.1, RowsIn.mono h2.2 fun u w'' he => fin _ _ he⟩
      case round l f tmps assign body =>
        refine ⟨h2.1, RoundIn.mono h2.2 fun e w'' he => ?_⟩
        cases e with
        | returned u => exact fin _ _ he
        | panicked c => obtain ⟨_, _, _, hx⟩ := he; exact hx.elim
        | outgrown => obtain ⟨_, _, _, _, _, hx⟩ := he; exact hx.elim
    | halt x w' =>
      cases x <;> simp only [Oper.uponIn] at h2 ⊢
      case panic u => obtain ⟨_, _, _, hx⟩ := h2; exact hx.elim
  · rename_i hw
    rw [if_neg hw] at h1
    obtain ⟨ds', env', hf, hs, hA⟩ := h1.2
    exact ⟨h1.1, hs, hA _ hf⟩
theorem vE {id:Nat} {l:List Oper} (S:World→Prop) (X:List Nat) (hm:P.follows .mixedOrders=true)
  (h:∀ w1,Redrawn w w1→AnyEY r P N S X l.toArray l.length (Array.replicate l.length false) ds env w1 Q):Holds r P N (.region id l.toArray true) ds env w Q:=by
 intro a ha
 refine Go.wpIn_mono (Q:=only fun a w=>lift N Q .normal a w) ?_ ?_
 ·refine wpIn_region_any hm (jJ (S:=S) (X:=X) _ _ _ _ ?_)
  have:=h { w with drawn:=w.drawn+1 } ⟨rfl,rfl,rfl,rfl⟩ a ha
  simpa using this
 ·intro e a' w' hq
  cases e with
  | normal=>exact hq
  | _=>exact hq.elim
end drawEY
end Go.Fip
namespace Go.Fip
namespace Ps
theorem Z8 {α:Type} [Inhabited α] {l:List α} {j:Nat} (hj:0<j) (h:j<l.length):(swp l j).Perm l:=by
 unfold swp
 rw [show ((j:Int) - 1)=((j - 1:Nat):Int) by omega,zO (show j - 1<l.length by omega),zO h]
 exact List.set_set_perm h (by omega)
theorem jG {α:Type} [Inhabited α] {lt:α→α→Bool}:∀ (j:Nat) (l:List α),j<l.length→(down lt j l).Perm l
 | 0,l,_=>List.Perm.refl _
 | j+1,l,h=>by
  simp only [down]
  split
  ·exact (jG j _ (by rw [Y1]; omega)).trans (Z8 (by omega) h)
  ·exact List.Perm.refl _
theorem k8 {α:Type} [Inhabited α] {lt:α→α→Bool} {l:List α}:∀ k,k<l.length→(srt lt l k).Perm l
 | 0,_=>List.Perm.refl _
 | k+1,h=>(jG _ _ (by rw [srt_len]; exact h)).trans (k8 k (by omega))
theorem sorted_perm {α:Type} [Inhabited α] {lt:α→α→Bool} {l:List α}:(sorted lt l).Perm l:=by
 by_cases h:l=[]
 ·subst h; exact List.Perm.refl _
 ·have:0<l.length:=List.length_pos_iff.2 h
  exact k8 _ (by omega)
end Ps
end Go.Fip
namespace Go.Fip
open Go.RowKit
theorem Heap.two {H:List Item} {w:World} (hH:Heap H w) {n:Nat} {x i j:Item} (hn:H[n]? = some x) (hi:x.lo≤i.lo∧i.hi≤x.hi) (hj:x.lo≤j.lo∧j.hi≤x.hi) (hij:j.apart i) (oi:i.ok w) (oj:j.ok w):Heap (j::H.set n i) w:=by
 have h1:=hH.set hn ⟨rfl,rfl,rfl,Nat.le_refl _,fun _ _ _=>rfl⟩ (.inl hi) oi
 refine ⟨fun y hy=>?_,List.Pairwise.cons (fun y hy=>?_) h1.apart⟩
 ·rcases List.mem_cons.1 hy with rfl | hy
  ·exact oj
  ·exact h1.ok y hy
 ·obtain ⟨m,hm,e⟩:=List.getElem_of_mem hy
  obtain ⟨hn1,hn2⟩:=List.getElem?_eq_some_iff.1 hn
  rw [List.length_set] at hm
  rw [List.getElem_set] at e
  split at e
  ·subst e; exact hij
  ·rename_i hne
   have hap:x.apart y:=by
    have hp:=List.pairwise_iff_getElem.1 hH.apart
    rcases Nat.lt_or_gt_of_ne hne with h2 | h2
    ·have:=hp n m hn1 hm h2
     rwa [hn2,e] at this
    ·have:=hp m n hm hn1 h2
     rw [hn2,e] at this
     exact this.symm
   unfold Item.apart at *
   omega
end Go.Fip
namespace Go.Fip
open Go.RowKit
end Go.Fip
namespace Go.Fip
open Go.RowKit
end Go.Fip
namespace Go.Fip
open Go.RowKit
end Go.Fip
namespace Go.Fip
open Go.RowKit
end Go.Fip
namespace Go.Fip
end Go.Fip
namespace Go.Fip
end Go.Fip
namespace Go.Fip
open Go.RowKit
def evp (env:Env):List (Nat×Operand)→Option (List (Nat×Value))
 | []=>some []
 | p::ps=>match ev env p.2 with
  | some v=>match evp env ps with
   | some vs=>some ((p.1,v)::vs)
   | none=>none
  | none=>none
theorem qX {N:Nat} {a:Act} {ds:List Deferred} {env:Env} (h:Fits N a ds env):∀ {ps:List (Nat×Operand)} {us:List (Nat×Value)},evp env ps=some us→(ps.map fun (i,x)=>(i,a.eval x))=us
 | [],us,e=>by cases e; rfl
 | p::ps,us,e=>by
  unfold evp at e
  cases h1:ev env p.2 with
  | none=>rw [h1] at e; cases e
  | some v =>
   rw [h1] at e
   cases h2:evp env ps with
   | none=>rw [h2] at e; cases e
   | some vs =>
    rw [h2] at e
    cases e
    simp only [List.map_cons,h.ev h1,qX h h2]
section
variable {r : Option Nat} {P : Program} {N : Nat} {ds : List Deferred} {env : Env} {w : World} {Q : Post} {all : Array Oper} {rest : List Oper} {H : List Item} {d : Nat} {ty : TypeId} {pos : String} {after : Array Edge}
theorem yJ {α:Type} {T E sz n:Nat} {enc:α→List Value} {ps:List (Nat×Operand)} {us:List (Nat×Value)} (hE:El P T E sz enc) (xs:List α) (hx:evp env ps=some us)
  (hr:∀ w,(Instr.buildSlice T n us.toArray).run P w=.ok (.slice (some ⟨w.heap.size,0,none⟩) n n) (w.alloc (.cells (xs.flatMap enc).toArray E)))
  (hH:Heap H w)
  (h:∀ v lo hi w',Heap (ow lo hi E sz enc v xs::H) w'→Ops r P N all rest ds ((d,v)::env) w' Q) (hl:xs.length=n:=by rfl) (hd:Nat.blt d N=true:=by rfl) (hn:n≤1000000:=by decide) :
  Ops r P N all (⟨some d,.buildSlice T n ps.toArray,ty,pos,after,none⟩::rest) ds env w Q :=
 VN hE xs hl hn hd (fun a ha=>by rw [← qX ha hx]; simp) hr hH h
theorem xQ {T:TypeId} {S:World→Prop} {v:Value} {ps:List (Nat×Operand)} {us:List (Nat×Value)} (hx:evp env ps=some us) (hr:∀ w,(Instr.build T us.toArray).run P w=.ok v w):Yv P N ds env (.build T ps.toArray) v S :=
 ZQ (us:=us) (fun a ha=>by rw [← qX ha hx]; simp) hr
end
end Go.Fip
namespace Go.Fip
end Go.Fip
namespace Go.Fip
theorem Rd.X7 {α : Type} {enc : α → List Value} {sz : Nat} {v : Value} {xs : List α} {w : World} (h : Rd enc sz v xs w) : Rd enc sz (qC v sz 0 xs.length xs.length) xs w := by
  have h2 := h.cut3 (lo := 0) (hi := xs.length) (m := xs.length) (Nat.zero_le _) (Nat.le_refl _) (Nat.le_refl _) (fun a n c e => by
    obtain ⟨a', c', e', hc, _⟩ := h.is
    rw [e'] at e
    cases e
    exact hc)
  simpa using h2
theorem jA {v:Value} {sz n:Nat} (h:SliceIs v n):∃ a,qC v sz 0 n n=.slice a n n:=by
 obtain ⟨a,c,rfl,_⟩:=h
 exact ⟨_,rfl⟩
end Go.Fip
namespace Go.Fip
open Go.Proofs Go.RowKit
theorem jC {l:List Int} {lo hi:Int}:(∀ i,i<l.length→(fun x:Int=>decide (x<lo∨hi<x)) (nth l (i:Int))=false)↔∀ x∈l,lo≤x∧x≤hi:=by
 constructor
 ·intro h x hx
  obtain ⟨i,hi',rfl⟩:=List.getElem_of_mem hx
  have:=h i hi'
  rw [zO hi'] at this
  simp at this
  omega
 ·intro h i hi'
  have:=h (nth l (i:Int)) (by rw [zO hi']; exact List.getElem_mem hi')
  simp
  omega
theorem c93 {v:Value} {l:List Int} {x:Int} {w:World} (h0:Rd encI 1 v l w) (hn:l.length≤1000000)  :
  Fn Tryz.prog 53 [v,(.int .i64 x)].toArray w (fun u _=>u=.int .i64 (S.place l x)):=by
 refine fz Tryz.func53 Z kz Z Z (fun hH=>(zr (oA hH Z (zt (seq (zr (oM hH Z (oY hH (zX T.yE Z (h0.now hH (n:=0) Z).is) (oM hH Z (zt (block (loop (S:=Nat) (fun k=>[(8,(.int .i64 (k:Int))),(0,v),(1,(.int .i64 x)),(7,(.int .i64 (l.length:Int)))]) (fun k w1=>Heap [base w] w1∧k≤l.length∧∀ i,i<k→(fun y:Int=>decide (y=x)) (nth l (i:Int))=false) (fun k=>l.length - k) (0) (uC Z (uC Z (uC Z (uC Z (Sub.nil _))))) ?_ ?_))))))))))))
 ·exact ⟨hH,om,S.all_zero⟩
 rintro k w1 ⟨hH2,hk,hall⟩
 refine zr (oY hH2 (yF Z Z) (zt (seq ?_)))
 by_cases hc3:(k:Int)<(l.length:Int)
 ·refine zP Z (dT hc3) (skip (zJ (seq (block (zr (oM hH2 Z (oA hH2 Z (zs (oM hH2 Z (oM hH2 Z (oM hH2 Z (oY hH2 (zN T.yE Z Z (h0.now hH2 (n:=0) Z).is om) (oY hH2 (zC T.yB Z (fun _ hw=>Rd.at (h0.now hw (n:=0) Z) (i:=(k:Int)) om (j:=0) Z)) (oY hH2 (xJ Z Z) (zt ?_)))))))))))))))
  by_cases hc4:x=(nth l (k:Int))
  ·have hp:(fun y:Int=>decide (y=x)) (nth l (k:Int))=true:=decide_eq_true (by omega)
   refine zP Z (dT hc4) (zr (oM hH2 Z (oA hH2 Z (zt (ret (y7 (yP (qD (y7 (yP (fin hH2 (fun w' hf=>(yI Z (rt Z))) (fun w' hf=>?_))))))))))))
   first | exact congrArg (Value.int .i64) (xP (k:=k) (by omega) hall hp).symm | exact congrArg (Value.int .i64) (xE (fun i hi=>hall i (by omega))).symm
  have hp:(fun y:Int=>decide (y=x)) (nth l (k:Int))=false:=decide_eq_false (by omega)
  refine zM Z (dF hc4) (skip (yC (zJ (region (oY hH2 (zU Z Z om) (oM hH2 Z (zE (yX (k+1) (uC Z (uC Z (uC Z (uC Z (Sub.nil _))))) (⟨hH2,om,S.all_snoc hall hp⟩) om3))))))))
 refine zM Z (dF hc3) (exit (yR (xH (zW (zu (oA hH2 Z (zt (ret (fin hH2 (fun w' hf=>(yI Z (rt Z))) (fun w' hf=>?_))))))))))
 first | exact congrArg (Value.int .i64) (xP (k:=k) (by omega) hall hp).symm | exact congrArg (Value.int .i64) (xE (fun i hi=>hall i (by omega))).symm
theorem c20 {v:Value} {l:List Int} {x:Int} {w:World} (h0:Rd encI 1 v l w) (hn:l.length≤1000000)  :
  Fn Tryz.prog 20 [v,(.int .i64 x)].toArray w (fun u _=>u=.bool (decide (0≤S.place l x))):=by
 refine fz Tryz.func20 Z kz Z Z (fun hH=>(zr (oA hH Z (zs (oM hH Z (oM hH Z (zS Z Z Z hH (c93 (h0.now hH (n:=0) Z) om) (fun w1 hH2=>(oY hH2 (vK Z Z) (oA hH2 Z (zt (ret (fin hH2 (fun w' hf=>(yI Z (rt Z))) (fun w' hf=>Z))))))))))))))
theorem W0 {a:Int} {w:World}  :
  Fn Tryz.prog 244 [(.int .i64 a)].toArray w (fun u _=>u=.bool false):=by
 refine fz Tryz.func244 Z kz Z Z (fun hH=>(zr (oA hH Z (zs (oM hH Z (oM hH Z (oY hH (yT Z Z) (oA hH Z (zt (ret (fin hH (fun w' hf=>(yI Z (rt Z))) (fun w' hf=>?_))))))))))))
 first | rfl | (show Value.bool _=_; congr 1; simp)
theorem WY {a b:Int} {w:World}  :
  Fn Tryz.prog 219 [(.int .i64 a),(.int .i64 b)].toArray w (fun u _=>u=.bool (decide (a<b))):=by
 refine fz Tryz.func219 Z kz Z Z (fun hH=>(zr (oA hH Z (zs (oM hH Z (zS Z Z Z hH (W0) (fun w1 hH2=>(oM hH2 Z (zF Z Z Z Z (zF Z Z Z Z (zF Z Z Z Z (oY hH2 (yA Z Z Z) (oM hH2 Z (zB Z Z Z (oM hH2 Z (zB Z Z Z (oM hH2 Z (zB Z Z Z (oY hH2 (yF Z Z) ?_)))))))))))))))))))
 refine oY hH2 (yA Z Z Z) (oA hH2 Z (zt (ret (fin hH2 (fun w' hf=>(yI Z (rt Z))) (fun w' hf=>Z)))))
theorem WO {v:Value} {l:List Int} {g:Nat} {n:Int} {w:World} (h0:Own 3 1 encI v l w) (hg:v.ownBlock=some g) (hn:l.length≤1000000) (hnl:n=(l.length:Int)) :
  FnM Tryz.prog 213 [v,(.int .i64 0),(.int .i64 n)].toArray w g (fun u w=>u=.tuple #[]∧Own 3 1 encI v (Ps.sorted (fun x y:Int=>decide (x<y)) l) w):=by
 refine qZ (args:=[v,(.int .i64 0),(.int .i64 n)]) Tryz.func213 Z (ent Tryz.func213 kz Z) Z Z (jE h0 hg) (fun hH=>?_)
 have hsl:∀ k,(Ps.srt (fun x y:Int=>decide (x<y)) l k).length=l.length:=fun k=>Ps.srt_len k
 refine zr (oM hH Z (oY hH (zU Z Z om) (oA hH Z (zt (block (loop (S:=Nat×List Int) (fun (k,L)=>[(6,(.int .i64 ((k+1:Nat):Int))),(0,v),(1,(.int .i64 0)),(2,(.int .i64 n))]) (fun (k,L) w1=>Heap [ow g (g+1) 3 1 encI v L,restL w g,restR w g] w1∧L=Ps.srt (fun x y:Int=>decide (x<y)) l k∧(k:Int)+1≤max n 1) (fun (k,L)=>l.length - k) (0,l) (uC Z (uC Z (uC Z (uC Z (Sub.nil _))))) ?_ ?_))))))
 ·exact ⟨hH,Z,om⟩
 rintro ⟨k,L⟩ w1 ⟨hH2,hL,hk⟩
 have hLl:L.length=l.length:=by rw [hL]; exact hsl k
 refine seq (zr (oM hH2 Z (oM hH2 Z (oY hH2 (yF Z Z) (zt ?_)))))
 by_cases hc3:((k+1:Nat):Int)<n
 ·refine zP Z (dT hc3) (skip (zJ (seq (block (zr (oM hH2 Z (oA hH2 Z (zt (block (loop (S:=Nat×List Int) (fun (j,M)=>[(7,(.int .i64 (j:Int))),(0,v),(1,(.int .i64 0)),(2,(.int .i64 n)),(6,(.int .i64 ((k+1:Nat):Int)))]) (fun (j,M) w1=>Heap [ow g (g+1) 3 1 encI v M,restL w g,restR w g] w1∧Ps.down (fun x y:Int=>decide (x<y)) j M=Ps.down (fun x y:Int=>decide (x<y)) (k+1) (Ps.srt (fun x y:Int=>decide (x<y)) l k)∧M.length=l.length∧j≤k+1) (fun (j,M)=>j) ((k+1),L) (uC Z (uC Z (uC Z (uC Z (uC Z (Sub.nil _)))))) ?_ ?_))))))))))
  ·exact ⟨hH2,by rw [hL],hLl,Nat.le_refl _⟩
  rintro ⟨j,M⟩ w4 ⟨hH5,hD,hMl,hjk⟩
  refine seq (seq (z8 (fun w'=>Heap [ow g (g+1) 3 1 encI v M,restL w g,restR w g] w') T.mixed (fun w6 hr7=>?_)))
  have hH8:=hH5.redrawn hr7
  refine zR [0,1,2,3] kz hH8 _ _ _ kz (qM Z Z Z (qM Z Z Z (zI Z Z (vS Z Z) (qM Z Z Z (zV ?_)))))
  by_cases hc9:0<(j:Int)
  ·have hj:0<j:=by omega
   refine zR [4,5,6,7,8,9,10,11,12] kz hH8 _ _ _ kz (yY Z Z Z (dT hc9) Z (y8 Z) (yY Z Z Z (dT hc9) Z (y8 Z) (yY Z Z Z (dT hc9) Z (zN T.yE Z Z (Heap.yU T.zA hH8 (n:=0) Z).is om) (yY Z Z Z (dT hc9) Z (zC T.yB Z (fun _ hw=>Rd.at (Heap.yU T.zA hw (n:=0) Z) (i:=(j:Int)) om (j:=0) Z)) (yY Z Z Z (dT hc9) Z (y8 Z) (yY Z Z Z (dT hc9) Z (y8 Z) (yY Z Z Z (dT hc9) Z (xI Z Z om) (yY Z Z Z (dT hc9) Z (zN T.yE Z Z (Heap.yU T.zA hH8 (n:=0) Z).is om) (yY Z Z Z (dT hc9) Z (zC T.yB Z (fun _ hw=>Rd.at (Heap.yU T.zA hw (n:=0) Z) (i:=(j:Int) - 1) om (j:=0) Z)) (zV (z1 13 kz Z (zB Z Z (dT hc9) (zS Z Z Z hH8 (WY) (fun w10 hH11=>(zE (⟨hH11,(zR [14] kz hH11 _ _ _ kz (zI Z Z (z7 Z (dT hc9) Z) (zV (yH kz (zJ ?_)))))⟩))))))))))))))))
   by_cases hc12:nth M (j:Int)<nth M ((j:Int) - 1)
   ·have hlt:(fun x y:Int=>decide (x<y)) (nth M (j:Int)) (nth M ((j:Int) - 1))=true:=by simpa using (decide_eq_true hc12)
    refine zP Z (dT hc12) (skip (zJ (seq (block ?_))))
    have hsm:(M.set ((j:Int)).toNat (nth M ((j:Int) - 1))).length=M.length:=List.length_set
    refine vE (fun w'=>Heap [ow g (g+1) 3 1 encI v M,restL w g,restR w g] w') [15,17] T.mixed (fun w13 hr14=>?_)
    have hH15:=hH11.redrawn hr14
    refine yV [0,1,2,3,4,5,6,7,8,10,11,12] kz  _ _ _ kz (qM Z Z Z (qM Z Z Z (qM Z Z Z (qM Z Z Z (zI Z Z (xI Z Z om) (qM Z Z Z (qM Z Z Z (zI Z Z (xI Z Z om) (zI Z Z (zN T.yE Z Z (Heap.yU T.zA hH15 (n:=0) Z).is om) (qM Z Z Z (qM Z Z Z (zI Z Z (zN T.yE Z Z (Heap.yU T.zA hH15 (n:=0) Z).is om) (zV (xO [9,13] kz hH15 _ _ _ kz (zI Z Z (zC T.yB Z (fun _ hw=>Rd.at (Heap.yU T.zA hw (n:=0) Z) (i:=(j:Int) - 1) om (j:=0) Z)) (zI Z Z (zC T.yB Z (fun _ hw=>Rd.at (Heap.yU T.zA hw (n:=0) Z) (i:=(j:Int)) om (j:=0) Z)) (zV (yV [14] kz  _ _ _ kz (zI Z Z (zN T.yE Z Z (Heap.yU T.zA hH15 (n:=0) Z).is om) (zV (xN [15] kz Z ?_)))))))))))))))))))))
    refine ⟨⟨_,Z,(j0 (n:=0) (i:=(j:Int)) (k:=0) (us:=[(.int .i64 (nth M ((j:Int) - 1)))]) (z:=nth M ((j:Int) - 1)) T.zA Z Z hH15 Z om T.sz3 Z Z Z (Nat.le_of_ble_eq_true Z) (fun w16 hH17=>(zE (⟨(fun h=>by cases h),(yV [16] kz  _ _ _ kz (zI Z Z (zN T.yE Z Z (Heap.yU T.zA hH17 (n:=0) Z).is om) (zV (xN [17] kz Z (⟨⟨_,Z,(j0 (n:=0) (i:=(j:Int) - 1) (k:=0) (us:=[(.int .i64 (nth M (j:Int)))]) (z:=nth M (j:Int)) T.zA Z Z hH17 Z om T.sz3 Z Z Z (Nat.le_of_ble_eq_true Z) (fun w18 hH19=>(zE (⟨(fun h=>by cases h),(uF kz (yC (zJ (region (oM hH19 Z (oY hH19 (xI Z Z om) (oA hH19 Z (zE (yX (j - 1,((M.set (j:Int).toNat (nth M ((j:Int) - 1))).set ((j:Int) - 1).toNat (nth M (j:Int)))) (Sub.cons (congrArg (fun z=>some (Value.int .i64 z)) om) (uC Z (uC Z (uC Z (uC Z (Sub.nil _)))))) (⟨hH19,by show Ps.down _ (j - 1) ((M.set ((j:Int)).toNat (nth M ((j:Int) - 1))).set ((j:Int) - 1).toNat (nth M (j:Int)))=_; rw [Ps.set_swp hj, ← hD]; exact Ps.down_t hj hlt,by simp only [List.length_set]; exact hMl,om⟩) om3)))))))))⟩))))⟩,trivial⟩)))))⟩))))⟩,trivial⟩
   have hM:M=Ps.srt (fun x y:Int=>decide (x<y)) l (k+1):=by show M=Ps.down (fun x y:Int=>decide (x<y)) (k+1) (Ps.srt (fun x y:Int=>decide (x<y)) l k); rw [← hD]; exact (Ps.down_f (fun h=>by simpa using (decide_eq_false hc12))).symm
   refine zM Z (dF hc12) (exit (yR (xH (zW (yC (zJ ?_))))))
   have hnx:=hM
   refine region (oM hH11 Z (oY hH11 (zU Z Z om) (oA hH11 Z (zE (yX (k+1,M) (Sub.cons (congrArg (fun z=>some (Value.int .i64 z)) om) (uC Z (uC Z (uC Z (Sub.nil _))))) (⟨hH11,hnx,om⟩) om3)))))
  have hM:M=Ps.srt (fun x y:Int=>decide (x<y)) l (k+1):=by show M=Ps.down (fun x y:Int=>decide (x<y)) (k+1) (Ps.srt (fun x y:Int=>decide (x<y)) l k); rw [← hD]; exact (Ps.down_f (fun h=>by omega)).symm
  refine zR [4,5,6,7,8,9,10,11,12,13,14] kz hH8 _ _ _ kz (xW Z Z Z (dF hc9) Z (xW Z Z Z (dF hc9) Z (xW Z Z Z (dF hc9) Z (xW Z Z Z (dF hc9) Z (xW Z Z Z (dF hc9) Z (xW Z Z Z (dF hc9) Z (xW Z Z Z (dF hc9) Z (xW Z Z Z (dF hc9) Z (xW Z Z Z (dF hc9) Z (xW Z Z Z (dF hc9) Z (zI Z Z (yA Z (dF hc9) Z) (zV (yH kz (zJ (zM Z Z (exit (yR (xH (zW (yC (zJ ?_)))))))))))))))))))))
  have hnx:=hM
  refine region (oM hH8 Z (oY hH8 (zU Z Z om) (oA hH8 Z (zE (yX (k+1,M) (Sub.cons (congrArg (fun z=>some (Value.int .i64 z)) om) (uC Z (uC Z (uC Z (Sub.nil _))))) (⟨hH8,hnx,om⟩) om3)))))
 refine zM Z (dF hc3) (exit (yR (xH (zW (XA hH2 (XJ Z ) (fun w' hf=>?_))))))
 refine ⟨Z,?_⟩; have hk2:l.length - 1=k:=om; unfold Ps.sorted; rw [hk2, ← hL]; exact hf.1
theorem XR {P:Program} {f:FuncId} {args:Array Value} {w:World} {v:Value} (hen:∀ w',(callFunc f args).run P w'=.ok (.enter f args) w') (h:Calls P f args w fun e w'=>e=.returned v∧w'=w):Fn P f args w (fun u _=>u=v) :=
 ⟨hen,callsIn_wide.2 (h.mono fun _ _ ⟨he,hw⟩=>by subst hw; exact ⟨v,he,Below.refl _ _,fun _ _=>rfl⟩)⟩
theorem WX {x:Int} {w:World} (h0:0≤x) (h1:x≤18446744073709551615):Fn Tryz.prog 179 [.int .u64 x].toArray w (fun u _=>u=.int .i64 ((Lib.bitLen x.toNat:Nat):Int)):=XR (ent Tryz.func179 (by kernel_rfl) rfl _) (Tryz.bits_Len x w h0 h1)
end Go.Fip
namespace Go.Fip
namespace Sf
open S (place)
def ck (room:Int) (l:List Int):Int:=if ¬ (1≤room∧room≤6) then 3 else if 16<l.length then 6 else if ¬ ∀ x∈l,1≤x∧x≤8 then 2 else 0
structure Day (room:Int) (l:List Int):Prop where
 r1:1≤room
 r2:room≤6
 n:l.length≤16
 w:∀ x∈l,1≤x∧x≤8
theorem ck1 {room:Int} {l:List Int} (h:¬ (1≤room∧room≤6)):3=ck room l:=by unfold ck; rw [if_pos h]
theorem ck2 {room:Int} {l:List Int} (h:1≤room∧room≤6) (h2:16<l.length):6=ck room l:=by unfold ck; rw [if_neg (fun hh=>hh h),if_pos h2]
theorem ck3 {room:Int} {l:List Int} (h:1≤room∧room≤6) (h2:¬ 16<l.length) (h3:¬ ∀ x∈l,1≤x∧x≤8):2=ck room l:=by unfold ck; rw [if_neg (fun hh=>hh h),if_neg h2,if_pos h3]
theorem ck4 {room:Int} {l:List Int} (h:1≤room∧room≤6) (h2:¬ 16<l.length) (h3:∀ x∈l,1≤x∧x≤8):0=ck room l:=by unfold ck; rw [if_neg (fun hh=>hh h),if_neg h2,if_neg (fun hh=>hh h3)]
theorem ck_iff {room:Int} {l:List Int}:ck room l=0↔Day room l:=by
 by_cases h:1≤room∧room≤6
 ·by_cases h2:16<l.length
  ·rw [← ck2 h h2]; exact ⟨fun e=>absurd e (by decide),fun d=>by have:=d.n; omega⟩
  ·by_cases h3:∀ x∈l,1≤x∧x≤8
   ·rw [← ck4 h h2 h3]; exact ⟨fun _=>⟨h.1,h.2,by omega,h3⟩,fun _=>rfl⟩
   ·rw [← ck3 h h2 h3]; exact ⟨fun e=>absurd e (by decide),fun d=>absurd d.w h3⟩
 ·rw [← ck1 h]; exact ⟨fun e=>absurd e (by decide),fun d=>absurd ⟨d.r1,d.r2⟩ h⟩
abbrev Mm:=List ((Int×Int)×Int)
abbrev kvS (n:Int×Int):Value:=.agg #[.int .i64 n.1,.int .i64 n.2]
abbrev vvI (n:Int):Value:=.int .i64 n
theorem Y0:∀ p q:Int×Int,kvS p=kvS q→p=q:=fun p q h=>by
 simp only [kvS,Value.agg.injEq,Array.mk.injEq,List.cons.injEq,Value.int.injEq,true_and,and_true] at h
 exact Prod.ext h.1 h.2
def btw (l:List Int) (k i:Int):Prop:=0≤place ((l.take i.toNat).drop (k+1).toNat) (nth l i)
instance (l:List Int) (k i:Int):Decidable (btw l k i):=by unfold btw; infer_instance
structure Part (l:List Int) (i k:Nat) (m:Mm):Prop where
 has:∀ a b:Nat,a<b→b<l.length→b<i∨b=i∧a<k→nth l (a:Int)=nth l (b:Int)→find ((a:Int),(b:Int)) m=some (nth l (b:Int))
 only:∀ p v,find p m=some v→∃ a b:Nat,p=((a:Int),(b:Int))∧a<b∧b<l.length∧nth l (a:Int)=nth l (b:Int)∧v=nth l (b:Int)
theorem Part.start {l:List Int}:Part l 0 0 []:=⟨fun a b _ _ h=>by omega,fun p v h=>by simp [find,findI] at h⟩
theorem Part.turn {l:List Int} {i:Nat} {m:Mm} (h:Part l i i m):Part l (i+1) 0 m:=⟨fun a b h1 h2 h3 h4=>h.has a b h1 h2 (by omega) h4,h.only⟩
theorem Part.no {l : List Int} {i k : Nat} {m : Mm} (h : Part l i k m) (hne : ¬ nth l (k : Int) = nth l (i : Int)) : Part l i (k + 1) m :=
  ⟨fun a b h1 h2 h3 h4 => by
    by_cases e : b = i ∧ a = k
    · obtain ⟨rfl, rfl⟩ := e; exact absurd h4 hne
    · exact h.has a b h1 h2 (by omega) h4, h.only⟩
theorem Part.yes {l : List Int} {i k : Nat} {m : Mm} (h : Part l i k m) (hk : k < i) (hi : i < l.length) (he : nth l (k : Int) = nth l (i : Int)) {v : Int} (hv : v = nth l (i : Int)) : Part l i (k + 1) (upd ((k : Int), (i : Int)) v m) :=
  ⟨fun a b h1 h2 h3 h4 => by
    by_cases e : ((a : Int), (b : Int)) = ((k : Int), (i : Int))
    · rw [e, v7, if_pos rfl, hv]
      simp only [Prod.mk.injEq] at e
      rw [show (b : Int) = (i : Int) from e.2]
    · rw [v7, if_neg e]
      refine h.has a b h1 h2 ?_ h4
      by_cases e2 : b = i ∧ a = k
      · exact absurd (by rw [e2.1, e2.2]) e
      · omega, fun p u hp => by
    by_cases e : p = ((k : Int), (i : Int))
    · subst e
      rw [v7, if_pos rfl] at hp
      cases hp
      exact ⟨k, i, rfl, hk, hi, he, hv⟩
    · rw [v7, if_neg e] at hp
      exact h.only p u hp⟩
structure Outs (l:List Int) (es:Array MapEntry) (clock:Nat) (m:Mm) (seen:Array Nat):Prop where
 ents:Ents kvS vvI es clock m
 has:∀ a b:Nat,a<b→b<l.length→nth l (a:Int)=nth l (b:Int)→¬ btw l (a:Int) (b:Int)→find ((a:Int),(b:Int)) m=some (nth l (b:Int))
 only:∀ p v,find p m=some v→∃ a b:Nat,p=((a:Int),(b:Int))∧a<b∧b<l.length∧nth l (a:Int)=nth l (b:Int)∧v=nth l (b:Int)
 out:∀ e∈es.toList,e.born∈seen.toList→∀ p:Int×Int,e.key=kvS p→¬ btw l p.1 p.2
theorem Outs.start {l:List Int} {es:Array MapEntry} {clock:Nat} {m:Mm} (he:Ents kvS vvI es clock m) (h:Part l l.length 0 m):Outs l es clock m #[] :=
 ⟨he,fun a b h1 h2 h3 _=>h.has a b h1 h2 (.inl h2) h3,h.only,fun e _ h=>by simp at h⟩
theorem Outs.entry {l:List Int} {es:Array MapEntry} {clock:Nat} {m:Mm} {seen:Array Nat} (h:Outs l es clock m seen) {e:MapEntry} (he:e∈es.toList):∃ a b:Nat,e.key=kvS ((a:Int),(b:Int))∧(∃ x,e.val=vvI x)∧a<b∧b<l.length:=by
 obtain ⟨p,v,h1,h2,h3⟩:=h.ents.entry he
 obtain ⟨a,b,rfl,h4,h5,_⟩:=h.only p v h3
 exact ⟨a,b,h1,⟨v,h2⟩,h4,h5⟩
theorem Outs.keep {l : List Int} {es : Array MapEntry} {clock : Nat} {m : Mm} {seen : Array Nat} (h : Outs l es clock m seen) {e : MapEntry} (he : e ∈ es.toList) {a b : Int} (hk : e.key = kvS (a, b)) (hne : ¬ btw l a b) : Outs l es clock m (seen.push e.born) :=
  ⟨h.ents, h.has, h.only, fun e' he' hs p hp => by
    rcases (by simpa using hs : e'.born ∈ seen.toList ∨ e'.born = e.born) with h1 | h1
    · exact h.out e' he' h1 p hp
    · have := h.ents.inj he' he h1
      subst this
      rw [hp] at hk
      rw [Y0 _ _ hk]; exact hne⟩
theorem Outs.del {l:List Int} {es es':Array MapEntry} {clock:Nat} {m:Mm} {seen:Array Nat} (h:Outs l es clock m seen) {e:MapEntry} (he:e∈es.toList) {a b:Int} (hk:e.key=kvS (a,b)) (hab:btw l a b)
  (he':Ents kvS vvI es' clock (del (a,b) m)) (hs:es'.toList.Sublist es.toList):Outs l es' clock (del (a,b) m) (seen.push e.born):=by
 refine ⟨he',fun x y h1 h2 h3 h4=>?_,fun p v hp=>?_,fun x hx hxs p hp=>?_⟩
 ·rw [uA (fun e=>by simp only [Prod.mk.injEq] at e; rw [← e.1, ← e.2] at hab; exact h4 hab)]; exact h.has x y h1 h2 h3 h4
 ·refine h.only p v ?_
  by_cases e:p=(a,b)
  ·rw [e,jD h.ents.nd] at hp; cases hp
  ·rwa [uA e] at hp
 ·rcases (by simpa using hxs:x.born∈seen.toList∨x.born=e.born) with h1 | h1
  ·exact h.out x (hs.subset hx) h1 p hp
  ·have:=h.ents.inj (hs.subset hx) he h1
   subst this
   obtain ⟨q,v,h3,_,h4⟩:=he'.entry hx
   rw [hk] at h3
   have:=Y0 _ _ h3
   rw [← this,jD h.ents.nd] at h4
   cases h4
structure Full (l:List Int) (m:Mm):Prop where
 has:∀ a b:Nat,a<b→b<l.length→nth l (a:Int)=nth l (b:Int)→¬ btw l (a:Int) (b:Int)→find ((a:Int),(b:Int)) m=some (nth l (b:Int))
 only:∀ p v,find p m=some v→∃ a b:Nat,p=((a:Int),(b:Int))∧a<b∧b<l.length∧nth l (a:Int)=nth l (b:Int)∧v=nth l (b:Int)∧¬ btw l (a:Int) (b:Int)
theorem Outs.full {l : List Int} {es : Array MapEntry} {clock : Nat} {m : Mm} {seen : Array Nat} (h : Outs l es clock m seen) (hall : ∀ e ∈ es.toList, e.born ∈ seen.toList) : Full l m :=
  ⟨h.has, fun p v hp => by
    obtain ⟨a, b, e, h1, h2, h3, h4⟩ := h.only p v hp
    obtain ⟨en, hen, hk, _⟩ := h.ents.of_find hp
    have := h.out en hen (hall en hen) p hk
    rw [e] at this
    exact ⟨a, b, e, h1, h2, h3, h4, this⟩⟩
theorem unseen_sub {es es':Array MapEntry} {seen:Array Nat} (hs:es'.toList.Sublist es.toList):unseen es' seen≤unseen es seen:=(hs.filter _).length_le
end Sf
end Go.Fip
namespace Go.Fip
namespace Sf
def next (l:List Int) (x i:Int):Int:=if 0≤S.place (l.drop (i+1).toNat) x then i+1+S.place (l.drop (i+1).toNat) x else (l.length:Int)
theorem next_t {l:List Int} {x i:Int} (h:0≤S.place (l.drop (i+1).toNat) x):i+1+S.place (l.drop (i+1).toNat) x=next l x i:=by unfold next; rw [if_pos h]
theorem next_f {l:List Int} {x i:Int} (h:¬ 0≤S.place (l.drop (i+1).toNat) x):(l.length:Int)=next l x i:=by unfold next; rw [if_neg h]
end Sf
end Go.Fip
namespace Go.Fip
open Go.Proofs Go.RowKit
theorem WK {n:Int} {lo hi:Int} {b1 b2:Nat} {w:World} (k1:Bx b1 3 [.int .i64 lo] w) (k2:Bx b2 3 [.int .i64 hi] w)  :
  Fn Tryz.prog 182 [(.int .i64 n),(.pointer (some ⟨b1,0,none⟩)),(.pointer (some ⟨b2,0,none⟩))].toArray w (fun u _=>u=.bool (decide (n<lo∨hi<n))):=by
 refine fz Tryz.func182 Z kz Z Z (fun hH=>(zr (oA hH Z (zs (oM hH Z (oY hH (zC T.yB Z (fun _ hw=>yL (k1.now hw (n:=0) Z) Z)) (oY hH (yF Z Z) (oM hH Z ?_))))))))
 by_cases hc1:n<lo
 ·refine zF Z Z (dT hc1) Z (zF Z Z (dT hc1) Z (zF Z Z (dT hc1) Z (oY hH (z7 Z (dT hc1) Z) (oA hH Z (zt (ret (fin hH (fun w' hf=>(yI Z (rt Z))) (fun w' hf=>?_))))))))
  first | (show Value.bool _=Value.bool _; congr 1; rw [Bool.eq_iff_iff]; simp; done) | (show Value.bool _=Value.bool _; congr 1; rw [Bool.eq_iff_iff]; simp; omega)
 refine zB Z Z (dF hc1) (oM hH Z (zB Z Z (dF hc1) (oY hH (zC T.yB Z (fun _ hw=>yL (k2.now hw (n:=0) Z) Z)) (zB Z Z (dF hc1) (oY hH (vS Z Z) (oY hH (yA Z (dF hc1) Z) (oA hH Z (zt (ret (fin hH (fun w' hf=>(yI Z (rt Z))) (fun w' hf=>?_)))))))))))
 first | (show Value.bool _=Value.bool _; congr 1; rw [Bool.eq_iff_iff]; simp; done) | (show Value.bool _=Value.bool _; congr 1; rw [Bool.eq_iff_iff]; simp; omega)
theorem V8 {v:Value} {l:List Int} {lo hi:Int} {b1 b2:Nat} {w:World} (h0:Rd encI 1 v l w) (k1:Bx b1 3 [.int .i64 lo] w) (k2:Bx b2 3 [.int .i64 hi] w) (hn:l.length≤1000000)  :
  Fn Tryz.prog 114 [v,(.func (.func 182) #[] #[(.pointer (some ⟨b1,0,none⟩)),(.pointer (some ⟨b2,0,none⟩))])].toArray w (fun u _=>u=.int .i64 (idx (fun x:Int=>decide (x<lo∨hi<x)) l)):=by
 refine fz Tryz.func114 Z kz Z Z (fun hH=>(zr (oA hH Z (zt (seq (zr (oM hH Z (oY hH (zX T.yE Z (h0.now hH (n:=0) Z).is) (oM hH Z (zt (block (loop (S:=Nat) (fun k=>[(8,(.int .i64 (k:Int))),(0,v),(1,(.func (.func 182) #[] #[(.pointer (some ⟨b1,0,none⟩)),(.pointer (some ⟨b2,0,none⟩))])),(7,(.int .i64 (l.length:Int)))]) (fun k w1=>Heap [base w] w1∧k≤l.length∧∀ i,i<k→(fun x:Int=>decide (x<lo∨hi<x)) (nth l (i:Int))=false) (fun k=>l.length - k) (0) (uC Z (uC Z (uC Z (uC Z (Sub.nil _))))) ?_ ?_))))))))))))
 ·exact ⟨hH,om,S.all_zero⟩
 rintro k w1 ⟨hH2,hk,hall⟩
 refine zr (oY hH2 (yF Z Z) (zt (seq ?_)))
 by_cases hc3:(k:Int)<(l.length:Int)
 ·refine zP Z (dT hc3) (skip (zJ (seq (block (zr (oM hH2 Z (oA hH2 Z (zs (oM hH2 Z (oM hH2 Z (oM hH2 Z (oY hH2 (zN T.yE Z Z (h0.now hH2 (n:=0) Z).is om) (oY hH2 (zC T.yB Z (fun _ hw=>Rd.at (h0.now hw (n:=0) Z) (i:=(k:Int)) om (j:=0) Z)) (zS Z Z Z hH2 (WK (k1.now hH2 (n:=0) Z) (k2.now hH2 (n:=0) Z)) (fun w4 hH5=>(zt ?_))))))))))))))))
  by_cases hc6:nth l (k:Int)<lo∨hi<nth l (k:Int)
  ·have hp:(fun x:Int=>decide (x<lo∨hi<x)) (nth l (k:Int))=true:=(decide_eq_true hc6)
   refine zP Z (dT hc6) (zr (oM hH5 Z (oA hH5 Z (zt (ret (y7 (yP (qD (y7 (yP (fin hH5 (fun w' hf=>(yI Z (rt Z))) (fun w' hf=>?_))))))))))))
   first | exact congrArg (Value.int .i64) (xP (k:=k) (by omega) hall hp).symm | exact congrArg (Value.int .i64) (xE (fun i hi=>hall i (by omega))).symm
  have hp:(fun x:Int=>decide (x<lo∨hi<x)) (nth l (k:Int))=false:=(decide_eq_false hc6)
  refine zM Z (dF hc6) (skip (yC (zJ (region (oY hH5 (zU Z Z om) (oM hH5 Z (zE (yX (k+1) (uC Z (uC Z (uC Z (uC Z (Sub.nil _))))) (⟨hH5,om,S.all_snoc hall hp⟩) om3))))))))
 refine zM Z (dF hc3) (exit (yR (xH (zW (zu (oA hH2 Z (zt (ret (fin hH2 (fun w' hf=>(yI Z (rt Z))) (fun w' hf=>?_))))))))))
 first | exact congrArg (Value.int .i64) (xP (k:=k) (by omega) hall hp).symm | exact congrArg (Value.int .i64) (xE (fun i hi=>hall i (by omega))).symm
theorem V4 {v:Value} {l:List Int} {lo hi:Int} {b1 b2:Nat} {w:World} (h0:Rd encI 1 v l w) (k1:Bx b1 3 [.int .i64 lo] w) (k2:Bx b2 3 [.int .i64 hi] w) (hn:l.length≤1000000)  :
  Fn Tryz.prog 51 [v,(.func (.func 182) #[] #[(.pointer (some ⟨b1,0,none⟩)),(.pointer (some ⟨b2,0,none⟩))])].toArray w (fun u _=>u=.bool (has (fun x:Int=>decide (x<lo∨hi<x)) l)):=by
 refine fz Tryz.func51 Z kz Z Z (fun hH=>(zr (oA hH Z (zs (oM hH Z (oM hH Z (zS Z Z Z hH (V8 (h0.now hH (n:=0) Z) (k1.now hH (n:=0) Z) (k2.now hH (n:=0) Z) om) (fun w1 hH2=>(oY hH2 (vK Z Z) (oA hH2 Z (zt (ret (fin hH2 (fun w' hf=>(yI Z (rt Z))) (fun w' hf=>Z))))))))))))))
theorem c91 {v:Value} {l:List Int} {lo hi:Int} {w:World} (h0:Rd encI 1 v l w) (hn:l.length≤1000000)  :
  Fn Tryz.prog 116 [(.int .i64 lo),(.int .i64 hi),v].toArray w (fun u _=>u=.bool (decide (∀ x∈l,lo≤x∧x≤hi))):=by
 refine fz Tryz.func116 Z kz Z Z (fun hH=>(zr (yM Z Z Z hH (fun b1 w2 hH3=>(yM Z Z Z hH3 (fun b4 w5 hH6=>(oA hH6 Z (zs (oM hH6 Z (oY hH6 (x7 Z Z) (zS Z Z Z hH6 (V4 (h0.now hH6 (n:=2) Z) (Heap.vY hH6 (n:=1) Z) (Heap.vY hH6 (n:=0) Z) hn) (fun w7 hH8=>(oY hH8 (xD Z) (oA hH8 Z (zt (ret (fin (hH8.sub (sC (sC sR))) (fun w' hf=>(yI Z (rt Z))) (fun w' hf=>?_))))))))))))))))))
 refine congrArg Value.bool ?_; rw [Bool.eq_iff_iff,Bool.not_eq_true',uY,decide_eq_true_eq]; exact jC
theorem X9 {v:Value} {a lo hi:Int} {w:World} (h0:Rd encI 1 v [a] w):Fn Tryz.prog 116 [.int .i64 lo,.int .i64 hi,v].toArray w (fun u _=>u=.bool (decide (lo≤a∧a≤hi))):=by
 have h:=c91 (lo:=lo) (hi:=hi) h0 (by simp)
 rwa [show decide (∀ x∈[a],lo≤x∧x≤hi)=decide (lo≤a∧a≤hi) from decide_eq_decide.2 (by simp)] at h
theorem VU {v:Value} {l:List Int} {room:Int} {w:World} (h0:Rd encI 1 v l w) (hn:l.length≤1000000)  :
  Fn Tryz.prog 180 [(.agg #[(.int .i64 room),v])].toArray w (fun u _=>u=.int .i64 (Sf.ck room l)):=by
 refine fz Tryz.func180 Z kz Z Z (fun hH=>(zr (yM Z Z Z hH (fun b1 w2 hH3=>(oA hH3 Z (zt (seq (block (zr (oY hH3 (zD T.q6 Z) (oY hH3 (zC T.yB Z (cw (n:=0) Z Z)) (yJ T.zA [room] Z (fun w=>by kernel_rfl) hH3 (fun u4 lo6 hi7 w5 hH8=>(zS Z Z Z hH8 (X9 (Heap.yU T.zA hH8 (n:=0) Z)) (fun w9 hH10=>(oY hH10 (xD Z) (oA hH10 Z (zt ?_))))))))))))))))))
 by_cases hc11:1≤room∧room≤6
 ·have hr:1≤room∧room≤6:=by omega
  refine zM Z (zH hc11) (zr (oY hH10 (zD T.vC Z) (oY hH10 (zC T.xL Z (cw (n:=1) Z Z)) (oY hH10 (zX T.yE Z (h0.now hH10 (n:=2) Z).is) (oY hH10 (vS Z Z) (oA hH10 Z (zt ?_)))))))
  by_cases hc12:16<(l.length:Int)
  ·have hm:16<l.length:=by omega
   refine zP Z (dT hc12) (zr (oA hH10 Z (zt (ret (y7 (yP (fin (hH10.sub (sC (sC sR))) (fun w' hf=>(yI Z (rt Z))) (fun w' hf=>?_))))))))
   first | exact congrArg (Value.int .i64) (Sf.ck1 hr) | exact congrArg (Value.int .i64) (Sf.ck2 hr hm) | exact congrArg (Value.int .i64) (Sf.ck3 hr hm hw) | exact congrArg (Value.int .i64) (Sf.ck4 hr hm hw)
  have hm:¬ 16<l.length:=by omega
  refine zM Z (dF hc12) (zr (oY hH10 (zD T.vC Z) (oY hH10 (zC T.xL Z (cw (n:=1) Z Z)) (zS Z Z Z hH10 (c91 (h0.now hH10 (n:=2) Z) om) (fun w14 hH15=>(oY hH15 (xD Z) (oA hH15 Z (zt ?_))))))))
  by_cases hc16:∀ x∈l,1≤x∧x≤8
  ·have hw:∀ x∈l,1≤x∧x≤8:=by have hq:=(zH hc16); simpa using hq
   refine zM Z (zH hc16) (skip (yC (zu (oA hH15 Z (zt (ret (fin (hH15.sub (sC (sC sR))) (fun w' hf=>(yI Z (rt Z))) (fun w' hf=>?_))))))))
   first | exact congrArg (Value.int .i64) (Sf.ck1 hr) | exact congrArg (Value.int .i64) (Sf.ck2 hr hm) | exact congrArg (Value.int .i64) (Sf.ck3 hr hm hw) | exact congrArg (Value.int .i64) (Sf.ck4 hr hm hw)
  have hw:¬ ∀ x∈l,1≤x∧x≤8:=by have hq:=(zG hc16); simpa using hq
  refine zP Z (zG hc16) (zr (oA hH15 Z (zt (ret (y7 (yP (fin (hH15.sub (sC (sC sR))) (fun w' hf=>(yI Z (rt Z))) (fun w' hf=>?_))))))))
  first | exact congrArg (Value.int .i64) (Sf.ck1 hr) | exact congrArg (Value.int .i64) (Sf.ck2 hr hm) | exact congrArg (Value.int .i64) (Sf.ck3 hr hm hw) | exact congrArg (Value.int .i64) (Sf.ck4 hr hm hw)
 have hr:¬ (1≤room∧room≤6):=by omega
 refine zP Z (zG hc11) (zr (oA hH10 Z (zt (ret (y7 (yP (fin (hH10.sub (sC (sC sR))) (fun w' hf=>(yI Z (rt Z))) (fun w' hf=>?_))))))))
 first | exact congrArg (Value.int .i64) (Sf.ck1 hr) | exact congrArg (Value.int .i64) (Sf.ck2 hr hm) | exact congrArg (Value.int .i64) (Sf.ck3 hr hm hw) | exact congrArg (Value.int .i64) (Sf.ck4 hr hm hw)
theorem c92 {bb mb:Nat} {room:Int} {v:Value} {C:List Int} {w:World} (kb:Bx bb 138 (seg [.int .i64 room,v] C [.map (some mb)]) w) (hC:C.length=9) {l:List Int} (h0:Rd encI 1 v l w) (hn:l.length≤16) {x i:Int} (hi:0≤i∧i<l.length)  :
  Fn Tryz.prog 117 [(.pointer (some ⟨bb,0,none⟩)),(.int .i64 x),(.int .i64 i)].toArray w (fun u _=>u=.int .i64 (Sf.next l x i)):=by
 refine fz Tryz.func117 Z kz Z Z (fun hH=>?_)
 have hdl:(l.drop (i+1).toNat).length=l.length - (i+1).toNat:=List.length_drop
 have hpl:=S.place_lt (l.drop (i+1).toNat) x
 refine zr (oA hH Z (zt (seq (zr (oM hH Z (oY hH (z6 Z) (oY hH (zD T.v6 Z) (oY hH (zD T.vC Z) (oY hH (yD T.xL Z (by rfl) Z (fun _ hw=>(kb.now hw (n:=0) Z))) (oM hH Z (oY hH (zU Z Z om) (oY hH (vP T.yE Z Z (h0.now hH (n:=0) Z).is om) (oM hH Z (zS Z Z Z hH (c93 (Rd.from (h0.now hH (n:=0) Z) (lo:=(i+1).toNat) om) om) (fun w1 hH2=>(oA hH2 Z (zt (seq ?_))))))))))))))))))
 refine region (oM hH2 Z (oY hH2 (vK Z Z) (zt ?_)))
 by_cases hc3:0≤(S.place (l.drop (i+1).toNat) x)
 ·have hp:0≤S.place (l.drop (i+1).toNat) x:=by omega
  refine zP Z (dT hc3) (zr (oM hH2 Z (oY hH2 (zU Z Z om) (oM hH2 Z (oY hH2 (zU Z Z om) (oA hH2 Z (zt (ret (yP (fin hH2 (fun w' hf=>(yI Z (rt Z))) (fun w' hf=>?_)))))))))))
  first | exact congrArg (Value.int .i64) (Sf.next_t hp) | exact congrArg (Value.int .i64) (Sf.next_f hp)
 have hp:¬ 0≤S.place (l.drop (i+1).toNat) x:=by omega
 refine zM Z (dF hc3) (skip (zu (oM hH2 Z (oY hH2 (z6 Z) (oY hH2 (zD T.v6 Z) (oY hH2 (zD T.vC Z) (oY hH2 (yD T.xL Z (by rfl) Z (fun _ hw=>(kb.now hw (n:=0) Z))) (oY hH2 (zX T.yE Z (h0.now hH2 (n:=0) Z).is) (oA hH2 Z (zt (ret (fin hH2 (fun w' hf=>(yI Z (rt Z))) (fun w' hf=>?_)))))))))))))
 first | exact congrArg (Value.int .i64) (Sf.next_t hp) | exact congrArg (Value.int .i64) (Sf.next_f hp)
end Go.Fip
namespace Go.Fip
open Go.RowKit
section
variable {K V : Type} [DecidableEq K] {MT KT ET : Nat} {kv : K → Value} {vv : V → Value} {z : V}
variable {r : Option Nat} {P : Program} {N : Nat} {ds : List Deferred} {env : Env} {w : World} {Q : Post} {all : Array Oper} {rest : List Oper} {H : List Item} {x y c : Operand} {S : World → Prop}
  {d : Nat} {ty : TypeId} {pos : String} {after : Array Edge}
theorem YE {ty':TypeId} (hM:MapT P MT KT ET kv vv z) {b clock:Nat} {es:Array MapEntry} {m:List (K×V)} (hb:w.heap[b]? = some (.map es clock)) (he:Ents kv vv es clock m) (k:K) :
  ∃ es',(Builtin.delete_ #[MT,KT] ty' #[.map (some b),kv k]).run P w=.ok (.tuple #[]) (w.putObj b (.map es' clock))∧Ents kv vv es' clock (del k m)∧es'.toList.Sublist es.toList:=by
 obtain ⟨h2,h3,h4,h5⟩:=he
 have h1:=hb
 have hf:=qN (w:=w) hM k es.toList m h2
 have hlt:=(Array.getElem?_eq_some_iff.1 h1).1
 cases hx:findI k m 0 with
 | none =>
  rw [hx] at hf
  simp only [Option.map_none] at hf
  have hnm:=uT hx
  have hdel:del k m=m:=by
   clear h2 h3 hf hx
   induction m with
   | nil=>rfl
   | cons p m ih =>
    simp only [List.map_cons,List.mem_cons,not_or] at hnm
    simp [del,hnm.1,ih hnm.2]
  refine ⟨es,?_,⟨by rw [hdel]; exact h2,by rw [hdel]; exact h3,h4,h5⟩,List.Sublist.refl _⟩
  simp [Builtin.delete_,run_underlying hM.und,run_getMap h1,hM.ck,hf,run_setMap _ h1,Result.andThen]
 | some p =>
  obtain ⟨j,u⟩:=p
  rw [hx] at hf
  simp only [Option.map_some] at hf
  obtain ⟨a,hb,hc,_,hd⟩:=uQ (v:=u) (val:=vv u) h2 hx
  simp only [Nat.sub_zero] at hb hc hd
  have hes:(es.eraseIdxIfInBounds j).toList=es.toList.eraseIdx j:=by
   simp only [Array.eraseIdxIfInBounds]
   split
   ·simp
   ·rename_i hge; exact absurd (by simpa using hb) hge
  refine ⟨es.eraseIdxIfInBounds j,?_,⟨by rw [hes]; exact hd,h3.sublist (kR k m),?_,?_⟩,by rw [hes]; exact List.eraseIdx_sublist _ _⟩
  ·simp [Builtin.delete_,run_underlying hM.und,run_getMap h1,hM.ck,hf,run_setMap _ h1,Result.andThen]
  ·rw [hes]; exact h4.sublist ((List.eraseIdx_sublist _ _).map _)
  ·intro e he
   rw [hes] at he
   exact h5 e ((List.eraseIdx_sublist _ _).subset he)
theorem YN (hM:MapT P MT KT ET kv vv z) {b n clock:Nat} {es:Array MapEntry} {m:List (K×V)} {k:K} (he:Ents kv vv es clock m) (hx:ev env x=some (.map (some b))) (hy:ev env y=some (kv k)) (hH:Heap H w) (hn:H[n]? = some (raw b (.map es clock)))
  (h:∀ es' w',Ents kv vv es' clock (del k m)→es'.toList.Sublist es.toList→Heap (H.set n (raw b (.map es' clock))) w'→Ops r P N all rest ds env w' Q) :
  Ops r P N all (⟨none,.call ⟨.builtin .delete, #[x,y], #[MT,KT]⟩,ty,pos,after,none⟩::rest) ds env w Q:=by
 have hb:w.heap[b]? = some (.map es clock):=hH.get hn
 obtain ⟨es',h1,h2,h3⟩:=YE (P:=P) (ty':=ty) hM hb he k
 have hlt:=(Array.getElem?_eq_some_iff.1 hb).1
 refine uX (fun c hc=>by cases hc) (fun a ha=>.inr ⟨.tuple #[],?_⟩) (h es' _ h2 h3 (hH.set hn (xZ w b _) (.inl ⟨Nat.le_refl _,Nat.le_refl _⟩) (jV (World.putObj_heap_same hlt))))
 simp only [execOp,resolve,invoke,builtin,Sem.run_bind,Sem.run_pure,Result.andThen,List.map_toArray,List.map_cons,List.map_nil,ha.ev hx,ha.ev hy,h1]
end
section
variable {K V : Type} [DecidableEq K] {kv : K → Value} {vv : V → Value}
theorem Ents.mp {es:Array MapEntry} {clock b:Nat} {m:List (K×V)} {w:World} (h:Ents kv vv es clock m) (hb:w.heap[b]? = some (.map es clock)):Mp kv vv b m w:=⟨es,clock,hb,h.views,h.nd,h.bornNd,h.born⟩
theorem Mp.ents {b:Nat} {m:List (K×V)} {w:World} (h:Mp kv vv b m w):∃ es clock,w.heap[b]? = some (.map es clock)∧Ents kv vv es clock m:=by
 obtain ⟨es,clock,h1,h2,h3,h4,h5⟩:=h
 exact ⟨es,clock,h1,⟨h2,h3,h4,h5⟩⟩
end
end Go.Fip
namespace Go.Fip
section
variable {K V : Type} [DecidableEq K] {kv : K → Value} {vv : V → Value}
def BnEx (kv:K→Value) (vv:V→Value) (F:List (K×V)→Prop) (t b:Nat) (pre:List Value) (C:List Int) (w:World):Prop:=∃ mb m,Bx b t (seg pre C [.map (some mb)]) w∧Mp kv vv mb m w∧F m
theorem Heap.VH {t n lo hi b : Nat} {pre : List Value} {C : List Int} {F : List (K × V) → Prop} {φ : World → Prop} {H : List Item} {w : World} (hH : Heap H w) (hn : H[n]? = some ⟨lo, hi, φ⟩) (hφ : ∀ w', φ w' → BnEx kv vv F t b pre C w') :
    ∃ mb m, F m ∧ Heap (mp kv vv mb m :: H.set n (bx b t (seg pre C [.map (some mb)]))) w := by
  have hok := hH.okAt hn
  obtain ⟨mb, m, hbx, hmp, hF⟩ := hφ w hok.now
  obtain ⟨es, clock, hm, he⟩ := hmp.ents
  have hbin := Item.within hok hbx (fun w' h _ hx => by
    obtain ⟨_, _, hb', _⟩ := hφ w' h
    unfold Bx at hb'
    rw [hb'] at hx; cases hx)
  have hmb : mb ≠ b := fun e => by
    unfold Bx at hbx
    rw [e, hbx] at hm; cases hm
  have hmin := Item.within hok hm (fun w' h hoth hx => by
    obtain ⟨mb', m', hb', hmp', _⟩ := hφ w' h
    obtain ⟨es', clock', hm', _⟩ := hmp'.ents
    have h5 := hoth b (fun e => hmb e.symm)
    unfold Bx at hb' hbx
    rw [hb', hbx] at h5
    simp [seg] at h5
    rw [h5] at hm'
    rw [hm'] at hx; cases hx)
  refine ⟨mb, m, hF, hH.two hn ⟨hbin.1, hbin.2⟩ ⟨hmin.1, hmin.2⟩ ?_ (kV hbx) (ZV hmp)⟩
  unfold Item.apart bx mp
  simp only
  omega
end
end Go.Fip
namespace Go.Fip
open Go.RowKit
theorem YY {P:Program} {N:Nat} {ds:List Deferred} {env:Env} {S:World→Prop} {x:Operand} {T n E sz b o:Nat} (hT:TArr P T n E sz) (hx:ev env x=some (.pointer (some ⟨b,o,none⟩))):Yv P N ds env (.slice T x none none none) (.slice (some ⟨b,o,none⟩) n n) S:=fun a ha w _ _ _ _ _ _=>by
 have e:(⟨b,o,none⟩:Addr).add 0=⟨b,o,none⟩:=by unfold Addr.add; split <;> rfl
 simp [execOp,ha.ev hx,Instr.sliceAt,run_underlying hT.1,Instr.sliceBounds,run_size hT.2,Result.andThen,Instr.sureAddr,asAddr,e]
theorem qO {r:Option Nat} {P:Program} {N:Nat} {ds:List Deferred} {env:Env} {w:World} {Q:Post} {all:Array Oper} {rest:List Oper} {H:List Item} {x:Operand} {dst:Option Nat} {ty:TypeId} {pos:String} {after:Array Edge}
  {T E n m b t o:Nat} {pre post:List Value} {C:List Int} (hE:El P T E 1 encI) (hz0:∀ i,P.info? E=some i→i.zero.map (·.cells.toList)=some (encI 0)) (hs:ev env x=some (.slice (some ⟨b,o,none⟩) m m)) (ho:o=pre.length) (hm:C.length=m) (hm0:0<m) (hd:dstOK N dst=true) (hH:Heap H w)
  (hn:H[n]? = some (bx b t (seg pre C post))) (h:∀ w',Heap (H.set n (bx b t (seg pre (List.replicate m 0) post))) w'→Ops r P N all rest ds (putE dst (.tuple #[]) env) w' Q) :
  Ops r P N all (⟨dst,.call ⟨.builtin .clear, #[x], #[T]⟩,ty,pos,after,none⟩::rest) ds env w Q:=by
 subst ho
 obtain ⟨i,z,hi1,hz,hsz,hby,hzs⟩:=hE.info
 have hzc:=hz0 i hi1
 rw [hz] at hzc
 simp only [Option.map_some,Option.some.injEq] at hzc
 have hb:w.heap[b]? = some (.cells (seg pre C post).toArray t (0,0)):=hH.get hn
 have hzl:(Builtin.zeroCells z.cells m).toList=ints (List.replicate m 0):=by
  have:=vI hE.len hE.pos hzc m
  have e:(List.replicate m (0:Int)).flatMap encI=ints (List.replicate m 0):=by
   unfold ints encI; rw [← List.map_eq_flatMap]
  rw [← e, ← this]
  simp [Builtin.zeroCells,madeCells,hzs]
 have hst:=run_storeCells_at (P:=P) b pre.length t (ints (List.replicate m 0)) 0 (seg pre C post).toArray w hb (by simp [YZ,vA,hm]) (fun u hu=>List.all_eq_true.1 XE u hu)
 have hnew:((seg pre C post).toArray.toList.take (pre.length+0)++ints (List.replicate m 0)++(seg pre C post).toArray.toList.drop (pre.length+0+(ints (List.replicate m 0)).length)).toArray=(seg pre (List.replicate m 0) post).toArray:=by
  congr 1
  unfold seg
  simp only [Nat.add_zero,List.take_left,vA,List.length_replicate]
  rw [← List.drop_drop,List.drop_left,List.drop_left' (by rw [vA]; exact hm),List.append_assoc]
 rw [hnew] at hst
 have hzv:(zeroValue E).run P w=.ok z w:=by simp [zeroValue,typeInfo,hi1,hz,Result.andThen]
 have hcl:(Builtin.clear_ #[T] ty #[.slice (some ⟨b,pre.length,none⟩) m m]).run P w=.ok (.tuple #[]) (w.setRow b (seg pre (List.replicate m 0) post).toArray):=by
  obtain ⟨k,rfl⟩:∃ k,m=k+1:=⟨m - 1,by omega⟩
  unfold Builtin.clear_
  simp [run_underlying hE.und,hzv,hzl,hst,Result.andThen]
 refine vZ hd (fun c hc=>by cases hc) (fun a ha=>?_) (h _ (hH.set hn (xY w b _) (.inl ⟨Nat.le_refl _,Nat.le_refl _⟩) (kV (setRow_heap w b _ _ t (0,0) hb))))
 simp only [execOp,resolve,invoke,builtin,Sem.run_bind,Sem.run_pure,Result.andThen,List.map_toArray,List.map_cons,List.map_nil,ha.ev hs,hcl]
end Go.Fip
