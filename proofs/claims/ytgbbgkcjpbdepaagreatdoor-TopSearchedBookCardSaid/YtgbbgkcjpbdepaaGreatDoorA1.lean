/- Joined texts: what the statement needs, walks by program (wip/tools). -/
import Derived.RangeFuncRecord
import Derived.RangeFuncLeaves
import Derived.TacticsIn
import Derived.OrdersIn
import Derived.WalkKit
import Derived.Scope
import Derived.ChangeKeysEq
import Derived.Laws.StructEq
import Derived.Laws.Entries
import Derived.Laws.IdiomStrings
import Derived.Laws.Concat
import Derived.Laws.Strings
import Derived.Lib.Strings
import Derived.Laws.BitsAllLaws
import Derived.Lib.Repeat
set_option linter.unusedVariables false
set_option linter.unusedSimpArgs false
set_option linter.unusedSectionVars false
set_option linter.unnecessarySimpa false
namespace Go.Fip
theorem Z.{u} {α : Sort u} {a : α} : a = a := rfl
theorem om {p : Prop} (h : p := by omega) : p := h
theorem kz {p : Prop} (h : p := by kernel_rfl) : p := h
theorem om3 {p : Prop} (h : p := by first | (dsimp only; omega) | (show _ < _; omega)) : p := h
theorem om2 {p : Prop} (h : p := by first | omega | (simp only [List.length_append, List.length_cons, List.length_nil]; omega)) : p := h
theorem sC {α : Type} {a : α} {l m : List α} (h : l.Sublist m) : l.Sublist (a :: m) := .cons a h
theorem sK {α : Type} {a : α} {l m : List α} (h : l.Sublist m) : (a :: l).Sublist (a :: m) := .cons_cons a h
theorem sR {α : Type} {l : List α} : l.Sublist l := .refl l
theorem dF {p : Prop} [Decidable p] (h : ¬ p) : decide p = false := decide_eq_false h
theorem dT {p : Prop} [Decidable p] (h : p) : decide p = true := decide_eq_true h
end Go.Fip
namespace Go.Fip
open Go.RowKit
def Fr:Option Nat→Fence
 | none=>Fence.wide
 | some l=>Fence.wide.inRound l
theorem Fr_round (r:Option Nat):(Fr r).round=r:=by cases r <;> rfl
theorem Fr_fn (r:Option Nat) (f:FuncId):(Fr r).fn f:=by cases r <;> trivial
theorem Fr_depth (r:Option Nat):(Fr r).depth=none:=by cases r <;> rfl
theorem semAt_Fr (r:Option Nat) (ρ:Operand→Value) (o:Oper) (h:∀ c,o.op≠.defer c):o.semAt (Fr r).round ρ=execOp ρ o:=by
 rw [Fr_round]; exact Oper.semAt_eq r ρ o h
abbrev Env:=List (Nat×Value)
def Env.find:Env→Nat→Option Value
 | [],_=>none
 | p::r,i=>match Nat.beq p.1 i with
  | true=>some p.2
  | false=>Env.find r i
structure Fits (N:Nat) (a:Act) (ds:List Deferred) (env:Env):Prop where
 size:a.tmps.size=N
 defers:a.defers=ds
 slot:∀ i v,env.find i=some v→a.tmps[i]? = some v
theorem Fits.put {N : Nat} {a : Act} {ds : List Deferred} {env : Env} (h : Fits N a ds env) {d : Nat} (hd : d < N) (v : Value) : Fits N (a.put (some d) v) ds ((d, v) :: env) := by
  refine ⟨by simp [Act.put, h.size], by simp [Act.put, h.defers], fun i u hi => ?_⟩
  simp only [Act.put]
  by_cases e : d = i
  · subst e
    have : Nat.beq d d = true := Nat.beq_refl d
    simp only [Env.find, this] at hi
    cases hi
    simp [h.size, hd]
  · have : Nat.beq d i = false := by
      cases hb : Nat.beq d i with
      | true => exact absurd (Nat.eq_of_beq_eq_true hb) e
      | false => rfl
    simp only [Env.find, this] at hi
    rw [Array.getElem?_setIfInBounds_ne e]
    exact h.slot i u hi
def Sub (env' env:Env):Prop:=∀ i v,env'.find i=some v→env.find i=some v
theorem Sub.refl (env:Env):Sub env env:=fun _ _ h=>h
theorem Fits.sub {N:Nat} {a:Act} {ds:List Deferred} {env env':Env} (h:Fits N a ds env) (hs:Sub env' env):Fits N a ds env':=⟨h.size,h.defers,fun i v hi=>h.slot i v (hs i v hi)⟩
theorem Sub.nil (env:Env):Sub [] env:=fun _ _ h=>by simp [Env.find] at h
theorem Sub.cons {env env':Env} {i:Nat} {v:Value} (h:env.find i=some v) (hs:Sub env' env):Sub ((i,v)::env') env:=by
 intro j u hj
 simp only [Env.find] at hj
 split at hj
 ·rename_i hb
  cases hj
  rw [← Nat.eq_of_beq_eq_true hb]
  exact h
 ·exact hs j u hj
def ev (env:Env):Operand→Option Value
 | .tmp t=>env.find t
 | .const v=>some v
 | .global g=>some (.pointer (some ⟨g,0,none⟩))
 | .func f=>some (.func (.func f) #[] #[])
theorem Fits.ev {N:Nat} {a:Act} {ds:List Deferred} {env:Env} (h:Fits N a ds env) {x:Operand} {v:Value} (hx:ev env x=some v):a.eval x=v:=by
 cases x with
 | tmp t =>
  have:=h.slot t v hx
  simp [Act.eval,this]
 | const u=>simp [Fip.ev] at hx; simp [Act.eval,hx]
 | global g=>simp [Fip.ev] at hx; simp [Act.eval,hx]
 | func f=>simp [Fip.ev] at hx; simp [Act.eval,hx]
abbrev Post:=Exit→List Deferred→Env→World→Prop
def lift (N:Nat) (Q:Post):Exit→Act→World→Prop:=fun e a w=>∃ ds env,Fits N a ds env∧Q e ds env w
def Holds (r:Option Nat) (P:Program) (N:Nat) (c:Code) (ds:List Deferred) (env:Env) (w:World) (Q:Post):Prop :=
 ∀ a,Fits N a ds env→c.wpIn (Fr r) 0 P (lift N Q) a w
def Ops (r:Option Nat) (P:Program) (N:Nat) (all:Array Oper) (l:List Oper) (ds:List Deferred) (env:Env) (w:World) (Q:Post):Prop :=
 ∀ a,Fits N a ds env→wpListIn (Fr r) 0 P all (lift N Q) l a w
section rules
variable {r : Option Nat} {P : Program} {N : Nat} {ds : List Deferred} {env : Env} {w : World} {Q : Post}
theorem Holds.mono {c:Code} {Q':Post} (h:Holds r P N c ds env w Q) (hq:∀ e ds env w,Q e ds env w→Q' e ds env w):Holds r P N c ds env w Q' :=
 fun a ha=>Go.wpIn_mono (h a ha) fun _ _ _ ⟨ds,env,hf,q⟩=>⟨ds,env,hf,hq _ _ _ _ q⟩
theorem Holds.sub {c:Code} {env':Env} (h:Holds r P N c ds env' w Q) (hs:Sub env' env):Holds r P N c ds env w Q :=
 fun a ha=>h a (ha.sub hs)
def thn (r:Option Nat) (P:Program) (N:Nat) (y:Code) (Q:Post):Post
 | .normal,ds,env,w=>Holds r P N y ds env w Q
 | e,ds,env,w=>Q e ds env w
theorem seq {x y : Code} (h : Holds r P N x ds env w (thn r P N y Q)) : Holds r P N (.seq x y) ds env w Q :=
  fun a ha => wpIn_seq (Go.wpIn_mono (h a ha) fun e a' w' ⟨ds', env', hf, q⟩ => by
    cases e with
    | normal => exact q a' hf
    | ret => exact ⟨ds', env', hf, q⟩
    | exit i => exact ⟨ds', env', hf, q⟩
    | goto i => exact ⟨ds', env', hf, q⟩
    | panic i => exact ⟨ds', env', hf, q⟩
    | outgrown => exact ⟨ds', env', hf, q⟩)
theorem zN {y:Code} (h:Holds r P N y ds env w Q):thn r P N y Q .normal ds env w:=h
theorem zV {y:Code} (h:Q .ret ds env w):thn r P N y Q .ret ds env w:=h
theorem yS {y:Code} {i:Nat} (h:Q (.exit i) ds env w):thn r P N y Q (.exit i) ds env w:=h
theorem skip (h:Q .normal ds env w):Holds r P N .skip ds env w Q:=fun _ ha=>wpIn_skip ⟨ds,env,ha,h⟩
theorem ret (h:Q .ret ds env w):Holds r P N .ret ds env w Q:=fun _ ha=>wpIn_ret ⟨ds,env,ha,h⟩
theorem exit {i:Nat} (h:Q (.exit i) ds env w):Holds r P N (.exit i) ds env w Q:=fun _ ha=>wpIn_exit ⟨ds,env,ha,h⟩
theorem goto {i:Nat} (h:Q (.goto i) ds env w):Holds r P N (.goto i) ds env w Q:=fun _ ha=>wpIn_goto ⟨ds,env,ha,h⟩
theorem cond {c:Operand} {x y:Code} {b:Bool} (hc:ev env c=some (.bool b)) (ht:b=true→Holds r P N x ds env w Q) (hf:b=false→Holds r P N y ds env w Q) :
  Holds r P N (.cond c x y) ds env w Q :=
 fun a ha=>wpIn_cond_split (ha.ev hc) (fun h=>ht h a ha) (fun h=>hf h a ha)
theorem zL {c:Operand} {x y:Code} {b:Bool} (hc:ev env c=some (.bool b)) (hb:b=true) (ht:Holds r P N x ds env w Q):Holds r P N (.cond c x y) ds env w Q :=
 cond hc (fun _=>ht) (fun h=>by rw [hb] at h; cases h)
theorem zM {c:Operand} {x y:Code} {b:Bool} (hc:ev env c=some (.bool b)) (hb:b=false) (hf:Holds r P N y ds env w Q):Holds r P N (.cond c x y) ds env w Q :=
 cond hc (fun h=>by rw [hb] at h; cases h) (fun _=>hf)
def blk (i:Nat) (Q:Post):Post
 | .exit j,ds,env,w=>if j=i then Q .normal ds env w else Q (.exit j) ds env w
 | e,ds,env,w=>Q e ds env w
theorem block {i : Nat} {c : Code} (h : Holds r P N c ds env w (blk i Q)) : Holds r P N (.block i c) ds env w Q :=
  fun a ha => wpIn_block (Go.wpIn_mono (h a ha) fun e a' w' ⟨ds', env', hf, q⟩ => by
    cases e with
    | exit j =>
      simp only [blk] at q
      simp only [Exit.inBlock]
      split
      · rename_i h; rw [if_pos h] at q; exact ⟨ds', env', hf, q⟩
      · rename_i h; rw [if_neg h] at q; exact ⟨ds', env', hf, q⟩
    | normal => exact ⟨ds', env', hf, q⟩
    | ret => exact ⟨ds', env', hf, q⟩
    | goto i => exact ⟨ds', env', hf, q⟩
    | panic i => exact ⟨ds', env', hf, q⟩
    | outgrown => exact ⟨ds', env', hf, q⟩)
theorem zX {i:Nat} (h:Q .normal ds env w):blk i Q .normal ds env w:=h
theorem z8 {i:Nat} (h:Q .ret ds env w):blk i Q .ret ds env w:=h
theorem z6 {i:Nat} (h:Q .normal ds env w):blk i Q (.exit i) ds env w:=by simpa [blk] using h
def lp {S:Type} (E:S→Env) (D:S→List Deferred) (R:S→World→Prop) (μ:S→Nat) (s:S) (Q:Post):Post
 | .normal,ds,env,w=>∃ s',ds=D s'∧Sub (E s') env∧R s' w∧μ s'<μ s
 | e,ds,env,w=>Q e ds env w
theorem xR {p:Nat→Prop} (h:∃ k,p k):∃ k,p k∧∀ j,p j→k≤j:=by
 classical
 obtain ⟨k,hk⟩:=h
 induction k using Nat.strongRecOn with
 | _ k ih =>
  by_cases hs:∃ j,j<k∧p j
  ·obtain ⟨j,hj,hp⟩:=hs; exact ih j hj hp
  ·exact ⟨k,hk,fun j hj=>Nat.le_of_not_lt fun hlt=>hs ⟨j,hlt,hj⟩⟩
theorem loopD {S:Type} (E:S→Env) (D:S→List Deferred) (R:S→World→Prop) (μ:S→Nat) (s0:S) {c:Code} (hds:ds=D s0) (h0:Sub (E s0) env) (hR:R s0 w)
  (hround:∀ s w,R s w→Holds r P N c (D s) (E s) w (lp E D R μ s Q)):Holds r P N (.loop c) ds env w Q:=by
 intro a ha
 classical
 refine wpIn_loop (fun a w=>∃ s,Fits N a (D s) (E s)∧R s w) (fun a w=>if h:∃ k s,Fits N a (D s) (E s)∧R s w∧μ s=k then Classical.choose (xR h) else 0) ?_ ?_
 ·exact ⟨s0,hds ▸ ha.sub h0,hR⟩
 ·rintro a1 w1 ⟨s1,hf1,hR1⟩
  have hex:∃ k s,Fits N a1 (D s) (E s)∧R s w1∧μ s=k:=⟨_,s1,hf1,hR1,rfl⟩
  obtain ⟨⟨s,hf,hRs,hk⟩,hmin⟩:=Classical.choose_spec (xR hex)
  refine Go.wpIn_mono (hround s w1 hRs a1 hf) ?_
  rintro e a2 w2 ⟨ds',env',hf',q⟩
  cases e with
  | normal =>
   obtain ⟨s',rfl,hs',hR',hlt⟩:=q
   refine ⟨⟨s',hf'.sub hs',hR'⟩,?_⟩
   have hex2:∃ k s,Fits N a2 (D s) (E s)∧R s w2∧μ s=k:=⟨_,s',hf'.sub hs',hR',rfl⟩
   have hm2:=(Classical.choose_spec (xR hex2)).2 (μ s') ⟨s',hf'.sub hs',hR',rfl⟩
   rw [dif_pos hex,dif_pos hex2]
   omega
  | ret=>exact ⟨ds',env',hf',q⟩
  | exit i=>exact ⟨ds',env',hf',q⟩
  | goto i=>exact ⟨ds',env',hf',q⟩
  | panic i=>exact ⟨ds',env',hf',q⟩
  | outgrown=>exact ⟨ds',env',hf',q⟩
theorem loop {S:Type} (E:S→Env) (R:S→World→Prop) (μ:S→Nat) (s0:S) {c:Code} (h0:Sub (E s0) env) (hR:R s0 w)
  (hround:∀ s w,R s w→Holds r P N c ds (E s) w (lp E (fun _=>ds) R μ s Q)):Holds r P N (.loop c) ds env w Q:=loopD E (fun _=>ds) R μ s0 rfl h0 hR hround
theorem yH {S:Type} {E:S→Env} {D:S→List Deferred} {R:S→World→Prop} {μ:S→Nat} {s:S} (s':S) (hs:Sub (E s') env) (hR:R s' w) (hm:μ s'<μ s) (hD:ds=D s':=by rfl):lp E D R μ s Q .normal ds env w:=⟨s',hD,hs,hR,hm⟩
theorem xV {S:Type} {E:S→Env} {D:S→List Deferred} {R:S→World→Prop} {μ:S→Nat} {s:S} (h:Q .ret ds env w):lp E D R μ s Q .ret ds env w:=h
theorem xO {S:Type} {E:S→Env} {D:S→List Deferred} {R:S→World→Prop} {μ:S→Nat} {s:S} {i:Nat} (h:Q (.exit i) ds env w):lp E D R μ s Q (.exit i) ds env w:=h
def mid {S:Type} (E:S→Env) (R:S→World→Prop) (ds0:List Deferred) (Q:Post):Post
 | .normal,ds,env,w=>ds=ds0∧∃ s,Sub (E s) env∧R s w
 | e,ds,env,w=>Q e ds env w
theorem cut {S : Type} (E : S → Env) (R : S → World → Prop) {x y : Code} (hx : Holds r P N x ds env w (mid E R ds Q)) (hy : ∀ s w, R s w → Holds r P N y ds (E s) w Q) : Holds r P N (.seq x y) ds env w Q :=
  seq (hx.mono fun e ds' env' w' q => by
    cases e with
    | normal => obtain ⟨rfl, s, hs, hR⟩ := q; exact (hy s w' hR).sub hs
    | ret => exact q
    | exit i => exact q
    | goto i => exact q
    | panic i => exact q
    | outgrown => exact q)
theorem region {id:Nat} {l:List Oper} (h:Ops r P N l.toArray l ds env w Q):Holds r P N (.region id l.toArray false) ds env w Q:=fun a ha=>wpIn_region_lit (h a ha)
theorem zG {all:Array Oper} (h:Q .normal ds env w):Ops r P N all [] ds env w Q:=fun _ ha=>wpListIn_nil ⟨ds,env,ha,h⟩
theorem xU {all:Array Oper} {rest:List Oper} {d:Nat} {op:Op} {ty:TypeId} {pos:String} {after:Array Edge} {v:Value} {w':World}
  (hd:Nat.blt d N=true) (hop:∀ c,op≠.defer c) (hrun:∀ a,Fits N a ds env→(execOp a.eval ⟨some d,op,ty,pos,after,none⟩).run P w=.ok (.value v) w')
  (h:Ops r P N all rest ds ((d,v)::env) w' Q):Ops r P N all (⟨some d,op,ty,pos,after,none⟩::rest) ds env w Q:=by
 intro a ha
 refine wpListIn_plain rfl fun K hK=>⟨fun f _=>Fr_fn r f,?_⟩
 rw [semAt_Fr r _ _ hop,hrun a ha]
 exact hK _ _ (h _ (ha.put (by simpa [Nat.blt_eq] using hd) v))
theorem jB {all:Array Oper} {rest:List Oper} {op:Op} {ty:TypeId} {pos:String} {after:Array Edge} {w':World}
  (hop:∀ c,op≠.defer c) (hrun:∀ a,Fits N a ds env→(execOp a.eval ⟨none,op,ty,pos,after,none⟩).run P w=.ok .skip w'∨∃ v,(execOp a.eval ⟨none,op,ty,pos,after,none⟩).run P w=.ok (.value v) w')
  (h:Ops r P N all rest ds env w' Q):Ops r P N all (⟨none,op,ty,pos,after,none⟩::rest) ds env w Q:=by
 intro a ha
 refine wpListIn_plain rfl fun K hK=>⟨fun f _=>Fr_fn r f,?_⟩
 rw [semAt_Fr r _ _ hop]
 rcases hrun a ha with h1 | ⟨v,h1⟩ <;> rw [h1] <;> exact hK _ _ (h _ ha)
theorem zB {all:Array Oper} {rest:List Oper} {dst:Option Nat} {op:Op} {ty:TypeId} {pos:String} {after:Array Edge} {j:Nat} {want:Bool} {s:Nat} {b:Bool}
  (hj:(all[j]?).bind (·.dst)=some s) (hs:env.find s=some (.bool b)) (hb:b=want)
  (h:Ops r P N all (⟨dst,op,ty,pos,after,none⟩::rest) ds env w Q):Ops r P N all (⟨dst,op,ty,pos,after,some (j,want)⟩::rest) ds env w Q:=by
 intro a ha
 have hy:yielded all a.tmps j=some b:=by
  unfold yielded
  rw [hj]
  simp only [Option.bind_some]
  have h1:=ha.slot s _ hs
  rw [h1]
 have:=h a ha
 simp only [wpListIn,Region.wanted,if_true] at this
 simp only [wpListIn,Region.wanted,hy,hb,BEq.rfl,if_true]
 exact this
theorem zA {all:Array Oper} {rest:List Oper} {d:Nat} {op:Op} {ty:TypeId} {pos:String} {after:Array Edge} {j:Nat} {want:Bool} {s:Nat} {b:Bool}
  (hj:(all[j]?).bind (·.dst)=some s) (hs:env.find s=some (.bool b)) (hb:b = !want) (hd:Nat.blt d N=true)
  (h:Ops r P N all rest ds ((d,undef)::env) w Q):Ops r P N all (⟨some d,op,ty,pos,after,some (j,want)⟩::rest) ds env w Q:=by
 intro a ha
 have hy:yielded all a.tmps j=some b:=by
  unfold yielded
  rw [hj]
  simp only [Option.bind_some]
  have h1:=ha.slot s _ hs
  rw [h1]
 have hw:(some b == some want)=false:=by rw [hb]; cases want <;> rfl
 simp only [wpListIn,Region.wanted,hy,hw]
 exact ⟨fun f _=>Fr_fn r f,h _ (ha.put (by simpa [Nat.blt_eq] using hd) undef)⟩
theorem zE {all:Array Oper} {rest:List Oper} {d:Nat} {op:Op} {ty:TypeId} {pos:String} {after:Array Edge} {j:Nat} {want:Bool} {s:Nat}
  (hj:(all[j]?).bind (·.dst)=some s) (hs:env.find s=some undef) (hd:Nat.blt d N=true)
  (h:Ops r P N all rest ds ((d,undef)::env) w Q):Ops r P N all (⟨some d,op,ty,pos,after,some (j,want)⟩::rest) ds env w Q:=by
 intro a ha
 have hy:yielded all a.tmps j=none:=by
  unfold yielded
  rw [hj]
  simp only [Option.bind_some]
  have h1:=ha.slot s _ hs
  rw [h1]
  rfl
 simp only [wpListIn,Region.wanted,hy]
 exact ⟨fun f _=>Fr_fn r f,h _ (ha.put (by simpa [Nat.blt_eq] using hd) undef)⟩
end rules
section draw
variable {r : Option Nat} {P : Program} {ops : Array Oper} {S : World → Prop}
def YieldsS (P:Program) (ops:Array Oper) (S:World→Prop) (o:Oper) (v:Value) (a:Act):Prop :=
 (Region.wanted o (yielded ops a.tmps)=true∧∀ w,S w→(execOp a.eval o).run P w=.ok (.value v) w)∨(Region.wanted o (yielded ops a.tmps)=false∧v=undef)
theorem YieldsS.of_same {o:Oper} {v:Value} {a a':Act} (hy:YieldsS P ops S o v a) (he:execOp a'.eval o=execOp a.eval o)
  (hw:Region.wanted o (yielded ops a'.tmps)=Region.wanted o (yielded ops a.tmps)):YieldsS P ops S o v a':=by
 unfold YieldsS at *
 rw [he,hw]
 exact hy
def only (K:Act→World→Prop):Exit→Act→World→Prop
 | .normal,a,w=>K a w
 | _,_,_=>False
def noDefer (ops:Array Oper):Bool:=ops.all fun o=>match o.op with | .defer _=>false | .select .. => false | _=>true
theorem noDefer_spec (h:noDefer ops=true) {j:Nat} {o:Oper} (ho:ops[j]? = some o):(∀ c,o.op≠.defer c)∧(∀ cs b,o.op≠.select cs b):=by
 obtain ⟨hj,rfl⟩:=Array.getElem?_eq_some_iff.1 ho
 have:=Array.all_eq_true.1 h j hj
 constructor
 ·intro c hc; rw [hc] at this; cases this
 ·intro cs b hc; rw [hc] at this; cases this
theorem YieldsS.wpOp {K0:Act→World→Prop} {i:Nat} {o:Oper} {v:Value} {a:Act} (hi:ops[i]? = some o) (hd:∀ c,o.op≠.defer c) (hy:YieldsS P ops S o v a)
  {K:Act→World→Prop} {w:World} (hS:S w) (h:K (a.put o.dst v) w):wpOpIn (Fr r) 0 P ops (only K0) i K a w:=by
 unfold wpOpIn
 simp only [hi]
 rcases hy with ⟨hw,hv⟩ | ⟨hw,rfl⟩
 ·simp only [hw,if_true,Oper.wpIn,semAt_Fr r _ _ hd,hv w hS,Oper.uponIn]; exact ⟨fun f _=>Fr_fn r f,h⟩
 ·simp only [hw,Bool.false_eq_true,if_false]; exact ⟨fun f _=>Fr_fn r f,h⟩
theorem wpOp_putS {K0:Act→World→Prop} {j:Nat} {oi oj:Oper} {v:Value} (hj:ops[j]? = some oj) (hap:oi.apart ops oj=true) (hnd:noDefer ops=true)
  (hsi:∀ cs b,oi.op≠.select cs b) {K:Act→World→Prop} {a:Act} {w:World}
  (hy:YieldsS P ops S oi v a) (h:wpOpIn (Fr r) 0 P ops (only K0) j K (a.put oi.dst v) w) :
  wpOpIn (Fr r) 0 P ops (only K0) j (fun a' w'=>YieldsS P ops S oi v a'∧K (a'.put oi.dst v) w') a w:=by
 obtain ⟨h1,h2,h3⟩:=Oper.apart_spec hap
 obtain ⟨hdj,hsj⟩:=noDefer_spec hnd hj
 have keep:∀ (a:Act),YieldsS P ops S oi v a→∀ u,YieldsS P ops S oi v (a.put oj.dst u):=fun a hy u =>
  hy.of_same (execOp_put oi hsi a oj.dst u h3) (wanted_put oi a oj.dst u h3)
 have keepD:∀ d,YieldsS P ops S oi v { a with defers:=d::a.defers }:=fun d=>hy.of_same rfl rfl
 unfold wpOpIn at *
 simp only [hj] at *
 rw [wanted_put oj a oi.dst v h1] at h
 split
 ·rename_i hw
  simp only [hw,if_true] at h
  unfold Oper.wpIn at *
  refine ⟨fun f _=>Fr_fn r f,?_⟩
  have h:=h.2
  rw [semAt_Fr r _ _ hdj,execOp_put oj hsj a oi.dst v h1] at h
  rw [semAt_Fr r _ _ hdj]
  generalize (execOp a.eval oj).run P w=res at *
  cases res with
  | ok x w' =>
   cases x <;> simp only [Oper.uponIn] at h ⊢
   case value u=>exact ⟨keep a hy u,by rw [← Act.put_comm a v u h2]; exact h⟩
   case skip=>exact ⟨keep a hy _,by rw [← Act.put_comm a v undef h2]; exact h⟩
   case defer d =>
    refine ⟨keep { a with defers:=d::a.defers } (keepD d) _,?_⟩
    rw [← Act.put_comm _ v undef h2, ← Act.put_defers]
    exact h
   case enter f args =>
    refine ⟨h.1,CallsIn.mono h.2 fun e w'' he=>?_⟩
    cases e with
    | returned u=>exact ⟨keep a hy u,by rw [← Act.put_comm a v u h2]; exact he⟩
    | panicked c=>exact he
    | outgrown=>exact he
   case row row args=>exact ⟨h.1,RowsIn.mono h.2 fun u w'' he=>⟨keep a hy u,by rw [← Act.put_comm a v u h2]; exact he⟩⟩
   case round l f tmps assign body =>
    refine ⟨h.1,RoundIn.mono h.2 fun e w'' he=>?_⟩
    cases e with
    | returned u=>exact ⟨keep a hy u,by rw [← Act.put_comm a v u h2]; exact he⟩
    | panicked c=>exact he
    | outgrown=>exact he
  | halt x w' =>
   cases x <;> simp only [Oper.uponIn] at h ⊢
   case panic u=>exact h
 ·rename_i hw
  simp only [hw] at h
  exact ⟨fun f _=>Fr_fn r f,keep a hy _,by rw [← Act.put_comm a v undef h2]; exact h.2⟩
def AnyS (r:Option Nat) (P:Program) (S:World→Prop) (ops:Array Oper) (K0:Act→World→Prop):Nat→Array Bool→Act→World→Prop
 | 0,listed,a,w=>Region.ready .any ops listed=[]∧K0 a w
 | fuel+1,listed,a,w=>(Region.ready .any ops listed=[]→K0 a w) ∧
  ∀ i∈Region.ready .any ops listed,wpOpIn (Fr r) 0 P ops (only K0) i (fun a' w'=>S w'∧AnyS r P S ops K0 fuel (listed.setIfInBounds i true) a' w') a w
theorem xP {K0:Act→World→Prop}:∀ (fuel:Nat) (listed:Array Bool) (a:Act) (w:World),AnyS r P S ops K0 fuel listed a w→wpAnyIn (Fr r) 0 P .any ops (only K0) fuel listed a w
 | 0,_,_,_,h=>h
 | fuel+1,_,_,_,h=>⟨h.1,fun i hi=>wpOpIn_mono (fun a' w' h'=>xP fuel _ a' w' h'.2) (h.2 i hi)⟩
theorem uJ {K0 : Act → World → Prop} {i : Nat} {oi : Oper} {v : Value} (hi : ops[i]? = some oi) (hnd : noDefer ops = true) :
    ∀ (fuel : Nat) (listed : Array Bool) (a : Act) (w : World),
      (∀ j oj, ops[j]? = some oj → j ≠ i → listed.getD j true = false → (∀ e ∈ oj.after, Region.binds .any e = true → e.on ≠ i) → oi.apart ops oj = true) →
      i ∈ Region.ready .any ops listed → YieldsS P ops S oi v a → S w →
      AnyS r P S ops K0 fuel (listed.setIfInBounds i true) (a.put oi.dst v) w → AnyS r P S ops K0 (fuel + 1) listed a w := by
  intro fuel
  induction fuel with
  | zero =>
    intro listed a w _ hr hy hS H
    refine ⟨fun h => (by rw [h] at hr; cases hr), fun j hj => ?_⟩
    by_cases hji : j = i
    · subst hji; exact hy.wpOp hi (noDefer_spec hnd hi).1 hS ⟨hS, H⟩
    · have := ready_mono hj hji
      rw [H.1] at this
      cases this
  | succ fuel ih =>
    intro listed a w hfree hr hy hS H
    refine ⟨fun h => (by rw [h] at hr; cases hr), fun j hj => ?_⟩
    by_cases hji : j = i
    · subst hji; exact hy.wpOp hi (noDefer_spec hnd hi).1 hS ⟨hS, H⟩
    · have h1 := H.2 j (ready_mono hj hji)
      obtain ⟨hjun, oj, hoj, hall⟩ := mem_ready.1 hj
      have hnot : ∀ e ∈ oj.after, Region.binds .any e = true → e.on ≠ i := fun e he hb heq => by
        have h1 := hall e he hb
        have h0 := (mem_ready.1 hr).1
        rw [heq] at h1
        rcases Nat.lt_or_ge i listed.size with h' | h'
        · simp [h'] at h0 h1; rw [h0] at h1; cases h1
        · simp [Array.getElem?_eq_none h'] at h1
      have h2 := wpOp_putS hoj (hfree j oj hoj hji hjun hnot) hnd (noDefer_spec hnd hi).2 hy h1
      have hfree' : ∀ k ok, ops[k]? = some ok → k ≠ i → (listed.setIfInBounds j true).getD k true = false →
          (∀ e ∈ ok.after, Region.binds .any e = true → e.on ≠ i) → oi.apart ops ok = true := fun k ok hk hki hun hno => by
        refine hfree k ok hk hki ?_ hno
        by_cases hjk : j = k
        · subst hjk; exact hjun
        · rw [getD_set_ne true hjk] at hun; exact hun
      refine wpOpIn_mono (fun a' w' h3 => ⟨h3.2.1, ih (listed.setIfInBounds j true) a' w' hfree' (ready_mono hr (Ne.symm hji)) h3.1 h3.2.1 ?_⟩) h2
      rw [Array.setIfInBounds_comm _ _ hji]
      exact h3.2.2
end draw
section drawE
variable {r : Option Nat} {P : Program} {N : Nat} {S : World → Prop} {ops : Array Oper} {ds : List Deferred} {env : Env} {w : World} {Q : Post} {listed : Array Bool} {fuel : Nat}
def AnyE (r:Option Nat) (P:Program) (N:Nat) (S:World→Prop) (ops:Array Oper) (fuel:Nat) (listed:Array Bool) (ds:List Deferred) (env:Env) (w:World) (Q:Post):Prop :=
 ∀ a,Fits N a ds env→AnyS r P S ops (fun a w=>lift N Q .normal a w) fuel listed a w
def Yv (P:Program) (N:Nat) (ds:List Deferred) (env:Env) (op:Op) (v:Value) (S:World→Prop):Prop :=
 ∀ a,Fits N a ds env→∀ w,S w→∀ d ty pos after g,(execOp a.eval ⟨d,op,ty,pos,after,g⟩).run P w=.ok (.value v) w
def takesOK (ops:Array Oper) (fuel:Nat) (listed:Array Bool):List Nat→Bool
 | []=>true
 | i::is=>match fuel with
  | 0=>false
  | fuel+1=>Region.free .any ops listed i && (Region.ready .any ops listed).contains i && takesOK ops fuel (listed.setIfInBounds i true) is
def setAll (listed:Array Bool):List Nat→Array Bool
 | []=>listed
 | i::is=>setAll (listed.setIfInBounds i true) is
def Qs (P:Program) (N:Nat) (S:World→Prop) (ops:Array Oper) (ds:List Deferred) (K:Env→Prop):List Nat→Env→Prop
 | [],env=>K env
 | i::is,env=>∃ o d v,ops[i]? = some o∧o.dst=some d∧d<N∧(∀ a,Fits N a ds env→YieldsS P ops S o v a)∧Qs P N S ops ds K is ((d,v)::env)
theorem yJ (is:List Nat) (hnd:noDefer ops=true) (hs:S w)
  : ∀ (fuel:Nat) (listed:Array Bool) (env:Env),takesOK ops fuel listed is=true →
   Qs P N S ops ds (fun env=>AnyE r P N S ops (fuel - is.length) (setAll listed is) ds env w Q) is env→AnyE r P N S ops fuel listed ds env w Q:=by
 induction is with
 | nil=>intro fuel listed env _ h; exact h
 | cons i is ih =>
  intro fuel listed env hok h
  obtain ⟨o,d,v,ho,hd,hN,hy,h⟩:=h
  cases fuel with
  | zero=>simp [takesOK] at hok
  | succ fuel =>
   simp only [takesOK,Bool.and_eq_true] at hok
   obtain ⟨⟨hf,hr⟩,hok⟩:=hok
   intro a ha
   refine uJ ho hnd fuel listed a w (Region.free_spec ho hf) (by simpa using hr) (hy a ha) hs ?_
   have e:fuel+1 - (i::is).length=fuel - is.length:=by simp
   rw [e] at h
   exact ih fuel _ _ hok h _ (by rw [hd]; exact ha.put hN v)
theorem yQ {K:Env→Prop} (h:K env):Qs P N S ops ds K [] env:=h
theorem yD {K:Env→Prop} {i:Nat} {is:List Nat} {d:Nat} {op:Op} {ty:TypeId} {pos:String} {after:Array Edge} {v:Value}
  (hi:ops[i]? = some ⟨some d,op,ty,pos,after,none⟩) (hN:Nat.blt d N=true) (hy:Yv P N ds env op v S) (h:Qs P N S ops ds K is ((d,v)::env)):Qs P N S ops ds K (i::is) env :=
 ⟨_,d,v,hi,rfl,by simpa [Nat.blt_eq] using hN,fun a ha=>.inl ⟨rfl,fun w hw=>hy a ha w hw _ _ _ _ _⟩,h⟩
theorem vY {j s:Nat} {b:Bool} {a:Act} (hj:(ops[j]?).bind (·.dst)=some s) (hs:env.find s=some (.bool b)) (ha:Fits N a ds env):yielded ops a.tmps j=some b:=by
 unfold yielded
 rw [hj]
 simp only [Option.bind_some]
 have h1:=ha.slot s _ hs
 rw [h1]
theorem kO {K:Env→Prop} {i:Nat} {is:List Nat} {d:Nat} {op:Op} {ty:TypeId} {pos:String} {after:Array Edge} {v:Value} {j:Nat} {want:Bool} {s:Nat} {b:Bool}
  (hi:ops[i]? = some ⟨some d,op,ty,pos,after,some (j,want)⟩) (hj:(ops[j]?).bind (·.dst)=some s) (hs:env.find s=some (.bool b)) (hb:b=want)
  (hN:Nat.blt d N=true) (hy:Yv P N ds env op v S) (h:Qs P N S ops ds K is ((d,v)::env)):Qs P N S ops ds K (i::is) env :=
 ⟨_,d,v,hi,rfl,by simpa [Nat.blt_eq] using hN,fun a ha=>.inl ⟨by simp [Region.wanted,vY hj hs ha,hb],fun w hw=>hy a ha w hw _ _ _ _ _⟩,h⟩
theorem qX {S:World→Prop} (hS:S w) {all:Array Oper} {rest:List Oper} {d:Nat} {op:Op} {ty:TypeId} {pos:String} {after:Array Edge} {v:Value}
  (hop:(match op with | .defer _=>false | _=>true)=true) (hd:Nat.blt d N=true) (hy:Yv P N ds env op v S)
  (h:Ops r P N all rest ds ((d,v)::env) w Q):Ops r P N all (⟨some d,op,ty,pos,after,none⟩::rest) ds env w Q :=
 xU hd (fun c hc=>by rw [hc] at hop; cases hop) (fun a ha=>hy a ha w hS _ _ _ _ _) h
theorem xH (hr:Region.ready .any ops listed=[]) (h:Q .normal ds env w):AnyE r P N S ops fuel listed ds env w Q:=fun a ha=>by
 cases fuel with
 | zero=>exact ⟨hr,ds,env,ha,h⟩
 | succ fuel=>exact ⟨fun _=>⟨ds,env,ha,h⟩,by rw [hr]; simp⟩
def stepPost (r:Option Nat) (P:Program) (N:Nat) (S:World→Prop) (ops:Array Oper) (fuel:Nat) (listed:Array Bool) (Q:Post):Post
 | .normal,ds,env,w=>S w∧AnyE r P N S ops fuel listed ds env w Q
 | _,_,_,_=>False
def AllR (r:Option Nat) (P:Program) (N:Nat) (S:World→Prop) (ops:Array Oper) (fuel:Nat) (listed:Array Bool) (ds:List Deferred) (env:Env) (w:World) (Q:Post):List Nat→Prop
 | []=>True
 | i::is=>(∃ o,ops[i]? = some o∧Ops r P N ops [o] ds env w (stepPost r P N S ops fuel (listed.setIfInBounds i true) Q))∧AllR r P N S ops fuel listed ds env w Q is
theorem AllR.mem {is:List Nat} (h:AllR r P N S ops fuel listed ds env w Q is) {i:Nat} (hi:i∈is):∃ o,ops[i]? = some o∧Ops r P N ops [o] ds env w (stepPost r P N S ops fuel (listed.setIfInBounds i true) Q):=by
 induction is with
 | nil=>cases hi
 | cons j is ih =>
  rcases List.mem_cons.1 hi with rfl | hi
  ·exact h.1
  ·exact ih h.2 hi
theorem kK (rs : List Nat) (hr : Region.ready .any ops listed = rs) (hne : rs.isEmpty = false) (h : AllR r P N S ops fuel listed ds env w Q rs) : AnyE r P N S ops (fuel + 1) listed ds env w Q := by
  intro a ha
  refine ⟨fun h0 => (by rw [hr] at h0; subst h0; cases hne), fun i hi => ?_⟩
  rw [hr] at hi
  obtain ⟨o, ho, hop⟩ := h.mem hi
  have h1 := hop a ha
  unfold wpOpIn
  simp only [ho]
  simp only [wpListIn] at h1
  split
  · rename_i hw
    rw [if_pos hw] at h1
    refine ⟨h1.1, ?_⟩
    have h2 := h1.2
    generalize (o.semAt (Fr r).round a.eval).run P w = res at *
    have fin : ∀ a' w', lift N (stepPost r P N S ops fuel (listed.setIfInBounds i true) Q) .normal a' w' →
        S w' ∧ AnyS r P S ops (fun a w => lift N Q .normal a w) fuel (listed.setIfInBounds i true) a' w' := fun a' w' ⟨ds', env', hf, hs, hA⟩ => ⟨hs, hA a' hf⟩
    cases res with
    | ok x w' =>
      cases x <;> simp only [Oper.uponIn] at h2 ⊢
      case value u => exact fin _ _ h2
      case skip => exact fin _ _ h2
      case defer d => exact fin _ _ h2
      case enter f args =>
        refine ⟨h2.1, CallsIn.mono h2.2 fun e w'' he => ?_⟩
        cases e with
        | returned u => exact fin _ _ he
        | panicked c => obtain ⟨_, _, _, hx⟩ := he; exact hx.elim
        | outgrown => obtain ⟨_, _, _, _, _, hx⟩ := he; exact hx.elim
      case row row args => exact ⟨h2.1, RowsIn.mono h2.2 fun u w'' he => fin _ _ he⟩
      case round l f tmps assign body =>
        refine ⟨h2.1, RoundIn.mono h2.2 fun e w'' he => ?_⟩
        cases e with
        | returned u => exact fin _ _ he
        | panicked c => obtain ⟨_, _, _, hx⟩ := he; exact hx.elim
        | outgrown => obtain ⟨_, _, _, _, _, hx⟩ := he; exact hx.elim
    | halt x w' =>
      cases x <;> simp only [Oper.uponIn] at h2 ⊢
      case panic u => obtain ⟨_, _, _, hx⟩ := h2; exact hx.elim
  · rename_i hw
    rw [if_neg hw] at h1
    obtain ⟨ds', env', hf, hs, hA⟩ := h1.2
    exact ⟨h1.1, hs, hA _ hf⟩
def Redrawn (w w':World):Prop:=w'.heap=w.heap∧w'.os=w.os∧w'.tape=w.tape∧w'.output=w.output
theorem yP {id:Nat} {l:List Oper} (S:World→Prop) (hm:P.follows .mixedOrders=true)
  (h:∀ w1,Redrawn w w1→AnyE r P N S l.toArray l.length (Array.replicate l.length false) ds env w1 Q):Holds r P N (.region id l.toArray true) ds env w Q:=by
 intro a ha
 refine Go.wpIn_mono (Q:=only fun a w=>lift N Q .normal a w) ?_ ?_
 ·refine wpIn_region_any hm (xP (S:=S) _ _ _ _ ?_)
  have:=h { w with drawn:=w.drawn+1 } ⟨rfl,rfl,rfl,rfl⟩ a ha
  simpa using this
 ·intro e a' w' hq
  cases e with
  | normal=>exact hq
  | _=>exact hq.elim
end drawE
end Go.Fip
namespace Go.Fip
open Go.RowKit
structure Agree (lo hi:Nat) (w w':World):Prop where
 os:w'.os=w.os
 tape:w'.tape=w.tape
 output:w'.output=w.output
 size:w.heap.size≤w'.heap.size
 block:∀ k,lo≤k→k<hi→w'.heap[k]? = w.heap[k]?
theorem Agree.refl (lo hi:Nat) (w:World):Agree lo hi w w:=⟨rfl,rfl,rfl,Nat.le_refl _,fun _ _ _=>rfl⟩
theorem Agree.trans {lo hi:Nat} {a b c:World} (h:Agree lo hi a b) (k:Agree lo hi b c):Agree lo hi a c :=
 ⟨k.os.trans h.os,k.tape.trans h.tape,k.output.trans h.output,Nat.le_trans h.size k.size,fun i h1 h2=>(k.block i h1 h2).trans (h.block i h1 h2)⟩
theorem Agree.of_below {lo hi B:Nat} {w w':World} (h:Below B w w') (hB:hi≤B):Agree lo hi w w':=⟨h.os,h.tape,h.output,h.size,fun k _ b=>h.block k (by omega)⟩
theorem Agree.below {hi:Nat} {w w':World} (h:Agree 0 hi w w'):Below hi w w':=⟨h.os,h.tape,h.output,h.size,fun k b=>h.block k (Nat.zero_le _) b⟩
theorem Agree.cell {lo hi:Nat} {w w':World} (h:Agree lo hi w w') {p:Addr} (h1:lo≤p.block) (h2:p.block<hi):w'.cell? p=w.cell? p:=World.cell?_of_block (w:=w) (h.block p.block h1 h2)
theorem Below.of_redrawn {w w':World} (h:Redrawn w w') (B:Nat):Below B w w':=⟨h.2.1,h.2.2.1,h.2.2.2,by rw [h.1]; exact Nat.le_refl _,fun k _=>by rw [h.1]⟩
structure Item where
 lo:Nat
 hi:Nat
 φ:World→Prop
def Item.ok (i:Item) (w:World):Prop:=i.lo≤i.hi∧i.hi≤w.heap.size∧∀ w',Agree i.lo i.hi w w'→i.φ w'
theorem Item.ok.now {i:Item} {w:World} (h:i.ok w):i.φ w:=h.2.2 w (Agree.refl _ _ _)
theorem Item.ok.agree {i:Item} {w w':World} (h:i.ok w) (ha:Agree i.lo i.hi w w'):i.ok w':=⟨h.1,Nat.le_trans h.2.1 ha.size,fun w'' hw=>h.2.2 w'' (ha.trans hw)⟩
def Item.apart (i j:Item):Prop:=i.hi≤j.lo∨j.hi≤i.lo
structure Heap (H:List Item) (w:World):Prop where
 ok:∀ i∈H,i.ok w
 apart:H.Pairwise Item.apart
structure Off (lo hi:Nat) (w w':World):Prop where
 os:w'.os=w.os
 tape:w'.tape=w.tape
 output:w'.output=w.output
 size:w.heap.size≤w'.heap.size
 block:∀ k,k<w.heap.size→(k<lo∨hi≤k)→w'.heap[k]? = w.heap[k]?
theorem Off.agree {lo hi a b:Nat} {w w':World} (h:Off lo hi w w') (hb:b≤w.heap.size) (hap:b≤lo∨hi≤a):Agree a b w w' :=
 ⟨h.os,h.tape,h.output,h.size,fun k h1 h2=>h.block k (by omega) (by omega)⟩
theorem Heap.get {H:List Item} {w:World} (h:Heap H w) {n:Nat} {i:Item} (hn:H[n]? = some i):i.φ w:=(h.ok i (List.mem_of_getElem? hn)).now
theorem Heap.okAt {H:List Item} {w:World} (h:Heap H w) {n:Nat} {i:Item} (hn:H[n]? = some i):i.ok w:=h.ok i (List.mem_of_getElem? hn)
theorem Heap.grow {H:List Item} {w w':World} (h:Heap H w) (hb:Below w.heap.size w w'):Heap H w' :=
 ⟨fun i hi=>(h.ok i hi).agree (Agree.of_below hb (h.ok i hi).2.1),h.apart⟩
theorem Heap.redrawn {H:List Item} {w w':World} (h:Heap H w) (hr:Redrawn w w'):Heap H w':=h.grow (Below.of_redrawn hr _)
theorem Heap.add {H:List Item} {w w':World} (h:Heap H w) (hb:Below w.heap.size w w') {i:Item} (hlo:w.heap.size≤i.lo) (hok:i.ok w'):Heap (i::H) w':=by
 refine ⟨fun j hj=>?_,List.Pairwise.cons (fun j hj=>.inr ?_) h.apart⟩
 ·rcases List.mem_cons.1 hj with rfl | hj
  ·exact hok
  ·exact (h.grow hb).ok j hj
 ·exact Nat.le_trans (h.ok j hj).2.1 hlo
theorem Heap.set {H:List Item} {w w':World} (h:Heap H w) {n:Nat} {i j:Item} (hn:H[n]? = some i) (ho:Off i.lo i.hi w w')
  (hj:(i.lo≤j.lo∧j.hi≤i.hi)∨w.heap.size≤j.lo) (hok:j.ok w'):Heap (H.set n j) w':=by
 induction H generalizing n with
 | nil=>simp at hn
 | cons x H ih =>
  have hx:=h.ok x (by simp)
  have hp:=List.pairwise_cons.1 h.apart
  cases n with
  | zero =>
   simp at hn; subst hn
   refine ⟨fun y hy=>?_,List.Pairwise.cons (fun y hy=>?_) hp.2⟩
   ·rcases List.mem_cons.1 hy with rfl | hy
    ·exact hok
    ·have hy':=h.ok y (List.mem_cons_of_mem _ hy)
     exact hy'.agree (ho.agree hy'.2.1 (by have:=hp.1 y hy; unfold Item.apart at this; omega))
   ·have h1:=hp.1 y hy
    have h2:=(h.ok y (List.mem_cons_of_mem _ hy)).2.1
    have h3:=(h.ok y (List.mem_cons_of_mem _ hy)).1
    have h4:=hok.1
    unfold Item.apart at *
    omega
  | succ n =>
   have hn':H[n]? = some i:=by simpa using hn
   have h':=ih ⟨fun y hy=>h.ok y (List.mem_cons_of_mem _ hy),hp.2⟩ hn'
   have hi:=h.ok i (List.mem_cons_of_mem _ (List.mem_of_getElem? hn'))
   have hxi:=hp.1 i (List.mem_of_getElem? hn')
   refine ⟨fun y hy=>?_,List.Pairwise.cons (fun y hy=>?_) h'.apart⟩
   ·rcases List.mem_cons.1 hy with rfl | hy
    ·exact hx.agree (ho.agree hx.2.1 (by unfold Item.apart at hxi; omega))
    ·exact h'.ok y hy
   ·rcases List.mem_or_eq_of_mem_set hy with hy | rfl
    ·exact hp.1 y hy
    ·have h4:=hok.1
     have h5:=hx.1
     have h6:=hx.2.1
     unfold Item.apart at *
     omega
theorem Heap.sub {H H':List Item} {w:World} (h:Heap H w) (hs:H'.Sublist H):Heap H' w:=⟨fun i hi=>h.ok i (hs.subset hi),h.apart.sublist hs⟩
theorem Heap.weaken {H : List Item} {w : World} (h : Heap H w) {n : Nat} {i : Item} {φ : World → Prop} (hn : H[n]? = some i) (hw : ∀ w', i.φ w' → φ w') : Heap (H.set n ⟨i.lo, i.hi, φ⟩) w :=
  h.set hn ⟨rfl, rfl, rfl, Nat.le_refl _, fun _ _ _ => rfl⟩ (.inl ⟨Nat.le_refl _, Nat.le_refl _⟩) (by
    have hi := h.okAt hn
    exact ⟨hi.1, hi.2.1, fun w' hw' => hw _ (hi.2.2 w' hw')⟩)
def base (w0:World):Item:=⟨0,w0.heap.size,Below w0.heap.size w0⟩
theorem Heap.start (w0 : World) : Heap [base w0] w0 :=
  ⟨fun i hi => by
    simp at hi; subst hi
    exact ⟨Nat.zero_le _, Nat.le_refl _, fun w' h => h.below⟩, by simp⟩
structure Fn (P:Program) (f:FuncId) (args:Array Value) (w:World) (R:Value→World→Prop):Prop where
 enters:∀ w',(callFunc f args).run P w'=.ok (.enter f args) w'
 calls:CallsIn Fence.wide 0 P f args w fun e w'=>∃ v,e=.returned v∧Below w.heap.size w w'∧∀ w'',Agree w.heap.size w'.heap.size w' w''→R v w''
theorem Fn.mono {P:Program} {f:FuncId} {args:Array Value} {w:World} {R R':Value→World→Prop} (h:Fn P f args w R) (hr:∀ v w',R v w'→R' v w'):Fn P f args w R' :=
 ⟨h.enters,CallsIn.mono h.calls fun _ _ ⟨v,he,hb,hR⟩=>⟨v,he,hb,fun w'' hw=>hr _ _ (hR w'' hw)⟩⟩
theorem Fn.callsFr {P:Program} {f:FuncId} {args:Array Value} {w:World} {R:Value→World→Prop} (h:Fn P f args w R) (r:Option Nat) :
  CallsIn (Fr r) 0 P f args w fun e w'=>∃ v,e=.returned v∧Below w.heap.size w w'∧∀ w'',Agree w.heap.size w'.heap.size w' w''→R v w'':=by
 cases r with
 | none=>exact h.calls
 | some l=>exact h.calls
def evs (env:Env):List Operand→Option (List Value)
 | []=>some []
 | x::xs=>match ev env x,evs env xs with
  | some v,some vs=>some (v::vs)
  | _,_=>none
theorem Fits.evs {N:Nat} {a:Act} {ds:List Deferred} {env:Env} (h:Fits N a ds env):∀ {xs:List Operand} {vs:List Value},evs env xs=some vs→xs.map a.eval=vs
 | [],vs,hx=>by simp [Fip.evs] at hx; simp [hx]
 | x::xs,vs,hx=>by
  simp only [Fip.evs] at hx
  split at hx
  ·rename_i v us h1 h2
   cases hx
   simp [h.ev h1,Fits.evs h h2]
  ·cases hx
section calls
variable {r : Option Nat} {P : Program} {N : Nat} {ds : List Deferred} {env : Env} {w : World} {Q : Post} {all : Array Oper} {rest : List Oper} {H : List Item}
theorem u7 {d:Nat} {c:Operand} {xs:List Operand} {vs:List Value} {ats:Array TypeId} {ty:TypeId} {pos:String} {after:Array Edge} {f:FuncId} {first cap:List Value} {R:Value→World→Prop}
  (hf:ev env c=some (.func (.func f) first.toArray cap.toArray)) (hx:evs env xs=some vs) (hd:Nat.blt d N=true) (hH:Heap H w)
  (hc:Fn P f (first++(vs++cap)).toArray w R)
  (h:∀ v w' lo hi,Heap (⟨lo,hi,R v⟩::H) w'→R v w'→Ops r P N all rest ds ((d,v)::env) w' Q) :
  Ops r P N all (⟨some d,.call ⟨.value c,xs.toArray,ats⟩,ty,pos,after,none⟩::rest) ds env w Q:=by
 intro a ha
 refine wpListIn_plain rfl fun K hK=>⟨fun f _=>Fr_fn r f,?_⟩
 rw [semAt_Fr r _ _ (fun c hc=>by cases hc)]
 have hargs:(xs.toArray.map a.eval)=vs.toArray:=by rw [List.map_toArray,ha.evs hx]
 have hrun:(execOp a.eval ⟨some d,.call ⟨.value c,xs.toArray,ats⟩,ty,pos,after,none⟩).run P w=.ok (.enter f (first++(vs++cap)).toArray) w:=by
  simp only [execOp,resolve,hargs,ha.ev hf,Deferred.ofValue,Sem.run_bind,Sem.run_pure,Result.andThen,invoke]
  have e:first.toArray++vs.toArray++cap.toArray=(first++(vs++cap)).toArray:=by simp
  rw [e]
  exact hc.enters w
 rw [hrun]
 refine ⟨fun h=>by simp [Fr_depth] at h,CallsIn.mono (hc.callsFr r) ?_⟩
 rintro e w' ⟨v,rfl,hb,hR⟩
 exact hK _ _ (h v w' w.heap.size w'.heap.size (hH.add hb (Nat.le_refl _) ⟨hb.size,Nat.le_refl _,hR⟩) (hR w' (Agree.refl _ _ _)) _ (ha.put (by simpa [Nat.blt_eq] using hd) v))
theorem zQ {d:Nat} {c:Operand} {xs:List Operand} {vs:List Value} {ats:Array TypeId} {ty:TypeId} {pos:String} {after:Array Edge} {f:FuncId} {first cap:List Value} {v:Value}
  (hf:ev env c=some (.func (.func f) first.toArray cap.toArray)) (hx:evs env xs=some vs) (hd:Nat.blt d N=true) (hH:Heap H w)
  (hc:Fn P f (first++(vs++cap)).toArray w fun u _=>u=v)
  (h:∀ w',Heap H w'→Ops r P N all rest ds ((d,v)::env) w' Q) :
  Ops r P N all (⟨some d,.call ⟨.value c,xs.toArray,ats⟩,ty,pos,after,none⟩::rest) ds env w Q :=
 u7 hf hx hd hH hc fun u w' lo hi hw hu=>by subst hu; exact h w' (hw.sub (List.sublist_cons_self _ _))
end calls
def RV (P:Program) (env:Env) (w:World):ResultVar→Value→Prop
 | .tmp t,v=>env.find t=some v
 | .cell t T,v=>∃ a,env.find t=some (.pointer (some a))∧(loadVar T a).run P w=.ok v w
def resSem (tmps:Array Value) (x:ResultVar):Sem Value :=
 match x with
  | .tmp t=>pure (tmps.getD t undef)
  | .cell a t=>do loadVar t (← asAddr (tmps.getD a undef))
theorem RV.run {P:Program} {N:Nat} {ds:List Deferred} {env:Env} {w:World} {x:ResultVar} {v:Value} (h:RV P env w x v) {a:Act} (ha:Fits N a ds env):(resSem a.tmps x).run P w=.ok v w:=by
 cases x with
 | tmp t =>
  have:=ha.slot t v h
  simp [resSem,this]
 | cell t T =>
  obtain ⟨p,h1,h2⟩:=h
  have:=ha.slot t _ h1
  simp [resSem,this,asAddr,h2]
def Results (P:Program) (fn:Func) (N:Nat) (ds:List Deferred) (env:Env) (w:World) (v:Value):Prop:=∀ a,Fits N a ds env→(results fn a.tmps).run P w=.ok v w
section results
variable {P : Program} {fn : Func} {N : Nat} {ds : List Deferred} {env : Env} {w : World} {x y z : ResultVar} {u v t : Value}
theorem zU (h:fn.results = #[x]) (hx:RV P env w x u):Results P fn N ds env w u:=fun a ha=>by
 have e1:=hx.run ha
 unfold results
 rw [h]
 show (do let vs ← (#[x]:Array ResultVar).mapM (resSem a.tmps); pure (if h:vs.size=1 then vs[0] else .tuple vs):Sem Value).run P w=_
 simp [e1,Result.andThen]
theorem XD (h:fn.results = #[x,y]) (hx:RV P env w x u) (hy:RV P env w y v):Results P fn N ds env w (.tuple #[u,v]):=fun a ha=>by
 have e1:=hx.run ha
 have e2:=hy.run ha
 unfold results
 rw [h]
 show (do let vs ← (#[x,y]:Array ResultVar).mapM (resSem a.tmps); pure (if h:vs.size=1 then vs[0] else .tuple vs):Sem Value).run P w=_
 simp [e1,e2,Result.andThen]
end results
def markItem (D:Nat):Item:=⟨D,D+1,fun w=>w.heap[D]? = some (.deferred (some []))⟩
def isMark (D:Nat):Deferred:={ target:=.collected D,args := #[] }
def bodyQ (P : Program) (fn : Func) (N : Nat) (w0 : World) (R : Value → World → Prop) : Post
  | .normal, ds, env, w | .ret, ds, env, w => ∃ (Ds : List Nat) (H : List Item) (v : Value), ds = Ds.map isMark ∧ Heap (Ds.map markItem ++ base w0 :: H) w ∧
      (∀ w', Heap (base w0 :: H) w' → Results P fn N ds env w' v) ∧ ∀ w', Heap H w' → R v w'
  | _, _, _, _ => False
theorem uV (w:World) (D:Nat) (o:Obj):Off D (D+1) w (w.putObj D o):=⟨rfl,rfl,rfl,by simp,fun k _ hk=>World.putObj_heap_other (by omega)⟩
theorem Heap.kept {H:List Item} {w0 w w':World} (h:Heap (base w0::H) w) (ha:Agree w0.heap.size w.heap.size w w'):Heap H w':=by
 have hp:=List.pairwise_cons.1 h.apart
 refine ⟨fun i hi=>?_,hp.2⟩
 have h1:=h.ok i (List.mem_cons_of_mem _ hi)
 have h2:=hp.1 i hi
 refine h1.agree ⟨ha.os,ha.tape,ha.output,ha.size,fun k a b=>ha.block k ?_ (Nat.lt_of_lt_of_le b h1.2.1)⟩
 unfold Item.apart base at h2
 simp only at h2
 omega
theorem xC {P:Program} {fn:Func} {w0:World} {R:Value→World→Prop} {v:Value} {H:List Item} (tmps:Array Value)
  (hres:∀ w',Heap (base w0::H) w'→(results fn tmps).run P w'=.ok v w') (hR:∀ w',Heap H w'→R v w'):∀ (Ds:List Nat) (w:World),
  Heap (Ds.map markItem++base w0::H) w →
  LeavesInM Fence.wide 0 P fn tmps (fun e w'=>∃ v,e=.returned v∧Below w0.heap.size w0 w'∧∀ w'',Agree w0.heap.size w'.heap.size w' w''→R v w'') (Ds.map isMark) .returning w
 | [],w,hH=>⟨v,hres w hH,v,rfl,hH.get (n:=0) rfl,fun _ h2=>hR _ (hH.kept h2)⟩
 | D::Ds,w,hH=>by
  have hD:w.heap[D]? = some (.deferred (some [])):=hH.get (n:=0) rfl
  have hlt:D<w.heap.size:=(Array.getElem?_eq_some_iff.1 hD).1
  refine ⟨by simp,.inl ⟨D,_,rfl,run_takeDeferred hD,?_⟩⟩
  have h0:Heap (Ds.map markItem++base w0::H) (w.putObj D (.deferred none)):=by
   have:=hH.set (n:=0) (i:=markItem D) (j:=⟨D,D+1,fun _=>True⟩) (w':=w.putObj D (.deferred none)) rfl (uV w D _) (.inl ⟨Nat.le_refl _,Nat.le_refl _⟩) ⟨by simp,by simp; omega,fun _ _=>trivial⟩
   exact this.sub (List.sublist_cons_self _ _)
  exact xC tmps hres hR Ds _ h0
theorem Y9 {P:Program} {f:FuncId} {fn:Func} {c:Code} {args:List Value} {w:World} {R:Value→World→Prop} {env:Env} {N:Nat}
  (hf:P.funcs[f]? = some fn) (hb:fn.body=some c) (hen:∀ w',(callFunc f args.toArray).run P w'=.ok (.enter f args.toArray) w')
  (hN:fn.ntmps=N) (hargs:args.length≤N) (henv:∀ i v,env.find i=some v→args[i]? = some v)
  (h:Holds none P N c [] env w (bodyQ P fn N w R)):Fn P f args.toArray w R:=by
 refine ⟨hen,callsIn_of_wp_marks hf hb trivial ?_⟩
 refine Go.wpIn_mono (h { tmps:=args.toArray++Array.replicate (fn.ntmps - args.toArray.size) undef,defers:=[] } ⟨by simp [hN]; omega,rfl,fun i v hi=>?_⟩) ?_
 ·have h1:=henv i v hi
  have hlt:=(List.getElem?_eq_some_iff.1 h1).1
  simp only [Array.getElem?_append,List.size_toArray,hlt,if_true,List.getElem?_toArray]
  exact h1
 ·rintro e a' w' ⟨ds,env',hf',hq⟩
  cases e with
  | normal =>
   obtain ⟨Ds,H,v,rfl,hH,hres,hR⟩:=hq
   show LeavesInM _ _ _ _ _ _ a'.defers _ _
   rw [hf'.defers]
   exact xC a'.tmps (fun w2 h2=>hres w2 h2 a' hf') hR Ds w' hH
  | ret =>
   obtain ⟨Ds,H,v,rfl,hH,hres,hR⟩:=hq
   show LeavesInM _ _ _ _ _ _ a'.defers _ _
   rw [hf'.defers]
   exact xC a'.tmps (fun w2 h2=>hres w2 h2 a' hf') hR Ds w' hH
  | exit i=>exact hq.elim
  | goto i=>exact hq.elim
  | panic i=>exact hq.elim
  | outgrown=>exact hq.elim
theorem ent {P:Program} {f:FuncId} {fn:Func} {c:Code} (hf:P.funcs[f]? = some fn) (hname:(fn.name == "runtime.NumGoroutine")=false) (hb:fn.body=some c):∀ (aS0:Array Value) (w:World),(callFunc f aS0).run P w=.ok (.enter f aS0) w:=by
 intro args w
 have h1:fn.name ≠ "runtime.NumGoroutine" := by simpa using hname
 simp [callFunc,hf,h1,hb,mark]
def argEnv:Nat→List Value→Env
 | _,[]=>[]
 | i,v::vs=>(i,v)::argEnv (i+1) vs
theorem vS (args:List Value):∀ (k i:Nat) (v:Value),(argEnv k args).find i=some v→k≤i∧args[i - k]? = some v:=by
 induction args with
 | nil=>intro k i v h; simp [argEnv,Env.find] at h
 | cons u us ih =>
  intro k i v h
  simp only [argEnv,Env.find] at h
  split at h
  ·rename_i hb
   cases h
   have:k=i:=Nat.eq_of_beq_eq_true hb
   subst this
   simp
  ·rename_i hb
   have hne:k≠i:=fun e=>by subst e; rw [Nat.beq_refl] at hb; cases hb
   obtain ⟨h1,h2⟩:=ih (k+1) i v h
   refine ⟨by omega,?_⟩
   have:i - k=(i - (k+1))+1:=by omega
   rw [this]
   simpa using h2
theorem kT {P:Program} {f:FuncId} {fn:Func} {c:Code} {args:List Value} {w:World} {R:Value→World→Prop} {N:Nat}
  (hf:P.funcs[f]? = some fn) (hb:fn.body=some c) (hen:∀ (aS0:Array Value) (w':World),(callFunc f aS0).run P w'=.ok (.enter f aS0) w')
  (hN:fn.ntmps=N) (hargs:Nat.ble args.length N=true)
  (h:Heap [base w] w→Holds none P N c [] (argEnv 0 args) w (bodyQ P fn N w R)):Fn P f args.toArray w R :=
 Y9 hf hb (fun w'=>hen _ w') hN (by simpa [Nat.ble_eq] using hargs) (fun i v hi=>by simpa using (vS args 0 i v hi).2) (h (Heap.start w))
theorem fin {P:Program} {fn:Func} {N:Nat} {w0 w:World} {R:Value→World→Prop} {env:Env} {H:List Item} {v:Value} (hH:Heap (base w0::H) w)
  (hres:∀ w',Heap (base w0::H) w'→Results P fn N [] env w' v) (hR:∀ w',Heap H w'→R v w'):bodyQ P fn N w0 R .ret [] env w :=
 ⟨[],H,v,rfl,hH,hres,hR⟩
end Go.Fip
namespace Go.Fip
open Go.RowKit
def TSlice (P:Program) (T E sz:Nat):Prop:=P.underlying T=some (.slice E)∧(P.info? E).map (·.size)=some sz
def TArr (P:Program) (T n E sz:Nat):Prop:=P.underlying T=some (.array n E)∧(P.info? E).map (·.size)=some sz
def TOne (P:Program) (T:Nat):Prop:=∀ w,(isAgg T).run P w=.ok false w
def TAgg (P:Program) (T n:Nat):Prop:=(∀ w,(isAgg T).run P w=.ok true w)∧(P.info? T).map (·.size)=some n
def TField (P:Program) (T f off:Nat):Prop:=∀ (b o:Nat) (w:World),(Instr.fieldAt T (.pointer (some ⟨b,o,none⟩)) f).run P w=.ok (.pointer (some ⟨b,o+off,none⟩)) w
theorem run_size {P:Program} {E sz:Nat} (h:(P.info? E).map (·.size)=some sz) (w:World):(sizeOf E).run P w=.ok sz w:=by
 cases hi:P.info? E with
 | none=>rw [hi] at h; cases h
 | some i=>rw [hi] at h; simp at h; simp [sizeOf,typeInfo,hi,h]
theorem add_none (b o n:Nat):(⟨b,o,none⟩:Addr).add n=⟨b,o+n,none⟩:=by
 unfold Addr.add
 split
 ·rename_i h; subst h; rfl
 ·rfl
theorem tfield_of {P:Program} {T f off:Nat} {fs:Array Field} {fd:Field} (h1:P.underlying T=some (.struct fs)) (h2:fs[f]? = some fd) (h3:fd.offset=off)
  (h4:∃ s,(P.info? fd.type).map (·.size)=some (s+1)):TField P T f off:=by
 intro b o w
 obtain ⟨s,h4⟩:=h4
 simp [Instr.fieldAt,run_underlying h1,h2,Instr.sureAddr,fieldPlace,run_size h4,h3,Result.andThen,add_none]
def eb:Value→Nat
 | .slice (some a) _ _=>a.block
 | _=>0
def eo:Value→Nat
 | .slice (some a) _ _=>a.off
 | _=>0
def SliceIs (v:Value) (n:Nat):Prop:=∃ a c,v=.slice a n c∧n≤c∧((a=none∧c=0)∨∃ b o,a=some ⟨b,o,none⟩)
def Rd {α:Type} (enc:α→List Value) (sz:Nat) (v:Value) (xs:List α) (w:World):Prop :=
 SliceIs v xs.length∧∀ i x,xs[i]? = some x→∀ j u,(enc x)[j]? = some u→w.cell? ⟨eb v,eo v+i * sz+j,none⟩=some u
theorem Rd.is {α:Type} {enc:α→List Value} {sz:Nat} {v:Value} {xs:List α} {w:World} (h:Rd enc sz v xs w):SliceIs v xs.length:=h.1
def nth {α:Type} [Inhabited α] (xs:List α) (i:Int):α:=xs.getD i.toNat default
theorem u9 {α:Type} [Inhabited α] {xs:List α} {i:Int} (h:0≤i∧i<xs.length):xs[i.toNat]? = some (nth xs i):=by
 have:i.toNat<xs.length:=by omega
 simp [nth,List.getD,List.getElem?_eq_getElem this]
theorem Rd.at {α:Type} [Inhabited α] {enc:α→List Value} {sz:Nat} {v:Value} {xs:List α} {w:World} (h:Rd enc sz v xs w) {i:Int} (hi:0≤i∧i<xs.length) {j:Nat} {u:Value} (hu:(enc (nth xs i))[j]? = some u) :
  w.cell? ⟨eb v,eo v+i.toNat * sz+j,none⟩=some u:=h.2 _ _ (u9 hi) j u hu
theorem Rd.lt {α:Type} {enc:α→List Value} {sz:Nat} {v:Value} {xs:List α} {w:World} (h:Rd enc sz v xs w) {i:Nat} {x:α} (hi:xs[i]? = some x) {j:Nat} {u:Value} (hu:(enc x)[j]? = some u):eb v<w.heap.size :=
 World.block_lt_of_cell? w _ (h.2 i x hi j u hu)
theorem Rd.below {α:Type} {enc:α→List Value} {sz:Nat} {v:Value} {xs:List α} {w w':World} (h:Rd enc sz v xs w) (hb:Below w.heap.size w w'):Rd enc sz v xs w' :=
 ⟨h.1,fun i x hi j u hu=>(hb.cell (p:=⟨eb v,eo v+i * sz+j,none⟩) (h.lt hi hu)).trans (h.2 i x hi j u hu)⟩
theorem Rd.now {α:Type} {enc:α→List Value} {sz:Nat} {v:Value} {xs:List α} {w w':World} (h:Rd enc sz v xs w) {H:List Item} {n:Nat} (hH:Heap H w') (hn:H[n]? = some (base w)):Rd enc sz v xs w':=h.below (hH.get hn)
def encI (x:Int):List Value:=[.int .i64 x]
section yv
variable {P : Program} {N : Nat} {ds : List Deferred} {env : Env} {S : World → Prop} {x y c : Operand} {v u : Value}
theorem vM (h:ev env x=some v):Yv P N ds env (.move x) v S:=fun a ha w _ _ _ _ _ _=>by simp [execOp,ha.ev h]
theorem vL (h:ev env x=some v):Yv P N ds env (.assign x) v S:=fun a ha w _ _ _ _ _ _=>by simp [execOp,ha.ev h]
theorem zH {b:Bool} (hc:ev env c=some (.bool b)) (hb:b=true) (hx:ev env x=some v):Yv P N ds env (.pick c x y) v S:=fun a ha w _ _ _ _ _ _=>by
 simp [execOp,ha.ev hc,ha.ev hx,hb,asBool]
theorem zF {b:Bool} (hc:ev env c=some (.bool b)) (hb:b=false) (hy:ev env y=some v):Yv P N ds env (.pick c x y) v S:=fun a ha w _ _ _ _ _ _=>by
 simp [execOp,ha.ev hc,ha.ev hy,hb,asBool]
theorem xK {b:Bool} {T:TypeId} (h:ev env x=some (.bool b)):Yv P N ds env (.unOp .not T x) (.bool (!b)) S:=fun a ha w _ _ _ _ _ _=>by
 simp [execOp,ha.ev h,Op.unary]
theorem yA {T E sz n:Nat} (hT:TSlice P T E sz) (h:ev env x=some v) (hv:SliceIs v n):Yv P N ds env (.call ⟨.builtin .len, #[x], #[T]⟩) (.int .i64 (n:Int)) S:=fun a ha w _ _ _ _ _ _=>by
 obtain ⟨p,cp,rfl,_⟩:=hv
 simp [execOp,resolve,invoke,builtin,Builtin.len_,ha.ev h,run_underlying hT.1,goInt,Result.andThen]
section arith
variable {T T' : TypeId} {k : IntKind} {m n : Int}
theorem zR (hx:ev env x=some (.int .i64 m)) (hy:ev env y=some (.int .i64 n)) (hr : -9223372036854775808≤m+n∧m+n≤9223372036854775807) :
  Yv P N ds env (.binOp .add T x y T') (.int .i64 (m+n)) S:=fun a ha w _ _ _ _ _ _=>by
 simp [execOp,ha.ev hx,ha.ev hy,eqGuard,binOp,Op.intArith,IntWalk.i64_in _ hr,Result.andThen]
theorem z7 (hx:ev env x=some (.int .i64 m)) (hy:ev env y=some (.int .i64 n)) (hr : -9223372036854775808≤m - n∧m - n≤9223372036854775807) :
  Yv P N ds env (.binOp .sub T x y T') (.int .i64 (m - n)) S:=fun a ha w _ _ _ _ _ _=>by
 simp [execOp,ha.ev hx,ha.ev hy,eqGuard,binOp,Op.intArith,IntWalk.i64_in _ hr,Result.andThen]
theorem yv_quo (hx:ev env x=some (.int .i64 m)) (hy:ev env y=some (.int .i64 n)) (h0:0≤m) (hm:m≤9223372036854775807) (h1:0<n) :
  Yv P N ds env (.binOp .quo T x y T') (.int .i64 (m / n)) S:=fun a ha w _ _ _ _ _ _=>by
 have e:m.tdiv n=m / n:=Int.tdiv_eq_ediv_of_nonneg h0
 have h2:m / n≤m:=Int.ediv_le_self n h0
 have h3:0≤m / n:=Int.ediv_nonneg h0 (by omega)
 have hn:n≠0:=by omega
 have e2:=IntWalk.i64_in (m / n) ⟨by omega,by omega⟩
 simp [execOp,ha.ev hx,ha.ev hy,eqGuard,binOp,Op.intDiv,hn,e,e2]
theorem yv_rem (hx:ev env x=some (.int k m)) (hy:ev env y=some (.int k n)) (h0:0≤m) (h1:0<n) :
  Yv P N ds env (.binOp .rem T x y T') (.int k (m % n)) S:=fun a ha w _ _ _ _ _ _=>by
 have e:m.tmod n=m % n:=Int.tmod_eq_emod_of_nonneg h0
 have hn:n≠0:=by omega
 simp [execOp,ha.ev hx,ha.ev hy,eqGuard,binOp,Op.intDiv,hn,e,Result.andThen]
theorem zY (hx:ev env x=some (.int k m)) (hy:ev env y=some (.int k n)):Yv P N ds env (.binOp .lss T x y T') (.bool (decide (m<n))) S:=fun a ha w _ _ _ _ _ _=>by
 simp [execOp,ha.ev hx,ha.ev hy,eqGuard,binOp,Op.intCmp,Result.andThen]
theorem uX (hx:ev env x=some (.int k m)) (hy:ev env y=some (.int k n)):Yv P N ds env (.binOp .leq T x y T') (.bool (decide (m≤n))) S:=fun a ha w _ _ _ _ _ _=>by
 simp [execOp,ha.ev hx,ha.ev hy,eqGuard,binOp,Op.intCmp,Result.andThen]
theorem zZ (hx:ev env x=some (.int k m)) (hy:ev env y=some (.int k n)):Yv P N ds env (.binOp .gtr T x y T') (.bool (decide (n<m))) S:=fun a ha w _ _ _ _ _ _=>by
 simp [execOp,ha.ev hx,ha.ev hy,eqGuard,binOp,Op.intCmp,Result.andThen]
theorem xG (hx:ev env x=some (.int k m)) (hy:ev env y=some (.int k n)):Yv P N ds env (.binOp .geq T x y T') (.bool (decide (n≤m))) S:=fun a ha w _ _ _ _ _ _=>by
 simp [execOp,ha.ev hx,ha.ev hy,eqGuard,binOp,Op.intCmp,Result.andThen]
theorem yF (hx:ev env x=some (.int k m)) (hy:ev env y=some (.int k n)):Yv P N ds env (.binOp .eql T x y T') (.bool (decide (m=n))) S:=fun a ha w _ _ _ _ _ _=>by
 simp only [execOp,ha.ev hx,ha.ev hy,eqGuard,binOp,Op.intCmp,Sem.run_bind]
 have e:(m == n)=decide (m=n):=rfl
 simp [Result.andThen,e]
theorem xA (hx:ev env x=some (.int k m)) (hy:ev env y=some (.int k n)):Yv P N ds env (.binOp .neq T x y T') (.bool (!decide (m=n))) S:=fun a ha w _ _ _ _ _ _=>by
 simp only [execOp,ha.ev hx,ha.ev hy,eqGuard,binOp,Op.intCmp,Sem.run_bind]
 have e:(m == n)=decide (m=n):=rfl
 simp [Result.andThen,bne,e]
end arith
theorem yI {vs:Array Value} {i:Nat} (hx:ev env x=some (.tuple vs)) (hi:vs[i]? = some v):Yv P N ds env (.extract x i) v S:=fun a ha w _ _ _ _ _ _=>by
 simp [execOp,ha.ev hx,Instr.extract,hi]
theorem zC {T f off b o:Nat} (hT:TField P T f off) (hx:ev env x=some (.pointer (some ⟨b,o,none⟩))):Yv P N ds env (.fieldAddr T x f) (.pointer (some ⟨b,o+off,none⟩)) S:=fun a ha w _ _ _ _ _ _=>by
 simp [execOp,ha.ev hx,hT b o w,Result.andThen]
theorem zW {T E sz n:Nat} {k:IntKind} {i:Int} (hT:TSlice P T E sz) (hx:ev env x=some v) (hy:ev env y=some (.int k i)) (hv:SliceIs v n) (hi:0≤i∧i<n) :
  Yv P N ds env (.indexAddr T x y) (.pointer (some ⟨eb v,eo v+i.toNat * sz,none⟩)) S:=fun a ha w _ _ _ _ _ _=>by
 obtain ⟨p,cp,rfl,hc,⟨rfl,rfl⟩ | ⟨b,o,rfl⟩⟩:=hv
 ·omega
 ·simp [execOp,ha.ev hx,ha.ev hy,Instr.indexAt,asIntOf,run_underlying hT.1,run_size hT.2,hi,Result.andThen,eb,eo,add_none]
theorem xW {T E sz n b o:Nat} {k:IntKind} {i:Int} (hT:TArr P T n E sz) (hx:ev env x=some (.pointer (some ⟨b,o,none⟩))) (hy:ev env y=some (.int k i)) (hi:0≤i∧i<n) :
  Yv P N ds env (.indexAddr T x y) (.pointer (some ⟨b,o+i.toNat * sz,none⟩)) S:=fun a ha w _ _ _ _ _ _=>by
 simp [execOp,ha.ev hx,ha.ev hy,Instr.indexAt,asIntOf,Instr.sureAddr,run_underlying hT.1,run_size hT.2,hi,Result.andThen,add_none]
theorem zD {T b o:Nat} (hT:TOne P T) (hx:ev env x=some (.pointer (some ⟨b,o,none⟩))) (hc:∀ w,S w→w.cell? ⟨b,o,none⟩=some v):Yv P N ds env (.load T x) v S:=fun a ha w hw _ _ _ _ _=>by
 simp [execOp,ha.ev hx,Instr.loadAt,Instr.sureAddr,loadVar,hT w,load,Sem.run,hc w hw,Result.andThen]
theorem yC {T n b o:Nat} {cs:List Value} (hT:TAgg P T n) (hn:cs.length=n) (hx:ev env x=some (.pointer (some ⟨b,o,none⟩)))
  (hc:∀ w,S w→∀ j u,cs[j]? = some u→w.cell? ⟨b,o+j,none⟩=some u):Yv P N ds env (.load T x) (.agg cs.toArray) S:=fun a ha w hw _ _ _ _ _=>by
 subst hn
 have:=run_loadCells_list (P:=P) (w:=w) ⟨b,o,none⟩ cs (fun j u hj=>by rw [add_none]; exact hc w hw j u hj)
 simp [execOp,ha.ev hx,Instr.loadAt,Instr.sureAddr,loadVar,hT.1 w,run_size hT.2,this,Result.andThen]
def evA (env:Env):List Operand→Option (List Value):=evs env
theorem qB {g:FuncId} {xs ys:List Operand} {us vs:List Value} (hx:evs env xs=some us) (hy:evs env ys=some vs):Yv P N ds env (.makeFunc (.func g) xs.toArray ys.toArray) (.func (.func g) us.toArray vs.toArray) S:=fun a ha w _ _ _ _ _ _=>by
 simp [execOp,Instr.makeFunc,List.map_toArray,ha.evs hx,ha.evs hy,Result.andThen]
end yv
end Go.Fip
namespace Go.Fip
open Go.RowKit
def Bx (b t:Nat) (cs:List Value) (w:World):Prop:=w.heap[b]? = some (.cells cs.toArray t (0,0))
def bx (b t:Nat) (cs:List Value):Item:=⟨b,b+1,Bx b t cs⟩
theorem xM {b t:Nat} {cs:List Value} {w:World} (h:Bx b t cs w) {j:Nat} {v:Value} (hj:cs[j]? = some v):w.cell? ⟨b,j,none⟩=some v:=by
 unfold Bx at h
 simp [World.cell?,h,hj]
theorem qQ {b t:Nat} {cs us:List Value} {w:World} (h:Bx b t cs w) {k:Nat} (hk:us=(cs.drop k).take us.length) (j:Nat) (u:Value) (hj:us[j]? = some u):w.cell? ⟨b,k+j,none⟩=some u:=by
 refine xM h ?_
 rw [hk] at hj
 rw [List.getElem?_take] at hj
 split at hj
 ·rw [List.getElem?_drop] at hj; exact hj
 ·cases hj
theorem kM {b t:Nat} {cs:List Value} {w:World} (h:Bx b t cs w):(bx b t cs).ok w :=
 ⟨Nat.le_succ b,(Array.getElem?_eq_some_iff.1 h).1,fun w' ha=>(ha.block b (Nat.le_refl _) (Nat.lt_succ_self b)).trans h⟩
theorem below_alloc (w:World) (o:Obj):Below w.heap.size w (w.alloc o):=(Below.refl _ w).alloc (Nat.le_refl _) o
theorem heap_new (w:World) (o:Obj):(w.alloc o).heap[w.heap.size]? = some o:=World.alloc_heap_new w o
theorem uL (w:World) (g:Nat) (cs:Array Value):Off g (g+1) w (w.setRow g cs):=⟨rfl,rfl,rfl,by simp,fun k _ hk=>setRow_other w g k cs (by omega)⟩
section eff
variable {r : Option Nat} {P : Program} {N : Nat} {ds : List Deferred} {env : Env} {w : World} {Q : Post} {all : Array Oper} {rest : List Oper} {H : List Item} {x y : Operand} {v u : Value}
  {d : Nat} {ty : TypeId} {pos : String} {after : Array Edge}
theorem qS {op:Op} {T:Nat} {us:List Value} (hd:Nat.blt d N=true) (hH:Heap H w) (hop:∀ c,op≠.defer c)
  (hrun:∀ a,Fits N a ds env→(execOp a.eval ⟨some d,op,ty,pos,after,none⟩).run P w=.ok (.value (.pointer (some ⟨w.heap.size,0,none⟩))) (w.alloc (.cells us.toArray T)))
  (h:∀ b w',Heap (bx b T us::H) w'→Ops r P N all rest ds ((d,.pointer (some ⟨b,0,none⟩))::env) w' Q) :
  Ops r P N all (⟨some d,op,ty,pos,after,none⟩::rest) ds env w Q :=
 xU hd hop hrun (h _ _ (hH.add (below_alloc w _) (Nat.le_refl _) (kM (heap_new w _))))
theorem yM {T : Nat} {us : List Value} (hx : ev env x = some v) (hus : v.cells = us.toArray) (hd : Nat.blt d N = true) (hH : Heap H w)
    (h : ∀ b w', Heap (bx b T us :: H) w' → Ops r P N all rest ds ((d, .pointer (some ⟨b, 0, none⟩)) :: env) w' Q) :
    Ops r P N all (⟨some d, .box T x, ty, pos, after, none⟩ :: rest) ds env w Q :=
  qS hd hH (fun c hc => by cases hc) (fun a ha => by
    simp only [execOp, Instr.box, newVar, newRow, newObj, ha.ev hx, hus, Sem.run_bind, Sem.run_pure, Sem.run, Result.andThen]
    rfl) h
theorem yY {T : Nat} {us : List Value} {z : Value} (hz : ∀ w, (zeroValue T).run P w = .ok z w) (hus : z.cells = us.toArray) (hd : Nat.blt d N = true) (hH : Heap H w)
    (h : ∀ b w', Heap (bx b T us :: H) w' → Ops r P N all rest ds ((d, .pointer (some ⟨b, 0, none⟩)) :: env) w' Q) :
    Ops r P N all (⟨some d, .alloc T, ty, pos, after, none⟩ :: rest) ds env w Q :=
  qS hd hH (fun c hc => by cases hc) (fun a ha => by
    simp only [execOp, Instr.alloc, newVar, newRow, newObj, hz w, hus, Sem.run_bind, Sem.run_pure, Sem.run, Result.andThen]
    rfl) h
def splice (cs:List Value) (j:Nat) (us:List Value):List Value:=cs.take j++us++cs.drop (j+us.length)
theorem run_storeVar_at {T g o sz:Nat} {cur:Array Value} {t:Nat} {us:List Value} (hsz:(P.info? T).map (·.size)=some sz) (hv:v.cells=us.toArray) (hl:us.length=sz)
  (hg:w.heap[g]? = some (.cells cur t (0,0))) (ho:o+us.length≤cur.size) (h1:∀ u∈us,u.oneCell'=true) :
  (storeVar T ⟨g,o,none⟩ v).run P w=.ok () (w.setRow g (splice cur.toList o us).toArray):=by
 subst hl
 have hs:=run_storeCells_at (P:=P) g o t us 0 cur w hg (by simpa using ho) h1
 simp only [Nat.add_zero] at hs
 unfold storeVar splice
 simp only [Sem.run_bind,run_size hsz,Result.andThen,hv,List.size_toArray,ne_eq,not_true_eq_false,if_false]
 exact hs
theorem vZ {T g o sz : Nat} {cur : Array Value} {t : Nat} {us : List Value} (hp : ev env x = some (.pointer (some ⟨g, o, none⟩))) (hx : ev env y = some v) (hsz : (P.info? T).map (·.size) = some sz)
    (hv : v.cells = us.toArray) (hl : us.length = sz) (hg : w.heap[g]? = some (.cells cur t (0, 0))) (ho : o + us.length ≤ cur.size) (h1 : ∀ u ∈ us, u.oneCell' = true)
    (h : Ops r P N all rest ds env (w.setRow g (splice cur.toList o us).toArray) Q) :
    Ops r P N all (⟨none, .store T x y, ty, pos, after, none⟩ :: rest) ds env w Q :=
  jB (fun c hc => by cases hc) (fun a ha => .inl (by
    simp only [execOp, Instr.storeAt, Instr.sureAddr, ha.ev hp, ha.ev hx, Sem.run_bind, Sem.run_pure, Result.andThen, run_storeVar_at hsz hv hl hg ho h1])) h
theorem y7 {T b j sz n:Nat} {t:Nat} {cs us:List Value} (hp:ev env x=some (.pointer (some ⟨b,j,none⟩))) (hx:ev env y=some v) (hH:Heap H w) (hn:H[n]? = some (bx b t cs))
  (hsz:(P.info? T).map (·.size)=some sz) (hv:v.cells=us.toArray) (hl:us.length=sz) (ho:Nat.ble (j+us.length) cs.length=true) (h1:us.all (·.oneCell')=true)
  (h:∀ w',Heap (H.set n (bx b t (splice cs j us))) w'→Ops r P N all rest ds env w' Q) :
  Ops r P N all (⟨none,.store T x y,ty,pos,after,none⟩::rest) ds env w Q:=by
 have hb:w.heap[b]? = some (.cells cs.toArray t (0,0)):=hH.get hn
 refine vZ hp hx hsz hv hl hb (by simpa [Nat.ble_eq] using ho) (by simpa using h1) (h _ ?_)
 refine hH.set hn (uL w b _) (.inl ⟨Nat.le_refl _,Nat.le_refl _⟩) (kM ?_)
 exact setRow_heap w b _ _ t (0,0) hb
structure El {α:Type} (P:Program) (T E sz:Nat) (enc:α→List Value):Prop where
 und:P.underlying T=some (.slice E)
 info:∃ i z,P.info? E=some i∧i.zero=some z∧i.size=sz∧i.bytes≤1024∧z.cells.size=sz
 pos:0<sz
 len:∀ x,(enc x).length=sz
 one:∀ x,∀ u∈enc x,u.oneCell'=true
def Ow {α:Type} (lo hi E sz:Nat) (enc:α→List Value) (v:Value) (xs:List α) (w:World):Prop :=
 w.ownsRow 0 E sz v xs.length (xs.flatMap enc)∧∀ k,v.ownBlock=some k→lo≤k∧k<hi
def ow {α:Type} (lo hi E sz:Nat) (enc:α→List Value) (v:Value) (xs:List α):Item:=⟨lo,hi,Ow lo hi E sz enc v xs⟩
theorem uF {α : Type} {lo hi E sz : Nat} {enc : α → List Value} {v : Value} {xs : List α} {w : World} (h : Ow lo hi E sz enc v xs w) (h1 : lo ≤ hi) (h2 : hi ≤ w.heap.size) : (ow lo hi E sz enc v xs).ok w := by
  refine ⟨h1, h2, fun w' ha => ⟨⟨h.1.1, ?_⟩, h.2⟩⟩
  rcases h.1.2 with h3 | ⟨g, cap, cur, hv, hb, hg, h4⟩
  · exact .inl h3
  · have := h.2 g (by rw [hv]; rfl)
    exact .inr ⟨g, cap, cur, hv, hb, (ha.block g this.1 this.2).trans hg, h4⟩
theorem yG {α:Type} {enc:α→List Value} {sz:Nat} (hl:∀ x,(enc x).length=sz) (xs:List α):(xs.flatMap enc).length=xs.length * sz:=by
 induction xs with
 | nil=>simp
 | cons x xs ih=>simp [hl,ih,Nat.add_mul,Nat.add_comm]
theorem yR {α:Type} {enc:α→List Value} {sz:Nat} (hl:∀ x,(enc x).length=sz):∀ (xs:List α) (i:Nat) (x:α) (j:Nat) (u:Value),xs[i]? = some x→(enc x)[j]? = some u→(xs.flatMap enc)[i * sz+j]? = some u
 | [],i,x,j,u,hi,_=>by simp at hi
 | y::ys,i,x,j,u,hi,hj=>by
  cases i with
  | zero =>
   simp at hi; subst hi
   have:j<(enc y).length:=(List.getElem?_eq_some_iff.1 hj).1
   simp only [List.flatMap_cons,Nat.zero_mul,Nat.zero_add]
   rw [List.getElem?_append_left this]; exact hj
  | succ i =>
   have hi':ys[i]? = some x:=by simpa using hi
   have:=yR hl ys i x j u hi' hj
   simp only [List.flatMap_cons]
   rw [List.getElem?_append_right (by rw [hl,Nat.add_mul]; omega),hl]
   have e:(i+1) * sz+j - sz=i * sz+j:=by rw [Nat.add_mul]; omega
   rw [e]; exact this
theorem Ow.is {α:Type} {lo hi E sz:Nat} {enc:α→List Value} {v:Value} {xs:List α} {w:World} (h:Ow lo hi E sz enc v xs w):SliceIs v xs.length:=by
 rcases h.1.2 with ⟨hv,h3⟩ | ⟨g,cap,cur,hv,hb,hg,h4,_⟩
 ·exact ⟨none,0,by rw [h3]; exact hv,by omega,.inl ⟨rfl,rfl⟩⟩
 ·exact ⟨_,cap,hv,h4,.inr ⟨g,0,rfl⟩⟩
theorem Ow.rd {α:Type} {lo hi E sz:Nat} {enc:α→List Value} {v:Value} {xs:List α} {w:World} (hl:∀ x,(enc x).length=sz) (h:Ow lo hi E sz enc v xs w):Rd enc sz v xs w:=by
 refine ⟨h.is,fun i x hi j u hj=>?_⟩
 have hlt:i<xs.length:=(List.getElem?_eq_some_iff.1 hi).1
 rcases h.1.2 with ⟨hv,h3⟩ | ⟨g,cap,cur,hv,hb,hg,h4,h5,h6,h7⟩
 ·omega
 ·subst hv
  have h8:=yR hl xs i x j u hi hj
  have h9:i * sz+j<xs.length * sz:=by
   have:=(List.getElem?_eq_some_iff.1 h8).1
   rwa [yG hl] at this
  rw [← h7,List.getElem?_take,if_pos h9] at h8
  simp only [eb,eo,Nat.zero_add]
  simp only [World.cell?,hg]
  simpa using h8
theorem YB {α:Type} (E sz:Nat) (enc:α→List Value) (hH:Heap H w):Heap (ow w.heap.size w.heap.size E sz enc (.slice none 0 0) []::H) w :=
 hH.add (Below.refl _ w) (Nat.le_refl _) (uF ⟨World.ownsRow_nil w 0 E sz,fun k hk=>by cases hk⟩ (Nat.le_refl _) (Nat.le_refl _))
theorem vX {α : Type} {T E sz : Nat} {enc : α → List Value} (hE : El P T E sz enc) (xs : List α) (hn : xs.length ≤ 1000000) (w : World) :
    (ow w.heap.size (w.heap.size + 1) E sz enc (.slice (some ⟨w.heap.size, 0, none⟩) xs.length xs.length) xs).ok (w.alloc (.cells (xs.flatMap enc).toArray E)) := by
  refine uF ⟨?_, fun k hk => ?_⟩ (Nat.le_succ _) (by simp)
  · have := World.ownsRow_lit (base := 0) (e := E) (size := sz) w (xs.flatMap enc).toArray xs.length (Nat.zero_le _) (by simp [maxLen]; omega) (by simp [yG hE.len])
    simpa using this
  · simp [Value.ownBlock] at hk; omega
theorem xT {α:Type} {T E sz n:Nat} {enc:α→List Value} {ps:Array (Nat×Operand)} {us:List (Nat×Value)} (hE:El P T E sz enc) (xs:List α) (hl:xs.length=n) (hn:n≤1000000)
  (hd:Nat.blt d N=true) (hx:∀ a,Fits N a ds env→(ps.map fun (i,x)=>(i,a.eval x))=us.toArray)
  (hr:∀ w,(Instr.buildSlice T n us.toArray).run P w=.ok (.slice (some ⟨w.heap.size,0,none⟩) n n) (w.alloc (.cells (xs.flatMap enc).toArray E)))
  (hH:Heap H w)
  (h:∀ v lo hi w',Heap (ow lo hi E sz enc v xs::H) w'→Ops r P N all rest ds ((d,v)::env) w' Q) :
  Ops r P N all (⟨some d,.buildSlice T n ps,ty,pos,after,none⟩::rest) ds env w Q:=by
 subst hl
 refine xU hd (fun c hc=>by cases hc) (fun a ha=>?_) (h _ _ _ _ (hH.add (below_alloc w _) (Nat.le_refl _) (vX hE xs hn w)))
 simp only [execOp,hx a ha,Sem.run_bind,hr w,Sem.run_pure,Result.andThen]
theorem qJ {w w':World} {row:Option Nat} {lo hi:Nat} (h:w.grownBy w' row) (hr:∀ k,row=some k→lo≤k∧k<hi):Off lo hi w w' :=
 ⟨h.os,h.tape,h.output,h.size,fun k hk hne=>h.block k hk (fun e=>by have:=hr k e.symm; omega)⟩
theorem vB (t ty e : TypeId) (i : TypeInfo) (z : Value) (ht : P.underlying t = some (.slice e)) (hi : P.info? e = some i) (hz : i.zero = some z)
    (hzs : z.cells.size = i.size) (v : Value) (n : Nat) (xs : List Value) (hown : w.ownsRow 0 e i.size v n xs)
    (a : Addr) (m c : Nat) (news : List Value) (hl : news.length = m * i.size) (hnews : ∀ j u, news[j]? = some u → w.cell? (a.add j) = some u) (h1 : ∀ u ∈ news, u.oneCell' = true)
    (h63 : n + m ≤ maxLen) (hbytes : (n + m) * i.bytes ≤ 140737488355328) :
    ∃ v' w', (Builtin.append_ #[t, t] ty #[v, .slice (some a) m c]).run P w = .ok v' w' ∧ w'.ownsRow 0 e i.size v' (n + m) (xs ++ news) ∧ w.grownBy w' v.ownBlock ∧
      (v'.ownBlock = v.ownBlock ∨ (v'.ownBlock = some w.heap.size ∧ w.heap.size < w'.heap.size)) := by
  have hsmall : n + m ≤ 9223372036854775807 := by simp only [maxLen] at h63; omega
  have hlen : (xs ++ news).length = (n + m) * i.size := by rw [List.length_append, hown.1, hl, Nat.add_mul]
  have grown : ∀ (old : Nat), old < n + m → ∀ (row : Option Nat),
      (w.drew.alloc (.cells (xs.toArray ++ news.toArray ++ Builtin.zeroCells z.cells (grownCap w (n + m) old e - (n + m))) e)).ownsRow 0 e i.size
        (.slice (some ⟨w.heap.size, 0, none⟩) (n + m) (grownCap w (n + m) old e)) (n + m) (xs ++ news) ∧
      w.grownBy (w.drew.alloc (.cells (xs.toArray ++ news.toArray ++ Builtin.zeroCells z.cells (grownCap w (n + m) old e - (n + m))) e)) row := by
    intro old ho row
    have hge := grownCap_ge w (n + m) old e
    have hcm : grownCap w (n + m) old e ≤ maxLen := grownCap_le_maxLen w (n + m) old e h63
    refine ⟨⟨hlen, .inr ⟨w.heap.size, _, _, rfl, Nat.zero_le _, heap_alloc_new w.drew _, hge, hcm, ?_, ?_⟩⟩, ⟨rfl, rfl, rfl, by simp, fun k hk _ => Below.heap_alloc w.drew _ k hk⟩⟩
    · simp only [Array.size_append, List.size_toArray, size_zeroCells, hzs, hown.1, hl, ← Nat.add_mul]
      congr 1
      omega
    · simp only [Array.toList_append, List.append_assoc]
      rw [← List.append_assoc, ← hlen]
      exact List.take_left
  rcases hown.2 with ⟨rfl, rfl⟩ | ⟨g, cap, cur, rfl, hbg, hg, hnc, hcm, hcs, htake⟩
  · have hx : xs = [] := List.eq_nil_of_length_eq_zero (by simpa using hown.1)
    subst hx
    by_cases hm : m = 0
    · subst hm
      have hn : news = [] := List.eq_nil_of_length_eq_zero (by simpa using hl)
      subst hn
      refine ⟨.slice none 0 0, w, ?_, World.ownsRow_nil w 0 e i.size, ⟨rfl, rfl, rfl, Nat.le_refl _, fun _ _ _ => rfl⟩, .inl rfl⟩
      simp [Builtin.append_, run_underlying ht, sizeOf, typeInfo, hi, Builtin.lenOf, Builtin.firstCells, loadCells, loadCellsFrom]
    · have hr := run_append_nil (P := P) w t ty e i z ht hi hz a m c news hl hnews (by omega) (by omega) (by have hb := hbytes; simp only [Nat.zero_add] at hb; omega)
      have hgr := grown 0 (by omega) (Value.ownBlock (.slice none 0 0))
      simp only [Nat.zero_add, List.nil_append, Array.empty_append] at hgr ⊢
      exact ⟨_, _, hr, hgr.1, hgr.2, .inr ⟨rfl, by simp⟩⟩
  · by_cases hroom : n + m ≤ cap
    · have hfit : n * i.size + news.length ≤ cur.size := by rw [hl, hcs, ← Nat.add_mul]; exact Nat.mul_le_mul_right _ hroom
      have hr := run_append_room (P := P) w t ty e i ht hi g n cap cur hg a m c news hl hnews h1 hroom hfit
      refine ⟨_, _, hr, ⟨hlen, .inr ⟨g, cap, _, rfl, hbg, setRow_heap w g cur _ e _ hg, hroom, hcm, ?_, ?_⟩⟩, ⟨rfl, rfl, rfl, by simp, fun k _ hk => setRow_other w g k _ (fun e => hk (by simp [Value.ownBlock, e]))⟩, .inl rfl⟩
      · simp only [List.size_toArray, List.length_append, List.length_take, List.length_drop, Array.length_toList]
        omega
      · rw [htake, ← hlen]
        exact List.take_left
    · have holds : ∀ j u, xs[j]? = some u → w.cell? ((⟨g, 0, none⟩ : Addr).add j) = some u := hown.cells (g := g) rfl
      have hr := run_append_grow (P := P) w t ty e i z ht hi hz ⟨g, 0, none⟩ n cap xs hown.1 holds a m c news hl hnews (by omega) (by omega) (growslice_fits (by omega) hbytes)
      have hgr := grown cap (by omega) (Value.ownBlock (.slice (some ⟨g, 0, none⟩) n cap))
      exact ⟨_, _, hr, hgr.1, hgr.2, .inr ⟨rfl, by simp⟩⟩
theorem Rd.flat {α:Type} {enc:α→List Value} {sz:Nat} (hl:∀ x,(enc x).length=sz) (hp:0<sz) {b o n c:Nat} {ys:List α} (hu:Rd enc sz (.slice (some ⟨b,o,none⟩) n c) ys w) :
  ∀ j u,(ys.flatMap enc)[j]? = some u→w.cell? ((⟨b,o,none⟩:Addr).add j)=some u:=by
 intro j u hj
 have hlt:j<ys.length * sz:=by have:=(List.getElem?_eq_some_iff.1 hj).1; rwa [yG hl] at this
 have hq:j / sz<ys.length:=by rw [Nat.div_lt_iff_lt_mul hp]; exact hlt
 have hx:ys[j / sz]? = some ys[j / sz]:=List.getElem?_eq_getElem hq
 have hm:j % sz<(enc ys[j / sz]).length:=by rw [hl]; exact Nat.mod_lt _ hp
 have h1:=yR hl ys (j / sz) _ (j % sz) _ hx (List.getElem?_eq_getElem hm)
 have e:j / sz * sz+j % sz=j:=by rw [Nat.mul_comm]; exact Nat.div_add_mod j sz
 rw [e,hj] at h1
 have h2:=hu.2 (j / sz) _ hx (j % sz) _ (List.getElem?_eq_getElem hm)
 simp only [eb,eo] at h2
 rw [add_none]
 rw [Nat.add_assoc,e] at h2
 rw [h2]; exact h1.symm
theorem uZ {α : Type} {T E sz ty' : Nat} {enc : α → List Value} (hE : El P T E sz enc) {lo hi : Nat} {v : Value} {xs : List α} (hv : Ow lo hi E sz enc v xs w) {u : Value} {ys : List α} (hu : Rd enc sz u ys w) (hb : xs.length + ys.length ≤ 1000000) (hhi : hi ≤ w.heap.size) (hlh : lo ≤ hi) :
    ∃ v' w', (Builtin.append_ #[T, T] ty' #[v, u]).run P w = .ok v' w' ∧ Off lo hi w w' ∧ ∃ lo' hi', ((lo ≤ lo' ∧ hi' ≤ hi) ∨ w.heap.size ≤ lo') ∧ (ow lo' hi' E sz enc v' (xs ++ ys)).ok w' := by
  obtain ⟨i, z, hi1, hz, hsz, hby, hzs⟩ := hE.info
  obtain ⟨a, c, rfl, hc, ⟨rfl, rfl⟩ | ⟨b, o, rfl⟩⟩ := hu.1
  · have hy : ys = [] := List.eq_nil_of_length_eq_zero (by omega)
    subst hy
    refine ⟨v, w, run_append_owned_none w 0 T ty' E i sz hE.und hi1 v _ _ hv.1, ⟨rfl, rfl, rfl, Nat.le_refl _, fun _ _ _ => rfl⟩, lo, hi, .inl ⟨Nat.le_refl _, Nat.le_refl _⟩, ?_⟩
    rw [List.append_nil]
    exact uF hv hlh hhi
  · subst hsz
    obtain ⟨v', w', hr, hown, hg, hloc⟩ := vB (P := P) (w := w) T ty' E i z hE.und hi1 hz hzs v xs.length _ hv.1 ⟨b, o, none⟩ ys.length c (ys.flatMap enc) (yG hE.len ys) (hu.flat hE.len hE.pos)
      (fun u hu => by obtain ⟨x, _, hx⟩ := List.mem_flatMap.1 hu; exact hE.one x u hx) (by simp [maxLen]; omega)
      (by have : (xs.length + ys.length) * i.bytes ≤ 1000000 * 1024 := Nat.mul_le_mul hb hby; omega)
    refine ⟨v', w', hr, qJ hg hv.2, ?_⟩
    have hown' : w'.ownsRow 0 E i.size v' (xs ++ ys).length ((xs ++ ys).flatMap enc) := by rw [List.length_append, List.flatMap_append]; exact hown
    rcases hloc with h | ⟨h, h2⟩
    · exact ⟨lo, hi, .inl ⟨Nat.le_refl _, Nat.le_refl _⟩, uF ⟨hown', fun k hk => hv.2 k (by rw [← h]; exact hk)⟩ hlh (Nat.le_trans hhi hg.size)⟩
    · exact ⟨w.heap.size, w.heap.size + 1, .inr (Nat.le_refl _), uF ⟨hown', fun k hk => by rw [h] at hk; cases hk; omega⟩ (Nat.le_succ _) h2⟩
theorem qK {α:Type} {T E sz n lo hi:Nat} {enc:α→List Value} (hE:El P T E sz enc) {xs ys:List α} (hs:ev env x=some v) (hx:ev env y=some u) (hd:Nat.blt d N=true) (hH:Heap H w)
  (hn:H[n]? = some (ow lo hi E sz enc v xs)) (hu:Rd enc sz u ys w) (hb:xs.length+ys.length≤1000000)
  (h:∀ v' lo' hi' w',Heap (H.set n (ow lo' hi' E sz enc v' (xs++ys))) w'→Ops r P N all rest ds ((d,v')::env) w' Q) :
  Ops r P N all (⟨some d,.call ⟨.builtin .append, #[x,y], #[T,T]⟩,ty,pos,after,none⟩::rest) ds env w Q:=by
 have hok:=hH.okAt hn
 obtain ⟨v',w',hr,hoff,lo',hi',hloc,hok'⟩:=uZ (P:=P) (w:=w) (ty':=ty) hE (hH.get hn) hu hb hok.2.1 hok.1
 refine xU hd (fun c hc=>by cases hc) (fun a ha=>?_) (h v' lo' hi' w' (hH.set hn hoff hloc hok'))
 simp only [execOp,resolve,invoke,builtin,Sem.run_bind,Sem.run_pure,Result.andThen,List.map_toArray,List.map_cons,List.map_nil,ha.ev hs,ha.ev hx,hr]
end eff
end Go.Fip
namespace Go.Fip
open Go.RowKit
def cutv (v:Value) (sz lo hi:Nat):Value :=
 match v with
 | .slice a _ c=>.slice (if c=lo then a else a.map (·.add (lo * sz))) (hi - lo) (c - lo)
 | v=>v
def jN (v:Value) (sz lo hi m:Nat):Value :=
 match v with
 | .slice a _ _=>.slice (if m=lo then a else a.map (·.add (lo * sz))) (hi - lo) (m - lo)
 | v=>v
theorem Rd.cut3 {α : Type} {enc : α → List Value} {sz : Nat} {v : Value} {xs : List α} {w : World} (h : Rd enc sz v xs w) {lo hi m : Nat} (h1 : lo ≤ hi) (h2 : hi ≤ xs.length) (hm : hi ≤ m)
    (hc : ∀ a n c, v = .slice a n c → m ≤ c) : Rd enc sz (jN v sz lo hi m) ((xs.take hi).drop lo) w := by
  obtain ⟨⟨a, c, rfl, hnc, ha⟩, h3⟩ := h
  have hmc := hc a _ c rfl
  have hl : ((xs.take hi).drop lo).length = hi - lo := by rw [List.length_drop, List.length_take]; omega
  refine ⟨⟨_, _, by unfold jN; rw [hl], by omega, ?_⟩, fun i x hx j u hj => ?_⟩
  · rcases ha with ⟨rfl, rfl⟩ | ⟨b, o, rfl⟩
    · exact .inl ⟨by simp, by omega⟩
    · refine .inr ?_
      by_cases e : m = lo
      · exact ⟨b, o, by simp [e]⟩
      · exact ⟨b, o + lo * sz, by simp [e, add_none]⟩
  · have hlt : i < hi - lo := by rw [← hl]; exact (List.getElem?_eq_some_iff.1 hx).1
    rw [List.getElem?_drop, List.getElem?_take, if_pos (by omega)] at hx
    have h4 := h3 (lo + i) x hx j u hj
    rcases ha with ⟨rfl, rfl⟩ | ⟨b, o, rfl⟩
    · omega
    · have e : ¬ m = lo := by omega
      simp only [jN, e, if_false, Option.map_some, eb, eo, add_none] at h4 ⊢
      rw [← h4]
      congr 2
      rw [Nat.add_mul]; omega
theorem Rd.cut {α:Type} {enc:α→List Value} {sz:Nat} {v:Value} {xs:List α} {w:World} (h:Rd enc sz v xs w) {lo hi:Nat} (h1:lo≤hi) (h2:hi≤xs.length):Rd enc sz (cutv v sz lo hi) ((xs.take hi).drop lo) w:=by
 obtain ⟨a,c,e,hnc,_⟩:=h.1
 have:=h.cut3 h1 h2 (m:=c) (by omega) (fun a' n' c' e'=>by rw [e] at e'; simp only [Value.slice.injEq] at e'; omega)
 subst e
 exact this
theorem Rd.XR {α:Type} {enc:α→List Value} {sz:Nat} {v:Value} {xs:List α} {w:World} (h:Rd enc sz v xs w) {hi:Nat} (h2:hi≤xs.length):Rd enc sz (cutv v sz 0 hi) (xs.take hi) w:=by
 simpa using h.cut (Nat.zero_le _) h2
section cutops
variable {P : Program} {N : Nat} {ds : List Deferred} {env : Env} {S : World → Prop} {x y z c : Operand} {v u : Value} {T E sz n : Nat} {k k2 k3 : IntKind} {l h m : Int}
theorem j9 {hi : Nat} (hT : TSlice P T E sz) (hv : SliceIs v n) (h2 : hi ≤ n) {lo : Nat} (h1 : lo ≤ hi) (wl wh : Option Value) (hl : wl = none ∧ lo = 0 ∨ ∃ k, wl = some (.int k (lo : Int))) (hh : wh = none ∧ hi = n ∨ ∃ k, wh = some (.int k (hi : Int))) (w : World) :
    (Instr.sliceAt T v wl wh none).run P w = .ok (cutv v sz lo hi) w := by
  obtain ⟨a, c, rfl, hnc, ha⟩ := hv
  have e1 : ∀ (k : IntKind) (y : Nat) (q : Int) (code : BoundsCode), 0 ≤ q → q ≤ y → (Instr.sliceBound (.int k q) y code).run P w = .ok q.toNat w := by
    intro k y q code h0 h1
    simp [Instr.sliceBound, asIntOf, h0, h1]
  have eb1 : (Instr.sliceBounds true n c wl wh none).run P w = .ok (lo, hi, c) w := by
    rcases hh with ⟨rfl, rfl⟩ | ⟨kh, rfl⟩ <;> rcases hl with ⟨rfl, rfl⟩ | ⟨kl, rfl⟩
    · simp [Instr.sliceBounds]
    · have := e1 kl hi (lo : Int) .sliceB (by omega) (by omega)
      simp [Instr.sliceBounds, this, Result.andThen]
    · have := e1 kh c (hi : Int) .sliceAcap (by omega) (by omega)
      simp [Instr.sliceBounds, this, Result.andThen]
    · have h3 := e1 kh c (hi : Int) .sliceAcap (by omega) (by omega)
      have h4 := e1 kl hi (lo : Int) .sliceB (by omega) (by omega)
      simp [Instr.sliceBounds, h3, h4, Result.andThen]
  simp [Instr.sliceAt, Instr.slice, run_underlying hT.1, eb1, run_size hT.2, Result.andThen, cutv]
theorem qC (hT:TSlice P T E sz) (hx:ev env x=some v) (hy:ev env y=some (.int k h)) (hv:SliceIs v n) (hb:0≤h∧h≤n):Yv P N ds env (.slice T x none (some y) none) (cutv v sz 0 h.toNat) S:=fun a ha w _ _ _ _ _ _=>by
 have e:((h.toNat:Nat):Int)=h:=by omega
 have:=j9 (P:=P) hT hv (hi:=h.toNat) (by omega) (lo:=0) (by omega) none (some (.int k h)) (.inl ⟨rfl,rfl⟩) (.inr ⟨k,by rw [e]⟩) w
 simp [execOp,ha.ev hx,ha.ev hy,this,Result.andThen]
end cutops
def putE (dst:Option Nat) (v:Value) (env:Env):Env :=
 match dst with
 | some d=>(d,v)::env
 | none=>env
end Go.Fip
namespace Go.Fip
open Go.RowKit
section maps
variable {K V : Type} [DecidableEq K] {P : Program} {MT KT ET : Nat} {kv : K → Value} {vv : V → Value} {z : V} {w : World}
def findI (k:K):List (K×V)→Nat→Option (Nat×V)
 | [],_=>none
 | p::m,i=>if k=p.1 then some (i,p.2) else findI k m (i+1)
def find (k:K) (m:List (K×V)):Option V:=(findI k m 0).map (·.2)
def Views (kv:K→Value) (vv:V→Value) (es:List MapEntry) (m:List (K×V)):Prop:=es.map (fun e=>(e.key,e.val))=m.map fun p=>(kv p.1,vv p.2)
omit [DecidableEq K] in
theorem Views.length {es:List MapEntry} {m:List (K×V)} (h:Views kv vv es m):es.length=m.length:=by
 have:=congrArg List.length h
 simpa using this
theorem run_getMap {b:Nat} {es:Array MapEntry} {c:Nat} (h:w.heap[b]? = some (.map es c)):(getObj b).run P w=.ok (.map es c) w:=by simp [getObj,Sem.run,h]
theorem run_setMap {b:Nat} {es:Array MapEntry} {c:Nat} (o:Obj) (h:w.heap[b]? = some (.map es c)):(setObj b o).run P w=.ok () (w.putObj b o):=by simp [setObj,Sem.run,h,World.putObj]
end maps
end Go.Fip
namespace Go.Fip
open Go.RowKit
section getters
variable {P : Program} {H : List Item} {w : World} {n : Nat}
theorem Heap.jO {α:Type} {T E sz lo hi:Nat} {enc:α→List Value} (hE:El P T E sz enc) {v:Value} {xs:List α} (hH:Heap H w) (hn:H[n]? = some (ow lo hi E sz enc v xs)):Rd enc sz v xs w :=
 Ow.rd hE.len (hH.get hn)
theorem Heap.Y4 {b t j:Nat} {cs:List Value} {v:Value} (hH:Heap H w) (hn:H[n]? = some (bx b t cs)) (hj:cs[j]? = some v):w.cell? ⟨b,j,none⟩=some v:=xM (hH.get hn) hj
theorem Heap.uQ {b t k:Nat} {cs us:List Value} (hH:Heap H w) (hn:H[n]? = some (bx b t cs)) (hk:us=(cs.drop k).take us.length) (j:Nat) (u:Value) (hj:us[j]? = some u):w.cell? ⟨b,k+j,none⟩=some u:=qQ (hH.get hn) hk j u hj
theorem Rd.qR {α:Type} [Inhabited α] {enc:α→List Value} {sz:Nat} {v:Value} {xs:List α} (h:Rd enc sz v xs w) {i:Int} (hi:0≤i∧i<xs.length) (j:Nat) (u:Value) (hu:(enc (nth xs i))[j]? = some u) :
  w.cell? ⟨eb v,eo v+i.toNat * sz+j,none⟩=some u:=h.2 _ _ (u9 hi) j u hu
end getters
theorem qV {α:Type} {P:Program} {T E sz bytes:Nat} {z:Value} {enc:α→List Value} (h1:P.underlying T=some (.slice E)) (hi:(P.info? E).map (fun i=>(i.zero,i.size,i.bytes))=some (some z,sz,bytes))
  (hb:Nat.ble bytes 1024=true) (hz:z.cells.size=sz) (hp:Nat.blt 0 sz=true) (hl:∀ x,(enc x).length=sz) (ho:∀ x,∀ u∈enc x,u.oneCell'=true):El P T E sz enc:=by
 refine ⟨h1,?_,by simpa [Nat.blt_eq] using hp,hl,ho⟩
 cases h:P.info? E with
 | none=>rw [h] at hi; cases hi
 | some i =>
  rw [h] at hi
  simp only [Option.map_some,Option.some.injEq,Prod.mk.injEq] at hi
  obtain ⟨a,b,c⟩:=hi
  exact ⟨i,z,rfl,a,b,by rw [c]; simpa [Nat.ble_eq] using hb,hz⟩
theorem zI {p:Prop} [Decidable p] (h:¬ p):(!decide p)=true:=by simp [h]
theorem zJ {p:Prop} [Decidable p] (h:p):(!decide p)=false:=by simp [h]
section yv2
variable {P : Program} {N : Nat} {ds : List Deferred} {env : Env} {S : World → Prop} {x y c : Operand} {v u : Value}
theorem xE {A B:TypeId} {da:TypeDesc} {k k':IntKind} {m:Int} (hA:P.underlying A=some da) (hB:P.underlying B=some (.int k')) (hx:ev env x=some (.int k m)) (hw:k'.wrap m=m):Yv P N ds env (.convert A B x) (.int k' m) S:=fun act hact w _ _ _ _ _ _=>by
 simp [execOp,hact.ev hx,convert,run_underlying hA,run_underlying hB,Conv.intToInt,hw,Result.andThen]
theorem wrap_i64 {m:Int} (h : -9223372036854775808≤m∧m≤9223372036854775807):IntKind.i64.wrap m=m:=IntWalk.i64_in m h
end yv2
end Go.Fip
namespace Go.Fip
open Go.RowKit
theorem Heap.recast {α:Type} {E sz n lo hi:Nat} {enc:α→List Value} {v:Value} {xs ys:List α} {H:List Item} {w:World} (hH:Heap H w) (hn:H[n]? = some (ow lo hi E sz enc v xs)) (e:xs=ys):Heap (H.set n (ow lo hi E sz enc v ys)) w:=by
 subst e
 exact hH.set hn ⟨rfl,rfl,rfl,Nat.le_refl _,fun _ _ _=>rfl⟩ (.inl ⟨Nat.le_refl _,Nat.le_refl _⟩) (hH.okAt hn)
theorem Heap.v6 {n b t:Nat} {cs cs':List Value} {H:List Item} {w:World} (hH:Heap H w) (hn:H[n]? = some (bx b t cs)) (e:cs=cs'):Heap (H.set n (bx b t cs')) w:=by
 subst e
 exact hH.set hn ⟨rfl,rfl,rfl,Nat.le_refl _,fun _ _ _=>rfl⟩ (.inl ⟨Nat.le_refl _,Nat.le_refl _⟩) (hH.okAt hn)
end Go.Fip
namespace Go.Fip
open Go.RowKit
theorem Bx.now {b t:Nat} {cs:List Value} {w w':World} (h:Bx b t cs w) {H:List Item} {n:Nat} (hH:Heap H w') (hn:H[n]? = some (base w)):Bx b t cs w':=by
 have hb:Below w.heap.size w w':=hH.get hn
 have hlt:b<w.heap.size:=(Array.getElem?_eq_some_iff.1 h).1
 exact (hb.block b hlt).trans h
def idx {α:Type} (p:α→Bool) (l:List α):Int:=match l.findIdx? p with | some i=>(i:Int) | none => -1
theorem nth_nat {α:Type} [Inhabited α] {l:List α} {i:Nat} (h:i<l.length):nth l (i:Int)=l[i]:=by simp [nth,List.getD,List.getElem?_eq_getElem h]
theorem yX {α:Type} [Inhabited α] {p:α→Bool} {l:List α} {k:Nat} (hk:k<l.length) (h:∀ i,i<k→p (nth l (i:Int))=false) (hp:p (nth l (k:Int))=true):idx p l=(k:Int):=by
 have:l.findIdx? p=some k:=by
  rw [List.findIdx?_eq_some_iff_getElem]
  refine ⟨hk,by rw [← nth_nat hk]; exact hp,fun j hj=>?_⟩
  rw [← nth_nat (Nat.lt_trans hj hk),h j hj]
  simp
 simp [idx,this]
theorem yO {α:Type} [Inhabited α] {p:α→Bool} {l:List α} (h:∀ i,i<l.length→p (nth l (i:Int))=false):idx p l = -1:=by
 have:l.findIdx? p=none:=by
  rw [List.findIdx?_eq_none_iff]
  intro x hx
  obtain ⟨i,hi,rfl⟩:=List.getElem_of_mem hx
  rw [← nth_nat hi]
  exact h i hi
 simp [idx,this]
theorem qE {α:Type} [Inhabited α] (p:α→Bool) (l:List α):(idx p l = -1∧∀ i,i<l.length→p (nth l (i:Int))=false)∨∃ k,k<l.length∧idx p l=(k:Int)∧p (nth l (k:Int))=true∧∀ i,i<k→p (nth l (i:Int))=false:=by
 cases h:l.findIdx? p with
 | none =>
  left
  rw [List.findIdx?_eq_none_iff] at h
  exact ⟨by simp [idx,List.findIdx?_eq_none_iff.2 h],fun i hi=>by rw [nth_nat hi]; exact h _ (List.getElem_mem hi)⟩
 | some k =>
  right
  have h0:idx p l=(k:Int):=by simp [idx,h]
  rw [List.findIdx?_eq_some_iff_getElem] at h
  obtain ⟨hk,hp,hn⟩:=h
  refine ⟨k,hk,h0,by rw [nth_nat hk]; exact hp,fun i hi=>?_⟩
  rw [nth_nat (Nat.lt_trans hi hk)]
  simpa using hn i hi
theorem uM {α:Type} [Inhabited α] {p:α→Bool} {l:List α}:0≤idx p l↔∃ i,i<l.length∧p (nth l (i:Int))=true:=by
 rcases qE p l with ⟨h,hn⟩ | ⟨k,hk,h,hp,_⟩
 ·constructor
  ·intro h2; omega
  ·rintro ⟨i,hi,hp⟩; rw [hn i hi] at hp; cases hp
 ·exact ⟨fun _=>⟨k,hk,hp⟩,fun _=>by omega⟩
def has {α:Type} (p:α→Bool) (l:List α):Bool:=decide (0≤idx p l)
theorem xY {α:Type} [Inhabited α] {p:α→Bool} {l:List α}:has p l=true↔∃ i,i<l.length∧p (nth l (i:Int))=true:=by
 unfold has; rw [decide_eq_true_eq]; exact uM
theorem jY {α:Type} [Inhabited α] {p:α→Bool} {l:List α}:has p l=false↔∀ i,i<l.length→p (nth l (i:Int))=false:=by
 rw [← Bool.not_eq_true,xY]
 constructor
 ·intro h i hi
  cases hp:p (nth l (i:Int)) with
  | true=>exact absurd ⟨i,hi,hp⟩ h
  | false=>rfl
 ·rintro h ⟨i,hi,hp⟩; rw [h i hi] at hp; cases hp
end Go.Fip
namespace Go.Fip
theorem Heap.XA {H:List Item} {w:World} {n b t:Nat} {cs:List Value} (hH:Heap H w) (hn:H[n]? = some (bx b t cs)):Bx b t cs w:=hH.get hn
end Go.Fip
namespace Go.Fip
open Go.RowKit
def encN (p:Int×Int×Int):List Value:=[.int .i64 p.1,.int .i64 p.2.1,.int .i64 p.2.2]
def encB (x:Int):List Value:=[.int .u8 x]
end Go.Fip
namespace Go.Fip
theorem xL {P:Program} {N:Nat} {ds:List Deferred} {env:Env} {op:Op} {k:IntKind} {a b:Int} {S:World→Prop} (h:a=b) (hy:Yv P N ds env op (.int k a) S):Yv P N ds env op (.int k b) S:=h ▸ hy
end Go.Fip
namespace Go.Fip
theorem Ow.blk {α:Type} {lo hi E sz:Nat} {enc:α→List Value} {v:Value} {xs:List α} {w:World} (h:Ow lo hi E sz enc v xs w) (hx:1≤xs.length):∃ g,v.ownBlock=some g∧lo≤g∧g<hi:=by
 rcases h.1.2 with ⟨_,h3⟩ | ⟨g,cap,cur,rfl,_⟩
 ·omega
 ·exact ⟨g,rfl,h.2 g rfl⟩
end Go.Fip
namespace Go.Fip
end Go.Fip
namespace Go.Fip
def noDf : Op → Bool
  | .defer _ => false
  | _ => true
theorem uC {env env' : Env} {i : Nat} {v : Value} (h : env.find i = some v) (hs : Sub env' env) : Sub ((i, v) :: env') env := Sub.cons h hs
section
variable {r : Option Nat} {P : Program} {N : Nat} {S : World → Prop} {ds : List Deferred} {env : Env} {w : World} {Q : Post} {all : Array Oper} {rest : List Oper} {d : Nat} {x : Operand} {ty : TypeId} {pos : String} {after : Array Edge} {v : Value}
theorem oY {op : Op} (hS : S w) (hy : Yv P N ds env op v S) (h : Ops r P N all rest ds ((d, v) :: env) w Q) (hop : noDf op = true := by rfl) (hd : Nat.blt d N = true := by rfl) : Ops r P N all (⟨some d, op, ty, pos, after, none⟩ :: rest) ds env w Q := qX hS (by cases op <;> first | rfl | cases hop) hd hy h
theorem oM (hS : S w) (hx : ev env x = some v) (h : Ops r P N all rest ds ((d, v) :: env) w Q) (hd : Nat.blt d N = true := by rfl) : Ops r P N all (⟨some d, .move x, ty, pos, after, none⟩ :: rest) ds env w Q := qX hS rfl hd (vM hx) h
theorem oA (hS : S w) (hx : ev env x = some v) (h : Ops r P N all rest ds ((d, v) :: env) w Q) (hd : Nat.blt d N = true := by rfl) : Ops r P N all (⟨some d, .assign x, ty, pos, after, none⟩ :: rest) ds env w Q := qX hS rfl hd (vL hx) h
theorem zr {id : Nat} {l : List Oper} {y : Code} (h : Ops r P N l.toArray l ds env w (thn r P N y Q)) : Holds r P N (.seq (.region id l.toArray false) y) ds env w Q := seq (region h)
theorem zt {y : Code} (h : Holds r P N y ds env w Q) : Ops r P N all [] ds env w (thn r P N y Q) := zG (zN h)
theorem zq {id : Nat} {l : List Oper} (h : Ops r P N l.toArray l ds env w Q) : Ops r P N all [] ds env w (thn r P N (.region id l.toArray false) Q) := zG (zN (region h))
theorem zs {id : Nat} {l : List Oper} {y : Code} (h : Ops r P N l.toArray l ds env w (thn r P N y Q)) : Ops r P N all [] ds env w (thn r P N (.seq (.region id l.toArray false) y) Q) := zG (zN (seq (region h)))
theorem zu {id : Nat} {l : List Oper} {y : Code} (h : Ops r P N l.toArray l ds env w (thn r P N y Q)) : thn r P N (.seq (.region id l.toArray false) y) Q .normal ds env w := zN (seq (region h))
theorem zb {i id : Nat} {l : List Oper} {y : Code} (h : Ops r P N l.toArray l ds env w (thn r P N y Q)) : Ops r P N all [] ds env w (blk i (thn r P N (.seq (.region id l.toArray false) y) Q)) := zG (zX (zN (seq (region h))))
theorem fz {f : FuncId} {fn : Func} {c : Code} {args : List Value} {R : Value → World → Prop} (hf : P.funcs[f]? = some fn) (hb : fn.body = some c) (hname : (fn.name == "runtime.NumGoroutine") = false) (hN : fn.ntmps = N) (hargs : Nat.ble args.length N = true)
    (h : Heap [base w] w → Holds none P N c [] (argEnv 0 args) w (bodyQ P fn N w R)) : Fn P f args.toArray w R := kT hf hb (ent hf hname hb) hN hargs h
theorem rt {i : Nat} (h : ev env (.tmp i) = some v) : RV P env w (.tmp i) v := h
theorem cw {H : List Item} {n b t j : Nat} {cs : List Value} (hn : H[n]? = some (bx b t cs)) (hj : cs[j]? = some v) : ∀ w, Heap H w → w.cell? ⟨b, j, none⟩ = some v := fun _ hw => Heap.Y4 hw hn hj
end
section
variable {r : Option Nat} {P : Program} {N : Nat} {S : World → Prop} {ops : Array Oper} {ds : List Deferred} {env : Env} {K : Env → Prop} {i : Nat} {is : List Nat} {d : Nat} {x : Operand} {ty : TypeId} {pos : String} {after : Array Edge} {v : Value} {w : World} {Q : Post} {fuel : Nat} {listed : Array Bool}
theorem qM (hi : ops[i]? = some ⟨some d, .move x, ty, pos, after, none⟩) (hN : Nat.blt d N = true) (hx : ev env x = some v) (h : Qs P N S ops ds K is ((d, v) :: env)) : Qs P N S ops ds K (i :: is) env := yD hi hN (vM hx) h
theorem qW {j : Nat} {want : Bool} {s : Nat} {b : Bool} (hi : ops[i]? = some ⟨some d, .move x, ty, pos, after, some (j, want)⟩) (hj : (ops[j]?).bind (·.dst) = some s) (hs : env.find s = some (.bool b)) (hb : b = want) (hN : Nat.blt d N = true) (hx : ev env x = some v) (h : Qs P N S ops ds K is ((d, v) :: env)) : Qs P N S ops ds K (i :: is) env := kO hi hj hs hb hN (vM hx) h
theorem z1 (j : Nat) {o : Oper} (hr : Region.ready .any ops listed = [j]) (ho : ops[j]? = some o) (h : Ops r P N ops [o] ds env w (stepPost r P N S ops fuel (listed.setIfInBounds j true) Q)) : AnyE r P N S ops (fuel + 1) listed ds env w Q :=
  kK [j] hr rfl ⟨⟨_, ho, h⟩, trivial⟩
end
end Go.Fip

namespace Go.Fip
open Go.RowKit
section kinds
variable {P : Program} {N : Nat} {ds : List Deferred} {env : Env} {S : World → Prop} {x y : Operand} {k : IntKind} {m n : Int} {T T' : TypeId}
theorem jX (hx:ev env x=some (.int k m)) (hy:ev env y=some (.int k n)) (hw:k.wrap (m - n)=m - n):Yv P N ds env (.binOp .sub T x y T') (.int k (m - n)) S:=fun a ha w _ _ _ _ _ _=>by
 simp [execOp,ha.ev hx,ha.ev hy,eqGuard,binOp,Op.intArith,hw,Result.andThen]
theorem y8 {m:Int} (h:0≤m∧m≤18446744073709551615):IntKind.u64.wrap m=m:=IntWalk.u64_in m h
end kinds
end Go.Fip
namespace Go.Fip
open Go.RowKit
def str (l:List UInt8):Value:=.string ⟨l.toArray⟩
theorem yZ (l:List UInt8):(⟨l.toArray⟩:ByteArray).size=l.length:=by simp [ByteArray.size]
section
variable {P : Program} {N : Nat} {ds : List Deferred} {env : Env} {S : World → Prop} {x y z : Operand} {T T' : TypeId} {a b : List UInt8}
theorem uU (hx:ev env x=some (str a)) (hy:ev env y=some (str b)) (h:a.length+b.length≤9223372036854775807):Yv P N ds env (.binOp .add T x y T') (str (a++b)) S:=fun act hact w _ _ _ _ _ _=>by
 have e:=run_string_add_sum (P:=P) w ⟨a.toArray⟩ ⟨b.toArray⟩ (by rw [yZ,yZ]; exact h)
 rw [ByteArray.mk_append_mk] at e
 simp [execOp,hact.ev hx,hact.ev hy,str,eqGuard,binOp,e,Result.andThen]
theorem kC (hT:P.underlying T=some .string) (hx:ev env x=some (str a)):Yv P N ds env (.call ⟨.builtin .len, #[x], #[T]⟩) (.int .i64 (a.length:Int)) S:=fun act hact w _ _ _ _ _ _=>by
 simp [execOp,resolve,invoke,builtin,Builtin.len_,hact.ev hx,str,run_underlying hT,goInt,yZ,Result.andThen]
def byteAt (a:List UInt8) (i:Int):Int:=((a.getD i.toNat 0).toNat:Int)
theorem u5 {k:IntKind} {i:Int} (hT:P.underlying T=some .string) (hx:ev env x=some (str a)) (hy:ev env y=some (.int k i)) (hi:0≤i∧i<(a.length:Int)):Yv P N ds env (.index T x y) (.int .u8 (byteAt a i)) S:=fun act hact w _ _ _ _ _ _=>by
 have h1:i.toNat<a.length:=by omega
 have h2:(⟨a.toArray⟩:ByteArray)[i.toNat]? = some a[i.toNat]:=by
  rw [getElem?_pos _ _ (by rw [yZ]; exact h1)]
  rfl
 have h3:byteAt a i=((a[i.toNat]).toNat:Int):=by
  unfold byteAt
  rw [List.getD_eq_getElem?_getD,List.getElem?_eq_getElem h1]; rfl
 rw [h3]
 simp [execOp,hact.ev hx,hact.ev hy,str,Instr.index,asIntOf,run_underlying hT,hi.1,h2,Result.andThen]
theorem qG {w:World} {k:IntKind} {i:Int} {n:Nat} {code:BoundsCode} (h0:0≤i) (h1:i≤n):(Instr.sliceBound (.int k i) n code).run P w=.ok i.toNat w:=by
 simp [Instr.sliceBound,asIntOf,h0,h1]
end
def ofB (l:List Int):List UInt8:=l.map fun n=>UInt8.ofNat n.toNat
def toB (l:List UInt8):List Int:=l.map fun b=>(b.toNat:Int)
theorem j6 {l:List Int} (h:∀ n∈l,0≤n∧n≤255):toB (ofB l)=l:=by
 unfold ofB toB
 rw [List.map_map]
 conv=>rhs; rw [← List.map_id l]
 exact List.map_congr_left fun n hn=>by
  have:=h n hn
  simp
  omega
theorem yV {l:List UInt8}:(toB l).length=l.length:=by simp [toB]
theorem xS {l:List Int}:(ofB l).length=l.length:=by simp [ofB]
end Go.Fip
namespace Go.Fip.B
def dg (n:Nat):UInt8:=UInt8.ofNat (48+n % 10)
theorem dg_val (n:Nat):(dg n).toNat=48+n % 10:=by
 unfold dg
 simp
 omega
def digF:Nat→Nat→List UInt8
 | 0,n=>[dg n]
 | f+1,n=>if n<10 then [dg n] else digF f (n / 10)++[dg n]
def dig (n:Nat):List UInt8:=digF 20 n
theorem digF_fuel:∀ (f g n:Nat),n<10 ^ (f+1)→n<10 ^ (g+1)→digF f n=digF g n
 | 0,0,_,_,_=>rfl
 | 0,g+1,n,h,_=>by unfold digF; rw [if_pos (by simpa using h)]
 | f+1,0,n,_,h=>by unfold digF; rw [if_pos (by simpa using h)]
 | f+1,g+1,n,h1,h2=>by
  unfold digF
  by_cases h:n<10
  ·rw [if_pos h,if_pos h]
  ·rw [if_neg h,if_neg h,digF_fuel f g (n / 10) (by rw [Nat.div_lt_iff_lt_mul (by decide)]; rw [Nat.pow_succ] at h1; exact h1) (by rw [Nat.div_lt_iff_lt_mul (by decide)]; rw [Nat.pow_succ] at h2; exact h2)]
theorem dig_small {n:Nat} (h:n<10):dig n=[dg n]:=by unfold dig digF; rw [if_pos h]
theorem dig_rec {n:Nat} (h:10≤n) (h2:n<10 ^ 20):dig n=dig (n / 10)++[dg n]:=by
 unfold dig
 conv=>lhs; unfold digF
 rw [if_neg (by omega),digF_fuel 19 20 (n / 10) (by omega) (by omega)]
def val (l:List UInt8):Nat:=l.foldl (fun n b=>10 * n+(b.toNat - 48)) 0
theorem q5 (l:List UInt8) (b:UInt8):val (l++[b])=10 * val l+(b.toNat - 48):=by simp [val,List.foldl_append]
def isD (b:UInt8):Prop:=48≤b.toNat∧b.toNat≤57
instance {b:UInt8}:Decidable (isD b):=by unfold isD; infer_instance
theorem uO (n:Nat):isD (dg n):=by unfold isD; rw [dg_val]; omega
theorem kS:∀ (f n:Nat),digF f n≠[]
 | 0,_=>by simp [digF]
 | f+1,n=>by
  unfold digF
  split
  ·simp
  ·simp
theorem vI : ∀ (f n : Nat), n < 10 ^ (f + 1) → val (digF f n) = n ∧ (∀ b ∈ digF f n, isD b) ∧ (1 < (digF f n).length → (digF f n).head? ≠ some 48) ∧ (1 ≤ n → (digF f n).head? ≠ some 48) ∧ (digF f n).length ≤ f + 1
  | 0, n, h => by
    have h9 : n < 10 := by simpa using h
    refine ⟨?_, fun b hb => ?_, fun h => by simp [digF] at h, fun h1 hc => ?_, by simp [digF]⟩
    · show 10 * 0 + ((dg n).toNat - 48) = n
      rw [dg_val]; omega
    · simp [digF] at hb; subst hb; exact uO n
    · have h3 : dg n = 48 := by simpa [digF] using hc
      have h4 := congrArg UInt8.toNat h3
      rw [dg_val] at h4
      have h5 : (48 : UInt8).toNat = 48 := rfl
      omega
  | f + 1, n, h => by
    unfold digF
    by_cases h9 : n < 10
    · rw [if_pos h9]
      refine ⟨?_, fun b hb => ?_, fun h => by simp at h, fun h1 hc => ?_, by simp⟩
      · show 10 * 0 + ((dg n).toNat - 48) = n
        rw [dg_val]; omega
      · simp at hb; subst hb; exact uO n
      · have h3 : dg n = 48 := by simpa using hc
        have h4 := congrArg UInt8.toNat h3
        rw [dg_val] at h4
        have h5 : (48 : UInt8).toNat = 48 := rfl
        omega
    · rw [if_neg h9]
      have hlt : n / 10 < 10 ^ (f + 1) := by rw [Nat.div_lt_iff_lt_mul (by decide)]; rw [Nat.pow_succ] at h; exact h
      obtain ⟨i1, i2, i3, i4, i5⟩ := vI f (n / 10) hlt
      have hh : (digF f (n / 10) ++ [dg n]).head? = (digF f (n / 10)).head? := by
        cases e : digF f (n / 10) with
        | nil => exact absurd e (kS f _)
        | cons a l => rfl
      refine ⟨?_, fun b hb => ?_, fun _ => ?_, fun _ => ?_, by simp; omega⟩
      · rw [q5, i1, dg_val]; omega
      · rcases List.mem_append.1 hb with hb | hb
        · exact i2 b hb
        · rw [List.mem_singleton] at hb; subst hb; exact uO n
      · rw [hh]; exact i4 (by omega)
      · rw [hh]; exact i4 (by omega)
theorem big:(10:Nat) ^ 20≤10 ^ 21:=by decide
def hd (n:Nat):UInt8:=if n % 16<10 then UInt8.ofNat (48+n % 16) else UInt8.ofNat (87+n % 16)
theorem hd_val (n:Nat):(hd n).toNat=if n % 16<10 then 48+n % 16 else 87+n % 16:=by
 unfold hd
 split
 ·simp; omega
 ·simp; omega
def hexN:Nat→Nat→List UInt8
 | 0,_=>[]
 | k+1,n=>hexN k (n / 16)++[hd n]
theorem xX:∀ (k n:Nat),(hexN k n).length=k
 | 0,_=>rfl
 | k+1,n=>by simp [hexN,xX k]
def hex (n:UInt64):List UInt8:=hexN 16 n.toNat
theorem hex_length (n:UInt64):(hex n).length=16:=xX _ _
end Go.Fip.B
namespace Go.Fip
open Go.RowKit
structure En where
 n:Int
 d:Int
 f:Int
 t:Int
 a:Int
instance:DecidableEq En:=fun x y=>decidable_of_iff (x.n=y.n∧x.d=y.d∧x.f=y.f∧x.t=y.t∧x.a=y.a) (by cases x; cases y; simp)
instance:Inhabited En:=⟨⟨0,0,0,0,0⟩⟩
def encE (e:En):List Value:=[.int .i64 e.n,.int .i64 e.d,.int .i64 e.f,.int .i64 e.t,.int .i64 e.a]
def encT (l:List UInt8):List Value:=[str l]
section
variable {P : Program} {N : Nat} {ds : List Deferred} {env : Env} {S : World → Prop} {x y : Operand} {T T' : TypeId} {a b : UInt64}
theorem kH (hx:ev env x=some (.int .u64 (a.toNat:Int))) (hy:ev env y=some (.int .u64 (b.toNat:Int))):Yv P N ds env (.binOp .xor T x y T') (.int .u64 ((a ^^^ b).toNat:Int)) S:=fun act hact w _ _ _ _ _ _=>by
 have e:=u64_xor_nat a.toNat b.toNat a.toNat_lt b.toNat_lt
 rw [← UInt64.toNat_xor] at e
 simp only [execOp,hact.ev hx,hact.ev hy,eqGuard,binOp_xor,intBits_xor,Sem.run_bind,e]
 rfl
theorem qD:IntKind.u64.wrap ((a.toNat:Int) * (b.toNat:Int))=((a * b).toNat:Int):=by
 rw [UInt64.toNat_mul]
 unfold IntKind.wrap
 simp [IntKind.bits,IntKind.signed]
theorem jS (hx:ev env x=some (.int .u64 (a.toNat:Int))) (hy:ev env y=some (.int .u64 (b.toNat:Int))):Yv P N ds env (.binOp .mul T x y T') (.int .u64 ((a * b).toNat:Int)) S:=fun act hact w _ _ _ _ _ _=>by
 simp [execOp,hact.ev hx,hact.ev hy,eqGuard,binOp,Op.intArith,qD,Result.andThen]
end
end Go.Fip
namespace Go.Fip.B
open Go.Fip
def fs (n:UInt64) (b:UInt8):UInt64:=(n ^^^ b.toUInt64) * 1099511628211
def smF (l:List UInt8):UInt64:=l.foldl fs 14695981039346656037
def smTo (l:List UInt8) (k:Nat):UInt64:=smF (l.take k)
def sm (l:List UInt8):UInt64:=smF l
theorem smTo_succ {l:List UInt8} {k:Nat} (h:k<l.length):smTo l (k+1)=(smTo l k ^^^ (l.getD k 0).toUInt64) * 1099511628211:=by
 unfold smTo smF
 rw [List.take_succ_eq_append_getElem h,List.foldl_append,List.getD_eq_getElem?_getD,List.getElem?_eq_getElem h]; rfl
theorem smTo_all {l:List UInt8} {k:Nat} (h:l.length≤k):smTo l k=sm l:=by unfold smTo sm; rw [List.take_of_length_le h]
def text (e:En):List UInt8:=dig e.n.toNat++[32]++dig e.d.toNat++[32]++dig e.f.toNat++[32]++dig e.t.toNat++[32]++dig e.a.toNat
def leaf (e:En):List UInt8:=[101]++text e
def both (a b:UInt64):List UInt8:=[110]++hex a++hex b
def isEn (e:En):Prop:=(1≤e.n∧e.n≤1099511627776)∧(0≤e.d∧e.d≤36500)∧(0≤e.f∧e.f≤9)∧(0≤e.t∧e.t≤9)∧(1≤e.a∧e.a≤1000000)
instance {e:En}:Decidable (isEn e):=by unfold isEn; infer_instance
def half (n:Nat):Nat:=if n≤2 then 1 else if n≤4 then 2 else if n≤8 then 4 else if n≤16 then 8 else if n≤32 then 16 else 32
end Go.Fip.B
namespace Go.Fip.B
open Go.Fip
theorem p18:(1000000000000000000:Nat)≤10 ^ 20:=by decide
theorem dig_len {n:Nat} (h:n<1000000000000000000):(dig n).length≤21:=(vI 20 n (Nat.lt_of_lt_of_le h (by decide))).2.2.2.2
end Go.Fip.B
namespace Go.Fip.B
open Go.Fip
theorem all_zero {Q:Nat→Prop}:∀ i,i<0→Q i:=fun i h=>absurd h (Nat.not_lt_zero _)
theorem all_snoc {Q:Nat→Prop} {k:Nat} (h:∀ i,i<k→Q i) (hk:Q k):∀ i,i<k+1→Q i:=fun i hi=>by
 rcases Nat.lt_or_ge i k with h1 | h1
 ·exact h i h1
 ·rw [show i=k by omega]; exact hk
def bef (a b:En):Prop:=a.d<b.d∨(a.d=b.d∧a.n<b.n)
instance {a b:En}:Decidable (bef a b):=by unfold bef; infer_instance
theorem qI {a b c:En} (h:bef a b) (h2:bef b c):bef a c:=by unfold bef at *; omega
theorem bef_asymm {a b:En} (h:bef a b):¬ bef b a:=by unfold bef at *; omega
theorem bef_total {a b:En} (h:a.n≠b.n) (h2:¬ bef a b):bef b a:=by unfold bef at *; omega
def InR (l:List En):Prop:=∀ i:Nat,i<l.length→isEn (nth l (i:Int))
def NoSelf (l:List En):Prop:=∀ i:Nat,i<l.length→¬ (nth l (i:Int)).f=(nth l (i:Int)).t
def NoDup (l:List En):Prop:=∀ i:Nat,i<l.length→∀ k:Nat,k<i→¬ (nth l (k:Int)).n=(nth l (i:Int)).n
def Ord (l:List En):Prop:=∀ i:Nat,i<l.length→1≤i→bef (nth l ((i:Int) - 1)) (nth l (i:Int))
instance {l:List En}:Decidable (InR l):=by unfold InR; infer_instance
instance {l:List En}:Decidable (NoSelf l):=by unfold NoSelf; infer_instance
instance {l:List En}:Decidable (NoDup l):=by unfold NoDup; infer_instance
instance {l:List En}:Decidable (Ord l):=by unfold Ord; infer_instance
def ck (l:List En):Int:=if 24<l.length then 6 else if ¬ InR l then 3 else if ¬ NoSelf l then 2 else if ¬ NoDup l then 11 else if ¬ Ord l then 16 else 0
def Bk (l:List En):Prop:=l.length≤24∧InR l∧NoSelf l∧NoDup l∧Ord l
theorem ck1 {l:List En} (h:24<l.length):ck l=6:=by unfold ck; rw [if_pos h]
theorem ck2 {l:List En} (h:¬ 24<l.length) (h1:¬ InR l):ck l=3:=by unfold ck; rw [if_neg h,if_pos h1]
theorem ck3 {l:List En} (h:¬ 24<l.length) (h1:InR l) (h2:¬ NoSelf l):ck l=2:=by unfold ck; rw [if_neg h,if_neg (fun c=>c h1),if_pos h2]
theorem ck4 {l:List En} (h:¬ 24<l.length) (h1:InR l) (h2:NoSelf l) (h3:¬ NoDup l):ck l=11:=by unfold ck; rw [if_neg h,if_neg (fun c=>c h1),if_neg (fun c=>c h2),if_pos h3]
theorem ck5 {l:List En} (h:¬ 24<l.length) (h1:InR l) (h2:NoSelf l) (h3:NoDup l) (h4:¬ Ord l):ck l=16:=by unfold ck; rw [if_neg h,if_neg (fun c=>c h1),if_neg (fun c=>c h2),if_neg (fun c=>c h3),if_pos h4]
theorem ck6 {l:List En} (h:¬ 24<l.length) (h1:InR l) (h2:NoSelf l) (h3:NoDup l) (h4:Ord l):ck l=0:=by unfold ck; rw [if_neg h,if_neg (fun c=>c h1),if_neg (fun c=>c h2),if_neg (fun c=>c h3),if_neg (fun c=>c h4)]
theorem ck_iff {l:List En}:ck l=0↔Bk l:=by
 constructor
 ·intro h
  unfold ck at h
  split at h
  ·omega
  split at h
  ·omega
  split at h
  ·omega
  split at h
  ·omega
  split at h
  ·omega
  rename_i a b c d e
  simp only [Decidable.not_not] at *
  exact ⟨by omega,b,c,d,e⟩
 ·rintro ⟨h1,h2,h3,h4,h5⟩
  exact ck6 (by omega) h2 h3 h4 h5
theorem ord_all {l:List En} (h:Ord l):∀ (k i:Nat),i<k→k<l.length→bef (nth l (i:Int)) (nth l (k:Int)):=by
 intro k
 induction k with
 | zero=>intro i h1; omega
 | succ k ih =>
  intro i hi hk
  have h1:=h (k+1) hk (by omega)
  rw [show ((k+1:Nat):Int) - 1=(k:Int) by omega] at h1
  rcases Nat.lt_or_ge i k with h2 | h2
  ·exact qI (ih i h2 (by omega)) h1
  ·rw [show i=k by omega]; exact h1
end Go.Fip.B
namespace Go.Fip.B
open Go.Fip
def hexF:Nat→Nat→List UInt8
 | 0,n=>[hd n]
 | f+1,n=>if n<16 then [hd n] else hexF f (n / 16)++[hd n]
def hexM (n:Nat):List UInt8:=hexF 15 n
theorem vF:∀ (f g n:Nat),n<16 ^ (f+1)→n<16 ^ (g+1)→hexF f n=hexF g n
 | 0,0,_,_,_=>rfl
 | 0,g+1,n,h,_=>by unfold hexF; rw [if_pos (by simpa using h)]
 | f+1,0,n,_,h=>by unfold hexF; rw [if_pos (by simpa using h)]
 | f+1,g+1,n,h1,h2=>by
  unfold hexF
  by_cases h:n<16
  ·rw [if_pos h,if_pos h]
  ·rw [if_neg h,if_neg h,vF f g (n / 16) (by rw [Nat.div_lt_iff_lt_mul (by decide)]; rw [Nat.pow_succ] at h1; exact h1) (by rw [Nat.div_lt_iff_lt_mul (by decide)]; rw [Nat.pow_succ] at h2; exact h2)]
theorem uN {n:Nat} (h:n<16):hexM n=[hd n]:=by unfold hexM hexF; rw [if_pos h]
theorem hexM_rec {n:Nat} (h:16≤n) (h2:n<18446744073709551616):hexM n=hexM (n / 16)++[hd n]:=by
 unfold hexM
 conv=>lhs; unfold hexF
 have e16:(16:Nat) ^ (14+1)=1152921504606846976:=by decide
 have e17:(16:Nat) ^ (15+1)=18446744073709551616:=by decide
 rw [if_neg (by omega),vF 14 15 (n / 16) (by omega) (by omega)]
theorem xI:∀ (f n:Nat),1≤(hexF f n).length∧(hexF f n).length≤f+1
 | 0,n=>⟨Nat.le_refl _,Nat.le_refl _⟩
 | f+1,n=>by
  unfold hexF
  split
  ·simp
  ·have:=xI f (n / 16)
   simp; omega
theorem hexM_length (n:Nat):1≤(hexM n).length∧(hexM n).length≤16:=xI 15 n
theorem jE : ∀ (k f n : Nat), n < 16 ^ (f + 1) → (hexF f n).length ≤ k → hexN k n = List.replicate (k - (hexF f n).length) 48 ++ hexF f n := by
  have hz : ∀ k, hexN k 0 = List.replicate k 48 := by
    intro k
    induction k with
    | zero => rfl
    | succ k ih => unfold hexN; rw [show 0 / 16 = 0 from rfl, ih, List.replicate_succ']; rfl
  intro k
  induction k with
  | zero => intro f n _ h; have := (xI f n).1; omega
  | succ k ih =>
    intro f n hn hl
    by_cases h : n < 16
    · have e : hexF f n = [hd n] := by
        cases f with
        | zero => rfl
        | succ f => unfold hexF; rw [if_pos h]
      rw [e]
      unfold hexN
      rw [show n / 16 = 0 by omega, hz]; rfl
    · cases f with
      | zero => simp at hn; omega
      | succ f =>
        have e : hexF (f + 1) n = hexF f (n / 16) ++ [hd n] := by conv => lhs; unfold hexF; rw [if_neg h]
        rw [e] at hl ⊢
        rw [List.length_append, List.length_singleton] at hl ⊢
        unfold hexN
        rw [ih f (n / 16) (by rw [Nat.div_lt_iff_lt_mul (by decide)]; rw [Nat.pow_succ] at hn; exact hn) (by omega), List.append_assoc, Nat.add_sub_add_right]
theorem uE (k:Nat):Lib.repeatL [48] k=List.replicate k 48:=by
 induction k with
 | zero=>rfl
 | succ k ih=>unfold Lib.repeatL; rw [ih]; rfl
theorem hex_pad (x:UInt64):Lib.repeatL [48] (16 - (hexM x.toNat).length)++hexM x.toNat=hex x:=by
 unfold hex
 rw [uE]
 have e17:(16:Nat) ^ (15+1)=18446744073709551616:=by decide
 exact (jE 16 15 x.toNat (by have:=x.toNat_lt; omega) (hexM_length _).2).symm
def digs:List UInt8:=[48,49,50,51,52,53,54,55,56,57,97,98,99,100,101,102,103,104,105,106,107,108,109,110,111,112,113,114,115,116,117,118,119,120,121,122]
theorem digs_len:digs.length=36:=rfl
theorem uA:∀ d:Nat,d<16→byteAt digs (d:Int)=((hd d).toNat:Int):=by decide
theorem kG {m:Nat}:hd (m % 16)=hd m:=by unfold hd; rw [Nat.mod_mod]
theorem digs_at (m:Nat):byteAt digs ((m % 16:Nat):Int)=((hd m).toNat:Int):=by rw [uA _ (by omega),kG]
theorem digs_at2 {m:Nat} (h:m<16):byteAt digs (m:Int)=((hd m).toNat:Int):=uA m h
theorem uB {C:List Int} {i:Nat} {z:Int} (h:i<C.length):(C.set i z).drop i=z::C.drop (i+1):=by
 rw [List.drop_eq_getElem_cons (by simpa using h),List.getElem_set_self,List.drop_set_of_lt (Nat.lt_succ_self _)]
theorem jC {m:Nat} {l:List Int}:ofB (((hd m).toNat:Int)::l)=hd m::ofB l:=by
 unfold ofB
 simp
theorem hex_step {m i:Nat} {C:List Int} {t:List UInt8} (hm:16≤m) (hm2:m<18446744073709551616) (hi:i<C.length) (h:hexM m++ofB (C.drop (i+1))=t):hexM (m / 16)++ofB ((C.set i ((hd m).toNat:Int)).drop i)=t:=by
 rw [uB hi,jC, ← h,hexM_rec hm hm2,List.append_assoc]; rfl
theorem hex_last {m i:Nat} {C:List Int} {t:List UInt8} (hm:m<16) (hi:i<C.length) (h:hexM m++ofB (C.drop (i+1))=t):ofB ((C.set i ((hd m).toNat:Int)).drop i)=t:=by
 rw [uB hi,jC, ← h,uN hm]; rfl
theorem hex_bytes {C:List Int} {i:Nat} {m:Nat} (h:∀ n∈C,0≤n∧n≤255):∀ n∈C.set i ((hd m).toNat:Int),0≤n∧n≤255:=fun n hn=>by
 rcases List.mem_or_eq_of_mem_set hn with h1 | rfl
 ·exact h n h1
 ·have:=(hd m).toNat_lt
  omega
end Go.Fip.B
namespace Go.Fip.B
open Go.Fip
theorem vR {n:Nat} (h:2≤n):1≤half n∧half n<n:=by
 unfold half
 repeat' split
 all_goals omega
def rootF:Nat→List En→UInt64
 | 0,_=>sm []
 | f+1,l=>if l.length=0 then sm [] else if l.length=1 then sm (leaf (nth l 0)) else sm (both (rootF f (l.take (half l.length))) (rootF f (l.drop (half l.length))))
def root (l:List En):UInt64:=rootF l.length l
theorem xD:∀ (f g:Nat) (l:List En),l.length≤f→l.length≤g→rootF f l=rootF g l
 | 0,0,_,_,_=>rfl
 | 0,g+1,l,h,_=>by
  have:l.length=0:=by omega
  unfold rootF; rw [if_pos this]
 | f+1,0,l,_,h=>by
  have:l.length=0:=by omega
  unfold rootF; rw [if_pos this]
 | f+1,g+1,l,h1,h2=>by
  unfold rootF
  by_cases h0:l.length=0
  ·rw [if_pos h0,if_pos h0]
  by_cases h3:l.length=1
  ·rw [if_neg h0,if_neg h0,if_pos h3,if_pos h3]
  have hb:=vR (n:=l.length) (by omega)
  rw [if_neg h0,if_neg h0,if_neg h3,if_neg h3,xD f g (l.take (half l.length)) (by rw [List.length_take]; omega) (by rw [List.length_take]; omega),xD f g (l.drop (half l.length)) (by rw [List.length_drop]; omega) (by rw [List.length_drop]; omega)]
theorem jK {l:List En} (h:l.length=1):root l=sm (leaf (nth l 0)):=by
 unfold root; rw [h]; unfold rootF; rw [if_neg (by omega),if_pos h]
theorem q4 {l:List En} (h:2≤l.length):root l=sm (both (root (l.take (half l.length))) (root (l.drop (half l.length)))):=by
 have hb:=vR h
 unfold root
 obtain ⟨n,hn⟩:∃ n,l.length=n+1:=⟨l.length - 1,by omega⟩
 conv=>lhs; rw [hn]; unfold rootF
 rw [if_neg (by omega),if_neg (by omega)]
 rw [xD n (l.take (half l.length)).length _ (by rw [List.length_take]; omega) (Nat.le_refl _),xD n (l.drop (half l.length)).length _ (by rw [List.length_drop]; omega) (Nat.le_refl _)]
def sub (l:List En) (a b:Nat):List En:=(l.take b).drop a
theorem x8 {l:List En} {a b:Nat} (h:b≤l.length):(sub l a b).length=b - a:=by unfold sub; rw [List.length_drop,List.length_take]; omega
theorem kA {l:List En} {a b i:Nat} (h:b≤l.length) (hi:i<b - a):nth (sub l a b) (i:Int)=nth l ((a+i:Nat):Int):=by
 unfold sub
 have e1:i<((l.take b).drop a).length:=by rw [List.length_drop,List.length_take]; omega
 have e2:a+i<l.length:=by omega
 rw [nth_nat e1,nth_nat e2]
 simp
theorem jM {l:List En} {a b k:Nat} (hab:a≤b) (h:k≤b - a) (hb:b≤l.length):(sub l a b).take k=sub l a (a+k):=by
 unfold sub
 rw [List.take_drop,List.take_take,Nat.min_eq_left (by omega)]
theorem jH {l:List En} {a b k:Nat}:(sub l a b).drop k=sub l (a+k) b:=by
 unfold sub
 rw [List.drop_drop]
theorem root_sub1 {l:List En} {a b:Nat} (h:b - a=1) (hb:b≤l.length):root (sub l a b)=sm (leaf (nth l (a:Int))):=by
 rw [jK (by rw [x8 hb]; exact h)]
 have:=kA (l:=l) (a:=a) (b:=b) (i:=0) hb (by omega)
 rw [Nat.add_zero] at this
 rw [← this]; rfl
theorem root_sub2 {l:List En} {a b:Nat} (h:2≤b - a) (hb:b≤l.length):root (sub l a b)=sm (both (root (sub l a (a+half (b - a)))) (root (sub l (a+half (b - a)) b))):=by
 have hl:=x8 (l:=l) (a:=a) hb
 have hh:=vR h
 rw [q4 (by rw [hl]; exact h),hl,jM (by omega) (by omega) hb,jH]
inductive Nd:Nat→Nat→Nat→Nat→Prop where
 | self (a b):Nd a b a b
 | left {a b c d:Nat}:2≤b - a→Nd a (a+half (b - a)) c d→Nd a b c d
 | right {a b c d:Nat}:2≤b - a→Nd (a+half (b - a)) b c d→Nd a b c d
abbrev Ms:=List ((Int×Int)×UInt64)
def Good (l:List En) (m:Ms):Prop:=∀ p∈m,∃ a b:Nat,p.1=((a:Int),(b:Int))∧a≤64∧b≤64∧p.2=root (sub l a b)
structure Ext (l:List En) (m m':Ms) (a b:Nat):Prop where
 good:Good l m'
 dom:∀ k,(find k m).isSome→(find k m').isSome
 has:∀ c d:Nat,Nd a b c d→(find ((c:Int),(d:Int)) m').isSome
def Whole (l:List En) (m:Ms):Prop:=Good l m∧(1≤l.length→∀ c d:Nat,Nd 0 l.length c d→(find ((c:Int),(d:Int)) m).isSome)
end Go.Fip.B
