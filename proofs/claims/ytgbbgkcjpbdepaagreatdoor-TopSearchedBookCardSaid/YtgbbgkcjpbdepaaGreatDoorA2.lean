/- Joined texts: what the statement needs, walks by program (wip/tools). -/
import Derived.Test.YtgbbgkcjpbdepaaGreatDoorA1
import Derived.Lib.ItoaNum
set_option linter.unusedVariables false
set_option linter.unusedSimpArgs false
set_option linter.unusedSectionVars false
set_option linter.unnecessarySimpa false
namespace Go.Ex
open Go.Fip
abbrev gN:Nat:=8
def leafB:ByteArray:=⟨#[101]⟩
def fieldS (e:En):Nat→Int
 | 0=>e.n
 | 1=>e.d
 | 2=>e.f
 | 3=>e.t
 | _=>e.a
def textS (E:List En) (j:Nat):List UInt8:=if j<E.length then Go.Fip.B.text (nth E (j:Int)) else []
def symVal (E:List En) (p:Nat):Value :=
 if p<60 then .int .i64 (fieldS (nth E ((p / 5:Nat):Int)) (p % 5))
 else if p<64 then .int .i64 0
 else if p<128 then (if p % 2=0 then .string ⟨(textS E ((p - 64) / 2)).toArray⟩ else .string ⟨(101::textS E ((p - 64) / 2)).toArray⟩)
 else .int .u64 ((Go.Fip.B.root (Go.Fip.B.sub E ((p - 128) / 16) ((p - 128) % 16))).toNat:Int)
def Law (n:Nat) (y:Nat→Value):Prop:=∃ E:List En,Go.Fip.B.ck E=0∧E.length=n∧y=symVal E
theorem law_kind {n:Nat} {y:Nat→Value} (h:Law n y) (p:Nat):(∃ k n,y p=.int k n)∨∃ z,y p=.string z:=by
 obtain ⟨E,_,_,rfl⟩:=h
 unfold symVal
 split
 ·exact .inl ⟨_,_,rfl⟩
 ·split
  ·exact .inl ⟨_,_,rfl⟩
  ·split
   ·split
    ·exact .inr ⟨_,rfl⟩
    ·exact .inr ⟨_,rfl⟩
   ·exact .inl ⟨_,_,rfl⟩
theorem txt_len {e:En} (h:Go.Fip.B.isEn e):(Go.Fip.B.text e).length≤109:=by
 unfold Go.Fip.B.isEn at h
 have d:∀ {n:Int},0≤n→n≤1099511627776→(Go.Fip.B.dig n.toNat).length≤21:=fun h h2=>Go.Fip.B.dig_len (by omega)
 have h1:=d (n:=e.n) (by omega) (by omega)
 have h2:=d (n:=e.d) (by omega) (by omega)
 have h3:=d (n:=e.f) (by omega) (by omega)
 have h4:=d (n:=e.t) (by omega) (by omega)
 have h5:=d (n:=e.a) (by omega) (by omega)
 unfold Go.Fip.B.text
 simp only [List.length_append,List.length_cons,List.length_nil]
 omega
theorem textS_len {E:List En} (h:Go.Fip.B.ck E=0) (j:Nat):(textS E j).length≤109:=by
 unfold textS
 split
 ·rename_i hj
  exact txt_len ((Go.Fip.B.ck_iff.1 h).2.1 j hj)
 ·exact Nat.zero_le _
theorem law_leaf {n:Nat} {y:Nat→Value} (h:Law n y) {p:Nat} (h1:64≤p) (h2:p<128) (h3:p % 2=0):∃ z,y p=.string z∧z.size≤1000∧y (p+1)=.string (leafB++z):=by
 obtain ⟨E,hE,_,rfl⟩:=h
 have hl:=textS_len hE ((p - 64) / 2)
 refine ⟨⟨(textS E ((p - 64) / 2)).toArray⟩,?_,?_,?_⟩
 ·unfold symVal
  rw [if_neg (by omega),if_neg (by omega),if_pos h2,if_pos h3]
 ·show (textS E ((p - 64) / 2)).toArray.size≤1000
  rw [List.size_toArray]; omega
 ·unfold symVal
  rw [if_neg (by omega),if_neg (by omega),if_pos (by omega),if_neg (by omega),show (p+1 - 64) / 2=(p - 64) / 2 by omega]
  refine congrArg Value.string ?_
  apply ByteArray.ext
  simp [leafB]
theorem law_one {n:Nat} {y:Nat→Value} (h:Law n y) (p:Nat):(y p).oneCell'=true:=by
 rcases law_kind h p with ⟨k,n,e⟩ | ⟨z,e⟩ <;> rw [e] <;> rfl
def loud (t:TypeId):Bool:=Bool.or (Nat.beq t 9) (Bool.or (Nat.beq t 126) (Nat.beq t 271))
abbrev castE:TypeId:=129
structure GW (w:World):Prop where
 size:gN≤w.heap.size
 tab:∃ E fz,w.heap[0]? = some (.cells ((Lib.pow10Tab.map fun z=>Value.int .u64 z).toArray) E fz)
 tz:∃ cs E fz,w.heap[7]? = some (.cells cs E fz)∧cs[15]? = some (.int .u8 4)
theorem GW.keep {w w':World} (h:GW w) (hb:∀ b,b<gN→w'.heap[b]? = w.heap[b]?) (hs:w.heap.size≤w'.heap.size):GW w' where
 size:=Nat.le_trans h.size hs
 tab:=by rw [hb 0 (by decide)]; exact h.tab
 tz:=by rw [hb 7 (by decide)]; exact h.tz
end Go.Ex
namespace Go.Ex
open Go.Fip
noncomputable def B:Nat:=340282366920938463463374607431768211456
noncomputable def dg (e i:Nat):Nat:=Nat.mod (Nat.shiftRight e (Nat.mul i 128)) 340282366920938463463374607431768211456
noncomputable def dgs (e i n:Nat):Nat:=Nat.mod (Nat.shiftRight e (Nat.mul i 128)) (Nat.pow 2 (Nat.mul n 128))
noncomputable def sds (e i n v:Nat):Nat:=Nat.add (Nat.sub e (Nat.shiftLeft (dgs e i n) (Nat.mul i 128))) (Nat.shiftLeft v (Nat.mul i 128))
noncomputable def sd (e i v:Nat):Nat:=Nat.xor e (Nat.shiftLeft (Nat.xor (dg e i) v) (Nat.mul i 128))
noncomputable def reps (m z:Nat) (n:Nat):Nat:=Nat.rec (motive:=fun _=>Nat) 0 (fun _ r=>Nat.add (Nat.shiftLeft r (Nat.mul m 128)) z) n
noncomputable def forceN {α:Type} (n:Nat) (k:Nat→α):α:=Nat.rec (motive:=fun _=>α) (k 0) (fun j _=>k j) (Nat.succ n)
inductive T (α:Type) where
 | lf
 | nd (v:Option α) (l r:T α)
noncomputable def full {α:Type} (d:Nat):T α:=Nat.rec (motive:=fun _=>T α) .lf (fun _ t=>.nd none t t) d
noncomputable def T.get {α:Type} (t:T α):Nat→Option α :=
 T.rec (motive:=fun _=>Nat→Option α) (fun _=>none)
  (fun u _ _ ihl ihr i=>Nat.rec (motive:=fun _=>Option α) u (fun j _=>Nat.rec (motive:=fun _=>Option α) (ihl (Nat.div j 2)) (fun _ _=>ihr (Nat.div j 2)) (Nat.mod j 2)) i) t
noncomputable def T.put {α:Type} (t:T α):Nat→Option α→T α :=
 T.rec (motive:=fun _=>Nat→Option α→T α) (fun _ _=>.lf)
  (fun u l r ihl ihr i v=>Nat.rec (motive:=fun _=>T α) (.nd v l r) (fun j _=>Nat.rec (motive:=fun _=>T α) (.nd u (ihl (Nat.div j 2) v) r) (fun _ _=>.nd u l (ihr (Nat.div j 2) v)) (Nat.mod j 2)) i) t
inductive AV where
 /-- An int (i64), 2^63 added. -/
 | i (p:Nat)
 | b (p:Nat)
 | pt (r o:Nat)
 /-- A slice of row r from cell o on; c: its capacity and 1, or 0 if it is not known. -/
 | sl (r o n c:Nat)
 | mp (r:Nat)
 /-- An empty slice, wherever it lies. -/
 | em
 | yd (r:Nat)
 /-- A value aS0 it stands. -/
 | x (v:Value)
 | fn (f:Fn) (n₁ c₁ n₂ c₂:Nat)
 /-- n cells. -/
 | ag (n c:Nat)
 | tu (n c:Nat)
 /-- A symbol: its number, its value. -/
 | sy (p:Nat) (v:Value)
 /-- What the symbols stand for: how many entries. -/
 | ym (n:Nat) (y:Nat→Value) (h:Law n y)
 deriving Inhabited
inductive GK where
 | itV (m c:Nat) (es:List (Nat×Nat×Nat×Nat)) (kill:List Nat)
 | itD (m c:Nat) (es:List (Nat×Nat×Nat×Nat)) (kill:List Nat) (x:Nat×Nat×Nat×Nat)
 | mpV (it:Nat)
 | mpX (it:Nat) (x:Nat×Nat×Nat×Nat)
 | itB (m c:Nat) (es:List (Nat×Nat×Nat×Nat)) (seen:List Nat) (cur:Nat)
 | bgV (c:Nat) (es:List (Nat×Nat×Nat×Nat))
inductive AO where
 | row (E:TypeId) (n c:Nat)
 /-- Entries: the key's number of cells (0: a scalar) and code, the value's code, when it was born. -/
 | map (es:List (Nat×Nat×Nat×Nat)) (clock:Nat)
 | iter (m:Option Nat) (since:Nat) (seen:List Nat) (cur last:Nat)
 | mark
 | loop (N env:Nat) (ps:List Nat) (assign body:Code) (st:LoopState) (pend:Option Code)
 | gh (g:Nat) (k:GK)
 /-- A map whose entries are told, but not their order. -/
 | bag (es:List (Nat×Nat×Nat×Nat)) (clock:Nat)
 /-- Cells that are only read. -/
 | ro (E:TypeId) (n c:Nat)
structure St where
 env:Nat
 ds:List Nat
 heap:T AO
 next:Nat
 side:T AV
 sn:Nat
 /-- Rows below it may not be written. -/
 lim:Nat
structure Out where
 e:Nat
 v:Nat
 s:St
abbrev R:=Option (List Out)
noncomputable def bad:R:=none
noncomputable def catT (l:List Out):R→R
 | none=>none
 | some m=>some (l++m)
noncomputable def cat:R→R→R
 | none=>fun _=>none
 | some l=>fun r=>catT l r
noncomputable def symT  (x0:Option AV):Nat→Option AV:=Option.rec (motive:=fun _=>Nat→Option AV)
  (fun _=>none)
  (fun z0=>match z0 with | (.ym _ y _)=>fun p=>some (.sy p (y p)) | _=>fun _=>none) x0
noncomputable def decT  (x0:Nat):Nat→T AV→Option AV:=(fun n=>Nat.rec (motive:=fun _=>Nat→T AV→Option AV) (fun _ _=>none) (fun n _=>(fun n=>Nat.rec (motive:=fun _=>Nat→T AV→Option AV) (fun p _=>some (.i p)) (fun n _=>(fun n=>Nat.rec (motive:=fun _=>Nat→T AV→Option AV) (fun p _=>some (.b p)) (fun n _=>(fun n=>Nat.rec (motive:=fun _=>Nat→T AV→Option AV) (fun p _=>some (.pt (Nat.mod p 16777216) (Nat.div p 16777216))) (fun n _=>(fun n=>Nat.rec (motive:=fun _=>Nat→T AV→Option AV) (fun p _=>some (.sl (Nat.mod p 16777216) (Nat.mod (Nat.div p 16777216) 16777216) (Nat.mod (Nat.div p 281474976710656) 16777216) (Nat.div p 4722366482869645213696))) (fun n _=>(fun n=>Nat.rec (motive:=fun _=>Nat→T AV→Option AV) (fun p _=>some (.mp p)) (fun n _=>(fun n=>Nat.rec (motive:=fun _=>Nat→T AV→Option AV) (fun p side=>side.get p) (fun n _=>(fun n=>Nat.rec (motive:=fun _=>Nat→T AV→Option AV) (fun _ _=>some .em) (fun n _=>(fun n=>Nat.rec (motive:=fun _=>Nat→T AV→Option AV) (fun p _=>some (.yd p)) (fun n _=>(fun n=>Nat.rec (motive:=fun _=>Nat→T AV→Option AV) (fun p side=>symT (side.get 0) p) (fun n _=>(fun _=>(fun _ _=>none)) n) n) n) n) n) n) n) n) n) n) n) n) n) n) n) n) n) n) n) n) x0
noncomputable def dec (c:Nat) (side:T AV):Option AV:=decT (Nat.mod c 16) (Nat.div c 16) side
noncomputable def code (p tag:Nat):Nat:=Nat.add (Nat.mul p 16) tag
noncomputable def okN (n:Nat) (k:R):R:=Bool.rec bad k (Nat.blt n 16777216)
noncomputable def sideK (a:AV) (s:St) (k:Nat→St→R):R :=
 Nat.rec (motive:=fun _=>R) (okN s.sn (k (code 0 6) ⟨s.env,s.ds,s.heap,s.next,s.side.put 0 (some a),1,s.lim⟩))
  (fun j _=>okN (Nat.succ j) (k (code (Nat.succ j) 6) ⟨s.env,s.ds,s.heap,s.next,s.side.put (Nat.succ j) (some a),Nat.succ (Nat.succ j),s.lim⟩)) s.sn
noncomputable def biasT:Int→Option Nat
 | .ofNat n=>Bool.rec none (some (Nat.add n 9223372036854775808)) (Nat.blt n 9223372036854775808)
 | .negSucc n=>Bool.rec none (some (Nat.sub 9223372036854775807 n)) (Nat.blt n 9223372036854775808)
noncomputable def unbias (p:Nat):Int:=Int.subNatNat p 9223372036854775808
noncomputable def ofInt (k:IntKind) (n:Int):AV :=
 match k with
 | .i64=>match biasT n with
  | some p=>.i p
  | none=>.x (.int .i64 n)
 | k=>.x (.int k n)
noncomputable def AV.of:Value→AV
 | .int k n=>ofInt k n
 | .bool t=>.b (Bool.rec 0 1 t)
 | v=>.x v
noncomputable def encS  (x0:AV):St→(Nat→St→R)→R:=AV.rec (motive:=fun _=>St→(Nat→St→R)→R)
  (fun p=>fun s k=>Bool.rec bad (k (code p 1) s) (Nat.blt p 18446744073709551616))
  (fun p=>fun s k=>Bool.rec bad (k (code p 2) s) (Nat.blt p 2))
  (fun _ _=>fun _ _=>bad)
  (fun _ _ _ _=>fun _ _=>bad)
  (fun _=>fun _ _=>bad)
  (fun _ _=>bad)
  (fun _=>fun _ _=>bad)
  (fun v=>fun s k=>Bool.rec bad (sideK (.x v) s k) v.oneCell')
  (fun _ _ _ _ _=>fun _ _=>bad)
  (fun _ _=>fun _ _=>bad)
  (fun _ _=>fun _ _=>bad)
  (fun _ _=>fun _ _=>bad)
  (fun _ _ _=>fun _ _=>bad) x0
noncomputable def encs  (x0:List Value):St→Nat→Nat→(Nat→Nat→St→R)→R:=List.rec (motive:=fun _=>St→Nat→Nat→(Nat→Nat→St→R)→R)
  (fun s n d k=>k n d s)
  (fun v l ih=>fun s n d k=>encS (AV.of v) s fun c s=>ih s (Nat.succ n) (Nat.add d (Nat.shiftLeft c (Nat.mul n 128))) k) x0
noncomputable def intX (t:IntKind) (n:Int) (s:St) (k:Nat→St→R):R :=
 Int.rec (motive:=fun _=>R) (fun m=>forceN m fun m=>sideK (.x (.int t (.ofNat m))) s k) (fun m=>forceN m fun m=>sideK (.x (.int t (.negSucc m))) s k) n
noncomputable def encX:Value→St→(Nat→St→R)→R
 | .agg cs=>fun s k=>encs cs.toList s 0 0 fun n d s=>sideK (.ag n d) s k
 | .tuple cs=>fun s k=>encs cs.toList s 0 0 fun n d s=>sideK (.tu n d) s k
 | .int t n=>fun s k=>intX t n s k
 | v=>fun s k=>sideK (.x v) s k
noncomputable def enc  (x0:AV):St→(Nat→St→R)→R:=AV.rec (motive:=fun _=>St→(Nat→St→R)→R)
  (fun p=>fun s k=>Bool.rec bad (k (code p 1) s) (Nat.blt p 18446744073709551616))
  (fun p=>fun s k=>Bool.rec bad (k (code p 2) s) (Nat.blt p 2))
  (fun r o=>fun s k=>okN (Nat.lor r o) (k (code (Nat.add (Nat.mul o 16777216) r) 3) s))
  (fun r o n c=>fun s k=>okN (Nat.lor (Nat.lor r o) (Nat.lor n c)) (k (code (Nat.add (Nat.mul (Nat.add (Nat.mul (Nat.add (Nat.mul c 16777216) n) 16777216) o) 16777216) r) 4) s))
  (fun r=>fun s k=>okN r (k (code r 5) s))
  (fun s k=>k (code 0 7) s)
  (fun r=>fun s k=>okN r (k (code r 8) s))
  (fun v=>fun s k=>encX v s k)
  (fun f n c m d=>fun s k=>sideK (.fn f n c m d) s k)
  (fun n c=>fun s k=>sideK (.ag n c) s k)
  (fun n c=>fun s k=>sideK (.tu n c) s k)
  (fun p _=>fun s k=>okN p (k (code p 9) s))
  (fun _ _ _=>fun _ _=>bad) x0
noncomputable def bitB (p:Nat):Bool:=Nat.rec false (fun _ _=>true) p
noncomputable def codes (c:Nat) (n i:Nat):List Nat:=Nat.rec (motive:=fun _=>Nat→List Nat) (fun _=>[]) (fun _ ih i=>dg c i::ih (Nat.succ i)) n i
noncomputable def AV.lit1 (a:AV):Option Value :=
 match a with
 | .i p=>some (.int .i64 (unbias p))
 | .b p=>some (.bool (bitB p))
 | .x v=>some v
 | .sy _ v=>some v
 | _=>none
noncomputable def lits (side:T AV) (x0:List Nat):Option (List Value):=List.rec (motive:=fun _=>Option (List Value))
  (some [])
  (fun c l ih=>((dec c side).bind AV.lit1).bind fun v=>(ih).map fun vs=>v::vs) x0
noncomputable def AV.lit (side:T AV) (x0:AV):Option Value:=AV.rec (motive:=fun _=>Option Value)
  (fun z0=>(AV.i z0).lit1)
  (fun z0=>(AV.b z0).lit1)
  (fun z0 z1=>(AV.pt z0 z1).lit1)
  (fun z0 z1 z2 z3=>(AV.sl z0 z1 z2 z3).lit1)
  (fun z0=>(AV.mp z0).lit1)
  ((AV.em).lit1)
  (fun z0=>(AV.yd z0).lit1)
  (fun z0=>(AV.x z0).lit1)
  (fun z0 z1 z2 z3 z4=>(AV.fn z0 z1 z2 z3 z4).lit1)
  (fun n c=>match lits side (codes c n 0) with     | some vs=>some (.agg vs.toArray)     | none=>none)
  (fun z0 z1=>(AV.tu z0 z1).lit1)
  (fun z0 z1=>(AV.sy z0 z1).lit1)
  (fun z0 z1 z2=>(AV.ym z0 z1 z2).lit1) x0
noncomputable def evA  (x0:Operand):St→Option AV:=Operand.rec (motive:=fun _=>St→Option AV)
  (fun t=>fun s=>dec (dg s.env (Nat.succ t)) s.side)
  (fun v=>fun _=>some (AV.of v))
  (fun _=>fun _=>none)
  (fun f=>fun _=>some (.fn (.func f) 0 0 0 0)) x0
noncomputable def evC  (x0:Operand):St→(Nat→St→R)→R:=Operand.rec (motive:=fun _=>St→(Nat→St→R)→R)
  (fun t=>fun s k=>Nat.rec (motive:=fun _=>R) bad (fun c _=>k (Nat.succ c) s) (dg s.env (Nat.succ t)))
  (fun v=>fun s k=>enc (AV.of v) s k)
  (fun _=>fun _ _=>bad)
  (fun f=>fun s k=>enc (.fn (.func f) 0 0 0 0) s k) x0
noncomputable def optR {α:Type} (x0:Option α):(α→R)→R:=Option.rec (motive:=fun _=>(α→R)→R)
  (fun _=>bad)
  (fun a=>fun k=>k a) x0
noncomputable def evK (o:Operand) (s:St) (k:AV→R):R:=optR (evA o s) k
noncomputable def evsC  (x0:List Operand):St→Nat→Nat→(Nat→Nat→St→R)→R:=List.rec (motive:=fun _=>St→Nat→Nat→(Nat→Nat→St→R)→R)
  (fun s n d k=>k n d s)
  (fun x l ih=>fun s n d k=>evC x s fun c s=>ih s (Nat.succ n) (Nat.add d (Nat.shiftLeft c (Nat.mul n 128))) k) x0
noncomputable def putE (d:Option Nat) (c:Nat) (s:St) (k:St→R):R :=
 match d with
 | none=>k s
 | some d=>St.rec (motive:=fun _=>R) (fun e ds h n sd' m b=>k ⟨sd e (Nat.succ d) c,ds,h,n,sd',m,b⟩) s
noncomputable def setH (s:St) (r:Nat) (o:Option AO) (k:St→R):R:=St.rec (motive:=fun _=>R) (fun e ds h n sd' m b=>forceN b fun b=>Bool.rec bad (k ⟨e,ds,h.put r o,n,sd',m,b⟩) (Nat.ble b r)) s
noncomputable def alloc (s:St) (o:AO) (k:Nat→St→R):R :=
 Nat.rec (motive:=fun _=>R) (k 0 ⟨s.env,s.ds,s.heap.put 0 (some o),1,s.side,s.sn,s.lim⟩)
  (fun j _=>okN (Nat.succ j) (k (Nat.succ j) ⟨s.env,s.ds,s.heap.put (Nat.succ j) (some o),Nat.succ (Nat.succ j),s.side,s.sn,s.lim⟩)) s.next
noncomputable def runP {α:Type} (P:Program):Sem α→Option α
 | .pure a=>some a
 | .program k=>runP P (k P)
 | .mark _ k=>runP P k
 | _=>none
noncomputable def isAggP (P:Program) (t:TypeId):Option Bool:=runP P (isAgg t)
noncomputable def sizeP (P:Program) (t:TypeId):Option Nat:=runP P (sizeOf t)
noncomputable def zeroP (P:Program) (t:TypeId):Option Value:=runP P (zeroValue t)
noncomputable def fieldsT:TypeDesc→Option (Array Field)
 | .struct fs=>some fs
 | _=>none
noncomputable def arrT:TypeDesc→Option (Nat×TypeId)
 | .array n E=>some (n,E)
 | _=>none
noncomputable def sliceT:TypeDesc→Option TypeId
 | .slice E=>some E
 | _=>none
noncomputable def mapT:TypeDesc→Option (TypeId×TypeId)
 | .map K E=>some (K,E)
 | _=>none
noncomputable def ptrT:TypeDesc→Option TypeId
 | .pointer E=>some E
 | _=>none
noncomputable def fieldP (P:Program) (t:TypeId) (i:Nat):Option Field:=((P.underlying t).bind fieldsT).bind fun fs=>fs[i]?
noncomputable def arrP (P:Program) (t:TypeId):Option (Nat×TypeId):=(P.underlying t).bind arrT
noncomputable def sliceP (P:Program) (t:TypeId):Option TypeId:=(P.underlying t).bind sliceT
noncomputable def mapP (P:Program) (t:TypeId):Option (TypeId×TypeId):=(P.underlying t).bind mapT
noncomputable def shapeP (P:Program) (t:TypeId):Option (Option Nat) :=
 (isAggP P t).bind fun g=>match g with
  | true=>(sizeP P t).map some
  | false=>some none
noncomputable def pieceK  (x0:Option Nat):Nat→Nat→Nat→St→(Nat→St→R)→R:=Option.rec (motive:=fun _=>Nat→Nat→Nat→St→(Nat→St→R)→R)
  (fun n c o s k=>Bool.rec bad (Nat.rec (motive:=fun _=>R) bad (fun d _=>k (Nat.succ d) s) (dg c o)) (Nat.blt o n))
  (fun z=>fun n c o s k=>Bool.rec bad (enc (.ag z (dgs c o z)) s k) (Nat.ble (Nat.add o z) n)) x0
noncomputable def cellsT  (x0:Option AV):Nat→(Nat→Nat→R)→R:=Option.rec (motive:=fun _=>Nat→(Nat→Nat→R)→R)
  (fun _ _=>bad)
  (fun z0=>match z0 with | (.ag n c)=>fun _ k=>k n c | (.tu _ _)=>fun _ _=>bad | (.x (.agg _))=>fun _ _=>bad | (.x (.tuple _))=>fun _ _=>bad | _=>fun d k=>k 1 d) x0
noncomputable def cellsK (c:Nat) (s:St) (k:Nat→Nat→R):R:=cellsT (dec c s.side) c k
noncomputable def zeroK (P:Program) (t:TypeId) (s:St) (k:Nat→Nat→St→R):R:=optR (zeroP P t) fun z=>encs z.cells.toList s 0 0 k
noncomputable def idxV:Value→Nat→Option Nat
 | .int _ (.ofNat m)=>fun n=>Bool.rec none (some m) (Nat.blt m n)
 | _=>fun _=>none
noncomputable def idxT  (x0:AV):Nat→Option Nat:=AV.rec (motive:=fun _=>Nat→Option Nat)
  (fun p=>fun n=>Bool.rec none (Bool.rec none (some (Nat.sub p 9223372036854775808)) (Nat.blt (Nat.sub p 9223372036854775808) n)) (Nat.ble 9223372036854775808 p))
  (fun _=>fun _=>none)
  (fun _ _=>fun _=>none)
  (fun _ _ _ _=>fun _=>none)
  (fun _=>fun _=>none)
  (fun _=>none)
  (fun _=>fun _=>none)
  (fun _=>fun _=>none)
  (fun _ _ _ _ _=>fun _=>none)
  (fun _ _=>fun _=>none)
  (fun _ _=>fun _=>none)
  (fun _ _=>fun _=>none)
  (fun _ _ _=>fun _=>none) x0
noncomputable def idxU  (x0:AV):Nat→Option Nat:=AV.rec (motive:=fun _=>Nat→Option Nat)
  (fun z0=>fun n=>idxT (AV.i z0) n)
  (fun z0=>fun n=>idxT (AV.b z0) n)
  (fun z0 z1=>fun n=>idxT (AV.pt z0 z1) n)
  (fun z0 z1 z2 z3=>fun n=>idxT (AV.sl z0 z1 z2 z3) n)
  (fun z0=>fun n=>idxT (AV.mp z0) n)
  (fun n=>idxT (AV.em) n)
  (fun z0=>fun n=>idxT (AV.yd z0) n)
  (fun v=>fun n=>idxV v n)
  (fun z0 z1 z2 z3 z4=>fun n=>idxT (AV.fn z0 z1 z2 z3 z4) n)
  (fun z0 z1=>fun n=>idxT (AV.ag z0 z1) n)
  (fun z0 z1=>fun n=>idxT (AV.tu z0 z1) n)
  (fun z0 z1=>fun n=>idxT (AV.sy z0 z1) n)
  (fun z0 z1 z2=>fun n=>idxT (AV.ym z0 z1 z2) n) x0
noncomputable def idxK (a:AV) (n:Nat) (k:Nat→R):R:=optR (idxT a n) k
noncomputable def bndK  (x0:Option Operand):Nat→Nat→St→(Nat→R)→R:=Option.rec (motive:=fun _=>Nat→Nat→St→(Nat→R)→R)
  (fun d _ _ k=>k d)
  (fun o=>fun _ n s k=>evK o s fun a=>idxK a (Nat.succ n) k) x0
noncomputable def wrI (k:IntKind) (n:Int):AV:=ofInt k (k.wrap n)
noncomputable def litBin (P:Program) (o:BinOp) (t:TypeId) (x y:Operand) (a b:AV) (s:St) (k:Nat→St→R):R :=
 optR (a.lit s.side) fun u=>optR (b.lit s.side) fun v=>optR (runP P (do eqGuard o t x y u v; binOp o t u v)) fun r=>enc (AV.of r) s k
noncomputable def retB (b:Bool) (s:St) (k:Nat→St→R):R:=Bool.rec (k 2 s) (k 18 s) b
noncomputable def retI (p:Nat) (s:St) (k:Nat→St→R):R:=Bool.rec bad (k (code p 1) s) (Nat.blt p 18446744073709551616)
noncomputable def retZ (n:Int) (s:St) (k:Nat→St→R):R:=enc (wrI .i64 n) s k
noncomputable def intBin  (x0:BinOp):Nat→Nat→Program→TypeId→Operand→Operand→St→(Nat→St→R)→R:=BinOp.rec (motive:=fun _=>Nat→Nat→Program→TypeId→Operand→Operand→St→(Nat→St→R)→R)
  (fun p q _ _ _ _ s k=>Bool.rec bad (retI (Nat.sub (Nat.add p q) 9223372036854775808) s k) (Nat.ble 9223372036854775808 (Nat.add p q)))
  (fun p q _ _ _ _ s k=>Bool.rec bad (retI (Nat.sub (Nat.add p 9223372036854775808) q) s k) (Nat.ble q (Nat.add p 9223372036854775808)))
  (fun p q _ _ _ _ s k=>retZ (unbias p * unbias q) s k)
  (fun p q P t x y s k=>Bool.rec (litBin P .quo t x y (.i p) (.i q) s k) (retI (Nat.add (Nat.div (Nat.sub p 9223372036854775808) (Nat.sub q 9223372036854775808)) 9223372036854775808) s k) (Bool.and (Nat.ble 9223372036854775808 p) (Nat.blt 9223372036854775808 q)))
  (fun p q P t x y s k=>Bool.rec (litBin P .rem t x y (.i p) (.i q) s k) (retI (Nat.add (Nat.mod (Nat.sub p 9223372036854775808) (Nat.sub q 9223372036854775808)) 9223372036854775808) s k) (Bool.and (Nat.ble 9223372036854775808 p) (Nat.blt 9223372036854775808 q)))
  (fun p q P t x y s k=>litBin P (BinOp.and) t x y (.i p) (.i q) s k)
  (fun p q P t x y s k=>litBin P (BinOp.or) t x y (.i p) (.i q) s k)
  (fun p q P t x y s k=>litBin P (BinOp.xor) t x y (.i p) (.i q) s k)
  (fun p q P t x y s k=>litBin P (BinOp.shl) t x y (.i p) (.i q) s k)
  (fun p q P t x y s k=>litBin P (BinOp.shr) t x y (.i p) (.i q) s k)
  (fun p q P t x y s k=>litBin P (BinOp.andNot) t x y (.i p) (.i q) s k)
  (fun p q _ _ _ _ s k=>retB (Nat.beq p q) s k)
  (fun p q _ _ _ _ s k=>retB (Bool.not (Nat.beq p q)) s k)
  (fun p q _ _ _ _ s k=>retB (Nat.blt p q) s k)
  (fun p q _ _ _ _ s k=>retB (Nat.ble p q) s k)
  (fun p q _ _ _ _ s k=>retB (Nat.blt q p) s k)
  (fun p q _ _ _ _ s k=>retB (Nat.ble q p) s k) x0
noncomputable def nilP:TypeDesc→AV→AV→Bool
 | .slice _,.sl ..,.x (.slice none _ _)=>true
 | .slice _,.em,.x (.slice none _ _)=>true
 | .pointer _,.pt ..,.x (.pointer none)=>true
 | .map _ _,.mp _,.x (.map none)=>true
 | .func ..,.fn ..,.x .nilFunc=>true
 | _,_,_=>false
noncomputable def nilBin (r:Bool) (a b:AV) (P:Program) (t:TypeId) (s:St) (k:Nat→St→R) (other:R):R :=
 optR (P.underlying t) fun d=>Bool.rec other (retB r s k) (Bool.or (nilP d a b) (nilP d b a))
noncomputable def sameS:AV→AV→Bool
 | .sy p _,.sy q _=>Nat.beq p q
 | _,_=>false
noncomputable def sameP (P:Program):TypeDesc→AV→AV→Bool
 | .pointer e,.pt r o,.pt r' o'=>Bool.and (Bool.and (Nat.beq r r') (Nat.beq o o')) (Option.rec (motive:=fun _=>Bool) false (fun z=>Nat.blt 0 z) (sizeP P e))
 | _,_,_=>false
noncomputable def sameBin (r:Bool) (a b:AV) (P:Program) (t:TypeId) (s:St) (k:Nat→St→R) (other:R):R:=optR (P.underlying t) fun d=>Bool.rec other (retB r s k) (Bool.or (sameS a b) (sameP P d a b))
noncomputable def leafT:AV→AV→Option Nat
 | .x (.string b),.sy p _=>Bool.rec none (some (Nat.succ p)) (b.data.toList == [101] && Nat.ble 64 p && Nat.blt p 128 && Nat.beq (Nat.mod p 2) 0)
 | _,_=>none
noncomputable def addBin (a b:AV) (s:St) (k:Nat→St→R) (other:R):R:=Option.rec (motive:=fun _=>R) other (fun p=>okN p (k (code p 9) s)) (leafT a b)
noncomputable def anyBin  (x0:BinOp):AV→AV→Program→TypeId→Operand→Operand→St→(Nat→St→R)→R:=BinOp.rec (motive:=fun _=>AV→AV→Program→TypeId→Operand→Operand→St→(Nat→St→R)→R)
  (fun a b P t x y s k=>addBin a b s k (litBin P .add t x y a b s k))
  (fun a b P t x y s k=>litBin P (BinOp.sub) t x y a b s k)
  (fun a b P t x y s k=>litBin P (BinOp.mul) t x y a b s k)
  (fun a b P t x y s k=>litBin P (BinOp.quo) t x y a b s k)
  (fun a b P t x y s k=>litBin P (BinOp.rem) t x y a b s k)
  (fun a b P t x y s k=>litBin P (BinOp.and) t x y a b s k)
  (fun a b P t x y s k=>litBin P (BinOp.or) t x y a b s k)
  (fun a b P t x y s k=>litBin P (BinOp.xor) t x y a b s k)
  (fun a b P t x y s k=>litBin P (BinOp.shl) t x y a b s k)
  (fun a b P t x y s k=>litBin P (BinOp.shr) t x y a b s k)
  (fun a b P t x y s k=>litBin P (BinOp.andNot) t x y a b s k)
  (fun a b P t x y s k=>nilBin false a b P t s k (sameBin true a b P t s k (litBin P .eql t x y a b s k)))
  (fun a b P t x y s k=>nilBin true a b P t s k (sameBin false a b P t s k (litBin P .neq t x y a b s k)))
  (fun a b P t x y s k=>litBin P (BinOp.lss) t x y a b s k)
  (fun a b P t x y s k=>litBin P (BinOp.leq) t x y a b s k)
  (fun a b P t x y s k=>litBin P (BinOp.gtr) t x y a b s k)
  (fun a b P t x y s k=>litBin P (BinOp.geq) t x y a b s k) x0
noncomputable def boolT:TypeDesc→Bool
 | .bool=>true
 | _=>false
noncomputable def isBool (P:Program) (t:TypeId) (k:R):R:=optR (P.underlying t) fun d=>Bool.rec bad k (boolT d)
noncomputable def boolBin  (x0:BinOp):Nat→Nat→Program→TypeId→Operand→Operand→St→(Nat→St→R)→R:=BinOp.rec (motive:=fun _=>Nat→Nat→Program→TypeId→Operand→Operand→St→(Nat→St→R)→R)
  (fun _ _ _ _ _ _ _ _=>bad)
  (fun _ _ _ _ _ _ _ _=>bad)
  (fun _ _ _ _ _ _ _ _=>bad)
  (fun _ _ _ _ _ _ _ _=>bad)
  (fun _ _ _ _ _ _ _ _=>bad)
  (fun _ _ _ _ _ _ _ _=>bad)
  (fun _ _ _ _ _ _ _ _=>bad)
  (fun _ _ _ _ _ _ _ _=>bad)
  (fun _ _ _ _ _ _ _ _=>bad)
  (fun _ _ _ _ _ _ _ _=>bad)
  (fun _ _ _ _ _ _ _ _=>bad)
  (fun p q P t _ _ s k=>isBool P t (retB (Nat.beq p q) s k))
  (fun p q P t _ _ s k=>isBool P t (retB (Bool.not (Nat.beq p q)) s k))
  (fun _ _ _ _ _ _ _ _=>bad)
  (fun _ _ _ _ _ _ _ _=>bad)
  (fun _ _ _ _ _ _ _ _=>bad)
  (fun _ _ _ _ _ _ _ _=>bad) x0
noncomputable def binT3  (x0:AV):Nat→BinOp→Program→TypeId→Operand→Operand→St→(Nat→St→R)→R:=AV.rec (motive:=fun _=>Nat→BinOp→Program→TypeId→Operand→Operand→St→(Nat→St→R)→R)
  (fun _=>fun _ _ _ _ _ _ _ _=>bad)
  (fun q=>fun p o P t x y s k=>boolBin o p q P t x y s k)
  (fun _ _=>fun _ _ _ _ _ _ _ _=>bad)
  (fun _ _ _ _=>fun _ _ _ _ _ _ _ _=>bad)
  (fun _=>fun _ _ _ _ _ _ _ _=>bad)
  (fun _ _ _ _ _ _ _ _=>bad)
  (fun _=>fun _ _ _ _ _ _ _ _=>bad)
  (fun _=>fun _ _ _ _ _ _ _ _=>bad)
  (fun _ _ _ _ _=>fun _ _ _ _ _ _ _ _=>bad)
  (fun _ _=>fun _ _ _ _ _ _ _ _=>bad)
  (fun _ _=>fun _ _ _ _ _ _ _ _=>bad)
  (fun _ _=>fun _ _ _ _ _ _ _ _=>bad)
  (fun _ _ _=>fun _ _ _ _ _ _ _ _=>bad) x0
noncomputable def binT2  (x0:AV):Nat→BinOp→Program→TypeId→Operand→Operand→St→(Nat→St→R)→R:=AV.rec (motive:=fun _=>Nat→BinOp→Program→TypeId→Operand→Operand→St→(Nat→St→R)→R)
  (fun q=>fun p o P t x y s k=>intBin o p q P t x y s k)
  (fun z0=>fun p o P t x y s k=>anyBin o (.i p) (AV.b z0) P t x y s k)
  (fun z0 z1=>fun p o P t x y s k=>anyBin o (.i p) (AV.pt z0 z1) P t x y s k)
  (fun z0 z1 z2 z3=>fun p o P t x y s k=>anyBin o (.i p) (AV.sl z0 z1 z2 z3) P t x y s k)
  (fun z0=>fun p o P t x y s k=>anyBin o (.i p) (AV.mp z0) P t x y s k)
  (fun p o P t x y s k=>anyBin o (.i p) (AV.em) P t x y s k)
  (fun z0=>fun p o P t x y s k=>anyBin o (.i p) (AV.yd z0) P t x y s k)
  (fun z0=>fun p o P t x y s k=>anyBin o (.i p) (AV.x z0) P t x y s k)
  (fun z0 z1 z2 z3 z4=>fun p o P t x y s k=>anyBin o (.i p) (AV.fn z0 z1 z2 z3 z4) P t x y s k)
  (fun z0 z1=>fun p o P t x y s k=>anyBin o (.i p) (AV.ag z0 z1) P t x y s k)
  (fun z0 z1=>fun p o P t x y s k=>anyBin o (.i p) (AV.tu z0 z1) P t x y s k)
  (fun z0 z1=>fun p o P t x y s k=>anyBin o (.i p) (AV.sy z0 z1) P t x y s k)
  (fun z0 z1 z2=>fun p o P t x y s k=>anyBin o (.i p) (AV.ym z0 z1 z2) P t x y s k) x0
noncomputable def binT1  (x0:AV):AV→BinOp→Program→TypeId→Operand→Operand→St→(Nat→St→R)→R:=AV.rec (motive:=fun _=>AV→BinOp→Program→TypeId→Operand→Operand→St→(Nat→St→R)→R)
  (fun p=>fun b o P t x y s k=>binT2 b p o P t x y s k)
  (fun p=>fun b o P t x y s k=>binT3 b p o P t x y s k)
  (fun z0 z1=>fun b o P t x y s k=>anyBin o (AV.pt z0 z1) b P t x y s k)
  (fun z0 z1 z2 z3=>fun b o P t x y s k=>anyBin o (AV.sl z0 z1 z2 z3) b P t x y s k)
  (fun z0=>fun b o P t x y s k=>anyBin o (AV.mp z0) b P t x y s k)
  (fun b o P t x y s k=>anyBin o (AV.em) b P t x y s k)
  (fun z0=>fun b o P t x y s k=>anyBin o (AV.yd z0) b P t x y s k)
  (fun z0=>fun b o P t x y s k=>anyBin o (AV.x z0) b P t x y s k)
  (fun z0 z1 z2 z3 z4=>fun b o P t x y s k=>anyBin o (AV.fn z0 z1 z2 z3 z4) b P t x y s k)
  (fun z0 z1=>fun b o P t x y s k=>anyBin o (AV.ag z0 z1) b P t x y s k)
  (fun z0 z1=>fun b o P t x y s k=>anyBin o (AV.tu z0 z1) b P t x y s k)
  (fun z0 z1=>fun b o P t x y s k=>anyBin o (AV.sy z0 z1) b P t x y s k)
  (fun z0 z1 z2=>fun b o P t x y s k=>anyBin o (AV.ym z0 z1 z2) b P t x y s k) x0
noncomputable def qBin (P:Program) (o:BinOp) (t:TypeId) (x y:Operand) (s:St) (k:Nat→St→R):R :=
 evK x s fun a=>evK y s fun b=>binT1 a b o P t x y s k
noncomputable def pickT  (x0:AV):Operand→Operand→St→(Nat→St→R)→R:=AV.rec (motive:=fun _=>Operand→Operand→St→(Nat→St→R)→R)
  (fun _=>fun _ _ _ _=>bad)
  (fun p=>fun x y s k=>Nat.rec (evC y s k) (fun _ _=>evC x s k) p)
  (fun _ _=>fun _ _ _ _=>bad)
  (fun _ _ _ _=>fun _ _ _ _=>bad)
  (fun _=>fun _ _ _ _=>bad)
  (fun _ _ _ _=>bad)
  (fun _=>fun _ _ _ _=>bad)
  (fun _=>fun _ _ _ _=>bad)
  (fun _ _ _ _ _=>fun _ _ _ _=>bad)
  (fun _ _=>fun _ _ _ _=>bad)
  (fun _ _=>fun _ _ _ _=>bad)
  (fun _ _=>fun _ _ _ _=>bad)
  (fun _ _ _=>fun _ _ _ _=>bad) x0
noncomputable def extractT  (x0:AV):Nat→St→(Nat→St→R)→R:=AV.rec (motive:=fun _=>Nat→St→(Nat→St→R)→R)
  (fun _=>fun _ _ _=>bad)
  (fun _=>fun _ _ _=>bad)
  (fun _ _=>fun _ _ _=>bad)
  (fun _ _ _ _=>fun _ _ _=>bad)
  (fun _=>fun _ _ _=>bad)
  (fun _ _ _=>bad)
  (fun _=>fun _ _ _=>bad)
  (fun _=>fun _ _ _=>bad)
  (fun _ _ _ _ _=>fun _ _ _=>bad)
  (fun _ _=>fun _ _ _=>bad)
  (fun n c=>fun i s k=>Bool.rec bad (Nat.rec (motive:=fun _=>R) bad (fun d _=>k (Nat.succ d) s) (dg c i)) (Nat.blt i n))
  (fun _ _=>fun _ _ _=>bad)
  (fun _ _ _=>fun _ _ _=>bad) x0
noncomputable def nilCheckT  (x0:AV):Nat→St→(Nat→St→R)→R:=AV.rec (motive:=fun _=>Nat→St→(Nat→St→R)→R)
  (fun _=>fun _ _ _=>bad)
  (fun _=>fun _ _ _=>bad)
  (fun _ _=>fun c s k=>k c s)
  (fun _ _ _ _=>fun _ _ _=>bad)
  (fun _=>fun _ _ _=>bad)
  (fun _ _ _=>bad)
  (fun _=>fun c s k=>k c s)
  (fun _=>fun _ _ _=>bad)
  (fun z0 z1 z2 z3 z4=>match z0,z1,z2,z3,z4 with | (.func _),_,_,_,_=>fun c s k=>k c s | _,_,_,_,_=>fun _ _ _=>bad)
  (fun _ _=>fun _ _ _=>bad)
  (fun _ _=>fun _ _ _=>bad)
  (fun _ _=>fun _ _ _=>bad)
  (fun _ _ _=>fun _ _ _=>bad) x0
noncomputable def fieldT  (x0:AV):Program→TypeId→Nat→St→(Nat→St→R)→R:=AV.rec (motive:=fun _=>Program→TypeId→Nat→St→(Nat→St→R)→R)
  (fun _=>fun _ _ _ _ _=>bad)
  (fun _=>fun _ _ _ _ _=>bad)
  (fun _ _=>fun _ _ _ _ _=>bad)
  (fun _ _ _ _=>fun _ _ _ _ _=>bad)
  (fun _=>fun _ _ _ _ _=>bad)
  (fun _ _ _ _ _=>bad)
  (fun _=>fun _ _ _ _ _=>bad)
  (fun _=>fun _ _ _ _ _=>bad)
  (fun _ _ _ _ _=>fun _ _ _ _ _=>bad)
  (fun n c=>fun P t i s k=>optR (fieldP P t i) fun f=>optR (shapeP P f.type) fun z=>pieceK z n c f.offset s k)
  (fun _ _=>fun _ _ _ _ _=>bad)
  (fun _ _=>fun _ _ _ _ _=>bad)
  (fun _ _ _=>fun _ _ _ _ _=>bad) x0
noncomputable def fieldAddrT  (x0:AV):Program→TypeId→Nat→St→(Nat→St→R)→R:=AV.rec (motive:=fun _=>Program→TypeId→Nat→St→(Nat→St→R)→R)
  (fun _=>fun _ _ _ _ _=>bad)
  (fun _=>fun _ _ _ _ _=>bad)
  (fun r o=>fun P t i s k=>optR (fieldP P t i) fun f=>optR (sizeP P f.type) fun z=>Nat.rec (motive:=fun _=>R) bad (fun _ _=>enc (.pt r (Nat.add o f.offset)) s k) z)
  (fun _ _ _ _=>fun _ _ _ _ _=>bad)
  (fun _=>fun _ _ _ _ _=>bad)
  (fun _ _ _ _ _=>bad)
  (fun _=>fun _ _ _ _ _=>bad)
  (fun _=>fun _ _ _ _ _=>bad)
  (fun _ _ _ _ _=>fun _ _ _ _ _=>bad)
  (fun _ _=>fun _ _ _ _ _=>bad)
  (fun _ _=>fun _ _ _ _ _=>bad)
  (fun _ _=>fun _ _ _ _ _=>bad)
  (fun _ _ _=>fun _ _ _ _ _=>bad) x0
noncomputable def lit2K (P:Program) (f:Value→Value→Sem Value) (a b:AV) (s:St) (k:Nat→St→R):R :=
 optR (a.lit s.side) fun u=>optR (b.lit s.side) fun v=>optR (runP P (f u v)) fun r=>enc (AV.of r) s k
noncomputable def indexT  (x0:AV):AV→Program→TypeId→St→(Nat→St→R)→R:=AV.rec (motive:=fun _=>AV→Program→TypeId→St→(Nat→St→R)→R)
  (fun z0=>fun i P t s k=>lit2K P (Instr.index t) (AV.i z0) i s k)
  (fun z0=>fun i P t s k=>lit2K P (Instr.index t) (AV.b z0) i s k)
  (fun z0 z1=>fun i P t s k=>lit2K P (Instr.index t) (AV.pt z0 z1) i s k)
  (fun z0 z1 z2 z3=>fun i P t s k=>lit2K P (Instr.index t) (AV.sl z0 z1 z2 z3) i s k)
  (fun z0=>fun i P t s k=>lit2K P (Instr.index t) (AV.mp z0) i s k)
  (fun i P t s k=>lit2K P (Instr.index t) (AV.em) i s k)
  (fun z0=>fun i P t s k=>lit2K P (Instr.index t) (AV.yd z0) i s k)
  (fun z0=>fun i P t s k=>lit2K P (Instr.index t) (AV.x z0) i s k)
  (fun z0 z1 z2 z3 z4=>fun i P t s k=>lit2K P (Instr.index t) (AV.fn z0 z1 z2 z3 z4) i s k)
  (fun n c=>fun i P t s k=>optR (arrP P t) fun e=>idxK i e.1 fun j=>optR (shapeP P e.2) fun z=>optR (sizeP P e.2) fun m=>pieceK z n c (Nat.mul j m) s k)
  (fun z0 z1=>fun i P t s k=>lit2K P (Instr.index t) (AV.tu z0 z1) i s k)
  (fun z0 z1=>fun i P t s k=>lit2K P (Instr.index t) (AV.sy z0 z1) i s k)
  (fun z0 z1 z2=>fun i P t s k=>lit2K P (Instr.index t) (AV.ym z0 z1 z2) i s k) x0
noncomputable def indexAddrT  (x0:AV):AV→Program→TypeId→St→(Nat→St→R)→R:=AV.rec (motive:=fun _=>AV→Program→TypeId→St→(Nat→St→R)→R)
  (fun _=>fun _ _ _ _ _=>bad)
  (fun _=>fun _ _ _ _ _=>bad)
  (fun r o=>fun i P t s k=>optR (arrP P t) fun e=>optR (idxU i e.1) fun j=>optR (sizeP P e.2) fun m=>enc (.pt r (Nat.add o (Nat.mul j m))) s k)
  (fun r o n _=>fun i P t s k=>optR (sliceP P t) fun E=>idxK i n fun j=>optR (sizeP P E) fun m=>enc (.pt r (Nat.add o (Nat.mul j m))) s k)
  (fun _=>fun _ _ _ _ _=>bad)
  (fun _ _ _ _ _=>bad)
  (fun _=>fun _ _ _ _ _=>bad)
  (fun _=>fun _ _ _ _ _=>bad)
  (fun _ _ _ _ _=>fun _ _ _ _ _=>bad)
  (fun _ _=>fun _ _ _ _ _=>bad)
  (fun _ _=>fun _ _ _ _ _=>bad)
  (fun _ _=>fun _ _ _ _ _=>bad)
  (fun _ _ _=>fun _ _ _ _ _=>bad) x0
noncomputable def rowT  (x0:Option AO):Option (TypeId×Nat×Nat):=Option.rec (motive:=fun _=>Option (TypeId×Nat×Nat))
  (none)
  (fun z0=>match z0 with | (.row E n c)=>some (E,n,c) | _=>none) x0
noncomputable def rdT  (x0:Option AO):Option (TypeId×Nat×Nat):=Option.rec (motive:=fun _=>Option (TypeId×Nat×Nat))
  (none)
  (fun z0=>match z0 with | (.row E n c)=>some (E,n,c) | (.ro E n c)=>some (E,n,c) | _=>none) x0
noncomputable def rdK (s:St) (r:Nat) (k:TypeId→Nat→Nat→R):R:=optR (rdT (s.heap.get r)) fun x=>k x.1 x.2.1 x.2.2
noncomputable def rowK (s:St) (r:Nat) (k:TypeId→Nat→Nat→R):R:=optR (rowT (s.heap.get r)) fun x=>k x.1 x.2.1 x.2.2
noncomputable def mapOT  (x0:Option AO):Option (List (Nat×Nat×Nat×Nat)×Nat):=Option.rec (motive:=fun _=>Option (List (Nat×Nat×Nat×Nat)×Nat))
  (none)
  (fun z0=>match z0 with | (.map es clock)=>some (es,clock) | _=>none) x0
noncomputable def mapK (s:St) (r:Nat) (k:List (Nat×Nat×Nat×Nat)→Nat→R):R:=optR (mapOT (s.heap.get r)) fun x=>k x.1 x.2
noncomputable def loadT  (x0:AV):Program→TypeId→St→(Nat→St→R)→R:=AV.rec (motive:=fun _=>Program→TypeId→St→(Nat→St→R)→R)
  (fun _=>fun _ _ _ _=>bad)
  (fun _=>fun _ _ _ _=>bad)
  (fun r o=>fun P t s k=>rdK s r fun _ n c=>optR (shapeP P t) fun z=>pieceK z n c o s k)
  (fun _ _ _ _=>fun _ _ _ _=>bad)
  (fun _=>fun _ _ _ _=>bad)
  (fun _ _ _ _=>bad)
  (fun _=>fun _ _ _ _=>bad)
  (fun _=>fun _ _ _ _=>bad)
  (fun _ _ _ _ _=>fun _ _ _ _=>bad)
  (fun _ _=>fun _ _ _ _=>bad)
  (fun _ _=>fun _ _ _ _=>bad)
  (fun _ _=>fun _ _ _ _=>bad)
  (fun _ _ _=>fun _ _ _ _=>bad) x0
noncomputable def roomR (o n E z:Nat) (x:Option (TypeId×Nat×Nat)):Nat :=
 Option.rec (motive:=fun _=>Nat) n (fun x=>Bool.rec n (Bool.rec n (Nat.div (Nat.sub x.2.1 o) z) (Nat.ble n (Nat.div (Nat.sub x.2.1 o) z))) (Nat.beq E x.1)) x
noncomputable def roomK (r o n c E z:Nat) (s:St) (k:Nat→R):R:=Nat.rec (motive:=fun _=>R) (forceN (roomR o n E z (rdT (s.heap.get r))) k) (fun c _=>k c) c
noncomputable def sameR (s:St) (r E:Nat) (k:R):R:=rdK s r fun E' _ _=>Bool.rec bad k (Nat.beq E E')
noncomputable def sameE (s:St) (r E:Nat) (k:R):R:=rowK s r fun E' _ _=>Bool.rec bad k (Nat.beq E E')
noncomputable def cutSl (r o c z l h m E:Nat) (s:St) (k:Nat→St→R):R :=
 Nat.rec (motive:=fun _=>R)
  (Bool.rec (Bool.rec (enc .em s k) (sameR s r E (enc (.sl r (Nat.add o (Nat.mul l z)) (Nat.sub h l) 0) s k)) (Nat.blt l m)) (enc (.sl r o h 0) s k) (Nat.beq l 0))
  (fun _ _=>enc (.sl r (Bool.rec (Nat.add o (Nat.mul l z)) o (Nat.beq m l)) (Nat.sub h l) (Nat.succ (Nat.sub m l))) s k) c
noncomputable def litO (s:St) (x0:Option Operand):Option (Option Value):=Option.rec (motive:=fun _=>Option (Option Value))
  (some none)
  (fun o=>((evA o s).bind (AV.lit s.side)).map some) x0
noncomputable def sliceLit (P:Program) (t:TypeId) (a:AV) (lo hi mx:Option Operand) (s:St) (k:Nat→St→R):R :=
 optR (a.lit s.side) fun u=>optR (litO s lo) fun l=>optR (litO s hi) fun h=>optR (litO s mx) fun m=>optR (runP P (Instr.sliceAt t u l h m)) fun r=>enc (AV.of r) s k
noncomputable def mxC (mx:Option Operand) (c:Nat):Nat :=
 match mx with
 | none=>c
 | some _=>1
noncomputable def mxOK (hi mx:Option Operand) (k:R):R:=Bool.rec bad k (Bool.or mx.isNone hi.isSome)
noncomputable def sliceT'  (x0:AV):Program→TypeId→Option Operand→Option Operand→Option Operand→St→(Nat→St→R)→R:=AV.rec (motive:=fun _=>Program→TypeId→Option Operand→Option Operand→Option Operand→St→(Nat→St→R)→R)
  (fun z0=>fun P t lo hi mx s k=>sliceLit P t (AV.i z0) lo hi mx s k)
  (fun z0=>fun P t lo hi mx s k=>sliceLit P t (AV.b z0) lo hi mx s k)
  (fun r o=>fun P t lo hi mx s k=>mxOK hi mx (optR (arrP P t) fun e=>optR (sizeP P e.2) fun z=>bndK mx e.1 e.1 s fun m=>bndK hi e.1 m s fun h=>bndK lo 0 h s fun l=>cutSl r o 1 z l h m e.2 s k))
  (fun r o n c=>fun P t lo hi mx s k=>mxOK hi mx (optR (sliceP P t) fun E=>optR (sizeP P E) fun z=>roomK r o n c E z s fun R=>bndK mx R R s fun m=>bndK hi n m s fun h=>bndK lo 0 h s fun l=>cutSl r o (mxC mx c) z l h m E s k))
  (fun z0=>fun P t lo hi mx s k=>sliceLit P t (AV.mp z0) lo hi mx s k)
  (fun P t lo hi mx s k=>sliceLit P t (AV.em) lo hi mx s k)
  (fun z0=>fun P t lo hi mx s k=>sliceLit P t (AV.yd z0) lo hi mx s k)
  (fun z0=>fun P t lo hi mx s k=>sliceLit P t (AV.x z0) lo hi mx s k)
  (fun z0 z1 z2 z3 z4=>fun P t lo hi mx s k=>sliceLit P t (AV.fn z0 z1 z2 z3 z4) lo hi mx s k)
  (fun z0 z1=>fun P t lo hi mx s k=>sliceLit P t (AV.ag z0 z1) lo hi mx s k)
  (fun z0 z1=>fun P t lo hi mx s k=>sliceLit P t (AV.tu z0 z1) lo hi mx s k)
  (fun z0 z1=>fun P t lo hi mx s k=>sliceLit P t (AV.sy z0 z1) lo hi mx s k)
  (fun z0 z1 z2=>fun P t lo hi mx s k=>sliceLit P t (AV.ym z0 z1 z2) lo hi mx s k) x0
noncomputable def tagD:TypeDesc→Nat
 | .bool=>2
 | .int .i64=>1
 | _=>0
noncomputable def tagP (P:Program) (t:TypeId):Nat:=((P.underlying t).map tagD).getD 0
noncomputable def tagsF (P:Program) (x0:List Field):Nat→Option Nat:=List.rec (motive:=fun _=>Nat→Option Nat)
  (fun _=>some 0)
  (fun f l ih=>fun i=>Bool.rec none ((ih (Nat.succ i)).map fun sh=>Nat.add sh (Nat.shiftLeft (tagP P f.type) (Nat.mul i 128))) (Bool.and (Bool.and (Nat.beq f.offset i) (Nat.blt 0 (tagP P f.type))) (f.name != "_"))) x0
noncomputable def oneK (P : Program) (t : TypeId) : List Field → Option (Nat × Nat × Nat)
  | [f] => ((P.underlying f.type).bind arrT).bind fun e => Bool.rec none (some (e.1, reps 1 15 e.1, reps 1 (tagP P e.2) e.1))
      (Bool.and (Bool.and (Bool.and (Nat.beq f.offset 0) (f.name != "_")) (Bool.and (Bool.not (P.stoodInHeld t)) (Nat.beq (P.cellsOf f.type) e.1))) (Bool.and (Nat.blt 0 e.1) (Bool.and (Nat.blt 0 (tagP P e.2)) (Nat.beq (P.cellsOf e.2) 1))))
  | _ => none
noncomputable def structK (P:Program) (t:TypeId) (fs:Array Field):Option (Nat×Nat×Nat):=Bool.rec none ((tagsF P fs.toList 0).map fun sh=>(fs.size,reps 1 15 fs.size,sh)) (Bool.and (Nat.blt 0 fs.size) (Bool.not (P.stoodInHeld t)))
noncomputable def shapeK:TypeDesc→Program→TypeId→Option (Nat×Nat×Nat)
 | .bool=>fun _ _=>some (0,15,2)
 | .int .i64=>fun _ _=>some (0,15,1)
 | .struct fs=>fun P t=>Option.rec (motive:=fun _=>Option (Nat×Nat×Nat)) (oneK P t fs.toList) (fun x=>some x) (structK P t fs)
 | .array m E=>fun P _=>Bool.rec none (some (m,reps 1 15 m,reps 1 (tagP P E) m)) (Bool.and (Nat.blt 0 m) (Bool.and (Nat.blt 0 (tagP P E)) (Nat.beq (P.cellsOf E) 1)))
 | _=>fun _ _=>none
noncomputable def keySh (P:Program) (t:TypeId):Option (Nat×Nat×Nat):=(mapP P t).bind fun KE=>(P.underlying KE.1).bind fun d=>shapeK d P KE.1
noncomputable def keyT  (x0:AV):Option (Nat×Nat):=AV.rec (motive:=fun _=>Option (Nat×Nat))
  (fun p=>some (0,code p 1))
  (fun p=>some (0,code p 2))
  (fun _ _=>none)
  (fun _ _ _ _=>none)
  (fun _=>none)
  (none)
  (fun _=>none)
  (fun _=>none)
  (fun _ _ _ _ _=>none)
  (fun n c=>Bool.rec none (some (n,c)) (Nat.blt 0 n))
  (fun _ _=>none)
  (fun _ _=>none)
  (fun _ _ _=>none) x0
noncomputable def keyK (P:Program) (t:TypeId) (a:AV) (k:Nat→Nat→Nat→Nat→R):R :=
 optR (keyT a) fun x=>optR (keySh P t) fun y=>Bool.rec bad (k x.1 x.2 y.2.1 y.2.2) (Bool.and (Nat.beq x.1 y.1) (Nat.beq (Nat.land x.2 y.2.1) y.2.2))
noncomputable def findC (n c m sh:Nat) (x0:List (Nat×Nat×Nat×Nat)):Nat→(Option Nat→R)→R:=List.rec (motive:=fun _=>Nat→(Option Nat→R)→R)
  (fun _ k=>k none)
  (fun e l ih=>fun i k=>Bool.rec (Bool.rec bad (ih (Nat.succ i) k) (Bool.and (Nat.beq e.1 n) (Nat.beq (Nat.land e.2.1 m) sh))) (k (some i)) (Bool.and (Nat.beq e.2.1 c) (Nat.beq e.1 n))) x0
noncomputable def keyBack (n c:Nat) (s:St) (k:Nat→St→R):R:=Nat.rec (k c s) (fun _ _=>sideK (.ag n c) s k) n
noncomputable def okK (ok:Bool) (c t:Nat) (s:St) (k:Nat→St→R):R:=Bool.rec (k c s) (sideK (.tu 2 (Nat.add c (Nat.shiftLeft t 128))) s k) ok
noncomputable def zero1 (P:Program) (t:TypeId) (s:St) (k:Nat→St→R):R:=optR (zeroP P t) fun z=>enc (AV.of z) s k
noncomputable def foundK  (x0:Option Nat):List (Nat×Nat×Nat×Nat)→Program→TypeId→Bool→St→(Nat→St→R)→R:=Option.rec (motive:=fun _=>List (Nat×Nat×Nat×Nat)→Program→TypeId→Bool→St→(Nat→St→R)→R)
  (fun _ P E ok s k=>zero1 P E s fun c s=>okK ok c 2 s k)
  (fun i=>fun es _ _ ok s k=>optR (es[i]?) fun e=>okK ok e.2.2.1 18 s k) x0
noncomputable def bagT (o:Option AO):Option (List (Nat×Nat×Nat×Nat)×Nat) :=
 match o with
 | some (.bag es c)=>some (es,c)
 | _=>none
noncomputable def kindK (n m sh:Nat) (x0:List (Nat×Nat×Nat×Nat)):Bool:=List.rec (motive:=fun _=>Bool)
  (true)
  (fun e l ih=>Bool.and (Bool.and (Nat.beq e.1 n) (Nat.beq (Nat.land e.2.1 m) sh)) (ih)) x0
noncomputable def offK (c:Nat) (x0:List (Nat×Nat×Nat×Nat)):Bool:=List.rec (motive:=fun _=>Bool)
  (true)
  (fun e l ih=>Bool.and (Bool.not (Nat.beq e.2.1 c)) (ih)) x0
noncomputable def diffK  (x0:List (Nat×Nat×Nat×Nat)):Bool:=List.rec (motive:=fun _=>Bool)
  (true)
  (fun e l ih=>Bool.and (offK e.2.1 l) (ih)) x0
noncomputable def atK (c:Nat) (x0:List (Nat×Nat×Nat×Nat)):Option (Nat×Nat×Nat×Nat):=List.rec (motive:=fun _=>Option (Nat×Nat×Nat×Nat))
  (none)
  (fun e l ih=>Bool.rec (ih) (some e) (Nat.beq e.2.1 c)) x0
noncomputable def lookO (r:Nat) (j:AV) (ok:Bool) (P:Program) (t:TypeId) (s:St) (k:Nat→St→R):R :=
 mapK s r fun es _=>keyK P t j fun n c m sh=>optR (mapP P t) fun KE=>findC n c m sh es 0 fun i=>foundK i es P KE.2 ok s k
noncomputable def lookB (es:List (Nat×Nat×Nat×Nat)) (j:AV) (ok:Bool) (P:Program) (t:TypeId) (s:St) (k:Nat→St→R):R :=
 keyK P t j fun n c m sh=>optR (mapP P t) fun KE=>Bool.rec bad (Option.rec (motive:=fun _=>R) (zero1 P KE.2 s fun c s=>okK ok c 2 s k) (fun e=>okK ok e.2.2.1 18 s k) (atK c es)) (Bool.and (kindK n m sh es) (diffK es))
noncomputable def lookupT  (x0:AV):AV→Bool→Program→TypeId→St→(Nat→St→R)→R:=AV.rec (motive:=fun _=>AV→Bool→Program→TypeId→St→(Nat→St→R)→R)
  (fun z0=>fun j ok P t s k=>lit2K P (fun u v=>Instr.lookup t u v ok) (AV.i z0) j s k)
  (fun z0=>fun j ok P t s k=>lit2K P (fun u v=>Instr.lookup t u v ok) (AV.b z0) j s k)
  (fun z0 z1=>fun j ok P t s k=>lit2K P (fun u v=>Instr.lookup t u v ok) (AV.pt z0 z1) j s k)
  (fun z0 z1 z2 z3=>fun j ok P t s k=>lit2K P (fun u v=>Instr.lookup t u v ok) (AV.sl z0 z1 z2 z3) j s k)
  (fun r=>fun j ok P t s k=>Option.rec (motive:=fun _=>R) (lookO r j ok P t s k) (fun y=>lookB y.1 j ok P t s k) (bagT (s.heap.get r)))
  (fun j ok P t s k=>lit2K P (fun u v=>Instr.lookup t u v ok) (AV.em) j s k)
  (fun z0=>fun j ok P t s k=>lit2K P (fun u v=>Instr.lookup t u v ok) (AV.yd z0) j s k)
  (fun z0=>fun j ok P t s k=>lit2K P (fun u v=>Instr.lookup t u v ok) (AV.x z0) j s k)
  (fun z0 z1 z2 z3 z4=>fun j ok P t s k=>lit2K P (fun u v=>Instr.lookup t u v ok) (AV.fn z0 z1 z2 z3 z4) j s k)
  (fun z0 z1=>fun j ok P t s k=>lit2K P (fun u v=>Instr.lookup t u v ok) (AV.ag z0 z1) j s k)
  (fun z0 z1=>fun j ok P t s k=>lit2K P (fun u v=>Instr.lookup t u v ok) (AV.tu z0 z1) j s k)
  (fun z0 z1=>fun j ok P t s k=>lit2K P (fun u v=>Instr.lookup t u v ok) (AV.sy z0 z1) j s k)
  (fun z0 z1 z2=>fun j ok P t s k=>lit2K P (fun u v=>Instr.lookup t u v ok) (AV.ym z0 z1 z2) j s k) x0
noncomputable def lit1K (P:Program) (f:Value→Sem Value) (a:AV) (s:St) (k:Nat→St→R):R :=
 optR (a.lit s.side) fun u=>optR (runP P (f u)) fun r=>enc (AV.of r) s k
noncomputable def notT  (x0:AV):St→(Nat→St→R)→R:=AV.rec (motive:=fun _=>St→(Nat→St→R)→R)
  (fun _=>fun _ _=>bad)
  (fun p=>fun s k=>retB (Nat.beq p 0) s k)
  (fun _ _=>fun _ _=>bad)
  (fun _ _ _ _=>fun _ _=>bad)
  (fun _=>fun _ _=>bad)
  (fun _ _=>bad)
  (fun _=>fun _ _=>bad)
  (fun _=>fun _ _=>bad)
  (fun _ _ _ _ _=>fun _ _=>bad)
  (fun _ _=>fun _ _=>bad)
  (fun _ _=>fun _ _=>bad)
  (fun _ _=>fun _ _=>bad)
  (fun _ _ _=>fun _ _=>bad) x0
noncomputable def unT  (x0:UnOp):AV→Program→St→(Nat→St→R)→R:=UnOp.rec (motive:=fun _=>AV→Program→St→(Nat→St→R)→R)
  (fun a P s k=>lit1K P (Op.unary (UnOp.neg)) a s k)
  (fun a P s k=>lit1K P (Op.unary (UnOp.xor)) a s k)
  (fun a _ s k=>notT a s k)
  (fun a P s k=>lit1K P (Op.unary (UnOp.plus)) a s k) x0
noncomputable def iterT  (x0:Option AO):Option (Option Nat×Nat×List Nat×Nat×Nat):=Option.rec (motive:=fun _=>Option (Option Nat×Nat×List Nat×Nat×Nat))
  (none)
  (fun z0=>match z0 with | (.iter m since seen cur last)=>some (m,since,seen,cur,last) | _=>none) x0
noncomputable def isVo (g:Nat) (o:Option AO):Bool :=
 match o with
 | some (.gh g' (.mpV _))=>Nat.beq g' g
 | _=>false
noncomputable def curG (o:Option AO):Option (Nat×Nat×List (Nat×Nat×Nat×Nat)×(Nat×Nat×Nat×Nat)) :=
 match o with
 | some (.gh g (.itD m _ es _ x))=>some (g,m,es,x)
 | _=>none
noncomputable def entryV (s:St) (k:Nat→St→R) (y:Nat×Nat×List (Nat×Nat×Nat×Nat)×(Nat×Nat×Nat×Nat)):R :=
 okN y.2.1 (Bool.rec bad (keyBack y.2.2.2.1 y.2.2.2.2.1 s fun c s=>sideK (.tu 2 (Nat.add c (Nat.shiftLeft y.2.2.2.2.2.1 128))) s k) (Bool.and (isVo y.1 (s.heap.get y.2.1)) (Nat.ble s.lim y.2.1)))
noncomputable def curB (o:Option AO):Option (Nat×Nat×List (Nat×Nat×Nat×Nat)×Nat) :=
 match o with
 | some (.gh g (.itB m _ es _ cur))=>some (g,m,es,cur)
 | _=>none
noncomputable def isBg (g:Nat) (o:Option AO):Bool :=
 match o with
 | some (.gh g' (.bgV _ _))=>Nat.beq g' g
 | _=>false
noncomputable def entryB (r:Nat) (s:St) (k:Nat→St→R) (y:Nat×Nat×List (Nat×Nat×Nat×Nat)×Nat):R :=
 okN y.2.1 (Bool.rec bad (optR (y.2.2.1.find? fun e=>Nat.beq (Nat.succ e.2.2.2) y.2.2.2) fun e=>keyBack e.1 e.2.1 s fun c s=>sideK (.tu 2 (Nat.add c (Nat.shiftLeft e.2.2.1 128))) s k) (Bool.and (isBg y.1 (s.heap.get y.2.1)) (Bool.and (Nat.ble s.lim r) (Bool.not (Nat.beq r y.2.1)))))
noncomputable def entryM (r:Nat) (s:St) (k:Nat→St→R):R:=optR (iterT (s.heap.get r)) fun x=>optR x.1 fun m=>mapK s m fun es clock=>Bool.rec bad (optR (es.find? fun e=>Nat.beq (Nat.succ e.2.2.2) x.2.2.2.1) fun e=>keyBack e.1 e.2.1 s fun c s=>sideK (.tu 2 (Nat.add c (Nat.shiftLeft e.2.2.1 128))) s k) (Nat.beq clock x.2.2.2.2)
noncomputable def entryT  (x0:AV):St→(Nat→St→R)→R:=AV.rec (motive:=fun _=>St→(Nat→St→R)→R)
  (fun _=>fun _ _=>bad)
  (fun _=>fun _ _=>bad)
  (fun z0 z1=>match z0,z1 with | r,0=>fun s k=>Option.rec (motive:=fun _=>R) (Option.rec (motive:=fun _=>R) (entryM r s k) (fun y=>entryB r s k y) (curB (s.heap.get r))) (fun y=>Bool.rec bad (entryV s k y) (Bool.and (Nat.ble s.lim r) (Bool.not (Nat.beq r y.2.1)))) (curG (s.heap.get r)) | _,_=>fun _ _=>bad)
  (fun _ _ _ _=>fun _ _=>bad)
  (fun _=>fun _ _=>bad)
  (fun _ _=>bad)
  (fun _=>fun _ _=>bad)
  (fun _=>fun _ _=>bad)
  (fun _ _ _ _ _=>fun _ _=>bad)
  (fun _ _=>fun _ _=>bad)
  (fun _ _=>fun _ _=>bad)
  (fun _ _=>fun _ _=>bad)
  (fun _ _ _=>fun _ _=>bad) x0
noncomputable def lenS  (x0:AV):Option Nat:=AV.rec (motive:=fun _=>Option Nat)
  (fun _=>none)
  (fun _=>none)
  (fun _ _=>none)
  (fun _ _ n _=>some n)
  (fun _=>none)
  (some 0)
  (fun _=>none)
  (fun z0=>match z0 with | (.slice none n _)=>some n | _=>none)
  (fun _ _ _ _ _=>none)
  (fun _ _=>none)
  (fun _ _=>none)
  (fun _ _=>none)
  (fun _ _ _=>none) x0
noncomputable def lenG  (x0:AV):Option Nat:=AV.rec (motive:=fun _=>Option Nat)
  (fun _=>none)
  (fun _=>none)
  (fun _ _=>none)
  (fun _ _ _ _=>none)
  (fun _=>none)
  (none)
  (fun _=>none)
  (fun z0=>match z0 with | (.string b)=>some b.size | _=>none)
  (fun _ _ _ _ _=>none)
  (fun _ _=>none)
  (fun _ _=>none)
  (fun _ _=>none)
  (fun _ _ _=>none) x0
noncomputable def lenM  (x0:AV):St→Option Nat:=AV.rec (motive:=fun _=>St→Option Nat)
  (fun _=>fun _=>none)
  (fun _=>fun _=>none)
  (fun _ _=>fun _=>none)
  (fun _ _ _ _=>fun _=>none)
  (fun r=>fun s=>(mapOT (s.heap.get r)).map fun x=>x.1.length)
  (fun _=>none)
  (fun _=>fun _=>none)
  (fun z0=>match z0 with | (.map none)=>fun _=>some 0 | _=>fun _=>none)
  (fun _ _ _ _ _=>fun _=>none)
  (fun _ _=>fun _=>none)
  (fun _ _=>fun _=>none)
  (fun _ _=>fun _=>none)
  (fun _ _ _=>fun _=>none) x0
noncomputable def lenD:TypeDesc→Program→AV→St→Option Nat
 | .array n _=>fun _ _ _=>some n
 | .pointer E=>fun P _ _=>(arrP P E).map Prod.fst
 | .slice _=>fun _ a _=>lenS a
 | .string=>fun _ a _=>lenG a
 | .map _ _=>fun _ a s=>lenM a s
 | _=>fun _ _ _=>none
noncomputable def nat1 (n:Nat) (s:St) (k:Nat→St→R):R:=retI (Nat.add n 9223372036854775808) s k
noncomputable def qLen (P:Program) (xs:List Operand) (ts:List TypeId) (s:St) (k:Nat→St→R):R :=
 match xs with
 | [x]=>match ts with
  | t::_=>evK x s fun a=>optR (P.underlying t) fun d=>optR (lenD d P a s) fun n=>nat1 n s k
  | []=>bad
 | _=>bad
noncomputable def capT  (x0:AV):Option Nat:=AV.rec (motive:=fun _=>Option Nat)
  (fun _=>none)
  (fun _=>none)
  (fun _ _=>none)
  (fun _ _ _ c=>Nat.rec none (fun c _=>some c) c)
  (fun _=>none)
  (none)
  (fun _=>none)
  (fun z0=>match z0 with | (.slice none _ c)=>some c | _=>none)
  (fun _ _ _ _ _=>none)
  (fun _ _=>none)
  (fun _ _=>none)
  (fun _ _=>none)
  (fun _ _ _=>none) x0
noncomputable def qCap (P:Program) (xs:List Operand) (ts:List TypeId) (s:St) (k:Nat→St→R):R :=
 match xs with
 | [x]=>match ts with
  | t::_=>evK x s fun a=>optR (sliceP P t) fun _=>optR (capT a) fun n=>nat1 n s k
  | []=>bad
 | _=>bad
noncomputable def evsV (s:St) (x0:List Operand):Option (List Value):=List.rec (motive:=fun _=>Option (List Value))
  (some [])
  (fun x l ih=>((evA x s).bind (AV.lit s.side)).bind fun v=>(ih).map fun vs=>v::vs) x0
noncomputable def qLits (P:Program) (f:Array Value→Sem Value) (xs:List Operand) (s:St) (k:Nat→St→R):R :=
 optR (evsV s xs) fun l=>optR (runP P (f l.toArray)) fun r=>enc (AV.of r) s k
noncomputable def qFunc (f:Fn) (first caps:List Operand) (s:St) (k:Nat→St→R):R :=
 evsC first s 0 0 fun n c s=>evsC caps s 0 0 fun m d s=>sideK (.fn f n c m d) s k
noncomputable def quiet  (x0:Op):Bool:=Op.rec (motive:=fun _=>Bool)
  (fun _=>true)
  (fun _=>true)
  (fun _ _ _=>true)
  (fun _=>false)
  (fun _ _=>false)
  (fun _ _=>true)
  (fun _ _ _=>false)
  (fun _ _ _ _=>false)
  (fun _ _=>true)
  (fun _ _ _=>false)
  (fun _=>false)
  (fun _=>false)
  (fun _=>true)
  (fun _ _ _ _ _=>true)
  (fun _ _ _=>true)
  (fun a _ _=>Bool.not (loud a))
  (fun _ _=>false)
  (fun _ _=>true)
  (fun _ _ _=>true)
  (fun _ _=>false)
  (fun _ _=>false)
  (fun _ _ _=>false)
  (fun _ _ _ _ _=>true)
  (fun _ _ _=>true)
  (fun _ _ _=>true)
  (fun _ _ _=>true)
  (fun _ _ _=>true)
  (fun _ _ _ _=>true)
  (fun _ _ _ _=>false)
  (fun _ _ _=>false)
  (fun _ _ _ _=>false)
  (fun _ _=>false)
  (fun _ _=>false)
  (fun _=>true)
  (fun _ _ _ _=>false)
  (fun _ _=>true)
  (fun c=>match c.callee with     | .builtin .len=>true     | .builtin .cap=>true     | .builtin .max=>true     | .builtin .min=>true     | _=>false)
  (fun _=>false)
  (fun _=>false)
  (fun _=>false)
  (fun _ _=>false)
  (fun _ _ _=>false)
  (fun _ _=>false) x0
noncomputable def infoT (i:TypeInfo):Bool:=Option.rec (motive:=fun _=>Bool) false (fun z=>Bool.and (Nat.beq z.cells.size i.size) (Bool.and (Nat.blt 0 i.size) (Nat.ble i.bytes 65536))) i.zero
noncomputable def infoOK (P:Program) (E:TypeId):Bool:=Option.rec (motive:=fun _=>Bool) false (fun i=>Bool.and (Bool.not (Nat.beq E castE)) (infoT i)) (P.info? E)
noncomputable def newRow (E:TypeId) (n c:Nat) (s:St) (k:Nat→St→R):R:=okN n (alloc s (.row E n c) k)
noncomputable def xAlloc (P:Program) (t:TypeId) (s:St) (k:Nat→St→R):R:=zeroK P t s fun n c s=>newRow t n c s fun r s=>enc (.pt r 0) s k
noncomputable def xBox (t:TypeId) (x:Operand) (s:St) (k:Nat→St→R):R:=evC x s fun d s=>cellsK d s fun n c=>newRow t n c s fun r s=>enc (.pt r 0) s k
noncomputable def fill (place:Nat→Option (Nat×Nat)) (x0:List (Nat×Operand)):Nat→Nat→St→(Nat→St→R)→R:=List.rec (motive:=fun _=>Nat→Nat→St→(Nat→St→R)→R)
  (fun _ c s k=>k c s)
  (fun p l ih=>fun n c s k=>evC p.2 s fun d s=>cellsK d s fun m e=>optR (place p.1) fun q=>Bool.rec bad (Bool.rec bad (ih n (sds c q.1 m e) s k) (Nat.ble (Nat.add q.1 m) n)) (Nat.beq m q.2)) x0
noncomputable def placeF (P:Program) (fs:Array Field) (i:Nat):Option (Nat×Nat):=(fs[i]?).bind fun f=>(sizeP P f.type).map fun z=>(f.offset,z)
noncomputable def sizedL (P:Program) (x0:List Field):Bool:=List.rec (motive:=fun _=>Bool)
  (true)
  (fun f l ih=>Option.rec (motive:=fun _=>Bool) false (fun _=>ih) (sizeP P f.type)) x0
noncomputable def placeT:TypeDesc→Program→Option (Nat→Option (Nat×Nat))
 | .struct fs=>fun P=>Bool.rec none (some (placeF P fs)) (sizedL P fs.toList)
 | .array _ E=>fun P=>(sizeP P E).map fun z i=>some (Nat.mul i z,z)
 | _=>fun _=>none
noncomputable def xBuild (P:Program) (t:TypeId) (parts:List (Nat×Operand)) (s:St) (k:Nat→St→R):R :=
 zeroK P t s fun n c s=>optR ((P.underlying t).bind fun d=>placeT d P) fun pl=>fill pl parts n c s fun c s=>sideK (.ag n c) s k
noncomputable def setCells (r o m e:Nat) (s:St) (k:St→R):R :=
 rowK s r fun E n c=>Bool.rec bad (setH s r (some (.row E n (sds c o m e))) k) (Nat.ble (Nat.add o m) n)
noncomputable def storeT  (x0:AV):Nat→Program→TypeId→St→(Nat→St→R)→R:=AV.rec (motive:=fun _=>Nat→Program→TypeId→St→(Nat→St→R)→R)
  (fun _=>fun _ _ _ _ _=>bad)
  (fun _=>fun _ _ _ _ _=>bad)
  (fun r o=>fun d P t s k=>cellsK d s fun m e=>optR (sizeP P t) fun z=>Bool.rec bad (setCells r o m e s fun s=>k 0 s) (Nat.beq m z))
  (fun _ _ _ _=>fun _ _ _ _ _=>bad)
  (fun _=>fun _ _ _ _ _=>bad)
  (fun _ _ _ _ _=>bad)
  (fun _=>fun _ _ _ _ _=>bad)
  (fun _=>fun _ _ _ _ _=>bad)
  (fun _ _ _ _ _=>fun _ _ _ _ _=>bad)
  (fun _ _=>fun _ _ _ _ _=>bad)
  (fun _ _=>fun _ _ _ _ _=>bad)
  (fun _ _=>fun _ _ _ _ _=>bad)
  (fun _ _ _=>fun _ _ _ _ _=>bad) x0
noncomputable def xStore (P:Program) (t:TypeId) (a x:Operand) (s:St) (k:Nat→St→R):R:=evC x s fun d s=>evK a s fun a=>storeT a d P t s k
noncomputable def xBuildSlice (P : Program) (t : TypeId) (len : Nat) (parts : List (Nat × Operand)) (s : St) (k : Nat → St → R) : R :=
  optR (sliceP P t) fun E => optR (sizeP P E) fun z => zeroK P E s fun n c s => okN (Nat.mul len z) (Bool.rec bad
    (fill (fun i => some (Nat.mul i z, z)) parts (Nat.mul len n) (reps n c len) s fun c s => newRow E (Nat.mul len n) c s fun r s => enc (.sl r 0 len (Nat.succ len)) s k) (Nat.beq n z))
noncomputable def makeRow (P:Program) (E:TypeId) (l c:Nat) (s:St) (k:Nat→St→R):R :=
 zeroK P E s fun n z s=>okN (Nat.mul c (Nat.succ n)) (Bool.rec bad (Bool.rec bad (newRow E (Nat.mul c n) (reps n z c) s fun r s=>enc (.sl r 0 l (Nat.succ c)) s k) (Nat.ble l c)) (infoOK P E))
noncomputable def xMakeSlice (P:Program) (t:TypeId) (l c:Operand) (s:St) (k:Nat→St→R):R :=
 optR (sliceP P t) fun E=>evK l s fun l=>idxK l 16777216 fun l=>evK c s fun c=>idxK c 16777216 fun c=>makeRow P E l c s k
noncomputable def mapPut  (x0:Option Nat):List (Nat×Nat×Nat×Nat)→Nat→Nat→Nat→Nat→Nat→St→(Nat→St→R)→R:=Option.rec (motive:=fun _=>List (Nat×Nat×Nat×Nat)→Nat→Nat→Nat→Nat→Nat→St→(Nat→St→R)→R)
  (fun es clock r n c d s k=>setH s r (some (.map (es++[(n,c,d,clock)]) (Nat.succ clock))) fun s=>k 0 s)
  (fun i=>fun es clock r n c d s k=>setH s r (some (.map (es.modify i fun e=>(n,c,d,e.2.2.2)) clock)) fun s=>k 0 s) x0
noncomputable def updO (r:Nat) (j:AV) (d:Nat) (P:Program) (t:TypeId) (s:St) (k:Nat→St→R):R :=
 mapK s r fun es clock=>keyK P t j fun n c m sh=>findC n c m sh es 0 fun i=>mapPut i es clock r n c d s k
noncomputable def putK (n c d:Nat) (x0:List (Nat×Nat×Nat×Nat)):List (Nat×Nat×Nat×Nat):=List.rec (motive:=fun _=>List (Nat×Nat×Nat×Nat))
  ([])
  (fun e l ih=>Bool.rec (e::ih) ((n,c,d,e.2.2.2)::l) (Nat.beq e.2.1 c)) x0
noncomputable def updB (es:List (Nat×Nat×Nat×Nat)) (clock r:Nat) (j:AV) (d:Nat) (P:Program) (t:TypeId) (s:St) (k:Nat→St→R):R :=
 keyK P t j fun n c m sh=>Bool.rec bad (Option.rec (motive:=fun _=>R) (setH s r (some (.bag (es++[(n,c,d,0)]) (Nat.succ clock))) fun s=>k 0 s) (fun _=>setH s r (some (.bag (putK n c d es) clock)) fun s=>k 0 s) (atK c es)) (Bool.and (kindK n m sh es) (diffK es))
noncomputable def updT  (x0:AV):AV→Nat→Program→TypeId→St→(Nat→St→R)→R:=AV.rec (motive:=fun _=>AV→Nat→Program→TypeId→St→(Nat→St→R)→R)
  (fun _=>fun _ _ _ _ _ _=>bad)
  (fun _=>fun _ _ _ _ _ _=>bad)
  (fun _ _=>fun _ _ _ _ _ _=>bad)
  (fun _ _ _ _=>fun _ _ _ _ _ _=>bad)
  (fun r=>fun j d P t s k=>Option.rec (motive:=fun _=>R) (updO r j d P t s k) (fun y=>updB y.1 y.2 r j d P t s k) (bagT (s.heap.get r)))
  (fun _ _ _ _ _ _=>bad)
  (fun _=>fun _ _ _ _ _ _=>bad)
  (fun _=>fun _ _ _ _ _ _=>bad)
  (fun _ _ _ _ _=>fun _ _ _ _ _ _=>bad)
  (fun _ _=>fun _ _ _ _ _ _=>bad)
  (fun _ _=>fun _ _ _ _ _ _=>bad)
  (fun _ _=>fun _ _ _ _ _ _=>bad)
  (fun _ _ _=>fun _ _ _ _ _ _=>bad) x0
noncomputable def xUpdate (P:Program) (t:TypeId) (m key x:Operand) (s:St) (k:Nat→St→R):R :=
 evC x s fun d s=>evK key s fun j=>evK m s fun m=>updT m j d P t s k
noncomputable def rangeT  (x0:AV):St→(Nat→St→R)→R:=AV.rec (motive:=fun _=>St→(Nat→St→R)→R)
  (fun _=>fun _ _=>bad)
  (fun _=>fun _ _=>bad)
  (fun _ _=>fun _ _=>bad)
  (fun _ _ _ _=>fun _ _=>bad)
  (fun m=>fun s k=>Option.rec (motive:=fun _=>R) (mapK s m fun _ clock=>alloc s (.iter (some m) clock [] 0 clock) fun r s=>enc (.pt r 0) s k) (fun y=>alloc s (.iter (some m) y.2 [] 0 y.2) fun r s=>enc (.pt r 0) s k) (bagT (s.heap.get m)))
  (fun _ _=>bad)
  (fun _=>fun _ _=>bad)
  (fun z0=>match z0 with | (.map none)=>fun s k=>alloc s (.iter none 0 [] 0 0) fun r s=>enc (.pt r 0) s k | _=>fun _ _=>bad)
  (fun _ _ _ _ _=>fun _ _=>bad)
  (fun _ _=>fun _ _=>bad)
  (fun _ _=>fun _ _=>bad)
  (fun _ _=>fun _ _=>bad)
  (fun _ _ _=>fun _ _=>bad) x0
noncomputable def ins (n:Nat) (x0:List Nat):List Nat:=List.rec (motive:=fun _=>List Nat)
  ([n])
  (fun m l ih=>Bool.rec (m::ih) (n::m::l) (Nat.ble n m)) x0
noncomputable def overK (r:Nat) (s:St) (k:Nat→St→R):R:=setH s r none fun s=>sideK (.tu 1 2) s k
noncomputable def stepK (r m since clock:Nat) (seen:List Nat) (s:St) (k:Nat→St→R) (e:Nat×Nat×Nat×Nat):R :=
 setH s r (some (.iter (some m) since (ins e.2.2.2 seen) (Nat.succ e.2.2.2) clock)) fun s=>keyBack e.1 e.2.1 s fun c s=>sideK (.tu 3 (Nat.add 18 (Nat.add (Nat.shiftLeft c 128) (Nat.shiftLeft e.2.2.1 256)))) s k
noncomputable def stepsK (r m since clock:Nat) (seen:List Nat) (s:St) (k:Nat→St→R) (x0:List (Nat×Nat×Nat×Nat)):R:=List.rec (motive:=fun _=>R)
  (some [])
  (fun e l ih=>cat (stepK r m since clock seen s k e) (ih)) x0
noncomputable def leftOf (es:List (Nat×Nat×Nat×Nat)) (seen:List Nat):List (Nat×Nat×Nat×Nat):=es.filter fun e=>Bool.not (seen.contains e.2.2.2)
noncomputable def nextK (r m since:Nat) (seen:List Nat) (last clock:Nat) (es:List (Nat×Nat×Nat×Nat)) (s:St) (k:Nat→St→R):R :=
 match !seen.isEmpty && !es.isEmpty && es.all (fun e=>Nat.ble last e.2.2.2) with
 | true=>bad
 | false=>match (leftOf es seen).any (fun e=>Nat.blt e.2.2.2 since) with
  | true=>stepsK r m since clock seen s k (leftOf es seen)
  | false=>cat (overK r s k) (stepsK r m since clock seen s k (leftOf es seen))
noncomputable def nextM  (x0:Option Nat):Nat→Nat×List Nat×Nat×Nat→St→(Nat→St→R)→R:=Option.rec (motive:=fun _=>Nat→Nat×List Nat×Nat×Nat→St→(Nat→St→R)→R)
  (fun r _ s k=>overK r s k)
  (fun m=>fun r x s k=>mapK s m fun es clock=>nextK r m x.1 x.2.1 x.2.2.2 clock es s k) x0
noncomputable def itG (o:Option AO):Option (Nat×Nat×Nat×List (Nat×Nat×Nat×Nat)×List Nat) :=
 match o with
 | some (.gh g (.itV m c es kill))=>some (g,m,c,es,kill)
 | _=>none
noncomputable def stayE (kill:List Nat) (es:List (Nat×Nat×Nat×Nat)):List (Nat×Nat×Nat×Nat):=es.filter fun e=>Bool.not (kill.contains e.2.2.2)
noncomputable def stuckK (c:Nat) (x0:List Nat):Bool:=List.rec (motive:=fun _=>Bool)
  (false)
  (fun b l ih=>Bool.or (Nat.blt c b) (ih)) x0
noncomputable def overV (r m c:Nat) (es:List (Nat×Nat×Nat×Nat)) (kill:List Nat) (s:St) (k:Nat→St→R):R :=
 Bool.rec (setH s r none fun s=>setH s m (some (.map (stayE kill es) c)) fun s=>sideK (.tu 1 2) s k) (some []) (stuckK c kill)
noncomputable def stepV (r g m c:Nat) (es:List (Nat×Nat×Nat×Nat)) (kill:List Nat) (s:St) (k:Nat→St→R) (e:Nat×Nat×Nat×Nat):R :=
 setH s r (some (.gh g (.itD m c es kill e))) fun s=>keyBack e.1 e.2.1 s fun c s=>sideK (.tu 3 (Nat.add 18 (Nat.add (Nat.shiftLeft c 128) (Nat.shiftLeft e.2.2.1 256)))) s k
noncomputable def stepsV (r g m c:Nat) (es:List (Nat×Nat×Nat×Nat)) (kill:List Nat) (s:St) (k:Nat→St→R) (x0:List (Nat×Nat×Nat×Nat)):R:=List.rec (motive:=fun _=>R)
  (some [])
  (fun e l ih=>cat (stepV r g m c es kill s k e) (ih)) x0
noncomputable def nextV (r:Nat) (s:St) (k:Nat→St→R) (y:Nat×Nat×Nat×List (Nat×Nat×Nat×Nat)×List Nat):R :=
 okN y.2.1 (Bool.rec bad (cat (overV r y.2.1 y.2.2.1 y.2.2.2.1 y.2.2.2.2 s k) (stepsV r y.1 y.2.1 y.2.2.1 y.2.2.2.1 y.2.2.2.2 s k y.2.2.2.1)) (Bool.and (Bool.and (isVo y.1 (s.heap.get y.2.1)) (Nat.ble s.lim y.2.1)) (Bool.and (Nat.ble s.lim r) (Bool.not (Nat.beq r y.2.1)))))
noncomputable def itW (o:Option AO):Option (Nat×Nat×Nat×List (Nat×Nat×Nat×Nat)×List Nat×Nat) :=
 match o with
 | some (.gh g (.itB m c es seen cur))=>some (g,m,c,es,seen,cur)
 | _=>none
noncomputable def stepB (r g m c:Nat) (es:List (Nat×Nat×Nat×Nat)) (seen:List Nat) (s:St) (k:Nat→St→R) (e:Nat×Nat×Nat×Nat):R :=
 setH s r (some (.gh g (.itB m c es (ins e.2.2.2 seen) (Nat.succ e.2.2.2)))) fun s=>keyBack e.1 e.2.1 s fun c s=>sideK (.tu 3 (Nat.add 18 (Nat.add (Nat.shiftLeft c 128) (Nat.shiftLeft e.2.2.1 256)))) s k
noncomputable def stepsB (r g m c:Nat) (es:List (Nat×Nat×Nat×Nat)) (seen:List Nat) (s:St) (k:Nat→St→R) (x0:List (Nat×Nat×Nat×Nat)):R:=List.rec (motive:=fun _=>R)
  (some [])
  (fun e l ih=>cat (stepB r g m c es seen s k e) (ih)) x0
noncomputable def nextB (r : Nat) (s : St) (k : Nat → St → R) (y : Nat × Nat × Nat × List (Nat × Nat × Nat × Nat) × List Nat × Nat) : R :=
  okN y.2.1 (Bool.rec bad (match leftOf y.2.2.2.1 y.2.2.2.2.1 with
    | [] => overK r s k
    | e :: l => stepsB r y.1 y.2.1 y.2.2.1 y.2.2.2.1 y.2.2.2.2.1 s k (e :: l)) (Bool.and (isBg y.1 (s.heap.get y.2.1)) (Bool.and (Nat.ble s.lim r) (Bool.not (Nat.beq r y.2.1)))))
noncomputable def nextO (r:Nat) (s:St) (k:Nat→St→R):R:=optR (iterT (s.heap.get r)) fun x=>nextM x.1 r x.2 s k
noncomputable def nextT  (x0:AV):St→(Nat→St→R)→R:=AV.rec (motive:=fun _=>St→(Nat→St→R)→R)
  (fun _=>fun _ _=>bad)
  (fun _=>fun _ _=>bad)
  (fun z0 z1=>match z0,z1 with | r,0=>fun s k=>Option.rec (motive:=fun _=>R) (Option.rec (motive:=fun _=>R) (nextO r s k) (fun y=>nextB r s k y) (itW (s.heap.get r))) (fun y=>nextV r s k y) (itG (s.heap.get r)) | _,_=>fun _ _=>bad)
  (fun _ _ _ _=>fun _ _=>bad)
  (fun _=>fun _ _=>bad)
  (fun _ _=>bad)
  (fun _=>fun _ _=>bad)
  (fun _=>fun _ _=>bad)
  (fun _ _ _ _ _=>fun _ _=>bad)
  (fun _ _=>fun _ _=>bad)
  (fun _ _=>fun _ _=>bad)
  (fun _ _=>fun _ _=>bad)
  (fun _ _ _=>fun _ _=>bad) x0
noncomputable def entK  (x0:Option Nat):List (Nat×Nat×Nat×Nat)→Nat→Nat→Nat→Nat→Program→TypeId→St→(Nat→St→R)→R:=Option.rec (motive:=fun _=>List (Nat×Nat×Nat×Nat)→Nat→Nat→Nat→Nat→Program→TypeId→St→(Nat→St→R)→R)
  (fun es clock r n c P E s k=>zero1 P E s fun d s=>setH s r (some (.map (es++[(n,c,d,clock)]) (Nat.succ clock))) fun s=>sideK (.tu 2 (Nat.add d (Nat.shiftLeft (code (Nat.add clock 9223372036854775808) 1) 128))) s k)
  (fun i=>fun es clock r n c _ _ s k=>optR (es[i]?) fun e=>setH s r (some (.map (es.modify i fun e=>(n,c,e.2.2.1,e.2.2.2)) clock)) fun s=>sideK (.tu 2 (Nat.add e.2.2.1 (Nat.shiftLeft (code (Nat.add e.2.2.2 9223372036854775808) 1) 128))) s k) x0
noncomputable def entT  (x0:AV):AV→Program→TypeId→St→(Nat→St→R)→R:=AV.rec (motive:=fun _=>AV→Program→TypeId→St→(Nat→St→R)→R)
  (fun _=>fun _ _ _ _ _=>bad)
  (fun _=>fun _ _ _ _ _=>bad)
  (fun _ _=>fun _ _ _ _ _=>bad)
  (fun _ _ _ _=>fun _ _ _ _ _=>bad)
  (fun r=>fun j P t s k=>mapK s r fun es clock=>Bool.rec bad (keyK P t j fun n c m sh=>optR (mapP P t) fun KE=>findC n c m sh es 0 fun i=>entK i es clock r n c P KE.2 s k) (Nat.blt clock 16777216))
  (fun _ _ _ _ _=>bad)
  (fun _=>fun _ _ _ _ _=>bad)
  (fun _=>fun _ _ _ _ _=>bad)
  (fun _ _ _ _ _=>fun _ _ _ _ _=>bad)
  (fun _ _=>fun _ _ _ _ _=>bad)
  (fun _ _=>fun _ _ _ _ _=>bad)
  (fun _ _=>fun _ _ _ _ _=>bad)
  (fun _ _ _=>fun _ _ _ _ _=>bad) x0
noncomputable def bornC (b:Nat) (x0:List (Nat×Nat×Nat×Nat)):Nat→Option Nat:=List.rec (motive:=fun _=>Nat→Option Nat)
  (fun _=>none)
  (fun e l ih=>fun i=>Bool.rec (ih (Nat.succ i)) (some i) (Nat.beq e.2.2.2 b)) x0
noncomputable def stampT  (x0:AV):Option Nat:=AV.rec (motive:=fun _=>Option Nat)
  (fun p=>Bool.rec none (some (Nat.sub p 9223372036854775808)) (Nat.ble 9223372036854775808 p))
  (fun _=>none)
  (fun _ _=>none)
  (fun _ _ _ _=>none)
  (fun _=>none)
  (none)
  (fun _=>none)
  (fun _=>none)
  (fun _ _ _ _ _=>none)
  (fun _ _=>none)
  (fun _ _=>none)
  (fun _ _=>none)
  (fun _ _ _=>none) x0
noncomputable def entSt  (x0:AV):Nat→Nat→St→(Nat→St→R)→R:=AV.rec (motive:=fun _=>Nat→Nat→St→(Nat→St→R)→R)
  (fun _=>fun _ _ _ _=>bad)
  (fun _=>fun _ _ _ _=>bad)
  (fun _ _=>fun _ _ _ _=>bad)
  (fun _ _ _ _=>fun _ _ _ _=>bad)
  (fun r=>fun b d s k=>mapK s r fun es clock=>optR (bornC b es 0) fun i=>setH s r (some (.map (es.modify i fun e=>(e.1,e.2.1,d,e.2.2.2)) clock)) fun s=>k 0 s)
  (fun _ _ _ _=>bad)
  (fun _=>fun _ _ _ _=>bad)
  (fun _=>fun _ _ _ _=>bad)
  (fun _ _ _ _ _=>fun _ _ _ _=>bad)
  (fun _ _=>fun _ _ _ _=>bad)
  (fun _ _=>fun _ _ _ _=>bad)
  (fun _ _=>fun _ _ _ _=>bad)
  (fun _ _ _=>fun _ _ _ _=>bad) x0
noncomputable def elemsT  (x0:AV):Nat→Nat→St→(Nat→Nat→St→R)→R:=AV.rec (motive:=fun _=>Nat→Nat→St→(Nat→Nat→St→R)→R)
  (fun _=>fun _ _ _ _=>bad)
  (fun _=>fun _ _ _ _=>bad)
  (fun _ _=>fun _ _ _ _=>bad)
  (fun r o m _=>fun z n s k=>rdK s r fun _ q c=>Bool.rec bad (Bool.rec bad (k (Nat.mul n z) (dgs c o (Nat.mul n z)) s) (Nat.ble (Nat.add o (Nat.mul n z)) q)) (Nat.ble n m))
  (fun _=>fun _ _ _ _=>bad)
  (fun _ n s k=>Nat.rec (k 0 0 s) (fun _ _=>bad) n)
  (fun _=>fun _ _ _ _=>bad)
  (fun z0=>match z0 with | (.slice none _ _)=>fun _ n s k=>Nat.rec (k 0 0 s) (fun _ _=>bad) n | _=>fun _ _ _ _=>bad)
  (fun _ _ _ _ _=>fun _ _ _ _=>bad)
  (fun _ _=>fun _ _ _ _=>bad)
  (fun _ _=>fun _ _ _ _=>bad)
  (fun _ _=>fun _ _ _ _=>bad)
  (fun _ _ _=>fun _ _ _ _=>bad) x0
noncomputable def growK (E:TypeId) (z m n₁ c₁ n₂ c₂:Nat) (s:St) (k:Nat→St→R):R :=
 Bool.rec bad (newRow E (Nat.add n₁ n₂) (Nat.add c₁ (Nat.shiftLeft c₂ (Nat.mul n₁ 128))) s fun r s=>enc (.sl r 0 m 0) s k) (Nat.blt 0 z)
noncomputable def appT  (x0:AV):TypeId→Nat→Nat→Nat→Nat→St→(Nat→St→R)→R:=AV.rec (motive:=fun _=>TypeId→Nat→Nat→Nat→Nat→St→(Nat→St→R)→R)
  (fun _=>fun _ _ _ _ _ _ _=>bad)
  (fun _=>fun _ _ _ _ _ _ _=>bad)
  (fun _ _=>fun _ _ _ _ _ _ _=>bad)
  (fun r o n c=>fun E z m n₂ c₂ s k=>Nat.rec (motive:=fun _=>R)       (Nat.rec (motive:=fun _=>R) (enc (.sl r o n 0) s k) (fun _ _=>Bool.rec (sameE s r E (elemsT (.sl r o n 0) z n s fun n₁ c₁ s=>setH s r none fun s=>growK E z (Nat.add n m) n₁ c₁ n₂ c₂ s k))         (setCells r (Nat.add o (Nat.mul n z)) n₂ c₂ s fun s=>enc (.sl r o (Nat.add n m) 0) s k) (Nat.ble (Nat.add n m) (roomR o n E z (rowT (s.heap.get r))))) m)       (fun c _=>Bool.rec (elemsT (.sl r o n c) z n s fun n₁ c₁ s=>growK E z (Nat.add n m) n₁ c₁ n₂ c₂ s k)         (setCells r (Nat.add o (Nat.mul n z)) n₂ c₂ s fun s=>enc (.sl r o (Nat.add n m) (Nat.succ c)) s k) (Nat.ble (Nat.add n m) c)) c)
  (fun _=>fun _ _ _ _ _ _ _=>bad)
  (fun _ _ _ _ _ _ _=>bad)
  (fun _=>fun _ _ _ _ _ _ _=>bad)
  (fun z0=>match z0 with | (.slice none 0 0)=>fun E z m n₂ c₂ s k=>Nat.rec (motive:=fun _=>R) (enc (.x (.slice none 0 0)) s k) (fun _ _=>growK E z m 0 0 n₂ c₂ s k) m | _=>fun _ _ _ _ _ _ _=>bad)
  (fun _ _ _ _ _=>fun _ _ _ _ _ _ _=>bad)
  (fun _ _=>fun _ _ _ _ _ _ _=>bad)
  (fun _ _=>fun _ _ _ _ _ _ _=>bad)
  (fun _ _=>fun _ _ _ _ _ _ _=>bad)
  (fun _ _ _=>fun _ _ _ _ _ _ _=>bad) x0
noncomputable def appK (P:Program) (t:TypeId) (a x:AV) (s:St) (k:Nat→St→R):R :=
 optR (sliceP P t) fun E=>Bool.rec bad (optR (sizeP P E) fun z=>optR (lenS x) fun m=>elemsT x z m s fun n₂ c₂ s=>appT a E z m n₂ c₂ s k) (infoOK P E)
noncomputable def copyT  (x0:AV):Nat→Nat→Nat→St→(Nat→St→R)→R:=AV.rec (motive:=fun _=>Nat→Nat→Nat→St→(Nat→St→R)→R)
  (fun _=>fun m _ _ s k=>Nat.rec (nat1 0 s k) (fun _ _=>bad) m)
  (fun _=>fun m _ _ s k=>Nat.rec (nat1 0 s k) (fun _ _=>bad) m)
  (fun _ _=>fun m _ _ s k=>Nat.rec (nat1 0 s k) (fun _ _=>bad) m)
  (fun r o _ _=>fun m n₂ c₂ s k=>setCells r o n₂ c₂ s fun s=>nat1 m s k)
  (fun _=>fun m _ _ s k=>Nat.rec (nat1 0 s k) (fun _ _=>bad) m)
  (fun m _ _ s k=>Nat.rec (nat1 0 s k) (fun _ _=>bad) m)
  (fun _=>fun m _ _ s k=>Nat.rec (nat1 0 s k) (fun _ _=>bad) m)
  (fun _=>fun m _ _ s k=>Nat.rec (nat1 0 s k) (fun _ _=>bad) m)
  (fun _ _ _ _ _=>fun m _ _ s k=>Nat.rec (nat1 0 s k) (fun _ _=>bad) m)
  (fun _ _=>fun m _ _ s k=>Nat.rec (nat1 0 s k) (fun _ _=>bad) m)
  (fun _ _=>fun m _ _ s k=>Nat.rec (nat1 0 s k) (fun _ _=>bad) m)
  (fun _ _=>fun m _ _ s k=>Nat.rec (nat1 0 s k) (fun _ _=>bad) m)
  (fun _ _ _=>fun m _ _ s k=>Nat.rec (nat1 0 s k) (fun _ _=>bad) m) x0
noncomputable def copyK (P:Program) (t:TypeId) (a x:AV) (s:St) (k:Nat→St→R):R :=
 optR (sliceP P t) fun E=>optR (sizeP P E) fun z=>optR (lenS x) fun m=>optR (lenS a) fun n=>elemsT x z (Nat.min m n) s fun n₂ c₂ s=>copyT a (Nat.min m n) n₂ c₂ s k
noncomputable def clearT  (x0:AV):Program→TypeId→St→(Nat→St→R)→R:=AV.rec (motive:=fun _=>Program→TypeId→St→(Nat→St→R)→R)
  (fun _=>fun _ _ _ _=>bad)
  (fun _=>fun _ _ _ _=>bad)
  (fun _ _=>fun _ _ _ _=>bad)
  (fun r o n _=>fun P t s k=>optR (sliceP P t) fun E=>zeroK P E s fun m z s=>setCells r o (Nat.mul n m) (reps m z n) s fun s=>k 0 s)
  (fun r=>fun P t s k=>optR (P.underlying t) fun _=>mapK s r fun _ clock=>setH s r (some (.map [] clock)) fun s=>k 0 s)
  (fun P t s k=>optR (P.underlying t) fun _=>k 0 s)
  (fun _=>fun _ _ _ _=>bad)
  (fun z0=>match z0 with | (.slice none _ _)=>fun P t s k=>optR (P.underlying t) fun _=>k 0 s | (.map none)=>fun P t s k=>optR (P.underlying t) fun _=>k 0 s | _=>fun _ _ _ _=>bad)
  (fun _ _ _ _ _=>fun _ _ _ _=>bad)
  (fun _ _=>fun _ _ _ _=>bad)
  (fun _ _=>fun _ _ _ _=>bad)
  (fun _ _=>fun _ _ _ _=>bad)
  (fun _ _ _=>fun _ _ _ _=>bad) x0
noncomputable def delK  (x0:Option Nat):List (Nat×Nat×Nat×Nat)→Nat→Nat→St→(Nat→St→R)→R:=Option.rec (motive:=fun _=>List (Nat×Nat×Nat×Nat)→Nat→Nat→St→(Nat→St→R)→R)
  (fun _ _ _ s k=>k 0 s)
  (fun i=>fun es clock r s k=>setH s r (some (.map (es.eraseIdx i) clock)) fun s=>k 0 s) x0
noncomputable def mapG (o:Option AO):Option (Nat×Nat) :=
 match o with
 | some (.gh g (.mpV it))=>some (g,it)
 | _=>none
noncomputable def delV (r:Nat) (j:AV) (P:Program) (t:TypeId) (s:St) (k:Nat→St→R) (y:Nat×Nat):R :=
 optR (curG (s.heap.get y.2)) fun z=>keyK P t j fun n c m sh =>
  Bool.rec bad (setH s r (some (.gh y.1 (.mpX y.2 z.2.2.2))) fun s=>k 0 s)
   (Bool.and (Bool.and (Nat.beq z.1 y.1) (Nat.beq z.2.1 r)) (Bool.and (Bool.and (Nat.beq z.2.2.2.1 n) (Nat.beq z.2.2.2.2.1 c)) (Bool.and (kindK n m sh z.2.2.1) (diffK z.2.2.1))))
noncomputable def delO (r:Nat) (j:AV) (P:Program) (t:TypeId) (s:St) (k:Nat→St→R):R:=mapK s r fun es clock=>keyK P t j fun n c m sh=>findC n c m sh es 0 fun i=>delK i es clock r s k
noncomputable def delT  (x0:AV):AV→Program→TypeId→St→(Nat→St→R)→R:=AV.rec (motive:=fun _=>AV→Program→TypeId→St→(Nat→St→R)→R)
  (fun _=>fun _ _ _ _ _=>bad)
  (fun _=>fun _ _ _ _ _=>bad)
  (fun _ _=>fun _ _ _ _ _=>bad)
  (fun _ _ _ _=>fun _ _ _ _ _=>bad)
  (fun r=>fun j P t s k=>Option.rec (motive:=fun _=>R) (delO r j P t s k) (fun y=>delV r j P t s k y) (mapG (s.heap.get r)))
  (fun _ _ _ _ _=>bad)
  (fun _=>fun _ _ _ _ _=>bad)
  (fun _=>fun _ _ _ _ _=>bad)
  (fun _ _ _ _ _=>fun _ _ _ _ _=>bad)
  (fun _ _=>fun _ _ _ _ _=>bad)
  (fun _ _=>fun _ _ _ _ _=>bad)
  (fun _ _=>fun _ _ _ _ _=>bad)
  (fun _ _ _=>fun _ _ _ _ _=>bad) x0
noncomputable def two:List Operand→Option (Operand×Operand)
 | [x,y]=>some (x,y)
 | _=>none
noncomputable def one:List Operand→Option Operand
 | [x]=>some x
 | _=>none
noncomputable def head  (x0:List TypeId):Option TypeId:=List.rec (motive:=fun _=>Option TypeId)
  (none)
  (fun t _ ih=>some t) x0
noncomputable def sameT  (x0:List TypeId):Option TypeId:=List.rec (motive:=fun _=>Option TypeId)
  (none)
  (fun t l ih=>List.rec (motive:=fun _=>Option TypeId) none (fun u m _=>List.rec (motive:=fun _=>Option TypeId) (Bool.rec none (some t) (Nat.beq t u)) (fun _ _ _=>none) m) l) x0
noncomputable def intD:TypeDesc→Bool
 | .int .i64=>true
 | _=>false
noncomputable def isStr:TypeDesc→Bool
 | .string=>true
 | _=>false
noncomputable def twoT (P:Program) (f:TypeDesc→Bool) (x0:List TypeId):Option TypeId:=List.rec (motive:=fun _=>Option TypeId)
  (none)
  (fun t l ih=>List.rec (motive:=fun _=>Option TypeId) none (fun u m _=>List.rec (motive:=fun _=>Option TypeId) ((P.underlying u).bind fun d=>Bool.rec none (some t) (f d)) (fun _ _ _=>none) m) l) x0
noncomputable def growN (P:Program) (t:TypeId) (a b:AV) (s:St) (k:Nat→St→R):R :=
 optR (sliceP P t) fun E=>Bool.rec bad (optR (sizeP P E) fun z=>idxK b 16777216 fun m=>zeroK P E s fun n c s=>Bool.rec bad (okN (Nat.mul m z) (appT a E z m (Nat.mul m z) (reps z c m) s k)) (Nat.beq n z)) (infoOK P E)
noncomputable def byteL (b:ByteArray):List Value:=b.data.toList.map fun c=>.int .u8 c.toNat
noncomputable def appStr (P:Program) (t:TypeId) (a:AV) (b:ByteArray) (s:St) (k:Nat→St→R):R :=
 optR (sliceP P t) fun E=>Bool.rec bad (optR (sizeP P E) fun z=>encs (byteL b) s 0 0 fun n c s=>Bool.rec bad (appT a E 1 n n c s k) (Nat.beq z 1)) (infoOK P E)
noncomputable def appV:Value→Program→List TypeId→AV→St→(Nat→St→R)→R
 | .string b=>fun P ts a s k=>optR (twoT P isStr ts) fun t=>appStr P t a b s k
 | v=>fun P ts a s k=>optR (sameT ts) fun t=>appK P t a (.x v) s k
noncomputable def ptrT' (P:Program) (t:TypeId):Option TypeId:=(P.underlying t).bind ptrT
noncomputable def byteD:TypeDesc→Bool
 | .int .u8=>true
 | _=>false
noncomputable def byteP (P:Program) (t:TypeId):Bool:=((P.underlying t).map byteD).getD false
noncomputable def castT:TypeDesc→TypeDesc→Nat→TypeId→Nat→Program→Bool
 | .pointer t,.unsafePointer,o,E,n,P=>Bool.and (Nat.blt o n) (Option.rec (motive:=fun _=>Bool) false (fun z=>Nat.blt 0 z) (sizeP P t))
 | .unsafePointer,.pointer u,o,E,n,P=>Bool.and (Bool.and (Nat.beq E u) (Nat.beq E castE)) (Bool.and (Nat.beq o 0) (Bool.and (Nat.blt 0 (P.cellsOf E)) (Nat.ble (P.cellsOf E) n)))
 | _,_,_,_,_,_=>false
noncomputable def castK (a b:TypeId) (r o:Nat) (P:Program) (s:St) (k:Nat→St→R):R :=
 rowK s r fun E n _=>optR (P.underlying a) fun d=>optR (P.underlying b) fun d'=>Bool.rec bad (enc (.pt r o) s k) (castT d d' o E n P)
noncomputable def bytesK (P:Program) (t:TypeId) (b:ByteArray) (s:St) (k:Nat→St→R):R :=
 optR (sliceP P t) fun E=>Bool.rec bad (encs (byteL b) s 0 0 fun n c s=>okN n (alloc s (.ro E n c) fun r s=>enc (.sl r 0 n 0) s k)) (Bool.and (Nat.beq (P.cellsOf E) 1) (Bool.and (byteP P E) (infoOK P E)))
noncomputable def convV:Value→TypeId→TypeId→Program→St→(Nat→St→R)→R
 | .string z=>fun a b P s k=>Option.rec (motive:=fun _=>R) (lit1K P (convert a b) (.x (.string z)) s k) (fun _=>optR (P.underlying a) fun _=>bytesK P b z s k) (sliceP P b)
 | v=>fun a b P s k=>lit1K P (convert a b) (.x v) s k
noncomputable def convT  (x0:AV):TypeId→TypeId→Program→St→(Nat→St→R)→R:=AV.rec (motive:=fun _=>TypeId→TypeId→Program→St→(Nat→St→R)→R)
  (fun z0=>fun a b P s k=>lit1K P (convert a b) (AV.i z0) s k)
  (fun z0=>fun a b P s k=>lit1K P (convert a b) (AV.b z0) s k)
  (fun r o=>fun a b P s k=>castK a b r o P s k)
  (fun z0 z1 z2 z3=>fun a b P s k=>lit1K P (convert a b) (AV.sl z0 z1 z2 z3) s k)
  (fun z0=>fun a b P s k=>lit1K P (convert a b) (AV.mp z0) s k)
  (fun a b P s k=>lit1K P (convert a b) (AV.em) s k)
  (fun z0=>fun a b P s k=>lit1K P (convert a b) (AV.yd z0) s k)
  (fun v=>fun a b P s k=>convV v a b P s k)
  (fun z0 z1 z2 z3 z4=>fun a b P s k=>lit1K P (convert a b) (AV.fn z0 z1 z2 z3 z4) s k)
  (fun z0 z1=>fun a b P s k=>lit1K P (convert a b) (AV.ag z0 z1) s k)
  (fun z0 z1=>fun a b P s k=>lit1K P (convert a b) (AV.tu z0 z1) s k)
  (fun z0 z1=>fun a b P s k=>lit1K P (convert a b) (AV.sy z0 z1) s k)
  (fun z0 z1 z2=>fun a b P s k=>lit1K P (convert a b) (AV.ym z0 z1 z2) s k) x0
noncomputable def dataT  (x0:AV):St→(Nat→St→R)→R:=AV.rec (motive:=fun _=>St→(Nat→St→R)→R)
  (fun _=>fun _ _=>bad)
  (fun _=>fun _ _=>bad)
  (fun _ _=>fun _ _=>bad)
  (fun r o n _=>fun s k=>Nat.rec (motive:=fun _=>R) bad (fun _ _=>enc (.pt r o) s k) n)
  (fun _=>fun _ _=>bad)
  (fun _ _=>bad)
  (fun _=>fun _ _=>bad)
  (fun _=>fun _ _=>bad)
  (fun _ _ _ _ _=>fun _ _=>bad)
  (fun _ _=>fun _ _=>bad)
  (fun _ _=>fun _ _=>bad)
  (fun _ _=>fun _ _=>bad)
  (fun _ _ _=>fun _ _=>bad) x0
noncomputable def byteV:Value→Option UInt8
 | .int .u8 (.ofNat n)=>some n.toUInt8
 | _=>none
noncomputable def bytesV  (x0:List Value):Option (List UInt8):=List.rec (motive:=fun _=>Option (List UInt8))
  (some [])
  (fun v l ih=>(byteV v).bind fun b=>(ih).map fun l=>b::l) x0
noncomputable def ustrT  (x0:AV):AV→TypeId→Program→St→(Nat→St→R)→R:=AV.rec (motive:=fun _=>AV→TypeId→Program→St→(Nat→St→R)→R)
  (fun _=>fun _ _ _ _ _=>bad)
  (fun _=>fun _ _ _ _ _=>bad)
  (fun r o=>fun m t P s k=>rowK s r fun E n c=>idxK m 16777216 fun m=>optR (ptrT' P t) fun e=>Bool.rec bad (optR (lits s.side (codes c m o)) fun vs=>optR (bytesV vs) fun l=>setH s r none fun s=>enc (.x (.string ⟨l.toArray⟩)) s k)       (Bool.and (Bool.and (Nat.beq E e) (Nat.beq (P.cellsOf e) 1)) (Bool.and (Nat.blt 0 m) (Nat.ble (Nat.add o m) n))))
  (fun _ _ _ _=>fun _ _ _ _ _=>bad)
  (fun _=>fun _ _ _ _ _=>bad)
  (fun _ _ _ _ _=>bad)
  (fun _=>fun _ _ _ _ _=>bad)
  (fun _=>fun _ _ _ _ _=>bad)
  (fun _ _ _ _ _=>fun _ _ _ _ _=>bad)
  (fun _ _=>fun _ _ _ _ _=>bad)
  (fun _ _=>fun _ _ _ _ _=>bad)
  (fun _ _=>fun _ _ _ _ _=>bad)
  (fun _ _ _=>fun _ _ _ _ _=>bad) x0
noncomputable def appU  (x0:AV):Program→List TypeId→AV→St→(Nat→St→R)→R:=AV.rec (motive:=fun _=>Program→List TypeId→AV→St→(Nat→St→R)→R)
  (fun p=>fun P ts a s k=>optR (twoT P intD ts) fun t=>growN P t a (.i p) s k)
  (fun z0=>fun P ts a s k=>optR (sameT ts) fun t=>appK P t a (AV.b z0) s k)
  (fun z0 z1=>fun P ts a s k=>optR (sameT ts) fun t=>appK P t a (AV.pt z0 z1) s k)
  (fun z0 z1 z2 z3=>fun P ts a s k=>optR (sameT ts) fun t=>appK P t a (AV.sl z0 z1 z2 z3) s k)
  (fun z0=>fun P ts a s k=>optR (sameT ts) fun t=>appK P t a (AV.mp z0) s k)
  (fun P ts a s k=>optR (sameT ts) fun t=>appK P t a (AV.em) s k)
  (fun z0=>fun P ts a s k=>optR (sameT ts) fun t=>appK P t a (AV.yd z0) s k)
  (fun v=>fun P ts a s k=>appV v P ts a s k)
  (fun z0 z1 z2 z3 z4=>fun P ts a s k=>optR (sameT ts) fun t=>appK P t a (AV.fn z0 z1 z2 z3 z4) s k)
  (fun z0 z1=>fun P ts a s k=>optR (sameT ts) fun t=>appK P t a (AV.ag z0 z1) s k)
  (fun z0 z1=>fun P ts a s k=>optR (sameT ts) fun t=>appK P t a (AV.tu z0 z1) s k)
  (fun z0 z1=>fun P ts a s k=>optR (sameT ts) fun t=>appK P t a (AV.sy z0 z1) s k)
  (fun z0 z1 z2=>fun P ts a s k=>optR (sameT ts) fun t=>appK P t a (AV.ym z0 z1 z2) s k) x0
noncomputable def appX (P:Program) (xs:List Operand) (ts:List TypeId) (s:St) (k:Nat→St→R):R :=
 optR (two xs) fun x=>evK x.1 s fun a=>evK x.2 s fun b=>appU b P ts a s k
noncomputable def two' (P:Program) (f:Program→TypeId→AV→AV→St→(Nat→St→R)→R) (xs:List Operand) (ts:List TypeId) (s:St) (k:Nat→St→R):R :=
 optR (two xs) fun x=>optR (head ts) fun t=>evK x.1 s fun a=>evK x.2 s fun b=>f P t a b s k
noncomputable def biT  (x0:Builtin):Program→List Operand→List TypeId→St→(Nat→St→R)→R:=Builtin.rec (motive:=fun _=>Program→List Operand→List TypeId→St→(Nat→St→R)→R)
  (fun P xs ts s k=>appX P xs ts s k)
  (fun P xs ts s k=>qCap P xs ts s k)
  (fun P xs ts s k=>optR (one xs) fun x=>optR (head ts) fun t=>evK x s fun a=>clearT a P t s k)
  (fun _ _ _ _ _=>bad)
  (fun _ _ _ _ _=>bad)
  (fun P xs ts s k=>two' P copyK xs ts s k)
  (fun P xs ts s k=>two' P (fun P t a b s k=>delT a b P t s k) xs ts s k)
  (fun _ _ _ _ _=>bad)
  (fun P xs ts s k=>qLen P xs ts s k)
  (fun _ _ _ _ _=>bad)
  (fun P xs _ s k=>qLits P (Builtin.max_ #[] 0) xs s k)
  (fun P xs _ s k=>qLits P (Builtin.min_ #[] 0) xs s k)
  (fun _ _ _ _ _=>bad)
  (fun _ _ _ _ _=>bad)
  (fun _ _ _ _ _=>bad)
  (fun _ _ _ _ _=>bad)
  (fun _ _ _ _ _=>bad)
  (fun _ _ _ _ _=>bad)
  (fun _ _ _ _ _=>bad)
  (fun _ _ _ _ _=>bad)
  (fun _ xs _ s k=>optR (one xs) fun x=>evK x s fun a=>dataT a s k)
  (fun P xs ts s k=>optR (two xs) fun x=>optR (head ts) fun t=>evK x.1 s fun a=>evK x.2 s fun b=>ustrT a b t P s k)
  (fun _ _ _ _ _=>bad)
  (fun _ _ _ _ _=>bad)
  (fun _ _ _ _ _=>bad)
  (fun _ _ _ _ _=>bad) x0
abbrev CallR:=AV→Nat→Nat→St→(Nat→St→R)→R
noncomputable def noBody (P:Program) (g:Nat):Bool:=Option.rec (motive:=fun _=>Bool) false (fun fn=>fn.body.isNone) (P.funcs[g]?)
noncomputable def isExt (P:Program) (x0:AV):Bool:=AV.rec (motive:=fun _=>Bool)
  (fun _=>false)
  (fun _=>false)
  (fun _ _=>false)
  (fun _ _ _ _=>false)
  (fun _=>false)
  (false)
  (fun _=>false)
  (fun _=>false)
  (fun f n _ m _=>match f with     | .func g=>Bool.rec false (noBody P g) (Nat.beq (Nat.add n m) 0)     | _=>false)
  (fun _ _=>false)
  (fun _ _=>false)
  (fun _ _=>false)
  (fun _ _ _=>false) x0
noncomputable def fnNum  (x0:AV):Nat:=AV.rec (motive:=fun _=>Nat)
  (fun _=>0)
  (fun _=>0)
  (fun _ _=>0)
  (fun _ _ _ _=>0)
  (fun _=>0)
  (0)
  (fun _=>0)
  (fun _=>0)
  (fun z0 z1 z2 z3 z4=>match z0,z1,z2,z3,z4 with | (.func g),_,_,_,_=>g | _,_,_,_,_=>0)
  (fun _ _=>0)
  (fun _ _=>0)
  (fun _ _=>0)
  (fun _ _ _=>0) x0
noncomputable def extV:Next→Option Value
 | .value v=>some v
 | _=>none
noncomputable def noEsc (P:Program) (g:Nat):Bool:=Option.rec (motive:=fun _=>Bool) false (fun fn=>Bool.and (fn.name == "internal/abi.NoEscape") (fn.origin == "")) (P.funcs[g]?)
noncomputable def extP:Option AV→Nat→Bool
 | some (.pt _ _),1=>true
 | _,_=>false
noncomputable def extL (f:AV) (n c:Nat) (P:Program) (s:St) (k:Nat→St→R):R :=
 optR (lits s.side (codes c n 0)) fun vs=>optR (runP P (callFunc (fnNum f) vs.toArray)) fun nx=>optR (extV nx) fun v=>enc (AV.of v) s k
noncomputable def extK (f:AV) (n c:Nat) (P:Program) (s:St) (k:Nat→St→R):R :=
 Bool.rec (extL f n c P s k) (Bool.rec bad (k c s) (noEsc P (fnNum f))) (extP (dec c s.side) n)
noncomputable def calleeT  (x0:Callee):CallR→Program→List Operand→List TypeId→St→(Nat→St→R)→R:=Callee.rec (motive:=fun _=>CallR→Program→List Operand→List TypeId→St→(Nat→St→R)→R)
  (fun f=>fun call P xs _ s k=>evsC xs s 0 0 fun n c s=>evK f s fun f=>Bool.rec (call f n c s k) (extK f n c P s k) (isExt P f))
  (fun _ _=>fun _ _ _ _ _ _=>bad)
  (fun b=>fun _ P xs ts s k=>biT b P xs ts s k) x0
noncomputable def opx  (x0:Op):CallR→Program→St→(Nat→St→R)→R:=Op.rec (motive:=fun _=>CallR→Program→St→(Nat→St→R)→R)
  (fun x=>fun _ _ s k=>evC x s k)
  (fun x=>fun _ _ s k=>evC x s k)
  (fun c a b=>fun _ _ s k=>evK c s fun c=>pickT c a b s k)
  (fun t=>fun _ P s k=>xAlloc P t s k)
  (fun t x=>fun _ _ s k=>xBox t x s k)
  (fun t parts=>fun _ P s k=>xBuild P t parts.toList s k)
  (fun t len parts=>fun _ P s k=>xBuildSlice P t len parts.toList s k)
  (fun t m key x=>fun _ P s k=>xUpdate P t m key x s k)
  (fun t x=>fun _ P s k=>evK x s fun a=>loadT a P t s k)
  (fun t a x=>fun _ P s k=>xStore P t a x s k)
  (fun _=>fun _ _ _ _=>bad)
  (fun _=>fun _ _ _ _=>bad)
  (fun x=>fun _ _ s k=>evC x s fun c s=>evK x s fun a=>nilCheckT a c s k)
  (fun o t x y _=>fun _ P s k=>qBin P o t x y s k)
  (fun o _ x=>fun _ P s k=>evK x s fun a=>unT o a P s k)
  (fun a b x=>fun _ P s k=>evK x s fun v=>Bool.rec (lit1K P (convert a b) v s k) (convT v a b P s k) (loud a))
  (fun _ _=>fun _ _ _ _=>bad)
  (fun t x=>fun _ P s k=>evK x s fun a=>lit1K P (Instr.makeInterface t) a s k)
  (fun f first caps=>fun _ _ s k=>qFunc f first.toList caps.toList s k)
  (fun z0 z1=>match z0,z1 with | _,none=>fun _ _ s k=>alloc s (.map [] 0) fun r s=>enc (.mp r) s k | _,_=>fun _ _ _ _=>bad)
  (fun _ _=>fun _ _ _ _=>bad)
  (fun t l c=>fun _ P s k=>xMakeSlice P t l c s k)
  (fun t x lo hi mx=>fun _ P s k=>evK x s fun a=>sliceT' a P t lo hi mx s k)
  (fun t x i=>fun _ P s k=>evK x s fun a=>fieldAddrT a P t i s k)
  (fun t x i=>fun _ P s k=>evK x s fun a=>fieldT a P t i s k)
  (fun t x i=>fun _ P s k=>evK x s fun a=>evK i s fun j=>indexAddrT a j P t s k)
  (fun t x i=>fun _ P s k=>evK x s fun a=>evK i s fun j=>indexT a j P t s k)
  (fun t x i ok=>fun _ P s k=>evK x s fun a=>evK i s fun j=>lookupT a j ok P t s k)
  (fun t m key x=>fun _ P s k=>xUpdate P t m key x s k)
  (fun t m key=>fun _ P s k=>evK key s fun j=>evK m s fun a=>entT a j P t s k)
  (fun _ m st x=>fun _ _ s k=>evC x s fun d s=>evK st s fun b=>optR (stampT b) fun b=>evK m s fun a=>entSt a b d s k)
  (fun t x=>fun _ P s k=>optR (mapP P t) fun _=>evK x s fun a=>rangeT a s k)
  (fun z0 z1=>match z0,z1 with | x,false=>fun _ _ s k=>evK x s fun a=>nextT a s k | _,_=>fun _ _ _ _=>bad)
  (fun x=>fun _ _ s k=>evK x s fun a=>entryT a s k)
  (fun _ _ _ _=>fun _ _ _ _=>bad)
  (fun x i=>fun _ _ s k=>evK x s fun a=>extractT a i s k)
  (fun c=>fun call P s k=>calleeT c.callee call P c.args.toList c.argTypes.toList s k)
  (fun _=>fun _ _ _ _=>bad)
  (fun _=>fun _ _ _ _=>bad)
  (fun _=>fun _ _ _ _=>bad)
  (fun _ _=>fun _ _ _ _=>bad)
  (fun _ _ _=>fun _ _ _ _=>bad)
  (fun _ _=>fun _ _ _ _=>bad) x0
noncomputable def guardT  (x0:Option AV):Bool→Option Bool:=Option.rec (motive:=fun _=>Bool→Option Bool)
  (fun _=>none)
  (fun z0=>match z0 with | (.b p)=>fun want=>some (bitB p == want) | (.tu 0 _)=>fun _=>some false | _=>fun _=>none) x0
noncomputable def wantedT  (x0:Option (Nat×Bool)):Array Oper→St→Option Bool:=Option.rec (motive:=fun _=>Array Oper→St→Option Bool)
  (fun _ _=>some true)
  (fun g=>fun ops s=>((ops[g.1]?).bind (·.dst)).bind fun d=>guardT (dec (dg s.env (Nat.succ d)) s.side) g.2) x0
noncomputable def op1T  (x0:Option Bool):Oper→CallR→Program→St→(St→R)→R:=Option.rec (motive:=fun _=>Oper→CallR→Program→St→(St→R)→R)
  (fun _ _ _ _ _=>bad)
  (fun z0=>match z0 with | true=>fun o call P s k=>opx o.op call P s fun c s=>putE o.dst c s k | false=>fun o _ _ s k=>sideK (.tu 0 0) s fun c s=>putE o.dst c s k) x0
noncomputable def op1 (o:Oper) (ops:Array Oper) (call:CallR) (P:Program) (s:St) (k:St→R):R:=op1T (wantedT o.guard ops s) o call P s k
noncomputable def opl  (x0:List Oper):Array Oper→CallR→Program→St→(St→R)→R:=List.rec (motive:=fun _=>Array Oper→CallR→Program→St→(St→R)→R)
  (fun _ _ _ s k=>k s)
  (fun o l ih=>fun ops call P s k=>op1 o ops call P s fun s=>ih ops call P s k) x0
structure PI where
 i:Nat
 d:Nat
 r:Nat
 w:Nat
 q:Bool
 f:Bool
 o:Oper
noncomputable def bit1 (i:Nat):Nat:=Nat.shiftLeft 1 i
noncomputable def slotT  (x0:Operand):Nat:=Operand.rec (motive:=fun _=>Nat)
  (fun t=>bit1 t)
  (fun _=>0)
  (fun _=>0)
  (fun _=>0) x0
noncomputable def readsL  (x0:List Operand):Nat:=List.rec (motive:=fun _=>Nat)
  (0)
  (fun x l ih=>Nat.lor (slotT x) (ih)) x0
noncomputable def dstM  (x0:Option Nat):Nat:=Option.rec (motive:=fun _=>Nat)
  (0)
  (fun d=>bit1 d) x0
noncomputable def guardM  (x0:Option (Nat×Bool)):Array Oper→Nat:=Option.rec (motive:=fun _=>Array Oper→Nat)
  (fun _=>0)
  (fun g=>fun ops=>dstM ((ops[g.1]?).bind (·.dst))) x0
noncomputable def depsL  (x0:List Edge):Nat:=List.rec (motive:=fun _=>Nat)
  (0)
  (fun e l ih=>Bool.rec (ih) (Nat.lor (bit1 e.on) (ih)) (Region.binds .any e)) x0
noncomputable def fresh  (x0:Op):Bool:=Op.rec (motive:=fun _=>Bool)
  (fun _=>false)
  (fun _=>false)
  (fun _ _ _=>false)
  (fun _=>true)
  (fun _ _=>true)
  (fun _ _=>false)
  (fun _ _ _=>true)
  (fun _ _ _ _=>false)
  (fun _ _=>false)
  (fun _ _ _=>false)
  (fun _=>false)
  (fun _=>false)
  (fun _=>false)
  (fun _ _ _ _ _=>false)
  (fun _ _ _=>false)
  (fun _ _ _=>false)
  (fun _ _=>false)
  (fun _ _=>false)
  (fun _ _ _=>false)
  (fun _ _=>false)
  (fun _ _=>false)
  (fun _ _ _=>true)
  (fun _ _ _ _ _=>false)
  (fun _ _ _=>false)
  (fun _ _ _=>false)
  (fun _ _ _=>false)
  (fun _ _ _=>false)
  (fun _ _ _ _=>false)
  (fun _ _ _ _=>false)
  (fun _ _ _=>false)
  (fun _ _ _ _=>false)
  (fun _ _=>false)
  (fun _ _=>false)
  (fun _=>false)
  (fun _ _ _ _=>false)
  (fun _ _=>false)
  (fun _=>false)
  (fun _=>false)
  (fun _=>false)
  (fun _=>false)
  (fun _ _=>false)
  (fun _ _ _=>false)
  (fun _ _=>false) x0
noncomputable def piOf (ops:Array Oper) (i:Nat) (o:Oper):PI :=
 forceN (depsL o.after.toList) fun d=>forceN (Nat.lor (readsL o.op.operands.toList) (guardM o.guard ops)) fun r=>forceN (dstM o.dst) fun w=>⟨i,d,r,w,quiet o.op,Bool.and (fresh o.op) o.guard.isNone,o⟩
noncomputable def infos (ops:Array Oper) (x0:List Oper):Nat→List PI:=List.rec (motive:=fun _=>Nat→List PI)
  (fun _=>[])
  (fun o l ih=>fun i=>piOf ops i o::forceN (Nat.succ i) fun j=>ih j) x0
noncomputable def inM (m i:Nat):Bool:=Nat.beq (Nat.mod (Nat.shiftRight m i) 2) 1
noncomputable def subM (x m:Nat):Bool:=Nat.beq (Nat.land x m) x
noncomputable def freeP (m:Nat) (p:PI) (x0:List PI):Bool:=List.rec (motive:=fun _=>Bool)
  (true)
  (fun x l ih=>Bool.rec false (ih) (Bool.or (Bool.or (inM m x.i) (Nat.beq x.i p.i)) (Bool.or (inM x.d p.i) (Bool.and (Nat.beq (Nat.land p.w (Nat.lor x.r x.w)) 0) (Nat.beq (Nat.land x.w p.r) 0))))) x0
noncomputable def noneP (m i:Nat) (x0:List PI):Bool:=List.rec (motive:=fun _=>Bool)
  (true)
  (fun x l ih=>Bool.rec false (ih) (Bool.or (Bool.or (inM m x.i) (Nat.beq x.i i)) (Bool.not (subM x.d m)))) x0
inductive PS where
 | take (p:PI)
 | one (p:PI)
 | pend (p:PI)
 | flush (p:PI)
noncomputable def findP (f:PI→Bool) (x0:List PI):Option PI:=List.rec (motive:=fun _=>Option PI)
  (none)
  (fun x l ih=>Bool.rec (ih) (some x) (f x)) x0
noncomputable def readyP (m pd:Nat) (p:PI):Bool:=Bool.and (Bool.not (inM (Nat.lor m pd) p.i)) (subM p.d m)
noncomputable def takeP (l:List PI) (m pd:Nat) (p:PI):Bool:=Bool.and (Bool.and p.q (readyP m pd p)) (freeP m p l)
noncomputable def pendP (l:List PI) (m pd:Nat) (p:PI):Bool:=Bool.and (Bool.and (Bool.and p.f (Nat.beq (Nat.land p.w p.r) 0)) (readyP m pd p)) (freeP m p l)
noncomputable def oneP (l:List PI) (m pd:Nat) (p:PI):Bool:=Bool.and (readyP m pd p) (noneP (Nat.lor m pd) p.i l)
noncomputable def flushP (l:List PI) (m pd:Nat) (p:PI):Bool:=Bool.and (inM pd p.i) (noneP (Nat.xor (Nat.lor m pd) (bit1 p.i)) p.i l)
noncomputable def orP (a:Option PI) (f:PI→List PS) (b:List PS):List PS:=Option.rec (motive:=fun _=>List PS) b f a
noncomputable def genP (l : List PI) (F : Nat) : Nat → Nat → List PS :=
  Nat.rec (motive := fun _ => Nat → Nat → List PS) (fun _ _ => []) (fun _ ih m pd =>
    orP (findP (takeP l m pd) l) (fun p => .take p :: forceN (Nat.lor m (bit1 p.i)) fun m => ih m pd)
    (orP (findP (pendP l m pd) l) (fun p => .pend p :: forceN (Nat.lor pd (bit1 p.i)) fun pd => ih m pd)
    (orP (findP (oneP l m pd) l) (fun p => .one p :: forceN (Nat.lor m (bit1 p.i)) fun m => ih m pd)
    (orP (findP (flushP l m pd) l) (fun p => .flush p :: forceN (Nat.lor m (bit1 p.i)) fun m => forceN (Nat.xor pd (bit1 p.i)) fun pd => ih m pd) [])))) F
noncomputable def planOf (ops:Array Oper):List PS:=genP (infos ops ops.toList 0) (Nat.mul 2 ops.size) 0 0
noncomputable def okP (l:List PI) (n:Nat) (x0:List PS):Nat→Nat→Bool:=List.rec (motive:=fun _=>Nat→Nat→Bool)
  (fun m pd=>Bool.and (Nat.beq m (Nat.sub (Nat.pow 2 n) 1)) (Nat.beq pd 0))
  (fun x ps ih=>fun m pd=>PS.rec (motive:=fun _=>Bool)       (fun p=>Bool.rec false (forceN (Nat.lor m (bit1 p.i)) fun m=>ih m pd) (takeP l m pd p))       (fun p=>Bool.rec false (forceN (Nat.lor m (bit1 p.i)) fun m=>ih m pd) (oneP l m pd p))       (fun p=>Bool.rec false (forceN (Nat.lor pd (bit1 p.i)) fun pd=>ih m pd) (pendP l m pd p))       (fun p=>Bool.rec false (forceN (Nat.lor m (bit1 p.i)) fun m=>forceN (Nat.xor pd (bit1 p.i)) fun pd=>ih m pd) (flushP l m pd p)) x) x0
noncomputable def okR (ops:Array Oper):Bool:=okP (infos ops ops.toList 0) ops.size (planOf ops) 0 0
abbrev Wt:=List (Nat×Nat×Oper×Nat)
noncomputable def sure0 (c:Nat):Bool:=Bool.and (Nat.blt 0 (Nat.mod c 16)) (Nat.blt (Nat.mod c 16) 6)
noncomputable def sures0 (c n i:Nat):Bool:=Nat.rec (motive:=fun _=>Nat→Bool) (fun _=>true) (fun _ ih i=>Bool.rec false (ih (Nat.succ i)) (sure0 (dg c i))) n i
noncomputable def plainX  (x0:Option AV):Bool:=Option.rec (motive:=fun _=>Bool)
  (false)
  (fun z0=>match z0 with | (.x _)=>true | (.fn _ n c m d)=>Bool.rec false (sures0 d m 0) (sures0 c n 0) | _=>false) x0
noncomputable def isYm  (x0:Option AV):Bool:=Option.rec (motive:=fun _=>Bool)
  (false)
  (fun z0=>match z0 with | (.ym _ _ _)=>true | _=>false) x0
noncomputable def sureC (sd:T AV) (c:Nat):Bool:=Bool.rec (Bool.rec (Bool.rec false (isYm (sd.get 0)) (Nat.beq (Nat.mod c 16) 9)) (plainX (sd.get (Nat.div c 16))) (Nat.beq (Nat.mod c 16) 6)) true (sure0 c)
noncomputable def sures (sd:T AV) (c:Nat) (n i:Nat):Bool:=Nat.rec (motive:=fun _=>Nat→Bool) (fun _=>true) (fun _ ih i=>Bool.rec false (ih (Nat.succ i)) (sureC sd (dg c i))) n i
noncomputable def sameA (sd:T AV) (x y:Option AV):Bool :=
 match x,y with
 | some (.ag n c),some (.ag n' c')=>Bool.and (Bool.and (Nat.beq n n') (Nat.beq c c')) (sures sd c n 0)
 | some (.tu n c),some (.tu n' c')=>Bool.and (Bool.and (Nat.beq n n') (Nat.beq c c')) (sures sd c n 0)
 | _,_=>false
noncomputable def sameC (sd:T AV) (c c':Nat):Bool:=Bool.rec (sameA sd (dec c sd) (dec c' sd)) (sureC sd c) (Nat.beq c c')
noncomputable def again (call:CallR) (P:Program) (s:St) (x:Nat×Nat×Oper×Nat) (k:R):R :=
 opx x.2.2.1.op call P ⟨x.2.1,s.ds,s.heap,s.next,s.side,s.sn,s.lim⟩ fun c s'=>Bool.rec bad k (sameC s'.side x.2.2.2 c)
noncomputable def seenK (call:CallR) (P:Program) (s:St) (k:R) (x0:List (Nat×Nat×Oper×Nat)):R:=List.rec (motive:=fun _=>R)
  (k)
  (fun x l ih=>again call P s x (ih)) x0
noncomputable def hangs (o:Oper) (i:Nat):Bool:=o.after.toList.any fun e=>Region.binds .any e && Nat.beq e.on i
noncomputable def keepW (o:Oper) (x0:List (Nat×Nat×Oper×Nat)):Wt:=List.rec (motive:=fun _=>Wt)
  ([])
  (fun x l ih=>Bool.rec (x::ih) (ih) (hangs o x.1)) x0
noncomputable def keptK (call:CallR) (P:Program) (o:Oper) (wt:Wt) (s:St) (k:Wt→R):R:=seenK call P s (k (keepW o wt)) (keepW o wt)
noncomputable def reads  (x0:Op):Bool:=Op.rec (motive:=fun _=>Bool)
  (fun _=>false)
  (fun _=>false)
  (fun _ _ _=>false)
  (fun _=>false)
  (fun _ _=>false)
  (fun _ _=>false)
  (fun _ _ _=>false)
  (fun _ _ _ _=>false)
  (fun _ _=>true)
  (fun _ _ _=>false)
  (fun _=>false)
  (fun _=>false)
  (fun _=>false)
  (fun _ _ _ _ _=>false)
  (fun _ _ _=>false)
  (fun _ _ _=>false)
  (fun _ _=>false)
  (fun _ _=>false)
  (fun _ _ _=>false)
  (fun _ _=>false)
  (fun _ _=>false)
  (fun _ _ _=>false)
  (fun _ _ _ _ _=>false)
  (fun _ _ _=>false)
  (fun _ _ _=>false)
  (fun _ _ _=>false)
  (fun _ _ _=>false)
  (fun _ _ _ _=>true)
  (fun _ _ _ _=>false)
  (fun _ _ _=>false)
  (fun _ _ _ _=>false)
  (fun _ _=>false)
  (fun _ _=>false)
  (fun _=>true)
  (fun _ _ _ _=>false)
  (fun _ _=>false)
  (fun _=>true)
  (fun _=>false)
  (fun _=>false)
  (fun _=>false)
  (fun _ _=>false)
  (fun _ _ _=>false)
  (fun _ _=>false) x0
noncomputable def watch1 (call:CallR) (P:Program) (i:Nat) (o:Oper) (ops:Array Oper) (s s1:St) (wt:Wt) (k:Wt→R):R :=
 Bool.rec (k wt) (optR (wantedT o.guard ops s) fun g=>Bool.rec (k wt) (optR o.dst fun d=>again call P s1 (i,s.env,o,dg s1.env (Nat.succ d)) (k ((i,s.env,o,dg s1.env (Nat.succ d))::wt))) g) (reads o.op)
noncomputable def anyX (ops:Array Oper) (call:CallR) (P:Program) (k:St→R) (x0:List PS):Wt→St→R:=List.rec (motive:=fun _=>Wt→St→R)
  (fun _ s=>k s)
  (fun x ps ih=>fun wt s=>PS.rec (motive:=fun _=>R)       (fun p=>op1 p.o ops call P s fun s1=>watch1 call P p.i p.o ops s s1 wt fun wt=>ih wt s1)       (fun p=>op1 p.o ops call P s fun s=>keptK call P p.o wt s fun wt=>ih wt s)       (fun p=>opx p.o.op call P s fun _ _=>putE p.o.dst 0 s fun s=>ih wt s)       (fun p=>op1 p.o ops call P s fun s=>ih wt s) x) x0
noncomputable def dstN (N:Nat) (x0:Option Nat):Bool:=Option.rec (motive:=fun _=>Bool)
  (true)
  (fun d=>Nat.blt d N) x0
noncomputable def okOps (N:Nat) (x0:List Oper):Bool:=List.rec (motive:=fun _=>Bool)
  (true)
  (fun o l ih=>Bool.rec false (ih) (dstN N o.dst)) x0
noncomputable def okC (N:Nat) (c:Code):Bool :=
 Code.rec (motive:=fun _=>Bool) true (fun _ ops draw=>Bool.rec (okOps N ops.toList) (Bool.rec false (okOps N ops.toList) (noDefer ops)) draw) (fun _ _ x y=>Bool.rec false y x) (fun _ _ _ x y=>Bool.rec false y x) (fun _ _ x=>x) (fun _ x=>x)
  (fun _ ps _ _ x y=>Bool.rec false (Bool.rec false y x) (ps.all fun p=>Nat.blt p N)) (fun _=>true) (fun _ x=>x) (fun _=>true) (fun _=>true) true (fun _=>true) c
noncomputable def noRange (c:Code):Bool :=
 Code.rec (motive:=fun _=>Bool) true (fun _ _ _=>true) (fun _ _ x y=>Bool.rec false y x) (fun _ _ _ x y=>Bool.rec false y x) (fun _ _ x=>x) (fun _ x=>x)
  (fun _ _ _ _ _ _=>false) (fun _=>true) (fun _ _=>false) (fun _=>true) (fun _=>true) true (fun _=>true) c
noncomputable def isNext  (x0:Op):Bool:=Op.rec (motive:=fun _=>Bool)
  (fun _=>false)
  (fun _=>false)
  (fun _ _ _=>false)
  (fun _=>false)
  (fun _ _=>false)
  (fun _ _=>false)
  (fun _ _ _=>false)
  (fun _ _ _ _=>false)
  (fun _ _=>false)
  (fun _ _ _=>false)
  (fun _=>false)
  (fun _=>false)
  (fun _=>false)
  (fun _ _ _ _ _=>false)
  (fun _ _ _=>false)
  (fun _ _ _=>false)
  (fun _ _=>false)
  (fun _ _=>false)
  (fun _ _ _=>false)
  (fun _ _=>false)
  (fun _ _=>false)
  (fun _ _ _=>false)
  (fun _ _ _ _ _=>false)
  (fun _ _ _=>false)
  (fun _ _ _=>false)
  (fun _ _ _=>false)
  (fun _ _ _=>false)
  (fun _ _ _ _=>false)
  (fun _ _ _ _=>false)
  (fun _ _ _=>false)
  (fun _ _ _ _=>false)
  (fun _ _=>false)
  (fun _ _=>true)
  (fun _=>false)
  (fun _ _ _ _=>false)
  (fun _ _=>false)
  (fun _=>false)
  (fun _=>false)
  (fun _=>false)
  (fun _=>false)
  (fun _ _=>false)
  (fun _ _ _=>false)
  (fun _ _=>false) x0
noncomputable def nextOps  (x0:List Oper):Bool:=List.rec (motive:=fun _=>Bool)
  (false)
  (fun o l ih=>Bool.rec (ih) true (isNext o.op)) x0
noncomputable def hasNext (c:Code):Bool :=
 Code.rec (motive:=fun _=>Bool) false (fun _ ops _=>nextOps ops.toList) (fun _ _ x y=>Bool.rec y true x) (fun _ _ _ x y=>Bool.rec y true x) (fun _ _ x=>x) (fun _ x=>x)
  (fun _ _ _ _ x y=>Bool.rec y true x) (fun _=>false) (fun _ x=>x) (fun _=>false) (fun _=>false) false (fun _=>false) c
noncomputable def isApp  (x0:Op):Bool:=Op.rec (motive:=fun _=>Bool)
  (fun _=>false)
  (fun _=>false)
  (fun _ _ _=>false)
  (fun _=>false)
  (fun _ _=>false)
  (fun _ _=>false)
  (fun _ _ _=>false)
  (fun _ _ _ _=>false)
  (fun _ _=>false)
  (fun _ _ _=>false)
  (fun _=>false)
  (fun _=>false)
  (fun _=>false)
  (fun _ _ _ _ _=>false)
  (fun _ _ _=>false)
  (fun _ _ _=>false)
  (fun _ _=>false)
  (fun _ _=>false)
  (fun _ _ _=>false)
  (fun _ _=>false)
  (fun _ _=>false)
  (fun _ _ _=>false)
  (fun _ _ _ _ _=>false)
  (fun _ _ _=>false)
  (fun _ _ _=>false)
  (fun _ _ _=>false)
  (fun _ _ _=>false)
  (fun _ _ _ _=>false)
  (fun _ _ _ _=>false)
  (fun _ _ _=>false)
  (fun _ _ _ _=>false)
  (fun _ _=>false)
  (fun _ _=>false)
  (fun _=>false)
  (fun _ _ _ _=>false)
  (fun _ _=>false)
  (fun c=>match c.callee with     | .builtin .append=>true     | _=>false)
  (fun _=>false)
  (fun _=>false)
  (fun _=>false)
  (fun _ _=>false)
  (fun _ _ _=>false)
  (fun _ _=>false) x0
noncomputable def appOps  (x0:List Oper):Bool:=List.rec (motive:=fun _=>Bool)
  (false)
  (fun o l ih=>Bool.rec (ih) true (isApp o.op)) x0
noncomputable def hasApp (c:Code):Bool :=
 Code.rec (motive:=fun _=>Bool) false (fun _ ops _=>appOps ops.toList) (fun _ _ x y=>Bool.rec y true x) (fun _ _ _ x y=>Bool.rec y true x) (fun _ _ x=>x) (fun _ x=>x)
  (fun _ _ _ _ x y=>Bool.rec y true x) (fun _=>false) (fun _ x=>x) (fun _=>false) (fun _=>false) false (fun _=>false) c
noncomputable def isDel  (x0:Op):Bool:=Op.rec (motive:=fun _=>Bool)
  (fun _=>false)
  (fun _=>false)
  (fun _ _ _=>false)
  (fun _=>false)
  (fun _ _=>false)
  (fun _ _=>false)
  (fun _ _ _=>false)
  (fun _ _ _ _=>false)
  (fun _ _=>false)
  (fun _ _ _=>false)
  (fun _=>false)
  (fun _=>false)
  (fun _=>false)
  (fun _ _ _ _ _=>false)
  (fun _ _ _=>false)
  (fun _ _ _=>false)
  (fun _ _=>false)
  (fun _ _=>false)
  (fun _ _ _=>false)
  (fun _ _=>false)
  (fun _ _=>false)
  (fun _ _ _=>false)
  (fun _ _ _ _ _=>false)
  (fun _ _ _=>false)
  (fun _ _ _=>false)
  (fun _ _ _=>false)
  (fun _ _ _=>false)
  (fun _ _ _ _=>false)
  (fun _ _ _ _=>false)
  (fun _ _ _=>false)
  (fun _ _ _ _=>false)
  (fun _ _=>false)
  (fun _ _=>false)
  (fun _=>false)
  (fun _ _ _ _=>false)
  (fun _ _=>false)
  (fun c=>match c.callee with     | .builtin .delete=>true     | _=>false)
  (fun _=>false)
  (fun _=>false)
  (fun _=>false)
  (fun _ _=>false)
  (fun _ _ _=>false)
  (fun _ _=>false) x0
noncomputable def delOps  (x0:List Oper):Bool:=List.rec (motive:=fun _=>Bool)
  (false)
  (fun o l ih=>Bool.rec (ih) true (isDel o.op)) x0
noncomputable def hasDel (c:Code):Bool :=
 Code.rec (motive:=fun _=>Bool) false (fun _ ops _=>delOps ops.toList) (fun _ _ x y=>Bool.rec y true x) (fun _ _ _ x y=>Bool.rec y true x) (fun _ _ x=>x) (fun _ x=>x)
  (fun _ _ _ _ x y=>Bool.rec y true x) (fun _=>false) (fun _ x=>x) (fun _=>false) (fun _=>false) false (fun _=>false) c
noncomputable def eqL  (x0:List Nat):List Nat→Bool:=List.rec (motive:=fun _=>List Nat→Bool)
  (fun m=>List.rec (motive:=fun _=>Bool) true (fun _ _ _=>false) m)
  (fun x l ih=>fun m=>List.rec (motive:=fun _=>Bool) false (fun y m _=>Bool.rec false (ih m) (Nat.beq x y)) m) x0
noncomputable def eqE  (x0:List (Nat×Nat×Nat×Nat)):List (Nat×Nat×Nat×Nat)→Bool:=List.rec (motive:=fun _=>List (Nat×Nat×Nat×Nat)→Bool)
  (fun m=>List.rec (motive:=fun _=>Bool) true (fun _ _ _=>false) m)
  (fun x l ih=>fun m=>List.rec (motive:=fun _=>Bool) false (fun y m _=>Bool.rec false (ih m) (Bool.and (Bool.and (Nat.beq x.1 y.1) (Nat.beq x.2.1 y.2.1)) (Bool.and (Nat.beq x.2.2.1 y.2.2.1) (Nat.beq x.2.2.2 y.2.2.2)))) m) x0
noncomputable def eqM (x y:Option Nat):Bool :=
 match x,y with
 | none,none=>true
 | some a,some b=>Nat.beq a b
 | _,_=>false
noncomputable def takeT (x:Nat×Nat×Nat×Nat) (x0:List (Nat×Nat×Nat×Nat)):Option (List (Nat×Nat×Nat×Nat)):=List.rec (motive:=fun _=>Option (List (Nat×Nat×Nat×Nat)))
  (none)
  (fun e l ih=>Bool.rec ((ih).map fun m=>e::m) (some l) (Bool.and (Bool.and (Nat.beq e.1 x.1) (Nat.beq e.2.1 x.2.1)) (Nat.beq e.2.2.1 x.2.2.1))) x0
noncomputable def permT  (x0:List (Nat×Nat×Nat×Nat)):List (Nat×Nat×Nat×Nat)→Bool:=List.rec (motive:=fun _=>List (Nat×Nat×Nat×Nat)→Bool)
  (fun m=>m.isEmpty)
  (fun x l ih=>fun m=>Option.rec (motive:=fun _=>Bool) false (fun m=>ih m) (takeT x m)) x0
noncomputable def one1 (b:Bool):Nat:=Bool.rec 0 1 b
noncomputable def cmpM (es es':List (Nat×Nat×Nat×Nat)) (q q':Nat):Nat:=Bool.rec (one1 (Bool.and (Nat.beq q q') (permT es es'))) 2 (Bool.and (Nat.beq q q') (eqE es es'))
noncomputable def eqG (k k':GK):Bool :=
 match k,k' with
 | .itV m c es kill,.itV m' c' es' kill'=>Bool.and (Bool.and (Nat.beq m m') (Nat.beq c c')) (Bool.and (eqE es es') (eqL kill kill'))
 | .mpV it,.mpV it'=>Nat.beq it it'
 | .bgV c es,.bgV c' es'=>Bool.and (Nat.beq c c') (eqE es es')
 | _,_=>false
noncomputable def yes2 (b:Bool):Nat:=Bool.rec 0 2 b
noncomputable def cmpI (m m':Option Nat) (a a':Nat) (l l':List Nat) (b b' c c':Nat):Nat :=
 Bool.rec 0 (Bool.rec 1 2 (Nat.beq b b')) (Bool.and (eqL l l') (Bool.and (eqM m m') (Bool.and (Nat.beq a a') (Nat.beq c c'))))
noncomputable def cmpO (x y:Option AO):Nat :=
 match x,y with
 | none,none=>2
 | some (.row E n c),some (.row E' n' c')=>yes2 (Bool.and (Nat.beq E E') (Bool.and (Nat.beq n n') (Nat.beq c c')))
 | some (.map es q),some (.map es' q')=>cmpM es es' q q'
 | some (.map es q),some (.bag es' q')=>one1 (Bool.and (Nat.beq q q') (permT es es'))
 | some (.bag es q),some (.map es' q')=>one1 (Bool.and (Nat.beq q q') (permT es es'))
 | some (.bag es q),some (.bag es' q')=>cmpM es es' q q'
 | some (.gh g (.itB m c es l b)),some (.gh g' (.itB m' c' es' l' b'))=>Bool.rec 0 (Bool.rec 1 2 (Nat.beq b b')) (Bool.and (Bool.and (Nat.beq g g') (Nat.beq m m')) (Bool.and (Nat.beq c c') (Bool.and (eqE es es') (eqL l l'))))
 | some (.iter m a l b c),some (.iter m' a' l' b' c')=>cmpI m m' a a' l l' b b' c c'
 | some .mark,some .mark=>2
 | some (.ro E n c),some (.ro E' n' c')=>yes2 (Bool.and (Nat.beq E E') (Bool.and (Nat.beq n n') (Nat.beq c c')))
 | some (.gh g k),some (.gh g' k')=>yes2 (Bool.and (Nat.beq g g') (eqG k k'))
 | _,_=>0
noncomputable def eqH (h h':T AO) (b n:Nat):Bool:=Nat.rec (motive:=fun _=>Bool) true (fun i ih=>Nat.rec (motive:=fun _=>Bool) false (fun _ _=>ih) (cmpO (h.get (Nat.add b i)) (h'.get (Nat.add b i)))) n
noncomputable def lostO  (x0:Option AO):Option AO:=Option.rec (motive:=fun _=>Option AO)
  (none)
  (fun z0=>match z0 with | (.iter m a l _ c)=>some (.iter m a l 0 c) | (.map es q)=>some (.bag es q) | (.bag es q)=>some (.bag es q) | (.gh g (.itB m c es l _))=>some (.gh g (.itB m c es l 0)) | _=>none) x0
noncomputable def bothO (x y:Option AO):Option AO:=Nat.rec (motive:=fun _=>Option AO) none (fun c _=>Nat.rec (motive:=fun _=>Option AO) (lostO x) (fun _ _=>x) c) (cmpO x y)
noncomputable def meetH (base h h':T AO) (b n:Nat):T AO:=Nat.rec (motive:=fun _=>T AO) base (fun i ih=>ih.put (Nat.add b i) (bothO (h.get (Nat.add b i)) (h'.get (Nat.add b i)))) n
noncomputable def meetE (e e':Nat) (n:Nat):Nat:=Nat.rec (motive:=fun _=>Nat) 0 (fun i ih=>Nat.add ih (Nat.shiftLeft (Bool.rec 0 (dg e i) (Nat.beq (dg e i) (dg e' i))) (Nat.mul i 128))) n
noncomputable def maxN (x y:Nat):Nat:=Bool.rec y x (Nat.ble y x)
noncomputable def meet1 (N b z t:Nat) (base:St) (x y:Out):Option Out :=
 Bool.rec none (some ⟨x.e,0,⟨meetE x.s.env y.s.env (Nat.succ N),x.s.ds,meetH base.heap x.s.heap y.s.heap b (Nat.sub (maxN t base.next) b),maxN x.s.next y.s.next,base.side,maxN x.s.sn y.s.sn,base.lim⟩⟩)
  (Bool.and (Bool.and (Nat.beq x.e y.e) (Nat.blt (maxN (maxN x.s.next y.s.next) (maxN t base.next)) 16777216)) (Bool.and (eqL x.s.ds y.s.ds) (eqH x.s.heap y.s.heap b (Nat.sub z b))))
noncomputable def rowsOf (h:T AO) (b n:Nat):List Nat:=Nat.rec (motive:=fun _=>List Nat) [] (fun i ih=>Option.rec (motive:=fun _=>List Nat) ih (fun _=>Nat.add b i::ih) (h.get (Nat.add b i))) n
noncomputable def eqHl (h h':T AO) (x0:List Nat):Bool:=List.rec (motive:=fun _=>Bool)
  (true)
  (fun r l ih=>Nat.rec (motive:=fun _=>Bool) false (fun _ _=>ih) (cmpO (h.get r) (h'.get r))) x0
noncomputable def meetHl (base h h':T AO) (x0:List Nat):T AO:=List.rec (motive:=fun _=>T AO)
  (base)
  (fun r l ih=>(ih).put r (bothO (h.get r) (h'.get r))) x0
noncomputable def meetL (N b z:Nat) (base:St) (x y:Out):Option Out :=
 Bool.rec none (some ⟨x.e,0,⟨meetE x.s.env y.s.env (Nat.succ N),x.s.ds,meetHl base.heap x.s.heap y.s.heap (rowsOf base.heap b (Nat.sub (maxN z base.next) b)),maxN x.s.next y.s.next,base.side,maxN x.s.sn y.s.sn,base.lim⟩⟩)
  (Bool.and (Bool.and (Nat.beq x.e y.e) (Nat.blt (maxN (maxN x.s.next y.s.next) (maxN z base.next)) 16777216)) (Bool.and (eqL x.s.ds y.s.ds) (eqHl x.s.heap y.s.heap (rowsOf base.heap b (Nat.sub (maxN z base.next) b)))))
noncomputable def addO (N b z:Nat) (base:St) (y:Out) (x0:List Out):List Out:=List.rec (motive:=fun _=>List Out)
  ([y])
  (fun x l ih=>match meetL N b z base x y with     | some z=>z::l     | none=>x::ih) x0
noncomputable def meets (N b z:Nat) (base:St) (x0:List Out):List Out→List Out:=List.rec (motive:=fun _=>List Out→List Out)
  (fun acc=>acc)
  (fun y l ih=>fun acc=>ih (addO N b z base y acc)) x0
noncomputable def fold2 (N b:Nat) (base:St) (x0:List Out):Out→Option Out:=List.rec (motive:=fun _=>Out→Option Out)
  (fun x=>some x)
  (fun y l ih=>fun x=>match meet1 N b b (maxN x.s.next y.s.next) base x y with     | none=>none     | some z=>ih z) x0
noncomputable def endO (e:Nat) (s:St):R:=some [⟨e,0,s⟩]
noncomputable def outsR (ks:Out→R) (x0:List Out):R:=List.rec (motive:=fun _=>R)
  (some [])
  (fun o l ih=>cat (ks o) (ih)) x0
noncomputable def seqT:Nat→(St→R)→(Nat→St→R)→St→R
 | 0=>fun b _ s=>b s
 | e+1=>fun _ k s=>k (e+1) s
noncomputable def condT  (x0:AV):(St→R)→(St→R)→St→R:=AV.rec (motive:=fun _=>(St→R)→(St→R)→St→R)
  (fun _=>fun _ _ _=>bad)
  (fun p=>fun x y s=>Nat.rec (y s) (fun _ _=>x s) p)
  (fun _ _=>fun _ _ _=>bad)
  (fun _ _ _ _=>fun _ _ _=>bad)
  (fun _=>fun _ _ _=>bad)
  (fun _ _ _=>bad)
  (fun _=>fun _ _ _=>bad)
  (fun _=>fun _ _ _=>bad)
  (fun _ _ _ _ _=>fun _ _ _=>bad)
  (fun _ _=>fun _ _ _=>bad)
  (fun _ _=>fun _ _ _=>bad)
  (fun _ _=>fun _ _ _=>bad)
  (fun _ _ _=>fun _ _ _=>bad) x0
noncomputable def loopN (body:St→(Nat→St→R)→R) (F:Nat):St→(Nat→St→R)→R :=
 Nat.rec (motive:=fun _=>St→(Nat→St→R)→R) (fun _ _=>bad) (fun _ ih s k=>body s fun e s=>seqT e (fun s=>ih s k) k s) F
noncomputable def staysO  (x0:List Out):List Out:=List.rec (motive:=fun _=>List Out)
  ([])
  (fun o l ih=>Nat.rec (motive:=fun _=>List Out) (o::ih) (fun _ _=>ih) o.e) x0
noncomputable def goesO  (x0:List Out):List Out:=List.rec (motive:=fun _=>List Out)
  ([])
  (fun o l ih=>Nat.rec (motive:=fun _=>List Out) (ih) (fun _ _=>o::ih) o.e) x0
noncomputable def bodyO (body:St→(Nat→St→R)→R) (x0:List Out):R:=List.rec (motive:=fun _=>R)
  (some [])
  (fun o l ih=>cat (body o.s endO) (ih)) x0
noncomputable def loopJ (body : St → (Nat → St → R) → R) (N b z : Nat) (base : St) (k : Nat → St → R) (F : Nat) : List Out → List Out → R :=
  Nat.rec (motive := fun _ => List Out → List Out → R) (fun _ _ => bad)
    (fun _ ih now done => optR (bodyO body now) fun outs =>
      List.rec (motive := fun _ => R) (outsR (fun o => k o.e o.s) (meets N b z base (goesO outs) done)) (fun _ _ _ => ih (meets N b z base (staysO outs) []) (meets N b z base (goesO outs) done)) (meets N b z base (staysO outs) [])) F
noncomputable def firstNext (c:Code):Option Nat :=
 match c with
 | .seq (.region _ ops _) _=>match ops[0]? with
  | some o=>match o.op with
   | .next (.tmp t) false=>some t
   | _=>none
  | none=>none
 | _=>none
noncomputable def ptT (a:Option AV):Option Nat :=
 match a with
 | some (.pt r 0)=>some r
 | _=>none
noncomputable def startT (h:T AO) (o:Option AO):Option (Nat×Nat×List (Nat×Nat×Nat×Nat)) :=
 match o with
 | some (.iter (some m) since [] 0 last)=>match h.get m with
  | some (.map es c)=>Bool.rec none (some (m,c,es)) (Bool.and (Nat.beq since c) (Nat.beq last c))
  | _=>none
 | _=>none
noncomputable def goneX (o:Option AO):Option (Nat×Nat×Nat×Nat) :=
 match o with
 | some (.gh _ (.mpX _ x))=>some x
 | _=>none
noncomputable def killsO (m:Nat) (x0:List Out):List Nat:=List.rec (motive:=fun _=>List Nat)
  ([])
  (fun o l ih=>Option.rec (motive:=fun _=>List Nat) (ih) (fun x=>x.2.2.2::ih) (goneX (o.s.heap.get m))) x0
noncomputable def fitM (g:Nat) (kill:List Nat) (x:Nat×Nat×Nat×Nat) (o:Option AO):Bool :=
 match o with
 | some (.gh g' (.mpV _))=>Bool.and (Nat.beq g' g) (Bool.not (kill.contains x.2.2.2))
 | some (.gh g' (.mpX _ x'))=>Bool.and (Nat.beq g' g) (Bool.and (Nat.beq x'.2.2.2 x.2.2.2) (kill.contains x.2.2.2))
 | _=>false
noncomputable def headS (g it m c:Nat) (es:List (Nat×Nat×Nat×Nat)) (kill:List Nat) (s:St):St:=⟨s.env,s.ds,(s.heap.put it (some (.gh g (.itV m c es kill)))).put m (some (.gh g (.mpV it))),s.next,s.side,s.sn,s.lim⟩
noncomputable def normO (g it m c:Nat) (es:List (Nat×Nat×Nat×Nat)) (kill:List Nat) (o:Out):Option Out :=
 (curG (o.s.heap.get it)).bind fun y=>Bool.rec none (some ⟨o.e,0,headS g it m c es kill o.s⟩) (Bool.and (Nat.beq y.1 g) (Bool.and (fitM g kill y.2.2.2 (o.s.heap.get m)) (Bool.not (kill.contains (Nat.add c (Nat.succ y.2.2.2.2.2.2))))))
noncomputable def normL (g it m c:Nat) (es:List (Nat×Nat×Nat×Nat)) (kill:List Nat) (x0:List Out):Option (List Out):=List.rec (motive:=fun _=>Option (List Out))
  (some [])
  (fun o l ih=>(normO g it m c es kill o).bind fun o=>(ih).map fun l=>o::l) x0
noncomputable def isGh (o:Option AO):Bool :=
 match o with
 | some (.gh _ _)=>true
 | _=>false
noncomputable def dropG (r:Nat) (h:T AO):T AO:=Bool.rec h (h.put r none) (isGh (h.get r))
noncomputable def cutO (it m:Nat) (o:Out):Out:=⟨o.e,o.v,⟨o.s.env,o.s.ds,dropG m (dropG it o.s.heap),o.s.next,o.s.side,o.s.sn,o.s.lim⟩⟩
noncomputable def cutL (it m:Nat) (x0:List Out):List Out:=List.rec (motive:=fun _=>List Out)
  ([])
  (fun o l ih=>cutO it m o::ih) x0
noncomputable def roundsM (body:St→(Nat→St→R)→R) (N b z:Nat) (base:St) (k:Nat→St→R) (g it m c:Nat) (es:List (Nat×Nat×Nat×Nat)) (kill:List Nat) (n:Nat):List Out→List Out→R :=
 Nat.rec (motive:=fun _=>List Out→List Out→R)
  (fun now done=>optR (bodyO body now) fun outs=>optR (normL g it m c es kill (staysO outs)) fun _=>outsR (fun o=>k o.e o.s) (meets N b z base (cutL it m (goesO outs)) done))
  (fun _ ih now done=>optR (bodyO body now) fun outs=>optR (normL g it m c es kill (staysO outs)) fun st=>ih (meets N b z base st []) (meets N b z base (cutL it m (goesO outs)) done)) n
noncomputable def firstS (it m c:Nat) (es:List (Nat×Nat×Nat×Nat)) (kill:List Nat) (s:St):Out:=⟨0,0,⟨s.env,s.ds,(s.heap.put it (some (.gh s.next (.itV m c es kill)))).put m (some (.gh s.next (.mpV it))),Nat.succ s.next,s.side,s.sn,s.lim⟩⟩
noncomputable def oneL:List Out→Option Out
 | [o]=>some o
 | _=>none
noncomputable def isSame (x y:Option AO):Bool:=Nat.beq (cmpO x y) 2
noncomputable def keepR (h h':T AO) (x0:List Nat):T AO:=List.rec (motive:=fun _=>T AO)
  (h)
  (fun r l ih=>Bool.rec ((ih).put r none) (ih) (isSame (h.get r) (h'.get r))) x0
noncomputable def fixI (N:Nat) (base:St) (rows:List Nat) (f o:St):St:=⟨meetE f.env o.env (Nat.succ N),base.ds,keepR f.heap o.heap rows,f.next,base.side,base.sn,base.lim⟩
noncomputable def coverR (h h':T AO) (x0:List Nat):Bool:=List.rec (motive:=fun _=>Bool)
  (true)
  (fun r l ih=>Bool.and (Option.rec (motive:=fun _=>Bool) true (fun x=>isSame (some x) (h'.get r)) (h.get r)) (ih)) x0
noncomputable def coverO (N:Nat) (rows:List Nat) (i:St) (o:Out):Bool :=
 Bool.and (Bool.and (Nat.beq o.e 0) (eqL o.s.ds i.ds)) (Bool.and (Nat.beq (meetE i.env o.s.env (Nat.succ N)) i.env) (coverR i.heap o.s.heap rows))
noncomputable def coverL (N:Nat) (rows:List Nat) (i:St) (x0:List Out):Bool:=List.rec (motive:=fun _=>Bool)
  (true)
  (fun o l ih=>Bool.and (coverO N rows i o) (ih)) x0
noncomputable def noLoop (o:Option AO):Bool :=
 match o with
 | some (.loop _ _ _ _ _ _ _)=>false
 | _=>true
noncomputable def noLoops (h:T AO) (n:Nat):Bool:=Nat.rec true (fun i ih=>Bool.and (noLoop (h.get i)) ih) n
noncomputable def fixL (body:St→(Nat→St→R)→R) (N g it m c:Nat) (es:List (Nat×Nat×Nat×Nat)) (kill:List Nat) (rows:List Nat) (i:St):Option (List Out) :=
 (bodyO body [⟨0,0,i⟩]).bind fun outs=>(normL g it m c es kill (staysO outs)).bind fun st=>Bool.rec none (some (cutL it m (goesO outs))) (coverL N rows i st)
noncomputable def fixM (body:St→(Nat→St→R)→R) (N:Nat) (base:St) (it m c:Nat) (es:List (Nat×Nat×Nat×Nat)) (kill:List Nat) (o:Out):Option (List Out) :=
 Bool.rec none (fixL body N base.next it m c es kill (rowsOf base.heap base.lim (Nat.sub base.next base.lim)) (fixI N base (rowsOf base.heap base.lim (Nat.sub base.next base.lim)) (firstS it m c es kill base).s o.s)) (noLoops base.heap base.next)
noncomputable def hasB (it b:Nat) (x0:List Out):Bool:=List.rec (motive:=fun _=>Bool)
  (false)
  (fun o l ih=>Bool.or (Option.rec (motive:=fun _=>Bool) false (fun y=>Nat.beq y.2.2.2.2.2.2 b) (curG (o.s.heap.get it))) (ih)) x0
noncomputable def stuckE (it c:Nat) (st:List Out) (x0:List (Nat×Nat×Nat×Nat)):List Nat:=List.rec (motive:=fun _=>List Nat)
  ([])
  (fun e l ih=>Bool.rec (Nat.add c (Nat.succ e.2.2.2)::ih) (ih) (hasB it e.2.2.2 st)) x0
noncomputable def okKill (c:Nat) (es:List (Nat×Nat×Nat×Nat)) (x0:List Nat):Bool:=List.rec (motive:=fun _=>Bool)
  (true)
  (fun b l ih=>Bool.and (Bool.or (Nat.ble b c) (es.any fun e=>Nat.beq b (Nat.add c (Nat.succ e.2.2.2)))) (ih)) x0
noncomputable def killL (it m c:Nat) (es:List (Nat×Nat×Nat×Nat)) (st:List Out):List Nat:=killsO m st++stuckE it c st es
noncomputable def planM (body : St → (Nat → St → R) → R) (N : Nat) (b : Code) (s : St) : Option (Nat × Nat × Nat × List (Nat × Nat × Nat × Nat) × List Nat × Out) :=
  (firstNext b).bind fun t => (ptT (dec (dg s.env (Nat.succ t)) s.side)).bind fun it => (startT s.heap (s.heap.get it)).bind fun y =>
    Bool.rec none ((bodyO body [firstS it y.1 y.2.1 y.2.2 [] s]).bind fun outs =>
      (normL s.next it y.1 y.2.1 y.2.2 (killL it y.1 y.2.1 y.2.2 (staysO outs)) (staysO outs)).bind fun st =>
        (Bool.rec (motive := fun _ => Option Out) none (oneL (meets N s.lim s.next s st [])) (okKill y.2.1 y.2.2 (killL it y.1 y.2.1 y.2.2 (staysO outs)))).map fun o => (it, y.1, y.2.1, y.2.2, killL it y.1 y.2.1 y.2.2 (staysO outs), o))
      (Bool.and (Bool.and (Nat.ble 4 y.2.2.length) (Nat.blt s.next 16777215)) (Bool.and (Bool.and (Nat.ble s.lim it) (Nat.ble s.lim y.1)) (Bool.not (Nat.beq it y.1))))
noncomputable def numb  (x0:List (Nat×Nat×Nat×Nat)):Nat→List (Nat×Nat×Nat×Nat):=List.rec (motive:=fun _=>Nat→List (Nat×Nat×Nat×Nat))
  (fun _=>[])
  (fun e l ih=>fun i=>(e.1,e.2.1,e.2.2.1,i)::ih (Nat.succ i)) x0
noncomputable def startB (h:T AO) (o:Option AO):Option (Nat×Nat×List (Nat×Nat×Nat×Nat)) :=
 match o with
 | some (.iter (some m) since [] 0 last)=>match h.get m with
  | some (.bag es c)=>Bool.rec none (some (m,c,es)) (Bool.and (Nat.beq since c) (Nat.beq last c))
  | _=>none
 | _=>none
noncomputable def planB (b:Code) (s:St):Option (Nat×Nat×Nat×List (Nat×Nat×Nat×Nat)) :=
 (firstNext b).bind fun t=>(ptT (dec (dg s.env (Nat.succ t)) s.side)).bind fun it=>(startB s.heap (s.heap.get it)).bind fun y =>
  Bool.rec none (some (it,y.1,y.2.1,numb y.2.2 0)) (Bool.and (Nat.blt s.next 16777215) (Bool.and (Nat.ble s.lim it) (Bool.not (Nat.beq it y.1))))
noncomputable def frozS (it m c:Nat) (es:List (Nat×Nat×Nat×Nat)) (s:St):St:=⟨s.env,s.ds,(s.heap.put it (some (.gh s.next (.itB m c es [] 0)))).put m (some (.gh s.next (.bgV c es))),Nat.succ s.next,s.side,s.sn,s.lim⟩
noncomputable def thawI (g:Nat) (o:Option AO):Option AO :=
 match o with
 | some (.gh g' k)=>Bool.rec (some (.gh g' k)) none (Nat.beq g' g)
 | o=>o
noncomputable def thawM (g:Nat) (o0 o:Option AO):Option AO:=Bool.rec (thawI g o) o0 (isBg g o)
noncomputable def thawS (g it m:Nat) (o0:Option AO) (s:St):St:=⟨s.env,s.ds,(s.heap.put it (thawI g (s.heap.get it))).put m (thawM g o0 (s.heap.get m)),s.next,s.side,s.sn,s.lim⟩
noncomputable def loopB (body:St→(Nat→St→R)→R) (N:Nat) (F it m c:Nat) (es:List (Nat×Nat×Nat×Nat)) (s:St) (k:Nat→St→R):R :=
 loopJ body N s.lim (Nat.succ s.next) (frozS it m c es s) (fun e s'=>k e (thawS s.next it m (s.heap.get m) s')) F [⟨0,0,frozS it m c es s⟩] []
noncomputable def loopQ (body:St→(Nat→St→R)→R) (N:Nat) (b:Code) (F:Nat) (s:St) (k:Nat→St→R):R :=
 Option.rec (motive:=fun _=>R) (loopJ body N s.lim s.next s k F [⟨0,0,s⟩] []) (fun y=>loopB body N F y.1 y.2.1 y.2.2.1 y.2.2.2 s k) (planB b s)
noncomputable def loopR (body : St → (Nat → St → R) → R) (N : Nat) (b : Code) (F : Nat) (s : St) (k : Nat → St → R) : R :=
  Option.rec (motive := fun _ => R) (loopQ body N b F s k)
    (fun y => Option.rec (motive := fun _ => R) (roundsM body N s.lim s.next s k s.next y.1 y.2.1 y.2.2.1 y.2.2.2.1 y.2.2.2.2.1 y.2.2.2.1.length [firstS y.1 y.2.1 y.2.2.1 y.2.2.2.1 y.2.2.2.2.1 s] [])
      (fun l => outsR (fun o => k o.e o.s) (meets N s.lim s.next s l [])) (fixM body N s y.1 y.2.1 y.2.2.1 y.2.2.2.1 y.2.2.2.2.1 y.2.2.2.2.2))
    (planM body N b s)
noncomputable def argsE  (x0:List Nat):Nat→Nat→Nat→Nat→Nat:=List.rec (motive:=fun _=>Nat→Nat→Nat→Nat→Nat)
  (fun env _ _ _=>env)
  (fun p ps ih=>fun env c n i=>Bool.rec env (ih (sd env (Nat.succ p) (dg c i)) c n (Nat.succ i)) (Nat.blt i n)) x0
noncomputable def jumpC (e:Nat):Option Code :=
 match e with
 | 0=>none
 | 1=>some .ret
 | e+2=>if e % 2=0 then some (.exit (e / 2)) else some (.goto (e / 2))
noncomputable def jumpE  (x0:Option Code):Option Nat:=Option.rec (motive:=fun _=>Option Nat)
  (some 0)
  (fun z0=>match z0 with | .ret=>some 1 | (.exit i)=>some (2+2 * i) | (.goto i)=>some (3+2 * i) | _=>none) x0
noncomputable def loopT  (x0:Option AO):Option (Nat×Nat×List Nat×Code×Code×LoopState×Option Code):=Option.rec (motive:=fun _=>Option (Nat×Nat×List Nat×Code×Code×LoopState×Option Code))
  (none)
  (fun z0=>match z0 with | (.loop N env ps a b st pe)=>some (N,env,ps,a,b,st,pe) | _=>none) x0
noncomputable def isFn  (x0:AV):Bool:=AV.rec (motive:=fun _=>Bool)
  (fun _=>false)
  (fun _=>false)
  (fun _ _=>false)
  (fun _ _ _ _=>false)
  (fun _=>false)
  (false)
  (fun _=>false)
  (fun _=>false)
  (fun z0 z1 z2 z3 z4=>match z0,z1,z2,z3,z4 with | (.func _),_,_,_,_=>true | _,_,_,_,_=>false)
  (fun _ _=>false)
  (fun _ _=>false)
  (fun _ _=>false)
  (fun _ _ _=>false) x0
noncomputable def notBusy:LoopState→Bool
 | .busy=>false
 | _=>true
noncomputable def rangeEnd (m l:Nat) (s:St) (k:Nat→St→R):R :=
 optR (loopT (s.heap.get l)) fun x=>Bool.rec bad (setH s l none fun s=>optR (jumpE x.2.2.2.2.2.2) fun e=>k e ⟨s.env,m::s.ds,s.heap,s.next,s.side,s.sn,s.lim⟩) (notBusy x.2.2.2.2.2.1)
noncomputable def rangeF (call:CallR) (N:Nat) (ps:List Nat) (assign body:Code) (g:AV) (s:St) (k:Nat→St→R):R :=
 Bool.rec bad (alloc s .mark fun m s=>alloc s (.loop N s.env ps assign body .ready none) fun l s=>enc (.yd l) s fun y s=>call g 1 y s fun _ s=>rangeEnd m l s k) (Bool.and (isFn g) (Bool.and (noRange assign) (noRange body)))
noncomputable def regT  (x0:Bool):Array Oper→CallR→Program→St→(St→R)→R:=Bool.rec (motive:=fun _=>Array Oper→CallR→Program→St→(St→R)→R)
  (fun ops call P s k=>opl ops.toList ops call P s k)
  (fun ops call P s k=>Bool.rec bad (anyX ops call P k (planOf ops) [] s) (okR ops)) x0
noncomputable def isGoto (e:Nat):Bool:=Bool.and (Nat.beq (Nat.mod e 2) 1) (Nat.blt 1 e)
abbrev CodeR:=CallR→Program→Nat→Nat→St→(Nat→St→R)→R
noncomputable def codeX (c:Code):CodeR :=
 Code.rec (motive:=fun _=>CodeR)
  (fun _ _ _ _ s k=>k 0 s)
  (fun _ ops draw call P _ _ s k=>regT draw ops call P s fun s=>k 0 s)
  (fun _ _ iha ihb call P F N s k=>iha call P F N s fun e s=>seqT e (fun s=>ihb call P F N s k) k s)
  (fun c _ _ iha ihb call P F N s k=>evK c s fun a=>condT a (fun s=>iha call P F N s k) (fun s=>ihb call P F N s k) s)
  (fun i _ ih call P F N s k=>ih call P F N s fun e s=>Bool.rec (k e s) (k 0 s) (Nat.beq e (Nat.add 2 (Nat.mul 2 i))))
  (fun b ih call P F N s k=>Bool.rec (loopN (fun s k=>ih call P F N s k) F s k) (loopR (fun s k=>ih call P F N s k) N b F s k) (Bool.and (hasNext b) (Bool.not (hasApp b))))
  (fun g ps assign body _ _ call _ _ N s k=>evK g s fun g=>rangeF call N ps.toList assign body g s k)
  (fun i _ _ _ _ s k=>k (Nat.add 2 (Nat.mul 2 i)) s)
  (fun _ ih call P F N s k=>ih call P F N s fun e s=>Bool.rec (k e s) bad (isGoto e))
  (fun _ _ _ _ _ s k=>k 0 s)
  (fun i _ _ _ _ s k=>k (Nat.add 3 (Nat.mul 2 i)) s)
  (fun _ _ _ _ s k=>k 1 s)
  (fun _ _ _ _ _ _ _=>bad) c
noncomputable def resT  (x0:ResultVar):Program→St→(Nat→St→R)→R:=ResultVar.rec (motive:=fun _=>Program→St→(Nat→St→R)→R)
  (fun t=>fun _ s k=>evC (.tmp t) s k)
  (fun a t=>fun P s k=>evK (.tmp a) s fun a=>loadT a P t s k) x0
noncomputable def ress  (x0:List ResultVar):Nat→Nat→Program→St→(Nat→Nat→St→R)→R:=List.rec (motive:=fun _=>Nat→Nat→Program→St→(Nat→Nat→St→R)→R)
  (fun n d _ s k=>k n d s)
  (fun x l ih=>fun n d P s k=>resT x P s fun c s=>ih (Nat.succ n) (Nat.add d (Nat.shiftLeft c (Nat.mul n 128))) P s k) x0
noncomputable def markT  (x0:Option AO):Bool:=Option.rec (motive:=fun _=>Bool)
  (false)
  (fun z0=>match z0 with | .mark=>true | _=>false) x0
noncomputable def marks  (x0:List Nat):St→(St→R)→R:=List.rec (motive:=fun _=>St→(St→R)→R)
  (fun s k=>k s)
  (fun m l ih=>fun s k=>Bool.rec bad (setH s m none fun s=>ih s k) (markT (s.heap.get m))) x0
noncomputable def resOne (n d:Nat) (s:St) (k:Nat→St→R):R:=Bool.rec (sideK (.tu n d) s k) (k d s) (Nat.beq n 1)
noncomputable def back (env:Nat) (ds:List Nat) (s:St):St:=⟨env,ds,s.heap,s.next,s.side,s.sn,s.lim⟩
noncomputable def leave (P:Program) (fn:Func) (env:Nat) (ds:List Nat) (k:Nat→St→R) (e:Nat) (s:St):R :=
 Bool.rec bad (marks s.ds s fun s=>ress fn.results.toList 0 0 P s fun n d s=>resOne n d s fun c s=>k c (back env ds s)) (Nat.ble e 1)
noncomputable def joined (N lim:Nat) (base:St) (k:Nat→St→R) (x0:List Out):R:=List.rec (motive:=fun _=>R)
  (some [])
  (fun o l ih=>match fold2 N base.lim base l o with     | some z=>k z.e ⟨z.s.env,z.s.ds,z.s.heap,z.s.next,z.s.side,z.s.sn,lim⟩     | none=>bad) x0
noncomputable def oneO (k:Nat→St→R) (other:R) (x0:List Out):R:=List.rec (motive:=fun _=>R)
  (other)
  (fun o l ih=>List.rec (motive:=fun _=>R) (k o.e o.s) (fun _ _ _=>other) l) x0
noncomputable def joinA (c:Code) (call:CallR) (P:Program) (F N:Nat) (s:St) (k:Nat→St→R):R :=
 optR (codeX c call P F N ⟨s.env,s.ds,s.heap,s.next,s.side,s.sn,s.next⟩ endO) (joined N s.lim ⟨s.env,s.ds,s.heap,s.next,s.side,s.sn,s.next⟩ k)
noncomputable def joinE (c:Code) (call:CallR) (P:Program) (F N:Nat) (s:St) (k:Nat→St→R):R :=
 Option.rec (motive:=fun _=>R) (optR (codeX c call P F N s endO) (oneO k bad)) (joined N s.lim ⟨s.env,s.ds,s.heap,s.next,s.side,s.sn,s.next⟩ k) (codeX c call P F N ⟨s.env,s.ds,s.heap,s.next,s.side,s.sn,s.next⟩ endO)
noncomputable def joinF (c:Code) (call:CallR) (P:Program) (F N:Nat) (s:St) (k:Nat→St→R):R :=
 Bool.rec (codeX c call P F N s k) (Bool.rec (joinA c call P F N s k) (joinE c call P F N s k) (hasDel c)) (hasNext c)
noncomputable def enterF (call:CallR) (P:Program) (F:Nat) (fn:Func) (c:Code) (n₁ c₁ n₂ c₂ n₃ c₃:Nat) (s:St) (k:Nat→St→R):R :=
 Bool.rec bad (joinF c call P F fn.ntmps ⟨Nat.shiftLeft (Nat.add c₁ (Nat.shiftLeft (Nat.add c₂ (Nat.shiftLeft c₃ (Nat.mul n₂ 128))) (Nat.mul n₁ 128))) 128,[],s.heap,s.next,s.side,s.sn,s.lim⟩ (leave P fn s.env s.ds k)) (Bool.and (okC fn.ntmps c) (Nat.ble (Nat.add n₁ (Nat.add n₂ n₃)) fn.ntmps))
noncomputable def fnT  (x0:Fn):Nat→Nat→Nat→Nat→Nat→Nat→CallR→Program→Nat→St→(Nat→St→R)→R:=Fn.rec (motive:=fun _=>Nat→Nat→Nat→Nat→Nat→Nat→CallR→Program→Nat→St→(Nat→St→R)→R)
  (fun g=>fun n₁ c₁ n₂ c₂ n₃ c₃ call P F s k=>optR (P.funcs[g]?) fun fn=>optR fn.body fun c=>enterF call P F fn c n₁ c₁ n₂ c₂ n₃ c₃ s k)
  (fun _=>fun _ _ _ _ _ _ _ _ _ _ _=>bad)
  (fun _ _=>fun _ _ _ _ _ _ _ _ _ _ _=>bad)
  (fun _ _ _ _=>fun _ _ _ _ _ _ _ _ _ _ _=>bad)
  (fun _=>fun _ _ _ _ _ _ _ _ _ _ _=>bad) x0
noncomputable def isReady:LoopState→Bool
 | .ready=>true
 | _=>false
noncomputable def roundE (l:Nat) (s:St) (k:Nat→St→R) (e:Nat) (s2:St):R :=
 optR (loopT (s2.heap.get l)) fun x=>setH s2 l (some (.loop x.1 x.2.1 x.2.2.1 x.2.2.2.1 x.2.2.2.2.1 (Nat.rec .ready (fun _ _=>.done) e) (jumpC e))) fun s2=>k (Nat.rec 18 (fun _ _=>2) e) (back s.env s.ds s2)
noncomputable def roundK (call : CallR) (P : Program) (F l : Nat) (n c : Nat) (s : St) (k : Nat → St → R) (x : Nat × Nat × List Nat × Code × Code × LoopState × Option Code) : R :=
  codeX x.2.2.2.1 call P F x.1 ⟨argsE x.2.2.1 x.2.1 c n 0, [], s.heap, s.next, s.side, s.sn, s.lim⟩ fun e s1 =>
    Nat.rec (motive := fun _ => R) (optR (loopT (s1.heap.get l)) fun y => Bool.rec bad (setH s1 l (some (.loop y.1 y.2.1 y.2.2.1 y.2.2.2.1 y.2.2.2.2.1 .busy y.2.2.2.2.2.2)) fun s1 =>
      codeX x.2.2.2.2.1 call P F x.1 s1 (roundE l s k)) (isReady y.2.2.2.2.2.1)) (fun _ _ => bad) e
noncomputable def yieldK (call:CallR) (P:Program) (F l:Nat) (n c:Nat) (s:St) (k:Nat→St→R):R :=
 optR (loopT (s.heap.get l)) fun x=>Bool.rec bad (roundK call P F l n c s k x) (Bool.and (Nat.beq n x.2.2.1.length) (Bool.and (okC x.1 x.2.2.2.1) (Bool.and (okC x.1 x.2.2.2.2.1) (Bool.and (noRange x.2.2.2.1) (Bool.and (noRange x.2.2.2.2.1) (Bool.and (x.2.2.1.all fun p=>Nat.blt p x.1) (isReady x.2.2.2.2.2.1)))))))
noncomputable def callT  (x0:AV):Nat→Nat→CallR→Program→Nat→St→(Nat→St→R)→R:=AV.rec (motive:=fun _=>Nat→Nat→CallR→Program→Nat→St→(Nat→St→R)→R)
  (fun _=>fun _ _ _ _ _ _ _=>bad)
  (fun _=>fun _ _ _ _ _ _ _=>bad)
  (fun _ _=>fun _ _ _ _ _ _ _=>bad)
  (fun _ _ _ _=>fun _ _ _ _ _ _ _=>bad)
  (fun _=>fun _ _ _ _ _ _ _=>bad)
  (fun _ _ _ _ _ _ _=>bad)
  (fun l=>fun n c call P F s k=>yieldK call P F l n c s k)
  (fun _=>fun _ _ _ _ _ _ _=>bad)
  (fun f n₁ c₁ n₃ c₃=>fun n c call P F s k=>fnT f n₁ c₁ n c n₃ c₃ call P F s k)
  (fun _ _=>fun _ _ _ _ _ _ _=>bad)
  (fun _ _=>fun _ _ _ _ _ _ _=>bad)
  (fun _ _=>fun _ _ _ _ _ _ _=>bad)
  (fun _ _ _=>fun _ _ _ _ _ _ _=>bad) x0
noncomputable def callX (P:Program) (F D:Nat):CallR :=
 Nat.rec (motive:=fun _=>CallR) (fun _ _ _ _ _=>bad) (fun _ ih f n c s k=>callT f n c ih P F s k) D
end Go.Ex
namespace Go.Ex
open Go.Fip
structure Mem where
 ds:List Nat
 heap:T AO
 next:Nat
 side:T AV
 sn:Nat
 lim:Nat
abbrev K1:=Nat→Mem→R
abbrev K2:=Nat→Nat→Mem→R
noncomputable def stOf (e:Nat) (m:Mem):St:=Mem.rec (motive:=fun _=>St) (fun ds h n sd sn b=>⟨e,ds,h,n,sd,sn,b⟩) m
noncomputable def memK (s:St) (k:K1):R:=St.rec (motive:=fun _=>R) (fun e ds h n sd sn b=>k e ⟨ds,h,n,sd,sn,b⟩) s
abbrev CallM:=AV→Nat→Nat→Mem→(Nat→Mem→R)→R
noncomputable def callOf (cm:CallM):CallR:=fun f n c s k=>memK s fun e m=>cm f n c m fun v m=>k v (stOf e m)
structure OW where
 run:CallM→Nat→Mem→K1→R
structure VW where
 run:CallM→Nat→Mem→K2→R
structure DW where
 f:Nat→Nat
structure LW where
 run:CallM→Nat→Mem→Nat→(Nat→Nat→Nat→Mem→R)→R
structure BW where
 run:Nat→Nat→Nat→Mem→K2→R
noncomputable def slowV (P:Program) (op:Op) (cm:CallM) (e:Nat) (m:Mem) (k:K2):R:=opx op (callOf cm) P (stOf e m) fun c s=>memK s (k c)
noncomputable def slowW (P:Program) (op:Op):VW:=.mk fun cm e m k=>slowV P op cm e m k
noncomputable def slowC (x:Operand) (e:Nat) (m:Mem) (k:K2):R:=evC x (stOf e m) fun c s=>memK s (k c)
noncomputable def constV  (x0:AV):Value→VW:=AV.rec (motive:=fun _=>Value→VW)
  (fun p=>fun v=>Bool.rec (.mk fun _ e m k=>slowC (.const v) e m k) (forceN (code p 1) fun c=>.mk fun _ e m k=>k c e m) (Nat.blt p 18446744073709551616))
  (fun p=>fun v=>Bool.rec (.mk fun _ e m k=>slowC (.const v) e m k) (forceN (code p 2) fun c=>.mk fun _ e m k=>k c e m) (Nat.blt p 2))
  (fun _ _=>fun v=>.mk fun _ e m k=>slowC (.const v) e m k)
  (fun _ _ _ _=>fun v=>.mk fun _ e m k=>slowC (.const v) e m k)
  (fun _=>fun v=>.mk fun _ e m k=>slowC (.const v) e m k)
  (fun v=>.mk fun _ e m k=>slowC (.const v) e m k)
  (fun _=>fun v=>.mk fun _ e m k=>slowC (.const v) e m k)
  (fun _=>fun v=>.mk fun _ e m k=>slowC (.const v) e m k)
  (fun _ _ _ _ _=>fun v=>.mk fun _ e m k=>slowC (.const v) e m k)
  (fun _ _=>fun v=>.mk fun _ e m k=>slowC (.const v) e m k)
  (fun _ _=>fun v=>.mk fun _ e m k=>slowC (.const v) e m k)
  (fun _ _=>fun v=>.mk fun _ e m k=>slowC (.const v) e m k)
  (fun _ _ _=>fun v=>.mk fun _ e m k=>slowC (.const v) e m k) x0
noncomputable def rdV  (x0:Operand):VW:=Operand.rec (motive:=fun _=>VW)
  (fun t=>forceN (Nat.mul (Nat.succ t) 128) fun L=>.mk fun _ e m k=>Nat.rec (motive:=fun _=>R) bad (fun c _=>k (Nat.succ c) e m) (Nat.mod (Nat.shiftRight e L) 340282366920938463463374607431768211456))
  (fun v=>constV (AV.of v) v)
  (fun z0=>.mk fun _ e m k=>slowC (Operand.global z0) e m k)
  (fun z0=>.mk fun _ e m k=>slowC (Operand.func z0) e m k) x0
noncomputable def constD  (x0:AV):DW:=AV.rec (motive:=fun _=>DW)
  (fun p=>Bool.rec (.mk fun _=>0) (forceN (code p 1) fun c=>.mk fun _=>c) (Nat.blt p 18446744073709551616))
  (fun p=>Bool.rec (.mk fun _=>0) (forceN (code p 2) fun c=>.mk fun _=>c) (Nat.blt p 2))
  (fun _ _=>.mk fun _=>0)
  (fun _ _ _ _=>.mk fun _=>0)
  (fun _=>.mk fun _=>0)
  (.mk fun _=>0)
  (fun _=>.mk fun _=>0)
  (fun _=>.mk fun _=>0)
  (fun _ _ _ _ _=>.mk fun _=>0)
  (fun _ _=>.mk fun _=>0)
  (fun _ _=>.mk fun _=>0)
  (fun _ _=>.mk fun _=>0)
  (fun _ _ _=>.mk fun _=>0) x0
noncomputable def cdW  (x0:Operand):DW:=Operand.rec (motive:=fun _=>DW)
  (fun t=>forceN (Nat.mul (Nat.succ t) 128) fun L=>.mk fun e=>Nat.mod (Nat.shiftRight e L) 340282366920938463463374607431768211456)
  (fun v=>constD (AV.of v))
  (fun _=>.mk fun _=>0)
  (fun _=>.mk fun _=>0) x0
noncomputable def putM (k:K1) (L c e:Nat) (m:Mem):R:=k (Nat.xor e (Nat.shiftLeft (Nat.xor (Nat.mod (Nat.shiftRight e L) 340282366920938463463374607431768211456) c) L)) m
noncomputable def putV  (x0:Option Nat):VW→OW:=Option.rec (motive:=fun _=>VW→OW)
  (fun v=>VW.rec (motive:=fun _=>OW) (fun f=>.mk fun cm e m k=>f cm e m fun _ e m=>k e m) v)
  (fun d=>fun v=>VW.rec (motive:=fun _=>OW) (fun f=>forceN (Nat.mul (Nat.succ d) 128) fun L=>.mk fun cm e m k=>f cm e m fun c e m=>putM k L c e m) v) x0
noncomputable def sideM (a:AV) (m:Mem) (k:Nat→Mem→R):R :=
 Mem.rec (motive:=fun _=>R) (fun ds h n sd sn b=>forceN sn fun j=>Bool.rec bad (k (Nat.add (Nat.mul j 16) 6) ⟨ds,h,n,sd.put j (some a),Nat.succ j,b⟩) (Nat.blt j 16777216)) m
noncomputable def newM (o:AO) (m:Mem) (k:Nat→Mem→R):R :=
 Mem.rec (motive:=fun _=>R) (fun ds h n sd sn b=>forceN n fun j=>Bool.rec bad (k (Nat.add (Nat.mul j 16) 3) ⟨ds,h.put j (some o),Nat.succ j,sd,sn,b⟩) (Nat.blt j 16777216)) m
noncomputable def ibW  (x0:BinOp):Option BW:=BinOp.rec (motive:=fun _=>Option BW)
  (some (.mk fun p q e m k=>Bool.rec bad (Bool.rec bad (k (Nat.add (Nat.mul (Nat.sub (Nat.add p q) 9223372036854775808) 16) 1) e m) (Nat.blt (Nat.sub (Nat.add p q) 9223372036854775808) 18446744073709551616)) (Nat.ble 9223372036854775808 (Nat.add p q))))
  (some (.mk fun p q e m k=>Bool.rec bad (Bool.rec bad (k (Nat.add (Nat.mul (Nat.sub (Nat.add p 9223372036854775808) q) 16) 1) e m) (Nat.blt (Nat.sub (Nat.add p 9223372036854775808) q) 18446744073709551616)) (Nat.ble q (Nat.add p 9223372036854775808))))
  (none)
  (none)
  (none)
  (none)
  (none)
  (none)
  (none)
  (none)
  (none)
  (some (.mk fun p q e m k=>Bool.rec (k 2 e m) (k 18 e m) (Nat.beq p q)))
  (some (.mk fun p q e m k=>Bool.rec (k 18 e m) (k 2 e m) (Nat.beq p q)))
  (some (.mk fun p q e m k=>Bool.rec (k 2 e m) (k 18 e m) (Nat.ble (Nat.succ p) q)))
  (some (.mk fun p q e m k=>Bool.rec (k 2 e m) (k 18 e m) (Nat.ble p q)))
  (some (.mk fun p q e m k=>Bool.rec (k 2 e m) (k 18 e m) (Nat.ble (Nat.succ q) p)))
  (some (.mk fun p q e m k=>Bool.rec (k 2 e m) (k 18 e m) (Nat.ble q p))) x0
noncomputable def bin2 (P : Program) (op : Op) (x y : Operand) (b : BW) : VW :=
  BW.rec (motive := fun _ => VW) (fun g => DW.rec (motive := fun _ => VW) (fun fa => DW.rec (motive := fun _ => VW) (fun fb => .mk fun cm e m k =>
    forceN (fa e) fun a => forceN (fb e) fun b => Bool.rec (slowV P op cm e m k) (g (Nat.div a 16) (Nat.div b 16) e m k) (Nat.beq (Nat.add (Nat.mul (Nat.mod a 16) 16) (Nat.mod b 16)) 17)) (cdW y)) (cdW x)) b
noncomputable def binV (P:Program) (o:BinOp) (op:Op) (x y:Operand):VW:=Option.rec (motive:=fun _=>VW) (slowW P op) (bin2 P op x y) (ibW o)
noncomputable def rowM (m:Mem) (r:Nat) (k:TypeId→Nat→Nat→R):R :=
 Mem.rec (motive:=fun _=>R) (fun _ h _ _ _ _=>Option.rec (motive:=fun _=>R) bad (fun o=>AO.rec (motive:=fun _=>R) (fun E n c=>k E n c) (fun _ _=>bad) (fun _ _ _ _ _=>bad) bad (fun _ _ _ _ _ _ _=>bad) (fun _ _=>bad) (fun _ _=>bad) (fun _ _ _=>bad) o) (h.get r)) m
noncomputable def rdM (m:Mem) (r:Nat) (k:TypeId→Nat→Nat→R):R :=
 Mem.rec (motive:=fun _=>R) (fun _ h _ _ _ _=>Option.rec (motive:=fun _=>R) bad (fun o=>AO.rec (motive:=fun _=>R) (fun E n c=>k E n c) (fun _ _=>bad) (fun _ _ _ _ _=>bad) bad (fun _ _ _ _ _ _ _=>bad) (fun _ _=>bad) (fun _ _=>bad) (fun E n c=>k E n c) o) (h.get r)) m
noncomputable def pieceM  (x0:Option Nat):Nat→Nat→Nat→Nat→Mem→K2→R:=Option.rec (motive:=fun _=>Nat→Nat→Nat→Nat→Mem→K2→R)
  (fun n c o e m k=>Bool.rec bad (Nat.rec (motive:=fun _=>R) bad (fun d _=>k (Nat.succ d) e m) (Nat.mod (Nat.shiftRight c (Nat.mul o 128)) 340282366920938463463374607431768211456)) (Nat.ble (Nat.succ o) n))
  (fun z=>fun n c o e m k=>Bool.rec bad (forceN (dgs c o z) fun d=>sideM (.ag z d) m fun c m=>k c e m) (Nat.ble (Nat.add o z) n)) x0
structure PW where
 run:Nat→Nat→Nat→Nat→Mem→K2→R
noncomputable def loadV (P : Program) (op : Op) (x : Operand) (z : Option (Option Nat)) : VW :=
  Option.rec (motive := fun _ => VW) (slowW P op) (fun z => PW.rec (motive := fun _ => VW) (fun g => DW.rec (motive := fun _ => VW) (fun fa => .mk fun cm e m k =>
    forceN (fa e) fun a => Bool.rec (slowV P op cm e m k) (rdM m (Nat.mod (Nat.div a 16) 16777216) fun _ n c => forceN (Nat.div (Nat.div a 16) 16777216) fun o => g n c o e m k) (Nat.beq (Nat.mod a 16) 3)) (cdW x)) (.mk (pieceM z))) z
noncomputable def setM (m:Mem) (r:Nat) (E:TypeId) (n c:Nat) (k:Mem→R):R :=
 Mem.rec (motive:=fun _=>R) (fun ds h nx sd sn b=>forceN b fun b=>Bool.rec bad (k ⟨ds,h.put r (some (.row E n c)),nx,sd,sn,b⟩) (Nat.ble b r)) m
noncomputable def storeV (P : Program) (op : Op) (a x : Operand) (z : Option Nat) : VW :=
  Option.rec (motive := fun _ => VW) (slowW P op) (fun z => Bool.rec (slowW P op) (DW.rec (motive := fun _ => VW) (fun fa => DW.rec (motive := fun _ => VW) (fun fx => .mk fun cm e m k =>
    forceN (fa e) fun a => forceN (fx e) fun d => Bool.rec (slowV P op cm e m k)
      (rowM m (Nat.mod (Nat.div a 16) 16777216) fun E n c => forceN (Nat.div (Nat.div a 16) 16777216) fun o => Bool.rec bad (forceN (sds c o 1 d) fun c => setM m (Nat.mod (Nat.div a 16) 16777216) E n c fun m => k 0 e m) (Nat.ble (Nat.succ o) n))
      (Bool.and (Nat.beq (Nat.mod a 16) 3) (Nat.ble (Nat.mod (Nat.add (Nat.mod d 16) 15) 16) 4))) (cdW x)) (cdW a)) (Nat.beq z 1)) z
noncomputable def fieldAddrV (P : Program) (op : Op) (x : Operand) (f : Option (Nat × Nat × Nat)) : VW :=
  Option.rec (motive := fun _ => VW) (slowW P op) (fun f => Prod.rec (motive := fun _ => VW) (fun off f => Prod.rec (motive := fun _ => VW) (fun O z => Nat.rec (motive := fun _ => VW) (slowW P op) (fun _ _ => DW.rec (motive := fun _ => VW) (fun fa => forceN off fun off => forceN O fun O => .mk fun cm e m k =>
    forceN (fa e) fun a => Bool.rec (slowV P op cm e m k) (Bool.rec bad (k (Nat.add a O) e m) (Nat.ble (Nat.succ (Nat.add (Nat.div a 268435456) off)) 16777216)) (Nat.beq (Nat.mod a 16) 3)) (cdW x)) z) f) f) f
noncomputable def idxM (i n:Nat) (k:Nat→R):R:=Bool.rec bad (Bool.rec bad (k (Nat.sub i 9223372036854775808)) (Nat.ble (Nat.succ (Nat.sub i 9223372036854775808)) n)) (Nat.ble 9223372036854775808 i)
noncomputable def ptM (r o e:Nat) (m:Mem) (k:K2):R:=Bool.rec bad (k (Nat.add (Nat.mul (Nat.add (Nat.mul o 16777216) r) 16) 3) e m) (Nat.ble (Nat.succ (Nat.lor r o)) 16777216)
noncomputable def idxS (P : Program) (op : Op) (x i : Operand) (z : Option Nat) : VW :=
  Option.rec (motive := fun _ => VW) (slowW P op) (fun z => DW.rec (motive := fun _ => VW) (fun fa => DW.rec (motive := fun _ => VW) (fun fi => forceN z fun z => .mk fun cm e m k =>
    forceN (fa e) fun a => forceN (fi e) fun i => Bool.rec (slowV P op cm e m k)
      (idxM (Nat.div i 16) (Nat.mod (Nat.div (Nat.div a 16) 281474976710656) 16777216) fun j => ptM (Nat.mod (Nat.div a 16) 16777216) (Nat.add (Nat.mod (Nat.div (Nat.div a 16) 16777216) 16777216) (Nat.mul j z)) e m k)
      (Nat.beq (Nat.add (Nat.mul (Nat.mod a 16) 16) (Nat.mod i 16)) 65)) (cdW i)) (cdW x)) z
noncomputable def idxA (P : Program) (op : Op) (x i : Operand) (q : Option (Nat × Nat)) : VW :=
  Option.rec (motive := fun _ => VW) (slowW P op) (fun q => Prod.rec (motive := fun _ => VW) (fun l z => DW.rec (motive := fun _ => VW) (fun fa => DW.rec (motive := fun _ => VW) (fun fi => forceN l fun l => forceN z fun z => .mk fun cm e m k =>
    forceN (fa e) fun a => forceN (fi e) fun i => Bool.rec (slowV P op cm e m k)
      (idxM (Nat.div i 16) l fun j => ptM (Nat.mod (Nat.div a 16) 16777216) (Nat.add (Nat.div (Nat.div a 16) 16777216) (Nat.mul j z)) e m k)
      (Nat.beq (Nat.add (Nat.mul (Nat.mod a 16) 16) (Nat.mod i 16)) 49)) (cdW i)) (cdW x)) q) q
noncomputable def sizeSl (P:Program) (t:TypeId):Option Nat:=(sliceP P t).bind fun E=>sizeP P E
noncomputable def sizeAr (P:Program) (t:TypeId):Option (Nat×Nat):=(arrP P t).bind fun e=>(sizeP P e.2).map fun z=>(e.1,z)
noncomputable def fieldSz (P:Program) (t:TypeId) (i:Nat):Option (Nat×Nat×Nat):=(fieldP P t i).bind fun f=>(sizeP P f.type).map fun z=>(f.offset,Nat.mul f.offset 268435456,z)
noncomputable def litD  (x0:AV):Option Nat:=AV.rec (motive:=fun _=>Option Nat)
  (fun p=>Bool.rec none (some (code p 1)) (Nat.blt p 18446744073709551616))
  (fun p=>Bool.rec none (some (code p 2)) (Nat.blt p 2))
  (fun _ _=>none)
  (fun _ _ _ _=>none)
  (fun _=>none)
  (none)
  (fun _=>none)
  (fun _=>none)
  (fun _ _ _ _ _=>none)
  (fun _ _=>none)
  (fun _ _=>none)
  (fun _ _=>none)
  (fun _ _ _=>none) x0
noncomputable def litsD  (x0:List Value):Nat→Nat→Option (Nat×Nat):=List.rec (motive:=fun _=>Nat→Nat→Option (Nat×Nat))
  (fun n d=>some (n,d))
  (fun v l ih=>fun n d=>(litD (AV.of v)).bind fun c=>ih (Nat.succ n) (Nat.add d (Nat.shiftLeft c (Nat.mul n 128)))) x0
noncomputable def allocV (P:Program) (op:Op) (t:TypeId) (z:Option (Nat×Nat)):VW :=
 Option.rec (motive:=fun _=>VW) (slowW P op) (fun z=>Prod.rec (motive:=fun _=>VW) (fun n d=>Bool.rec (slowW P op) (forceN n fun n=>forceN d fun d=>.mk fun cm e m k=>newM (.row t n d) m fun c m=>k c e m) (Nat.blt n 16777216)) z) z
noncomputable def boxV (P:Program) (op:Op) (t:TypeId) (x:Operand):VW :=
 DW.rec (motive:=fun _=>VW) (fun fa=>.mk fun cm e m k=>forceN (fa e) fun a=>Bool.rec (slowV P op cm e m k) (newM (.row t 1 a) m fun c m=>k c e m) (Nat.ble (Nat.mod (Nat.add (Nat.mod a 16) 15) 16) 4)) (cdW x)
noncomputable def pickV (P : Program) (op : Op) (c : Operand) (a b : VW) : VW :=
  DW.rec (motive := fun _ => VW) (fun fc => VW.rec (motive := fun _ => VW) (fun fa => VW.rec (motive := fun _ => VW) (fun fb => .mk fun cm e m k =>
    forceN (fc e) fun c => Bool.rec (Bool.rec (slowV P op cm e m k) (fb cm e m k) (Nat.beq c 2)) (fa cm e m k) (Nat.beq c 18)) b) a) (cdW c)
noncomputable def notV (P:Program) (op:Op) (x:Operand):VW :=
 DW.rec (motive:=fun _=>VW) (fun fc=>.mk fun cm e m k=>forceN (fc e) fun c=>Bool.rec (Bool.rec (slowV P op cm e m k) (k 18 e m) (Nat.beq c 2)) (k 2 e m) (Nat.beq c 18)) (cdW x)
noncomputable def nilCheckV (P:Program) (op:Op) (x:Operand):VW :=
 DW.rec (motive:=fun _=>VW) (fun fa=>.mk fun cm e m k=>forceN (fa e) fun a=>Bool.rec (slowV P op cm e m k) (k a e m) (Nat.beq (Nat.mod a 16) 3)) (cdW x)
noncomputable def sideGet (m:Mem) (a:Nat) (k:AV→R):R:=Mem.rec (motive:=fun _=>R) (fun _ _ _ sd _ _=>Option.rec (motive:=fun _=>R) bad k (sd.get a)) m
noncomputable def extractV (P : Program) (op : Op) (x : Operand) (i : Nat) : VW :=
  DW.rec (motive := fun _ => VW) (fun fa => forceN i fun i => .mk fun cm e m k => forceN (fa e) fun a => Bool.rec (slowV P op cm e m k)
    (sideGet m (Nat.div a 16) fun a => AV.rec (motive := fun _ => R) (fun _ => bad) (fun _ => bad) (fun _ _ => bad) (fun _ _ _ _ => bad) (fun _ => bad) bad (fun _ => bad) (fun _ => bad) (fun _ _ _ _ _ => bad) (fun _ _ => bad)
      (fun n c => Bool.rec bad (Nat.rec (motive := fun _ => R) bad (fun d _ => k (Nat.succ d) e m) (dg c i)) (Nat.blt i n)) (fun _ _ => bad) (fun _ _ _ => bad) a) (Nat.beq (Nat.mod a 16) 6)) (cdW x)
noncomputable def agM (m:Mem) (a:Nat) (k:Nat→Nat→R) (o:R):R :=
 sideGet m a fun a=>AV.rec (motive:=fun _=>R) (fun _=>o) (fun _=>o) (fun _ _=>o) (fun _ _ _ _=>o) (fun _=>o) o (fun _=>o) (fun _=>o) (fun _ _ _ _ _=>o) (fun n c=>k n c) (fun _ _=>o) (fun _ _=>o) (fun _ _ _=>o) a
noncomputable def fieldV (P : Program) (op : Op) (x : Operand) (f : Option (Nat × Option Nat)) : VW :=
  Option.rec (motive := fun _ => VW) (slowW P op) (fun f => Prod.rec (motive := fun _ => VW) (fun off z => PW.rec (motive := fun _ => VW) (fun g => DW.rec (motive := fun _ => VW) (fun fa => forceN off fun off => .mk fun cm e m k =>
    forceN (fa e) fun a => Bool.rec (slowV P op cm e m k) (agM m (Nat.div a 16) (fun n c => g n c off e m k) bad) (Nat.beq (Nat.mod a 16) 6)) (cdW x)) (.mk (pieceM z))) f) f
noncomputable def fieldSh (P:Program) (t:TypeId) (i:Nat):Option (Nat×Option Nat):=(fieldP P t i).bind fun f=>(shapeP P f.type).map fun z=>(f.offset,z)
noncomputable def indexV (P : Program) (op : Op) (x i : Operand) (q : Option (Nat × Nat × Option Nat)) : VW :=
  Option.rec (motive := fun _ => VW) (slowW P op) (fun q => Prod.rec (motive := fun _ => VW) (fun l q => Prod.rec (motive := fun _ => VW) (fun w z => PW.rec (motive := fun _ => VW) (fun g => DW.rec (motive := fun _ => VW) (fun fa => DW.rec (motive := fun _ => VW) (fun fi => forceN l fun l => forceN w fun w => .mk fun cm e m k =>
    forceN (fa e) fun a => forceN (fi e) fun i => Bool.rec (slowV P op cm e m k) (agM m (Nat.div a 16) (fun n c => idxM (Nat.div i 16) l fun j => g n c (Nat.mul j w) e m k) (slowV P op cm e m k)) (Nat.beq (Nat.add (Nat.mul (Nat.mod a 16) 16) (Nat.mod i 16)) 97)) (cdW i)) (cdW x)) (.mk (pieceM z))) q) q) q
noncomputable def indexSh (P:Program) (t:TypeId):Option (Nat×Nat×Option Nat):=(arrP P t).bind fun e=>(shapeP P e.2).bind fun z=>(sizeP P e.2).map fun w=>(e.1,w,z)
noncomputable def lenMk (n e:Nat) (m:Mem) (k:K2):R:=k (Nat.add (Nat.mul (Nat.add n 9223372036854775808) 16) 1) e m
noncomputable def lenX (P : Program) (op : Op) (x : Operand) : VW :=
  DW.rec (motive := fun _ => VW) (fun fa => .mk fun cm e m k =>
    forceN (fa e) fun a => Bool.rec (slowV P op cm e m k) (lenMk (Nat.mod (Nat.div (Nat.div a 16) 281474976710656) 16777216) e m k) (Nat.beq (Nat.mod a 16) 4)) (cdW x)
noncomputable def lenV (P:Program) (op:Op) (xs:List Operand) (ts:List TypeId):VW :=
 Option.rec (motive:=fun _=>VW) (slowW P op) (fun x=>Option.rec (motive:=fun _=>VW) (slowW P op) (fun _=>lenX P op x) ((head ts).bind (sliceP P))) (one xs)
noncomputable def argsW  (x0:List Operand):Nat→LW:=List.rec (motive:=fun _=>Nat→LW)
  (fun n=>.mk fun _ e m d k=>k n d e m)
  (fun x l ih=>fun n=>VW.rec (motive:=fun _=>LW) (fun f=>LW.rec (motive:=fun _=>LW) (fun g=>forceN (Nat.mul n 128) fun L=>.mk fun cm e m d k=>f cm e m fun c e m=>g cm e m (Nat.add d (Nat.shiftLeft c L)) k) (ih (Nat.succ n))) (rdV x)) x0
noncomputable def calleeV (P:Program) (x0:Operand):LW→VW:=Operand.rec (motive:=fun _=>LW→VW)
  (fun z0=>fun l=>LW.rec (motive:=fun _=>VW) (fun f=>.mk fun cm e m k=>f cm e m 0 fun n d e m=>evK (Operand.tmp z0) (stOf e m) fun a=>Bool.rec (cm a n d m fun v m=>k v e m) (extK a n d P (stOf e m) fun c s=>memK s (k c)) (isExt P a)) l)
  (fun z0=>fun l=>LW.rec (motive:=fun _=>VW) (fun f=>.mk fun cm e m k=>f cm e m 0 fun n d e m=>evK (Operand.const z0) (stOf e m) fun a=>Bool.rec (cm a n d m fun v m=>k v e m) (extK a n d P (stOf e m) fun c s=>memK s (k c)) (isExt P a)) l)
  (fun z0=>fun l=>LW.rec (motive:=fun _=>VW) (fun f=>.mk fun cm e m k=>f cm e m 0 fun n d e m=>evK (Operand.global z0) (stOf e m) fun a=>Bool.rec (cm a n d m fun v m=>k v e m) (extK a n d P (stOf e m) fun c s=>memK s (k c)) (isExt P a)) l)
  (fun g=>fun l=>LW.rec (motive:=fun _=>VW) (fun f=>Bool.rec (.mk fun cm e m k=>f cm e m 0 fun n d e m=>cm (.fn (.func g) 0 0 0 0) n d m fun v m=>k v e m)       (.mk fun cm e m k=>f cm e m 0 fun n d e m=>extK (.fn (.func g) 0 0 0 0) n d P (stOf e m) fun c s=>memK s (k c)) (noBody P g)) l) x0
noncomputable def isLen  (x0:Builtin):Bool:=Builtin.rec (motive:=fun _=>Bool)
  (false)
  (false)
  (false)
  (false)
  (false)
  (false)
  (false)
  (false)
  (true)
  (false)
  (false)
  (false)
  (false)
  (false)
  (false)
  (false)
  (false)
  (false)
  (false)
  (false)
  (false)
  (false)
  (false)
  (false)
  (false)
  (false) x0
noncomputable def callV  (x0:Callee):Program→Op→List Operand→List TypeId→VW:=Callee.rec (motive:=fun _=>Program→Op→List Operand→List TypeId→VW)
  (fun x=>fun P op xs ts=>calleeV P x (argsW xs 0))
  (fun _ _=>fun P op xs ts=>slowW P op)
  (fun b=>fun P op xs ts=>Bool.rec (slowW P op) (lenV P op xs ts) (isLen b)) x0
noncomputable def isNot  (x0:UnOp):Bool:=UnOp.rec (motive:=fun _=>Bool)
  (false)
  (false)
  (true)
  (false) x0
noncomputable def opV (P:Program) (x0:Op):VW:=Op.rec (motive:=fun _=>VW)
  (fun x=>rdV x)
  (fun x=>rdV x)
  (fun c a b=>pickV P (.pick c a b) c (rdV a) (rdV b))
  (fun t=>allocV P (.alloc t) t ((zeroP P t).bind fun z=>litsD z.cells.toList 0 0))
  (fun t x=>boxV P (.box t x) t x)
  (fun z0 z1=>slowW P (Op.build z0 z1))
  (fun z0 z1 z2=>slowW P (Op.buildSlice z0 z1 z2))
  (fun z0 z1 z2 z3=>slowW P (Op.insert z0 z1 z2 z3))
  (fun t x=>loadV P (.load t x) x (shapeP P t))
  (fun t a x=>storeV P (.store t a x) a x (sizeP P t))
  (fun z0=>slowW P (Op.ready z0))
  (fun z0=>slowW P (Op.waits z0))
  (fun x=>nilCheckV P (.nilCheck x) x)
  (fun o t x y u=>binV P o (.binOp o t x y u) x y)
  (fun o t x=>Bool.rec (slowW P (.unOp o t x)) (notV P (.unOp o t x) x) (isNot o))
  (fun z0 z1 z2=>slowW P (Op.convert z0 z1 z2))
  (fun z0 z1=>slowW P (Op.sliceToArrayPointer z0 z1))
  (fun z0 z1=>slowW P (Op.makeInterface z0 z1))
  (fun z0 z1 z2=>slowW P (Op.makeFunc z0 z1 z2))
  (fun z0 z1=>slowW P (Op.makeMap z0 z1))
  (fun z0 z1=>slowW P (Op.makeChan z0 z1))
  (fun z0 z1 z2=>slowW P (Op.makeSlice z0 z1 z2))
  (fun z0 z1 z2 z3 z4=>slowW P (Op.slice z0 z1 z2 z3 z4))
  (fun t x i=>fieldAddrV P (.fieldAddr t x i) x (fieldSz P t i))
  (fun t x i=>fieldV P (.field t x i) x (fieldSh P t i))
  (fun t x i=>Option.rec (motive:=fun _=>VW) (idxA P (.indexAddr t x i) x i (sizeAr P t)) (fun _=>idxS P (.indexAddr t x i) x i (sizeSl P t)) (sliceP P t))
  (fun t x i=>indexV P (.index t x i) x i (indexSh P t))
  (fun z0 z1 z2 z3=>slowW P (Op.lookup z0 z1 z2 z3))
  (fun z0 z1 z2 z3=>slowW P (Op.mapUpdate z0 z1 z2 z3))
  (fun z0 z1 z2=>slowW P (Op.mapEntry z0 z1 z2))
  (fun z0 z1 z2 z3=>slowW P (Op.entryStore z0 z1 z2 z3))
  (fun z0 z1=>slowW P (Op.range z0 z1))
  (fun z0 z1=>slowW P (Op.next z0 z1))
  (fun z0=>slowW P (Op.entry z0))
  (fun z0 z1 z2 z3=>slowW P (Op.typeAssert z0 z1 z2 z3))
  (fun x i=>extractV P (.extract x i) x i)
  (fun c=>callV c.callee P (.call c) c.args.toList c.argTypes.toList)
  (fun z0=>slowW P (Op.go z0))
  (fun z0=>slowW P (Op.defer z0))
  (fun z0=>slowW P (Op.panic z0))
  (fun z0 z1=>slowW P (Op.send z0 z1))
  (fun z0 z1 z2=>slowW P (Op.recv z0 z1 z2))
  (fun z0 z1=>slowW P (Op.select z0 z1)) x0
end Go.Ex
namespace Go.Ex
open Go.Fip
structure CW where
 run:CallM→Nat→Mem→K1→K2→R
structure FW where
 run:CallM→Nat→Nat→Nat→Nat→Nat→Nat→Mem→(Nat→Mem→R)→R
noncomputable def slowO (P:Program) (o:Oper) (ops:Array Oper) (cm:CallM) (e:Nat) (m:Mem) (k:K1):R:=op1 o ops (callOf cm) P (stOf e m) fun s=>memK s k
noncomputable def skipV:VW:=.mk fun cm e m k=>sideM (.tu 0 0) m fun c m=>k c e m
noncomputable def guardW (P : Program) (o : Oper) (ops : Array Oper) (d : Nat) (want : Bool) : OW :=
  OW.rec (motive := fun _ => OW) (fun f => OW.rec (motive := fun _ => OW) (fun g => forceN (Nat.mul (Nat.succ d) 128) fun L => .mk fun cm e m k =>
    forceN (Nat.mod (Nat.shiftRight e L) 340282366920938463463374607431768211456) fun c => Bool.rec (Bool.rec (slowO P o ops cm e m k) (g cm e m k) (Nat.beq c 2)) (f cm e m k) (Nat.beq c 18))
    (Bool.rec (putV o.dst (opV P o.op)) (putV o.dst skipV) want)) (Bool.rec (putV o.dst skipV) (putV o.dst (opV P o.op)) want)
noncomputable def operW (P:Program) (ops:Array Oper) (o:Oper):OW :=
 Option.rec (motive:=fun _=>OW) (putV o.dst (opV P o.op)) (fun g=>Option.rec (motive:=fun _=>OW) (.mk fun cm e m k=>slowO P o ops cm e m k) (fun d=>guardW P o ops d g.2) ((ops[g.1]?).bind (·.dst))) o.guard
noncomputable def opsW (P:Program) (ops:Array Oper) (x0:List Oper):OW:=List.rec (motive:=fun _=>OW)
  (.mk fun _ e m k=>k e m)
  (fun o l ih=>OW.rec (motive:=fun _=>OW) (fun f=>OW.rec (motive:=fun _=>OW) (fun g=>.mk fun cm e m k=>f cm e m fun e m=>g cm e m k) (ih)) (operW P ops o)) x0
structure AW where
 run:CallM→Wt→Nat→Mem→K1→R
noncomputable def slowT (P:Program) (ops:Array Oper) (p:PI) (cm:CallM) (wt:Wt) (e e1:Nat) (m m1:Mem) (k:Wt→R):R:=watch1 (callOf cm) P p.i p.o ops (stOf e m) (stOf e1 m1) wt k
noncomputable def slowP (P:Program) (p:PI) (cm:CallM) (e:Nat) (m:Mem) (k:K1):R:=opx p.o.op (callOf cm) P (stOf e m) fun _ _=>putE p.o.dst 0 (stOf e m) fun s=>memK s k
noncomputable def slowN (P:Program) (p:PI) (cm:CallM) (wt:Wt) (e:Nat) (m:Mem) (k:Wt→R):R:=keptK (callOf cm) P p.o wt (stOf e m) k
noncomputable def anyW (P:Program) (ops:Array Oper) (x0:List PS):AW:=List.rec (motive:=fun _=>AW)
  (.mk fun _ _ e m k=>k e m)
  (fun x ps ih=>AW.rec (motive:=fun _=>AW) (fun g=>PS.rec (motive:=fun _=>AW)       (fun p=>OW.rec (motive:=fun _=>AW) (fun f=>Bool.rec (.mk fun cm wt e m k=>f cm e m fun e1 m1=>g cm wt e1 m1 k) (.mk fun cm wt e m k=>f cm e m fun e1 m1=>slowT P ops p cm wt e e1 m m1 fun wt=>g cm wt e1 m1 k) (reads p.o.op)) (operW P ops p.o))       (fun p=>OW.rec (motive:=fun _=>AW) (fun f=>.mk fun cm wt e m k=>f cm e m fun e m=>List.rec (motive:=fun _=>R) (g cm [] e m k) (fun _ _ _=>slowN P p cm wt e m fun wt=>g cm wt e m k) wt) (operW P ops p.o))       (fun p=>.mk fun cm wt e m k=>slowP P p cm e m fun e m=>g cm wt e m k)       (fun p=>OW.rec (motive:=fun _=>AW) (fun f=>.mk fun cm wt e m k=>f cm e m fun e m=>g cm wt e m k) (operW P ops p.o)) x) (ih)) x0
noncomputable def regW (P:Program) (ops:Array Oper) (x0:Bool):CW:=Bool.rec (motive:=fun _=>CW)
  (OW.rec (motive:=fun _=>CW) (fun f=>.mk fun cm e m kn _=>f cm e m kn) (opsW P ops ops.toList))
  (Bool.rec (.mk fun _ _ _ _ _=>bad) (AW.rec (motive:=fun _=>CW) (fun f=>.mk fun cm e m kn _=>f cm [] e m kn) (anyW P ops (planOf ops))) (okR ops)) x0
noncomputable def slowCond (c:Operand) (e:Nat) (m:Mem) (x y:K1):R:=evK c (stOf e m) fun a=>condT a (fun s=>memK s x) (fun s=>memK s y) (stOf e m)
noncomputable def condW (c : Operand) (a b : CW) : CW :=
  DW.rec (motive := fun _ => CW) (fun fc => CW.rec (motive := fun _ => CW) (fun fa => CW.rec (motive := fun _ => CW) (fun fb => .mk fun cm e m kn kx =>
    forceN (fc e) fun d => Bool.rec (Bool.rec (slowCond c e m (fun e m => fa cm e m kn kx) fun e m => fb cm e m kn kx) (fb cm e m kn kx) (Nat.beq d 2)) (fa cm e m kn kx) (Nat.beq d 18)) b) a) (cdW c)
noncomputable def loopW (f:CallM→Nat→Mem→K1→K2→R) (F:Nat):CallM→Nat→Mem→K2→R :=
 Nat.rec (motive:=fun _=>CallM→Nat→Mem→K2→R) (fun _ _ _ _=>bad) (fun _ ih cm e m kx=>f cm e m (fun e m=>ih cm e m kx) kx) F
noncomputable def kOf (kn:K1) (kx:K2) (x:Nat) (s:St):R:=seqT x (fun s=>memK s kn) (fun x s=>memK s (kx x)) s
noncomputable def runS (f:CallM→Nat→Mem→K1→K2→R) (cm:CallM) (s:St) (k:Nat→St→R):R:=memK s fun e m=>f cm e m (fun e m=>k 0 (stOf e m)) fun x e m=>k x (stOf e m)
noncomputable def loopRW (f:CallM→Nat→Mem→K1→K2→R) (F N:Nat) (b:Code) (cm:CallM) (e:Nat) (m:Mem) (kn:K1) (kx:K2):R :=
 loopR (fun s k=>runS f cm s k) N b F (stOf e m) (kOf kn kx)
noncomputable def slowRange (N:Nat) (ps:List Nat) (assign body:Code) (g:Operand) (cm:CallM) (e:Nat) (m:Mem) (kn:K1) (kx:K2):R :=
 evK g (stOf e m) fun g=>rangeF (callOf cm) N ps assign body g (stOf e m) (kOf kn kx)
noncomputable def codeW (P:Program) (F N:Nat) (c:Code):CW :=
 Code.rec (motive:=fun _=>CW)
  (.mk fun _ e m kn _=>kn e m)
  (fun _ ops draw=>regW P ops draw)
  (fun _ _ iha ihb=>CW.rec (motive:=fun _=>CW) (fun fa=>CW.rec (motive:=fun _=>CW) (fun fb=>.mk fun cm e m kn kx=>fa cm e m (fun e m=>fb cm e m kn kx) kx) ihb) iha)
  (fun c _ _ iha ihb=>condW c iha ihb)
  (fun i _ ih=>CW.rec (motive:=fun _=>CW) (fun f=>forceN (Nat.add 2 (Nat.mul 2 i)) fun j=>.mk fun cm e m kn kx=>f cm e m kn fun x e m=>Bool.rec (kx x e m) (kn e m) (Nat.beq x j)) ih)
  (fun b ih=>CW.rec (motive:=fun _=>CW) (fun f=>Bool.rec (.mk fun cm e m kn kx=>loopW f F cm e m kx) (.mk fun cm e m kn kx=>loopRW f F N b cm e m kn kx) (Bool.and (hasNext b) (Bool.not (hasApp b)))) ih)
  (fun g ps assign body _ _=>.mk fun cm e m kn kx=>slowRange N ps.toList assign body g cm e m kn kx)
  (fun i=>forceN (Nat.add 2 (Nat.mul 2 i)) fun j=>.mk fun _ e m _ kx=>kx j e m)
  (fun _ ih=>CW.rec (motive:=fun _=>CW) (fun f=>.mk fun cm e m kn kx=>f cm e m kn fun x e m=>Bool.rec (kx x e m) bad (isGoto x)) ih)
  (fun _=>.mk fun _ e m kn _=>kn e m)
  (fun i=>forceN (Nat.add 3 (Nat.mul 2 i)) fun j=>.mk fun _ e m _ kx=>kx j e m)
  (.mk fun _ e m _ kx=>kx 1 e m)
  (fun _=>.mk fun _ _ _ _ _=>bad) c
noncomputable def withDs (ds:List Nat) (m:Mem) (k:Mem→R):R:=Mem.rec (motive:=fun _=>R) (fun _ h n sd sn b=>k ⟨ds,h,n,sd,sn,b⟩) m
noncomputable def dsK (m:Mem) (k:List Nat→R):R:=Mem.rec (motive:=fun _=>R) (fun ds _ _ _ _ _=>k ds) m
noncomputable def slowLeave (P:Program) (fn:Func) (ds:List Nat) (k:Nat→Mem→R) (x e:Nat) (m:Mem):R:=leave P fn 0 ds (fun v s=>memK s fun _ m=>k v m) x (stOf e m)
structure LvW where
 run:List Nat→(Nat→Mem→R)→Nat→Nat→Mem→R
noncomputable def leave1 (P:Program) (fn:Func) (x0:List ResultVar):LvW:=List.rec (motive:=fun _=>LvW)
  (.mk fun ds k x e m=>slowLeave P fn ds k x e m)
  (fun r l ih=>List.rec (motive:=fun _=>LvW) (ResultVar.rec (motive:=fun _=>LvW)       (fun t=>forceN (Nat.mul (Nat.succ t) 128) fun L=>.mk fun ds k x e m=>dsK m fun d=>List.rec (motive:=fun _=>R)         (Nat.rec (motive:=fun _=>R) bad (fun c _=>withDs ds m fun m=>k (Nat.succ c) m) (Nat.mod (Nat.shiftRight e L) 340282366920938463463374607431768211456))         (fun _ _ _=>slowLeave P fn ds k x e m) d)       (fun _ _=>.mk fun ds k x e m=>slowLeave P fn ds k x e m) r) (fun _ _ _=>.mk fun ds k x e m=>slowLeave P fn ds k x e m) l) x0
noncomputable def joinW (f:CallM→Nat→Mem→K1→K2→R) (N:Nat) (cm:CallM) (s:St) (k:Nat→St→R):R :=
 optR (runS f cm ⟨s.env,s.ds,s.heap,s.next,s.side,s.sn,s.next⟩ endO) (joined N s.lim ⟨s.env,s.ds,s.heap,s.next,s.side,s.sn,s.next⟩ k)
noncomputable def joinD (f:CallM→Nat→Mem→K1→K2→R) (N:Nat) (d:Bool) (cm:CallM) (s:St) (k:Nat→St→R):R :=
 Bool.rec (joinW f N cm s k) (Option.rec (motive:=fun _=>R) (optR (runS f cm s endO) (oneO k bad)) (joined N s.lim ⟨s.env,s.ds,s.heap,s.next,s.side,s.sn,s.next⟩ k) (runS f cm ⟨s.env,s.ds,s.heap,s.next,s.side,s.sn,s.next⟩ endO)) d
noncomputable def bodyW (P : Program) (F : Nat) (fn : Func) (c : Code) : FW :=
  CW.rec (motive := fun _ => FW) (fun f => LvW.rec (motive := fun _ => FW) (fun g => forceN fn.ntmps fun N => Bool.rec
    (.mk fun cm n₁ c₁ n₂ c₂ n₃ c₃ m k => Bool.rec bad (dsK m fun ds => withDs [] m fun m => f cm (Nat.shiftLeft (Nat.add c₁ (Nat.shiftLeft (Nat.add c₂ (Nat.shiftLeft c₃ (Nat.mul n₂ 128))) (Nat.mul n₁ 128))) 128) m
      (fun e m => g ds k 0 e m) fun x e m => Bool.rec bad (g ds k x e m) (Nat.ble x 1)) (Nat.ble (Nat.add n₁ (Nat.add n₂ n₃)) N))
    (.mk fun cm n₁ c₁ n₂ c₂ n₃ c₃ m k => Bool.rec bad (dsK m fun ds => withDs [] m fun m => joinD f N (hasDel c) cm (stOf (Nat.shiftLeft (Nat.add c₁ (Nat.shiftLeft (Nat.add c₂ (Nat.shiftLeft c₃ (Nat.mul n₂ 128))) (Nat.mul n₁ 128))) 128) m)
      fun x s => memK s fun e m => Bool.rec bad (g ds k x e m) (Nat.ble x 1)) (Nat.ble (Nat.add n₁ (Nat.add n₂ n₃)) N))
    (hasNext c)) (leave1 P fn fn.results.toList)) (codeW P F fn.ntmps c)
noncomputable def fnW (P:Program) (F g:Nat):FW :=
 Option.rec (motive:=fun _=>FW) (.mk fun _ _ _ _ _ _ _ _ _=>bad) (fun fn=>Option.rec (motive:=fun _=>FW) (.mk fun _ _ _ _ _ _ _ _ _=>bad) (fun c=>Bool.rec (.mk fun _ _ _ _ _ _ _ _ _=>bad) (bodyW P F fn c) (okC fn.ntmps c)) fn.body) (P.funcs[g]?)
noncomputable def codeS (P:Program) (F N:Nat) (c:Code) (cm:CallM) (s:St) (k:Nat→St→R):R:=CW.rec (motive:=fun _=>R) (fun f=>runS f cm s k) (codeW P F N c)
noncomputable def roundS (P : Program) (F l n c : Nat) (cm : CallM) (s : St) (k : Nat → St → R) (N env : Nat) (ps : List Nat) (a b : Code) : R :=
  codeS P F N a cm ⟨argsE ps env c n 0, [], s.heap, s.next, s.side, s.sn, s.lim⟩ fun e s1 =>
    Nat.rec (motive := fun _ => R) (optR (loopT (s1.heap.get l)) fun y => Bool.rec bad (setH s1 l (some (.loop y.1 y.2.1 y.2.2.1 y.2.2.2.1 y.2.2.2.2.1 .busy y.2.2.2.2.2.2)) fun s1 =>
      codeS P F N b cm s1 (roundE l s k)) (isReady y.2.2.2.2.2.1)) (fun _ _ => bad) e
noncomputable def yieldS (P : Program) (F l n c : Nat) (cm : CallM) (s : St) (k : Nat → St → R) : R :=
  Option.rec (motive := fun _ => R) bad (fun o => AO.rec (motive := fun _ => R) (fun _ _ _ => bad) (fun _ _ => bad) (fun _ _ _ _ _ => bad) bad
    (fun N env ps a b st pe => Bool.rec bad (roundS P F l n c cm s k N env ps a b) (Bool.and (Nat.beq n ps.length) (Bool.and (okC N a) (Bool.and (okC N b) (Bool.and (noRange a) (Bool.and (noRange b) (Bool.and (ps.all fun p => Nat.blt p N) (isReady st)))))))) (fun _ _ => bad) (fun _ _ => bad) (fun _ _ _ => bad) o) (s.heap.get l)
noncomputable def callFW (P:Program) (F:Nat) (x0:Fn):Nat→Nat→Nat→Nat→Nat→Nat→CallM→Mem→(Nat→Mem→R)→R:=Fn.rec (motive:=fun _=>Nat→Nat→Nat→Nat→Nat→Nat→CallM→Mem→(Nat→Mem→R)→R)
  (fun g=>fun n₁ c₁ n₂ c₂ n₃ c₃ cm m k=>FW.rec (motive:=fun _=>R) (fun f=>f cm n₁ c₁ n₂ c₂ n₃ c₃ m k) (fnW P F g))
  (fun _=>fun _ _ _ _ _ _ _ _ _=>bad)
  (fun _ _=>fun _ _ _ _ _ _ _ _ _=>bad)
  (fun _ _ _ _=>fun _ _ _ _ _ _ _ _ _=>bad)
  (fun _=>fun _ _ _ _ _ _ _ _ _=>bad) x0
noncomputable def callTW (P:Program) (F:Nat) (x0:AV):Nat→Nat→CallM→Mem→(Nat→Mem→R)→R:=AV.rec (motive:=fun _=>Nat→Nat→CallM→Mem→(Nat→Mem→R)→R)
  (fun _=>fun _ _ _ _ _=>bad)
  (fun _=>fun _ _ _ _ _=>bad)
  (fun _ _=>fun _ _ _ _ _=>bad)
  (fun _ _ _ _=>fun _ _ _ _ _=>bad)
  (fun _=>fun _ _ _ _ _=>bad)
  (fun _ _ _ _ _=>bad)
  (fun l=>fun n c cm m k=>yieldS P F l n c cm (stOf 0 m) fun v s=>memK s fun _ m=>k v m)
  (fun _=>fun _ _ _ _ _=>bad)
  (fun f n₁ c₁ n₃ c₃=>fun n c cm m k=>callFW P F f n₁ c₁ n c n₃ c₃ cm m k)
  (fun _ _=>fun _ _ _ _ _=>bad)
  (fun _ _=>fun _ _ _ _ _=>bad)
  (fun _ _=>fun _ _ _ _ _=>bad)
  (fun _ _ _=>fun _ _ _ _ _=>bad) x0
noncomputable def callM (P:Program) (F D:Nat):CallM :=
 Nat.rec (motive:=fun _=>CallM) (fun _ _ _ _ _=>bad) (fun _ ih f n c m k=>callTW P F f n c ih m k) D
noncomputable def callO (P:Program) (F:Nat) (or:CallM→CallM) (D:Nat):CallM :=
 Nat.rec (motive:=fun _=>CallM) (fun _ _ _ _ _=>bad) (fun _ ih=>or fun f n c m k=>callTW P F f n c ih m k) D
end Go.Ex
namespace Go.Ex
open Go.Fip
noncomputable def digN (F:Nat):Nat→List Nat→List Nat:=Nat.rec (motive:=fun _=>Nat→List Nat→List Nat) (fun _ l=>l) (fun _ ih n l=>Bool.rec (forceN (Nat.div n 10) fun m=>ih m (Nat.add 48 (Nat.mod n 10)::l)) (Nat.add 48 n::l) (Nat.blt n 10)) F
noncomputable def hexD (n:Nat):Nat:=Bool.rec (Nat.add 87 n) (Nat.add 48 n) (Nat.blt n 10)
noncomputable def hexNN (F:Nat):Nat→List Nat→List Nat:=Nat.rec (motive:=fun _=>Nat→List Nat→List Nat) (fun _ l=>l) (fun _ ih n l=>forceN (Nat.div n 16) fun m=>forceN (hexD (Nat.mod n 16)) fun d=>ih m (d::l)) F
noncomputable def smN (l:List Nat):Nat→Nat:=List.rec (motive:=fun _=>Nat→Nat) (fun n=>n) (fun b _ ih n=>forceN (Nat.mod (Nat.mul (Nat.xor n b) 1099511628211) 18446744073709551616) ih) l
noncomputable def natsOf (b:ByteArray):List Nat:=b.data.toList.map UInt8.toNat
noncomputable def strN (l:List Nat):Value:=.string ⟨(l.map UInt8.ofNat).toArray⟩
noncomputable def int0:Value→Option Nat
 | .int .i64 (.ofNat n)=>some n
 | _=>none
noncomputable def word0:Value→Option Nat
 | .int .u64 (.ofNat n)=>Bool.rec none (some n) (Nat.blt n 18446744073709551616)
 | _=>none
noncomputable def hex16 (n:Nat):List Nat:=hexNN 16 n []
noncomputable def textN (l:List Nat):List Nat:=List.rec (motive:=fun _=>List Nat) [] (fun n l ih=>digN 20 n (List.rec (motive:=fun _=>List Nat) [] (fun _ _ _=>32::ih) l)) l
noncomputable def ints0:List Value→Option (List Nat)
 | []=>some []
 | v::l=>(int0 v).bind fun n=>(ints0 l).map fun l=>n::l
noncomputable def u64V (n:Nat):Value:=.int .u64 (.ofNat n)
noncomputable def seed0:Nat:=14695981039346656037
noncomputable def inB (lo hi n:Nat):Bool:=Bool.and (Nat.ble lo n) (Nat.ble n hi)
noncomputable def enOK:List Nat→Bool
 | [n,d,f,t,a]=>Bool.and (inB 1 1099511627776 n) (Bool.and (inB 0 36500 d) (Bool.and (inB 0 9 f) (Bool.and (inB 0 9 t) (inB 1 1000000 a))))
 | _=>false
noncomputable def evText:List Value→Option Value
 | [.agg cs]=>(ints0 cs.toList).bind fun l=>Bool.rec none (some (strN (textN l))) (enOK l)
 | _=>none
noncomputable def evSum:List Value→Option Value
 | [.string b]=>Bool.rec none (some (u64V (smN (natsOf b) seed0))) (Nat.ble b.size 1000000)
 | _=>none
noncomputable def evBoth:List Value→Option Value
 | [a,b]=>(word0 a).bind fun a=>(word0 b).map fun b=>u64V (smN (110::(hex16 a++hex16 b)) seed0)
 | _=>none
noncomputable def evHex:List Value→Option Value
 | [a]=>(word0 a).map fun a=>strN (hex16 a)
 | _=>none
noncomputable def isTen:Value→Bool
 | .int .i64 (.ofNat n)=>Nat.beq n 10
 | _=>false
noncomputable def evFmt:List Value→Option Value
 | [a,b]=>(int0 a).bind fun n=>Bool.rec none (some (strN (digN 20 n []))) (Bool.and (Nat.blt n 9223372036854775808) (isTen b))
 | _=>none
noncomputable def litArgs (sd:T AV):List Nat→Option (List Value)
 | []=>some []
 | c::l=>((dec c sd).bind (AV.lit sd)).bind fun v=>(litArgs sd l).map fun l=>v::l
noncomputable def symN (c:Nat):Option Nat:=Bool.rec none (some (Nat.div c 16)) (Nat.beq (Nat.mod c 16) 9)
noncomputable def entAt (d o:Nat):Option Nat:=(symN (dg d o)).bind fun p=>Bool.rec none (some (Nat.div p 5)) (Bool.and (Bool.and (Nat.beq (Nat.mod p 5) 0) (Nat.blt p 60)) (Bool.and (Bool.and (Nat.beq (dg d (Nat.add o 1)) (code (Nat.add p 1) 9)) (Nat.beq (dg d (Nat.add o 2)) (code (Nat.add p 2) 9))) (Bool.and (Nat.beq (dg d (Nat.add o 3)) (code (Nat.add p 3) 9)) (Nat.beq (dg d (Nat.add o 4)) (code (Nat.add p 4) 9)))))
noncomputable def syN:Option AV→Option Nat
 | some (.ym n _ _)=>some n
 | _=>none
noncomputable def entOf (sd:T AV) (c:Nat):Option Nat :=
 match dec c sd with
 | some (.ag 5 d)=>(entAt d 0).bind fun j=>(syN (sd.get 0)).bind fun n=>Bool.rec none (some j) (Nat.blt j n)
 | _=>none
noncomputable def syText (sd:T AV) (c:Nat):Option Nat:=(entOf sd c).map fun j=>code (Nat.add 64 (Nat.mul 2 j)) 9
noncomputable def syFalse (sd:T AV) (c:Nat):Option Nat:=(entOf sd c).map fun _=>2
noncomputable def leafJ (p n:Nat):Option Nat:=Bool.rec none (some (Nat.div (Nat.sub p 64) 2)) (Bool.and (Bool.and (Nat.ble 64 p) (Nat.blt p 88)) (Bool.and (Nat.beq (Nat.mod p 2) 1) (Nat.blt (Nat.div (Nat.sub p 64) 2) n)))
noncomputable def sySum (sd:T AV) (c:Nat):Option Nat:=(symN c).bind fun p=>(syN (sd.get 0)).bind fun n=>(leafJ p n).map fun j=>code (Nat.add 128 (Nat.add (Nat.mul 16 j) (Nat.succ j))) 9
noncomputable def halfN (n:Nat):Nat:=Bool.rec (Bool.rec (Bool.rec 8 4 (Nat.ble n 8)) 2 (Nat.ble n 4)) 1 (Nat.ble n 2)
noncomputable def pairH (p q n:Nat):Option Nat := 
 Bool.rec none (some (code (Nat.add 128 (Nat.add (Nat.mul 16 (Nat.div p 16)) (Nat.mod q 16))) 9)) (Bool.and (Bool.and (Nat.ble (Nat.mod q 16) n) (Nat.ble (Nat.add (Nat.div p 16) 2) (Nat.mod q 16))) (Bool.and (Nat.beq (Nat.mod p 16) (Nat.div q 16)) (Nat.beq (Nat.mod p 16) (Nat.add (Nat.div p 16) (halfN (Nat.sub (Nat.mod q 16) (Nat.div p 16)))))))
noncomputable def syBoth (sd:T AV) (c d:Nat):Option Nat:=(symN c).bind fun p=>(symN d).bind fun q=>(syN (sd.get 0)).bind fun n=>Bool.rec none (pairH (Nat.sub p 128) (Nat.sub q 128) n) (Bool.and (Nat.ble 128 p) (Nat.ble 128 q))
noncomputable def allEnt (c:Nat) (m:Nat):Bool:=Nat.rec true (fun j ih=>Option.rec (motive:=fun _=>Bool) false (fun i=>Bool.and (Nat.beq i j) ih) (entAt c (Nat.mul 5 j))) m
noncomputable def syBook (sd:T AV) (h:T AO) (c:Nat):Option Nat :=
 match dec c sd with
 | some (.ag 1 d)=>match dec d sd with
  | some (.sl r 0 m _)=>match h.get r with
   | some (.ro _ _ cs)=>(syN (sd.get 0)).bind fun n=>Bool.rec none (some (code 9223372036854775808 1)) (Bool.and (Nat.ble m n) (allEnt cs m))
   | _=>none
  | _=>none
 | _=>none
noncomputable def lit1O (ev:List Value→Option Value) (sd:T AV) (cs:List Nat):Option Value:=(litArgs sd cs).bind ev
noncomputable def ansV (o:Option Value) (m:Mem) (k:Nat→Mem→R) (other:R):R:=Option.rec (motive:=fun _=>R) other (fun v=>enc (AV.of v) (stOf 0 m) fun c s=>memK s fun _ m=>k c m) o
noncomputable def ansC (o:Option Nat) (m:Mem) (k:Nat→Mem→R) (other:R):R:=Option.rec (motive:=fun _=>R) other (fun c=>k c m) o
abbrev Ans:=Nat→Nat→Mem→(Nat→Mem→R)→R→R
noncomputable def orS (g:Nat) (a:Ans) (call:CallM):CallM:=fun f n c m k =>
 match f with
 | .fn (.func g') 0 _ 0 _=>Bool.rec (call f n c m k) (a n c m k (call f n c m k)) (Nat.beq g' g)
 | _=>call f n c m k
noncomputable def orL (l:List (Nat×Ans)) (call:CallM):CallM:=List.rec (motive:=fun _=>CallM) call (fun p _ ih=>orS p.1 p.2 ih) l
noncomputable def arity (k n:Nat) (r o:R):R:=Bool.rec o r (Nat.beq n k)
noncomputable def aBook:Ans:=fun n c m k o=>arity 1 n (ansC (syBook m.side m.heap (dg c 0)) m k o) o
noncomputable def aFalse:Ans:=fun n c m k o=>arity 1 n (ansC (syFalse m.side (dg c 0)) m k o) o
noncomputable def aText:Ans:=fun n c m k o=>arity 1 n (ansC (syText m.side (dg c 0)) m k (ansV (lit1O evText m.side (codes c n 0)) m k o)) o
noncomputable def aSum:Ans:=fun n c m k o=>arity 1 n (ansC (sySum m.side (dg c 0)) m k (ansV (lit1O evSum m.side (codes c n 0)) m k o)) o
noncomputable def aBoth:Ans:=fun n c m k o=>arity 2 n (ansC (syBoth m.side (dg c 0) (dg c 1)) m k (ansV (lit1O evBoth m.side (codes c n 0)) m k o)) o
noncomputable def aHex:Ans:=fun n c m k o=>arity 1 n (ansV (lit1O evHex m.side (codes c n 0)) m k o) o
noncomputable def aFmt:Ans:=fun n c m k o=>arity 2 n (ansV (lit1O evFmt m.side (codes c n 0)) m k o) o
noncomputable abbrev bookA:List (Nat×Ans):=[(56,aSum),(57,aText),(59,aBoth),(89,aHex),(106,aFmt),(54,aFalse),(55,aFalse),(47,aBook),(4,aBook)]
noncomputable def mN:Mem:=⟨[],full 25,0,full 25,0,0⟩
noncomputable def qT (c:Nat) (_:Mem):R:=Bool.rec bad (some []) (Nat.beq c 18)
noncomputable def aTrue:Ans:=fun n c m k o=>arity 0 n (ansC (some 18) m k o) o
noncomputable def cI (n:Nat):Nat:=Nat.add (Nat.mul (Nat.add n 9223372036854775808) 16) 1
noncomputable def cL:List Nat→Nat
 | []=>0
 | x::l=>Nat.add x (Nat.shiftLeft (cL l) 128)
noncomputable def roM (E n d:Nat) (sd:T AV) (sn:Nat):Mem:=⟨[],(full 25).put 0 (some (.ro E n d)),1,sd,sn,1⟩
noncomputable def roI (l:List Nat):Mem:=roM 3 l.length (cL (l.map cI)) (full 25) 0
noncomputable def sl0 (n:Nat):Nat:=code (Nat.mul (Nat.mul n 16777216) 16777216) 4
noncomputable def isNil (r:R):Bool:=Option.rec (motive:=fun _=>Bool) false (fun l=>List.rec (motive:=fun _=>Bool) true (fun _ _ _=>false) l) r
noncomputable def allB (f:Nat→Bool) (n:Nat):Bool:=Nat.rec (motive:=fun _=>Bool) true (fun i ih=>Bool.and (forceN i f) ih) n
noncomputable def qLit (lit:Nat) (c:Nat) (_:Mem):R:=Bool.rec bad (some []) (Nat.beq c lit)
noncomputable def qRow (l:List Nat) (e:Nat) (c:Nat) (m:Mem):R :=
 match dec c m.side with
 | some (.tu n t)=>match dec (dg t 0) m.side with
  | some (.sl r o k _)=>match m.heap.get r with
   | some (.row E n' d)=>Bool.rec bad (some []) (Bool.and (Bool.and (Nat.beq n 2) (Nat.beq (dg t 1) (cI e))) (Bool.and (Nat.beq k l.length) (Bool.and (Nat.ble (Nat.add o k) n') (Nat.beq (dgs d o k) (cL (l.map cI))))))
   | _=>bad
  | _=>bad
 | _=>bad
noncomputable def qSlc (k e:Nat) (c:Nat) (m:Mem):R :=
 match dec c m.side with
 | some (.tu n t)=>match dec (dg t 0) m.side with
  | some (.sl _ _ k' _)=>Bool.rec bad (some []) (Bool.and (Bool.and (Nat.beq n 2) (Nat.beq (dg t 1) (cI e))) (Nat.beq k' k))
  | _=>bad
 | _=>bad
noncomputable def symRow (n:Nat):Nat:=Nat.rec 0 (fun i d=>Nat.add d (Nat.shiftLeft (code i 9) (Nat.mul i 128))) n
noncomputable def slC (r n:Nat):Nat:=code (Nat.add (Nat.mul (Nat.mul (Nat.add 0 n) 16777216) 16777216) r) 4
noncomputable def symM (n:Nat) (y:Nat→Value) (h:Law n y):Mem :=
 forceN (symRow (Nat.mul 5 n)) fun d=>⟨[],(full 25).put 0 (some (.ro 38 (Nat.mul 5 n) d)),1,((full 25).put 0 (some (.ym n y h))).put 1 (some (.ag 1 (slC 0 n))),2,1⟩
end Go.Ex
